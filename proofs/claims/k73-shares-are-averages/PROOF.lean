import PyProof.Rows.All
import Wide.All
import OpenK.AllK
import Wide.FinOn
import HandS.ForMost
import HandS.Codes
import HandS.CallLocal
import HandS.DictComp
import HandS.Strs
import HandS.IsInst
import HandS.Defaults
import HandS.More
import HandS.Wide
import HandS.Gcd
import HandS.Flow
import HandS.SetBool
import HandS.Conv
import HandS.SetFor
import HandS.Walk
import HandS.DeepEq
import PySem.Challenge.RW_lineworks_k73_shares_are_averages
set_option Elab.async false
set_option maxRecDepth 100000
set_option maxHeartbeats 4000000
set_option linter.all false
/-! The defs of the text, one promise each. -/
namespace Lw
open PySem PySem.Spec PyProof.Rows L2
open C8 (Cal Met pe_c pe_mt pe_mt0 pe_gc pss_cut tCut)
/-! ### the text by places -/
def top (i : Nat) : Stmt := PySem.Challenge.pw_lineworks_k73_shares_are_averages.main.body.getD i (.Pass ⟨0, 0, 0, 0⟩)
abbrev sD_and_leaf : Stmt := top 5
theorem sc_and_leaf : FnScope ["first", "second"] ["first", "second"] (defScope sD_and_leaf) :=
  ⟨rfl, rfl, rfl, by decide +kernel, rfl, by decide +kernel, by decide +kernel⟩
abbrev sD_or_leaf : Stmt := top 6
theorem sc_or_leaf : FnScope ["first", "second"] ["first", "second"] (defScope sD_or_leaf) :=
  ⟨rfl, rfl, rfl, by decide +kernel, rfl, by decide +kernel, by decide +kernel⟩
abbrev sD_differ_leaf : Stmt := top 7
theorem sc_differ_leaf : FnScope ["first", "second"] ["first", "second"] (defScope sD_differ_leaf) :=
  ⟨rfl, rfl, rfl, by decide +kernel, rfl, by decide +kernel, by decide +kernel⟩
abbrev sD_Dinit : Stmt := inClass (top 9) 0
theorem sc_Dinit : FnScope ["self"] ["self"] (defScope sD_Dinit) :=
  ⟨rfl, rfl, rfl, by decide +kernel, rfl, by decide +kernel, by decide +kernel⟩
abbrev sD_Dmake : Stmt := inClass (top 9) 1
theorem sc_Dmake : FnScope ["self", "entry", "without", "there", "key"] ["self", "entry", "without", "there"] (defScope sD_Dmake) :=
  ⟨rfl, rfl, rfl, by decide +kernel, rfl, by decide +kernel, by decide +kernel⟩
abbrev sD_Dthere : Stmt := inClass (top 9) 2
theorem sc_Dthere : FnScope ["self", "entry"] ["self", "entry"] (defScope sD_Dthere) :=
  ⟨rfl, rfl, rfl, by decide +kernel, rfl, by decide +kernel, by decide +kernel⟩
abbrev sD_Dnode : Stmt := inClass (top 9) 3
theorem sc_Dnode : FnScope ["self", "condition"] ["self", "condition"] (defScope sD_Dnode) :=
  ⟨rfl, rfl, rfl, by decide +kernel, rfl, by decide +kernel, by decide +kernel⟩
abbrev sD_Dcombined : Stmt := inClass (top 9) 4
theorem sc_Dcombined : FnScope ["self", "form", "first", "second", "action", "plain", "key"] ["self", "form", "first", "second"] (defScope sD_Dcombined) :=
  ⟨rfl, rfl, rfl, by decide +kernel, rfl, by decide +kernel, by decide +kernel⟩
abbrev sD_Dsplit : Stmt := inClass (top 9) 5
theorem sc_Dsplit : FnScope ["self", "form", "first", "second", "one", "two", "without"] ["self", "form", "first", "second"] (defScope sD_Dsplit) :=
  ⟨rfl, rfl, rfl, by decide +kernel, rfl, by decide +kernel, by decide +kernel⟩
abbrev sD_Dconjunction : Stmt := inClass (top 9) 6
theorem sc_Dconjunction : FnScope ["self", "first", "second"] ["self", "first", "second"] (defScope sD_Dconjunction) :=
  ⟨rfl, rfl, rfl, by decide +kernel, rfl, by decide +kernel, by decide +kernel⟩
abbrev sD_Ddisjunction : Stmt := inClass (top 9) 7
theorem sc_Ddisjunction : FnScope ["self", "first", "second"] ["self", "first", "second"] (defScope sD_Ddisjunction) :=
  ⟨rfl, rfl, rfl, by decide +kernel, rfl, by decide +kernel, by decide +kernel⟩
abbrev sD_Ddiffers : Stmt := inClass (top 9) 8
theorem sc_Ddiffers : FnScope ["self", "first", "second"] ["self", "first", "second"] (defScope sD_Ddiffers) :=
  ⟨rfl, rfl, rfl, by decide +kernel, rfl, by decide +kernel, by decide +kernel⟩
abbrev sD_Dnegation : Stmt := inClass (top 9) 9
theorem sc_Dnegation : FnScope ["self", "condition"] ["self", "condition"] (defScope sD_Dnegation) :=
  ⟨rfl, rfl, rfl, by decide +kernel, rfl, by decide +kernel, by decide +kernel⟩
abbrev sD_Dholds : Stmt := inClass (top 9) 12
theorem sc_Dholds : FnScope ["self", "condition", "present", "entry", "without", "there"] ["self", "condition", "present"] (defScope sD_Dholds) :=
  ⟨rfl, rfl, rfl, by decide +kernel, rfl, by decide +kernel, by decide +kernel⟩
abbrev sD_Dreached : Stmt := inClass (top 9) 13
theorem sc_Dreached : FnScope ["self", "conditions", "found", "condition", "pending", "last", "parts", "part"] ["self", "conditions"] (defScope sD_Dreached) :=
  ⟨rfl, rfl, rfl, by decide +kernel, rfl, by decide +kernel, by decide +kernel⟩
abbrev sD_Dparts : Stmt := inClass (top 9) 14
theorem sc_Dparts : FnScope ["self", "condition", "part"] ["self", "condition"] (defScope sD_Dparts) :=
  ⟨rfl, rfl, rfl, by decide +kernel, rfl, by decide +kernel, by decide +kernel⟩
abbrev sD_Dsize : Stmt := inClass (top 9) 15
theorem sc_Dsize : FnScope ["self", "conditions"] ["self", "conditions"] (defScope sD_Dsize) :=
  ⟨rfl, rfl, rfl, by decide +kernel, rfl, by decide +kernel, by decide +kernel⟩
abbrev sD_Ddepends : Stmt := inClass (top 9) 16
theorem sc_Ddepends : FnScope ["self", "condition", "node"] ["self", "condition"] (defScope sD_Ddepends) :=
  ⟨rfl, rfl, rfl, by decide +kernel, rfl, by decide +kernel, by decide +kernel⟩
abbrev sD_Drestrict : Stmt := inClass (top 9) 17
theorem sc_Drestrict : FnScope ["self", "condition", "entry", "is_there", "results", "node", "asked", "without", "there"] ["self", "condition", "entry", "is_there"] (defScope sD_Drestrict) :=
  ⟨rfl, rfl, rfl, by decide +kernel, rfl, by decide +kernel, by decide +kernel⟩
abbrev sD_added : Stmt := top 11
theorem sc_added : FnScope ["first", "second", "longer", "shorter", "place", "count"] ["first", "second"] (defScope sD_added) :=
  ⟨rfl, rfl, rfl, by decide +kernel, rfl, by decide +kernel, by decide +kernel⟩
abbrev sD_widened : Stmt := top 12
theorem sc_widened : FnScope ["counts", "times", "_"] ["counts", "times"] (defScope sD_widened) :=
  ⟨rfl, rfl, rfl, by decide +kernel, rfl, by decide +kernel, by decide +kernel⟩
abbrev sD_sizes : Stmt := top 13
theorem sc_sizes : FnScope ["store", "condition", "entries", "entry", "place", "places", "found", "node", "without", "there", "missing", "present", "counts"] ["store", "condition", "entries"] (defScope sD_sizes) :=
  ⟨rfl, rfl, rfl, by decide +kernel, rfl, by decide +kernel, by decide +kernel⟩
abbrev sD_orders : Stmt := top 14
theorem sc_orders : FnScope ["most", "numbers", "count"] ["most"] (defScope sD_orders) :=
  ⟨rfl, rfl, rfl, by decide +kernel, rfl, by decide +kernel, by decide +kernel⟩
abbrev sD_weighed : Stmt := top 15
theorem sc_weighed : FnScope ["counts", "numbers", "others", "size", "count"] ["counts", "numbers", "others"] (defScope sD_weighed) :=
  ⟨rfl, rfl, rfl, by decide +kernel, rfl, by decide +kernel, by decide +kernel⟩
abbrev sD_lowest : Stmt := top 16
theorem sc_lowest : FnScope ["numerator", "denominator", "common"] ["numerator", "denominator"] (defScope sD_lowest) :=
  ⟨rfl, rfl, rfl, by decide +kernel, rfl, by decide +kernel, by decide +kernel⟩
abbrev sD_shares : Stmt := top 17
theorem sc_shares : FnScope ["store", "condition", "present", "entry", "there", "numbers", "found", "others", "coming", "missing", "difference", "numerator", "denominator", "other"] ["store", "condition", "present"] (defScope sD_shares) :=
  ⟨rfl, rfl, rfl, by decide +kernel, rfl, by decide +kernel, by decide +kernel⟩
abbrev sD_Ldraw : Stmt := top 19
theorem sc_Ldraw : FnScope ["script"] ["script"] (defScope sD_Ldraw) :=
  ⟨rfl, rfl, rfl, by decide +kernel, rfl, by decide +kernel, by decide +kernel⟩
abbrev sD_Lnext : Stmt := top 20
theorem sc_Lnext : FnScope ["draw", "many", "found", "cell"] ["draw", "many"] (defScope sD_Lnext) :=
  ⟨rfl, rfl, rfl, by decide +kernel, rfl, by decide +kernel, by decide +kernel⟩
abbrev sD_Lsame : Stmt := top 21
theorem sc_Lsame : FnScope ["actual", "due", "k"] ["actual", "due"] (defScope sD_Lsame) :=
  ⟨rfl, rfl, rfl, by decide +kernel, rfl, by decide +kernel, by decide +kernel⟩
abbrev sD_Lentries : Stmt := top 22
theorem sc_Lentries : FnScope ["draw", "most", "entries", "last", "k"] ["draw", "most"] (defScope sD_Lentries) :=
  ⟨rfl, rfl, rfl, by decide +kernel, rfl, by decide +kernel, by decide +kernel⟩
abbrev sD_Ltree : Stmt := top 23
theorem sc_Ltree : FnScope ["draw", "entries", "depth", "form", "first"] ["draw", "entries", "depth"] (defScope sD_Ltree) :=
  ⟨rfl, rfl, rfl, by decide +kernel, rfl, by decide +kernel, by decide +kernel⟩
abbrev sD_Lbuild : Stmt := top 24
theorem sc_Lbuild : FnScope ["store", "tree", "first", "second"] ["store", "tree"] (defScope sD_Lbuild) :=
  ⟨rfl, rfl, rfl, by decide +kernel, rfl, by decide +kernel, by decide +kernel⟩
abbrev sD_Ltrue : Stmt := top 25
theorem sc_Ltrue : FnScope ["tree", "present", "first", "second"] ["tree", "present"] (defScope sD_Ltrue) :=
  ⟨rfl, rfl, rfl, by decide +kernel, rfl, by decide +kernel, by decide +kernel⟩
abbrev sD_Lsubsets : Stmt := top 26
theorem sc_Lsubsets : FnScope ["entries", "found", "entry", "part"] ["entries"] (defScope sD_Lsubsets) :=
  ⟨rfl, rfl, rfl, by decide +kernel, rfl, by decide +kernel, by decide +kernel⟩
abbrev sD_Lcommon : Stmt := top 27
theorem sc_Lcommon : FnScope ["first", "second", "k", "quotient"] ["first", "second"] (defScope sD_Lcommon) :=
  ⟨rfl, rfl, rfl, by decide +kernel, rfl, by decide +kernel, by decide +kernel⟩
abbrev sD_Llowest : Stmt := top 28
theorem sc_Llowest : FnScope ["numerator", "denominator", "common"] ["numerator", "denominator"] (defScope sD_Llowest) :=
  ⟨rfl, rfl, rfl, by decide +kernel, rfl, by decide +kernel, by decide +kernel⟩
abbrev sD_Ldepends : Stmt := top 29
theorem sc_Ldepends : FnScope ["tree", "entries", "entry", "part", "one"] ["tree", "entries", "entry"] (defScope sD_Ldepends) :=
  ⟨rfl, rfl, rfl, by decide +kernel, rfl, by decide +kernel, by decide +kernel⟩
abbrev sD_Lorders : Stmt := top 30
theorem sc_Lorders : FnScope ["members", "found", "member", "longer", "order", "k"] ["members"] (defScope sD_Lorders) :=
  ⟨rfl, rfl, rfl, by decide +kernel, rfl, by decide +kernel, by decide +kernel⟩
abbrev sD_law : Stmt := top 31
theorem sc_law : FnScope ["script", "draw", "entries", "tree", "entry", "present", "store", "condition", "coming", "orders_v", "due", "total", "order", "before", "numerator", "denominator", "handed"] ["script"] (defScope sD_law) :=
  ⟨rfl, rfl, rfl, by decide +kernel, rfl, by decide +kernel, by decide +kernel⟩

/-! ### what is kept -/
/-- all that was tracked is as it was, but for what stands at M; tuples stay in any case -/
structure Kp (M : List Addr) (H H' : Hp) : Prop where
  k : ∀ b o, H b = some o → b ∉ M → H' b = some o
  t : ∀ b xs, H b = some (.tup xs) → H' b = some (.tup xs)
namespace Kp
variable {M N : List Addr} {H H1 H2 : Hp} {p : Addr} {o u : HO}
theorem refl : Kp M H H := ⟨fun _ _ h _ => h, fun _ _ h => h⟩
theorem trans (a : Kp M H H1) (b : Kp M H1 H2) : Kp M H H2 := ⟨fun c o h n => b.k c o (a.k c o h n) n, fun c xs h => b.t c xs (a.t c xs h)⟩
theorem wide (a : Kp M H H1) (h : ∀ b ∈ M, b ∈ N) : Kp N H H1 := ⟨fun c o e n => a.k c o e fun z => n (h c z), a.t⟩
theorem new (h : H p = none) : Kp M H (upd H p o) :=
  ⟨fun c q e _ => by rw [upd_ne (ne_of_none e h)]; exact e, fun c q e => by rw [upd_ne (ne_of_none e h)]; exact e⟩
theorem put (hp : p ∈ M) (h : H p = some u) (hu : ∀ xs, u ≠ .tup xs) : Kp M H (upd H p o) :=
  ⟨fun c q e n => by rw [upd_ne fun z => n (by rw [z]; exact hp)]; exact e,
   fun c q e => by rw [upd_ne fun z => by rw [z, h] at e; exact hu _ (Option.some.inj e)]; exact e⟩
theorem same (a : Same H H1) : Kp M H H1 := ⟨fun c o h _ => a c o h, fun c xs h => a c _ h⟩
theorem toSame (a : Kp [] H H1) : Same H H1 := fun c o h => a.k c o h (by simp)
theorem free (a : Kp M H H1) (h : H1 p = none) (hp : p ∉ M) : H p = none := by
  cases e : H p with
  | none => rfl
  | some q => rw [a.k p q e hp] at h; cases h
/-- what H does not know may change -/
theorem mt (a : Kp M H H1) (h : H p = none) : Kp M H (upd H1 p o) :=
  ⟨fun c q e n => by rw [upd_ne (ne_of_none e h)]; exact a.k c q e n, fun c q e => by rw [upd_ne (ne_of_none e h)]; exact a.t c q e⟩
theorem newer (a : Kp M H H1) (h : H1 p = none) : Kp M H (upd H1 p o) := a.trans (new h)
end Kp

/-! ### the defs of the text as they stand behind the top -/
section
variable {P : Program} {w : World} {K : PySem.W.Frag} {mg : Str → Option Value} {base : Heap}
/-- a def of the module -/
def GD (K : PySem.W.Frag) (mg : Str → Option Value) (x : Str) (st : Stmt) (ps : List Str) : Prop :=
  ∃ (f : Addr) (fd : FuncData), Fun K x x st f fd ∧ mg x = some (.ref f) ∧ Binds K fd ps []
/-- a method of the class at C -/
def GM (K : PySem.W.Frag) (C : Addr) (m qual : Str) (st : Stmt) (ps : List Str) : Prop :=
  ∃ (f : Addr) (fd : FuncData), Fun K m qual st f fd ∧ Meth K C m f ∧ Binds K fd ps []
theorem GD.cal {x : Str} {st : Stmt} {N ps : List Str} {k : Nat} {sp : Sp} (D : GD K mg x st ps) (S : FnScope N ps (defScope st)) (len : ∀ vs H Q E, sp vs H Q E → vs.length = ps.length)
    (hbody : ∀ (f : Addr) (cdv : Value) (A : Around) (outer : List Env) (s : Shared) (H : Hp) (vs : List V) (Q : VK) (E : XK),
      Room k (A.deeper (envOfC x (defScope st) s.heap.objs.size f cdv)) → sp vs H Q E →
      ∃ t, PSs (cxOf CX0 P w K mg base N x (defScope st) f cdv A outer s H E).nox (defBody st) t ∧ t { nx := fun _ H' => Q .non H', rt := Q } (start N vs) H) :
    Cal P w K mg base (k + 1) x sp [] := by
  obtain ⟨f, fd, F, hm, hb⟩ := D
  exact ⟨f, fd, ps, [], F.ok S len (hbody f), hm, F.kp, hb, .nil⟩
theorem GM.met {C : Addr} {m qual : Str} {st : Stmt} {N ps : List Str} {k : Nat} {sp : Sp} (c : Cls K C) (D : GM K C m qual st ps) (S : FnScope N ps (defScope st)) (len : ∀ vs H Q E, sp vs H Q E → vs.length = ps.length)
    (hbody : ∀ (f : Addr) (cdv : Value) (A : Around) (outer : List Env) (s : Shared) (H : Hp) (vs : List V) (Q : VK) (E : XK),
      Room k (A.deeper (envOfC qual (defScope st) s.heap.objs.size f cdv)) → sp vs H Q E →
      ∃ t, PSs (cxOf CX0 P w K mg base N qual (defScope st) f cdv A outer s H E).nox (defBody st) t ∧ t { nx := fun _ H' => Q .non H', rt := Q } (start N vs) H) :
    Met P w K mg base (k + 1) C m sp [] := by
  obtain ⟨f, fd, F, hm, hb⟩ := D
  exact ⟨f, fd, ps, [], c, hm, F.ok S len (hbody f), hb, .nil⟩
theorem Cal.up {x : Str} {sp : Sp} {i j : Nat} (c : Cal P w K mg base i x sp []) (h : i ≤ j) : Cal P w K mg base j x sp [] := by
  obtain ⟨f, fd, ps, ds, F, r⟩ := c.ex
  exact ⟨f, fd, ps, ds, F.mono h, r⟩
end
theorem iteF_of {b : Bool} {A B : Prop} (h : b = false) (q : B) : if b = true then A else B := by rw [h]; exact iteF q
theorem iteT_of {b : Bool} {A B : Prop} (h : b = true) (q : A) : if b = true then A else B := by rw [h]; exact iteT q
theorem small {n : Nat} (h : n ≤ 1000) : n ≤ sizeLine := Nat.le_of_lt (small1000 h)
/-! ### rules within a comprehension's block: the written part is the def's own -/
section
variable {X : Cx} {K : PySem.W.Frag} {e a b : Expr} {ta tb : TE} {pos : Pos}
theorem bx_fld {f : Str} (hK : X.K = K) (he : PE X e ta) (hb : attributeBase e f X.env (eval e X.env) = eval e X.env) : PE X (.Attribute e f pos) (tFld K ta f) := hK ▸ pe_fld he hb
theorem bx_list (hK : X.K = K) (ha : PE X a ta) (hb : PE X b tb) (hs : PlainIx b) : PE X (.Subscript a b pos) (tOp (rIxL K) ta tb) := hK ▸ pe_ix ix_list ha hb hs
theorem bx_tup (hK : X.K = K) (ha : PE X a ta) (hb : PE X b tb) (hs : PlainIx b) : PE X (.Subscript a b pos) (tOp (rIxT K) ta tb) := hK ▸ pe_ix ix_tup ha hb hs
theorem bx_seq (hK : X.K = K) (ha : PE X a ta) (hb : PE X b tb) (hs : PlainIx b) : PE X (.Subscript a b pos) (tOp (fun x y H Q => rIxL K x y H Q ∨ rIxT K x y H Q) ta tb) := hK ▸ pe_ix (IxR.or ix_list ix_tup) ha hb hs
theorem bx_in {pos' : Pos} (hK : X.K = K) (ha : PE X a ta) (hb : PE X b tb) (hm : behindInMarks .In b = false := by first | rfl | exact nobehind _ (by decide) (by decide)) : PE X (.Compare a [.In] [b] pos') (tOp (rIn K false) ta tb) := hK ▸ pe_cmpR op_in_seq ha hb hm
theorem bx_notin {pos' : Pos} (hK : X.K = K) (ha : PE X a ta) (hb : PE X b tb) (hm : behindInMarks .NotIn b = false := by first | rfl | exact nobehind _ (by decide) (by decide)) : PE X (.Compare a [.NotIn] [b] pos') (tOp (rIn K true) ta tb) := hK ▸ pe_cmpR op_notIn_seq ha hb hm
theorem bt_in {pos' : Pos} (hK : X.K = K) (ha : PE X a ta) (hb : PE X b tb) (hm : behindInMarks .In b = false := by first | rfl | exact nobehind _ (by decide) (by decide)) : PT X (.Compare a [.In] [b] pos') (tTest (tOp (rIn K false) ta tb)) := hK ▸ pt_cmpR op_in_seq ha hb hm
theorem bt_notin {pos' : Pos} (hK : X.K = K) (ha : PE X a ta) (hb : PE X b tb) (hm : behindInMarks .NotIn b = false := by first | rfl | exact nobehind _ (by decide) (by decide)) : PT X (.Compare a [.NotIn] [b] pos') (tTest (tOp (rIn K true) ta tb)) := hK ▸ pt_cmpR op_notIn_seq ha hb hm
def tTr (K : PySem.W.Frag) (ta : TE) : TT := fun σ H Q => ta σ H fun x H' => ∃ k, TruV K x H' k ∧ Q k H'
theorem bt_truth (hK : X.K = K) (ha : PE X a ta) (he : ∀ whole, isTrue a X.env whole = (do let v ← whole; standAt a.pos; holding [v] (truthy v))) : PT X a (tTr K ta) := hK ▸ pt_truth ha he
def rLn (K : PySem.W.Frag) : List V → Hp → VK → Prop := fun xs H Q => ∃ p ys, xs = [.ref p] ∧ (SqL K H p ys ∨ SqT K H p ys) ∧ Q (.int ys.length) H
theorem bx_len {x : Str} {p : Pos} {t : TA} (hK : X.K = K) (hg : Gl X x) (hm : X.mg x = none) (hv : bootBuiltins x = some (.builtin "len")) (ha : PA X [e] t) (hn : x ≠ "__name__" := by decide) (hdb : (x == ("__debug__" : Str)) = false := by decide)
    (he : starEach [e] X.env = (false, eval e X.env) :: starEach [] X.env := by rfl) (hpl : (backTo pos (starEach [] X.env)).any (·.1) = false := by rfl) :
    PE X (.Call (.Name x p) [e] [] pos) (tCB (rLn K) t) := hK ▸ pe_callB call_len_seq hg hm hv ha hn hdb he hpl
theorem bx_ptup {es : List Expr} {k n : Nat} {t : TGs} (hK : X.K = K) (hc : X.calm = true) (h : PGs X es t) (hn : (assignEach es X.env).length = n := by rfl) (hst : (assignEach es X.env).findIdx? (·.1) = none := by rfl) :
    PG X (.Tuple es k pos) (gTup K n t) := hK ▸ pg_tup hc h hn hst
end

/-! ### the draws: a list of the script's ints, a place, what is left of a great number, a seed -/
def drawV (sc : Addr) (p b z : Int) : List V := [.ref sc, .int p, .int b, .int z]
/-- a draw's list stands at d, its ints at sc -/
def Drw (d sc : Addr) (H : Hp) : Prop :=
  ∃ (ns : List Int) (p b z : Int), H d = some (.lst (drawV sc p b z)) ∧ H sc = some (.lst (ns.map V.int)) ∧ 0 ≤ p ∧ 0 ≤ b ∧ 0 ≤ z ∧ d ≠ sc
theorem Drw.kp {d sc : Addr} {H H' : Hp} {M : List Addr} (D : Drw d sc H) (k : Kp M H H') (h1 : d ∉ M) (h2 : sc ∉ M) : Drw d sc H' := by
  obtain ⟨ns, p, b, z, e1, e2, r⟩ := D
  exact ⟨ns, p, b, z, k.k _ _ e1 h1, k.k _ _ e2 h2, r⟩
/-- the next number below m; nothing but the draw's own list changes -/
def spNext : Sp := fun vs H Q _ => ∃ (d sc : Addr) (m : Int), vs = [.ref d, .int m] ∧ 0 < m ∧ m < 1073741824 ∧ Drw d sc H ∧
  ∀ (r : Int) (o : HO), 0 ≤ r → r < m → (∀ xs, o ≠ .tup xs) → Drw d sc (upd H d o) → Q (.int r) (upd H d o)
def spDraw (K : PySem.W.Frag) : Sp := fun vs H Q _ => ∃ (a : Addr) (ns : List Int), vs = [.ref a] ∧ SqL K H a (ns.map V.int) ∧
  ∀ (d sc : Addr) (H' : Hp), Same H H' → H d = none → H sc = none → Drw d sc H' → Q (.ref d) H'
structure TDraw (mg : Str → Option Value) : Prop where
  n_int : mg "int" = none
  n_len : mg "len" = none
  n_abs : mg "abs" = none
  n_list : mg "list" = none
section
variable {P : Program} {w : World} {K : PySem.W.Frag} {mg : Str → Option Value} {base : Heap}
theorem ok_draw (D : GD K mg "_law_draw" sD_Ldraw ["script"]) (T : TDraw mg) : Cal P w K mg base 1 "_law_draw" (spDraw K) [] := by
  refine D.cal sc_Ldraw (fun vs H Q E h => ?_) (fun f cdv A outer s H vs Q E hr h => ?_)
  · obtain ⟨a, ns, rfl, _⟩ := h
    rfl
  obtain ⟨a, ns, rfl, hS, q⟩ := h
  refine ⟨_, (pss_one (ps_ret (pe_lst (pa_cons (pe_callTy call_list_of (by rfl) T.n_list (by decide +kernel) (pa_cons (pv 0) pa_nil)) (pa_cons pe_int (pa_cons pe_int (pa_cons pe_int pa_nil))))))), ?_⟩
  refine ⟨_, rfl, a, _, rfl, .inl hS, fun l hl => ?_⟩
  refine ⟨(by show 4 ≤ sizeLine; decide), fun d hd => ?_⟩
  have nld : l ≠ d := fun e => by rw [← e, upd_same] at hd; cases hd
  have hd0 : H d = Option.none := by rw [upd_ne nld.symm] at hd; exact hd
  refine q d l _ (fun b o e => ?_) hd0 hl ⟨ns, 0, 0, 17, upd_same, ?_, by decide, by decide, by decide, nld.symm⟩
  · rw [upd_ne (ne_of_none e hd0), upd_ne (ne_of_none e hl)]; exact e
  · rw [upd_ne nld, upd_same]
theorem ok_next (D : GD K mg "_law_next" sD_Lnext ["draw", "many"]) (T : TDraw mg) : Cal P w K mg base 1 "_law_next" spNext [] := by
  refine D.cal sc_Lnext (fun vs H Q E h => ?_) (fun f cdv A outer s H vs Q E hr h => ?_)
  · obtain ⟨d, sc, m, rfl, _⟩ := h
    rfl
  obtain ⟨d, sc, m, rfl, m0, m1, ⟨ns, p, b, z, hd, hs, p0, b0, z0, ne⟩, q⟩ := h
  refine ⟨_, (pss_cons (ps_if (pt_cmpR op_gt (pe_ix ix_list (pv 0) pe_int (fun _ _ => rfl)) pe_int (nomark _)) (pss_cons (ps_set (i := 2) sc_Lnext.nd rfl (Or.inl rfl) (pe_op op_mod (pe_callTy call_int1 (by rfl) T.n_int (by decide +kernel) (pa_cons (pe_ix ix_list (pv 0) pe_int (fun _ _ => rfl)) pa_nil)) (pv 1)))
    (pss_cons (ps_asg (pe_op op_fdiv (pe_ix ix_list (pv 0) pe_int (fun _ _ => rfl)) (pv 1)) (pg_sub (pv 0) pe_int set_list))
    (pss_one (ps_ret (pv 2))))) pss_nil)
    (pss_cons (ps_if (pt_cmpR op_lt (pe_ix ix_list (pv 0) pe_int (fun _ _ => rfl)) (pe_callB call_len_seq (by rfl) T.n_len (by decide +kernel) (pa_cons (pe_ix ix_list (pv 0) pe_int (fun _ _ => rfl)) pa_nil)) (nomark _)) (pss_cons (ps_set (i := 3) sc_Lnext.nd rfl (Or.inl rfl) (pe_callB call_abs (by rfl) T.n_abs (by decide +kernel) (pa_cons (pe_ix ix_list (pe_ix ix_list (pv 0) pe_int (fun _ _ => rfl)) (pe_ix ix_list (pv 0) pe_int (fun _ _ => rfl)) (fun _ _ => rfl)) pa_nil)))
    (pss_cons (ps_asg (pe_op op_add (pe_ix ix_list (pv 0) pe_int (fun _ _ => rfl)) pe_int) (pg_sub (pv 0) pe_int set_list))
    (pss_cons (ps_if (pt_cmpR op_ge (pv 3) (pe_op op_pow pe_int pe_int) (nomark _)) (pss_cons (ps_asg (pe_op op_fdiv (pv 3) (pv 1)) (pg_sub (pv 0) pe_int set_list))
    (pss_one (ps_ret (pe_op op_mod (pe_callTy call_int1 (by rfl) T.n_int (by decide +kernel) (pa_cons (pv 3) pa_nil)) (pv 1))))) pss_nil)
    (pss_one (ps_asg (pe_op op_mod (pe_callTy call_int1 (by rfl) T.n_int (by decide +kernel) (pa_cons (pe_op op_add (pe_op op_add (pe_op op_mul (pe_ix ix_list (pv 0) pe_int (fun _ _ => rfl)) pe_int) (pv 3)) pe_int) pa_nil)) pe_int) (pg_sub (pv 0) pe_int set_list)))))) (pss_one (ps_asg (pe_op op_mod (pe_callTy call_int1 (by rfl) T.n_int (by decide +kernel) (pa_cons (pe_op op_add (pe_op op_mul (pe_ix ix_list (pv 0) pe_int (fun _ _ => rfl)) pe_int) pe_int) pa_nil)) pe_int) (pg_sub (pv 0) pe_int set_list))))
    (pss_one (ps_ret (pe_op op_mod (pe_op op_fdiv (pe_callTy call_int1 (by rfl) T.n_int (by decide +kernel) (pa_cons (pe_op op_mod (pe_op op_mul (pe_ix ix_list (pv 0) pe_int (fun _ _ => rfl)) pe_int) pe_int) pa_nil)) pe_int) (pv 1)))))), ?_⟩
  -- draw[2] > 0
  refine ⟨_, rfl, d, _, _, _, rfl, rfl, SqL.of hd, rfl, _, _, rfl, rfl, _, rfl, ?_⟩
  have put : ∀ (u : HO) (xs : List V), H d = some u → upd H d (.lst xs) d = some (.lst xs) := fun _ _ _ => upd_same
  refine ite2 (fun c => ?_) (fun c => ?_)
  · refine ⟨_, rfl, d, _, _, _, rfl, rfl, SqL.of hd, rfl, .inl ⟨_, rfl, _, rfl, _, _, rfl, rfl, m0, ?_⟩⟩
    refine ⟨_, rfl, d, _, _, _, rfl, rfl, SqL.of hd, rfl, _, rfl, _, _, rfl, rfl, ⟨m0, m1⟩, _, rfl, d, _, 2, 2, rfl, rfl, hd, rfl, _, rfl, ?_⟩
    refine q _ _ (Int.emod_nonneg _ (by omega)) (Int.emod_lt_of_pos _ m0) (fun _ e => by cases e) ⟨ns, p, b / m, z, upd_same, by rw [upd_ne ne.symm]; exact hs, p0, Int.ediv_nonneg b0 (by omega), z0, ne⟩
  · -- draw[1] < len(draw[0])
    refine ⟨_, rfl, d, _, _, _, rfl, rfl, SqL.of hd, rfl, _, rfl, d, _, _, _, rfl, rfl, SqL.of hd, rfl, sc, _, rfl, .inl (SqL.of hs), _, _, rfl, rfl, _, rfl, ?_⟩
    refine ite2 (fun c1 => ?_) (fun c1 => ?_)
    · have c1' : p < (((ns.map V.int).length : Nat) : Int) := of_decide_eq_true c1
      have hp : p.toNat < ns.length := by rw [List.length_map] at c1'; omega
      have hat : atI (ns.map V.int) p = some (.int ns[p.toNat]) := by
        exact at_of (j := p.toNat) (by omega) (by rw [List.getElem?_map, List.getElem?_eq_getElem hp]; rfl)
      have keep : ∀ x o, (upd (upd H d o) d x) = upd H d x := fun x o => upd_upd
      generalize hv : ns[p.toNat] = v at hat
      have hcell : (0 : Int) ≤ (if v < 0 then -v else v) := by split <;> omega
      refine ⟨_, rfl, d, _, _, _, rfl, rfl, SqL.of hd, rfl, _, rfl, d, _, _, _, rfl, rfl, SqL.of hd, rfl, sc, _, _, _, rfl, rfl, SqL.of hs, hat, _, rfl, ?_⟩
      generalize (if v < 0 then -v else v) = u at hcell
      refine ⟨_, rfl, d, _, _, _, rfl, rfl, SqL.of hd, rfl, _, _, rfl, rfl, _, rfl, d, _, 1, 1, rfl, rfl, hd, rfl, ?_⟩
      have hd1 : (upd H d (.lst (drawV sc (p + 1) b z))) d = some (.lst (drawV sc (p + 1) b z)) := upd_same
      have hs1 : ∀ o, (upd H d o) sc = some (.lst (ns.map V.int)) := fun o => by rw [upd_ne ne.symm]; exact hs
      refine ⟨_, rfl, _, _, rfl, rfl, ⟨by decide, by decide, by decide⟩, _, _, rfl, rfl, _, rfl, ?_⟩
      refine ite2 (fun c2 => ?_) (fun c2 => ?_)
      · refine ⟨_, rfl, _, rfl, _, _, rfl, rfl, ⟨m0, m1⟩, _, rfl, d, _, 2, 2, rfl, rfl, hd1, rfl, ?_⟩
        refine ⟨_, rfl, .inl ⟨_, rfl, _, rfl, _, _, rfl, rfl, m0, ?_⟩⟩
        rw [keep]
        exact q _ _ (Int.emod_nonneg _ (by omega)) (Int.emod_lt_of_pos _ m0) (fun _ e => by cases e) ⟨ns, p + 1, u / m, z, upd_same, hs1 _, by omega, Int.ediv_nonneg hcell (by omega), z0, ne⟩
      · refine ⟨_, rfl, d, _, _, _, rfl, rfl, SqL.of hd1, rfl, _, _, rfl, rfl, .inr ⟨by decide, by decide⟩, _, rfl, _, _, rfl, rfl, _, _, rfl, rfl, .inl ⟨_, rfl, _, _, rfl, rfl, (by show (0 : Int) < 2147483647; decide), ?_⟩⟩
        refine ⟨_, rfl, d, _, 3, 3, rfl, rfl, hd1, rfl, ?_⟩
        rw [keep]
        have hz0 : 0 ≤ (z * 48271 + u + 11) % 2147483647 := Int.emod_nonneg _ (by decide)
        refine ⟨_, rfl, d, _, _, _, rfl, rfl, SqL.of upd_same, rfl, _, _, rfl, rfl, .inr ⟨by decide, by decide⟩, _, _, rfl, rfl, (by show (0 : Int) < 2147483629; decide), .inl ⟨_, rfl, _, _, rfl, rfl, ⟨by decide, by decide⟩, _, rfl, _, _, rfl, rfl, m0, ?_⟩⟩
        exact q _ _ (Int.emod_nonneg _ (by omega)) (Int.emod_lt_of_pos _ m0) (fun _ e => by cases e) ⟨ns, p + 1, b, _, upd_same, hs1 _, by omega, b0, hz0, ne⟩
    · refine ⟨_, rfl, d, _, _, _, rfl, rfl, SqL.of hd, rfl, _, _, rfl, rfl, .inr ⟨by decide, by decide⟩, _, _, rfl, rfl, .inl ⟨_, rfl, _, _, rfl, rfl, (by show (0 : Int) < 2147483647; decide), ?_⟩⟩
      refine ⟨_, rfl, d, _, 3, 3, rfl, rfl, hd, rfl, ?_⟩
      have hz0 : 0 ≤ (z * 48271 + 12345) % 2147483647 := Int.emod_nonneg _ (by decide)
      refine ⟨_, rfl, d, _, _, _, rfl, rfl, SqL.of upd_same, rfl, _, _, rfl, rfl, .inr ⟨by decide, by decide⟩, _, _, rfl, rfl, (by show (0 : Int) < 2147483629; decide), .inl ⟨_, rfl, _, _, rfl, rfl, ⟨by decide, by decide⟩, _, rfl, _, _, rfl, rfl, m0, ?_⟩⟩
      exact q _ _ (Int.emod_nonneg _ (by omega)) (Int.emod_lt_of_pos _ m0) (fun _ e => by cases e) ⟨ns, p, b, _, upd_same, by rw [upd_ne ne.symm]; exact hs, p0, b0, hz0, ne⟩
end

/-! ### diagrams, in plain Lean: a list of nodes (entry, without, there); the condition c + 2 is the node at c, 0 never, 1 always -/
abbrev Node := Int × Nat × Nat
def ev (ns : List Node) (f : Int → Bool) (c : Nat) : Bool :=
  if c = 0 then false else if c = 1 then true else
    match ns[c - 2]? with
    | none => false
    | some n => if h : n.2.1 < c ∧ n.2.2 < c then (if f n.1 then ev ns f n.2.2 else ev ns f n.2.1) else false
termination_by c
decreasing_by
  · exact h.2
  · exact h.1
theorem ev_zero (ns : List Node) (f : Int → Bool) : ev ns f 0 = false := by rw [ev]; rfl
theorem ev_one (ns : List Node) (f : Int → Bool) : ev ns f 1 = true := by rw [ev]; rfl
theorem ev_node {ns : List Node} {c : Nat} {n : Node} (f : Int → Bool) (h : ns[c]? = some n) (h1 : n.2.1 < c + 2) (h2 : n.2.2 < c + 2) :
    ev ns f (c + 2) = if f n.1 then ev ns f n.2.2 else ev ns f n.2.1 := by
  rw [ev, if_neg (by omega), if_neg (by omega)]
  have e : c + 2 - 2 = c := by omega
  rw [e, h]
  show (if _ : n.2.1 < c + 2 ∧ n.2.2 < c + 2 then _ else _) = _
  rw [dif_pos ⟨h1, h2⟩]
/-- the node of a condition -/
def nod (ns : List Node) (c : Nat) : Option Node := if c < 2 then none else ns[c - 2]?
theorem nod_add {ns : List Node} {c : Nat} : nod ns (c + 2) = ns[c]? := by
  unfold nod
  rw [if_neg (by omega)]
  rfl
theorem nod_of {ns : List Node} {c : Nat} {n : Node} (h : nod ns c = some n) : ∃ i, c = i + 2 ∧ ns[i]? = some n := by
  unfold nod at h
  split at h
  · cases h
  · exact ⟨c - 2, by omega, h⟩
theorem nod_lt {ns : List Node} {c : Nat} {n : Node} (h : nod ns c = some n) : 2 ≤ c ∧ c < ns.length + 2 := by
  obtain ⟨i, rfl, e⟩ := nod_of h
  have := (List.getElem?_eq_some_iff.mp e).1
  omega
theorem nod_some {ns : List Node} {c : Nat} (h : c < ns.length + 2) (h2 : 2 ≤ c) : ∃ n, nod ns c = some n := by
  unfold nod
  rw [if_neg (by omega)]
  exact ⟨ns[c - 2], List.getElem?_eq_getElem (by omega)⟩
/-- e stands above what c asks -/
def Up (ns : List Node) (e : Int) (c : Nat) : Prop := ∀ n, nod ns c = some n → e < n.1
structure NOk (E : List Int) (ns : List Node) : Prop where
  lt : ∀ c n, nod ns c = some n → n.2.1 < c ∧ n.2.2 < c ∧ n.2.1 ≠ n.2.2
  en : ∀ c n, nod ns c = some n → n.1 ∈ E
  ord : ∀ c n, nod ns c = some n → Up ns n.1 n.2.1 ∧ Up ns n.1 n.2.2
  inj : ∀ c d n, nod ns c = some n → nod ns d = some n → c = d
theorem NOk.nil (E : List Int) : NOk E [] := by
  have h : ∀ c n, ¬ nod [] c = some n := fun c n h => by
    have := nod_lt h
    simp at this
    omega
  exact ⟨fun c n e => absurd e (h c n), fun c n e => absurd e (h c n), fun c n e => absurd e (h c n), fun c d n e => absurd e (h c n)⟩
theorem NOk.ev {E : List Int} {ns : List Node} (ok : NOk E ns) {c : Nat} {n : Node} (h : nod ns c = some n) (f : Int → Bool) :
    Lw.ev ns f c = if f n.1 then Lw.ev ns f n.2.2 else Lw.ev ns f n.2.1 := by
  obtain ⟨l1, l2, _⟩ := ok.lt c n h
  obtain ⟨i, rfl, e⟩ := nod_of h
  exact ev_node f e l1 l2
/-- nodes are only ever added -/
def Pre (ns ns' : List Node) : Prop := ∃ more, ns' = ns ++ more
theorem Pre.refl (ns : List Node) : Pre ns ns := ⟨[], (List.append_nil _).symm⟩
theorem Pre.trans {a b c : List Node} (h : Pre a b) (k : Pre b c) : Pre a c := by
  obtain ⟨m, rfl⟩ := h
  obtain ⟨m', rfl⟩ := k
  exact ⟨m ++ m', List.append_assoc ..⟩
theorem Pre.len {a b : List Node} (h : Pre a b) : a.length ≤ b.length := by
  obtain ⟨m, rfl⟩ := h
  rw [List.length_append]
  omega
theorem Pre.nod {a b : List Node} (h : Pre a b) {c : Nat} (hc : c < a.length + 2) : Lw.nod b c = Lw.nod a c := by
  obtain ⟨m, rfl⟩ := h
  unfold Lw.nod
  split
  · rfl
  · exact List.getElem?_append_left (by omega)
theorem Pre.nod_some {a b : List Node} (h : Pre a b) {c : Nat} {n : Node} (hc : Lw.nod a c = some n) : Lw.nod b c = some n := by
  rw [h.nod (nod_lt hc).2, hc]
theorem Pre.ev {E : List Int} {a b : List Node} (h : Pre a b) (oa : NOk E a) (ob : NOk E b) (f : Int → Bool) : ∀ c, c < a.length + 2 → Lw.ev b f c = Lw.ev a f c := by
  intro c
  induction c using Nat.strongRecOn with
  | ind c ih =>
    intro hc
    by_cases h2 : 2 ≤ c
    · obtain ⟨n, hn⟩ := Lw.nod_some hc h2
      obtain ⟨l1, l2, _⟩ := oa.lt c n hn
      rw [oa.ev hn, ob.ev (h.nod_some hn), ih _ l1 (by omega), ih _ l2 (by omega)]
    · have : c = 0 ∨ c = 1 := by omega
      rcases this with rfl | rfl
      · rw [ev_zero, ev_zero]
      · rw [ev_one, ev_one]
theorem Pre.up {a b : List Node} (h : Pre a b) {e : Int} {c : Nat} (hc : c < a.length + 2) (u : Up a e c) : Up b e c := fun n hn => u n (by rw [← h.nod hc]; exact hn)
/-- how many of E come from e on -/
def lev (E : List Int) (e : Int) : Nat := (E.filter fun x => decide (e ≤ x)).length
theorem lev_le (E : List Int) {e e' : Int} (h : e ≤ e') : lev E e' ≤ lev E e := by
  unfold lev
  induction E with
  | nil => exact Nat.le_refl _
  | cons x r ih =>
    rw [List.filter_cons, List.filter_cons]
    by_cases h1 : e' ≤ x
    · rw [if_pos (decide_eq_true h1), if_pos (decide_eq_true (by omega))]
      simp only [List.length_cons]
      omega
    · rw [if_neg (by simpa using h1)]
      split
      · simp only [List.length_cons]; omega
      · exact ih
theorem lev_lt {E : List Int} {e e' : Int} (h : e < e') (he : e ∈ E) : lev E e' < lev E e := by
  unfold lev
  induction E with
  | nil => cases he
  | cons x r ih =>
    rw [List.filter_cons, List.filter_cons]
    rcases List.mem_cons.mp he with rfl | hm
    · rw [if_neg (by simpa using h), if_pos (by simp)]
      have := lev_le r (Int.le_of_lt h)
      unfold lev at this
      simp only [List.length_cons]
      omega
    · have := ih hm
      by_cases h1 : e' ≤ x
      · rw [if_pos (decide_eq_true h1), if_pos (decide_eq_true (by omega))]
        simp only [List.length_cons]
        omega
      · rw [if_neg (by simpa using h1)]
        split
        · simp only [List.length_cons]; omega
        · exact this
theorem lev_pos {E : List Int} {e : Int} (he : e ∈ E) : 0 < lev E e := List.length_pos_iff.mpr (by
  intro z
  have : e ∈ E.filter fun x => decide (e ≤ x) := List.mem_filter.mpr ⟨he, by simp⟩
  rw [z] at this
  cases this)
theorem lev_all (E : List Int) (e : Int) : lev E e ≤ E.length := List.length_filter_le _ _
/-- c is a condition that asks at most d of E -/
def Bd (E : List Int) (ns : List Node) (d c : Nat) : Prop := c < ns.length + 2 ∧ ∀ n, nod ns c = some n → lev E n.1 ≤ d
theorem Bd.mono {E : List Int} {ns : List Node} {d d' c : Nat} (b : Bd E ns d c) (h : d ≤ d') : Bd E ns d' c := ⟨b.1, fun n e => Nat.le_trans (b.2 n e) h⟩
theorem Bd.pre {E : List Int} {a b : List Node} {d c : Nat} (h : Bd E a d c) (p : Pre a b) : Bd E b d c :=
  ⟨by have := p.len; have := h.1; omega, fun n e => h.2 n (by rw [← p.nod h.1]; exact e)⟩
theorem Bd.back {E : List Int} {a b : List Node} {d c : Nat} (h : Bd E b d c) (p : Pre a b) (hc : c < a.length + 2) : Bd E a d c :=
  ⟨hc, fun n e => h.2 n (p.nod_some e)⟩
theorem Bd.leaf {E : List Int} {ns : List Node} {d c : Nat} (h : c < 2) : Bd E ns d c := ⟨by omega, fun n e => by have := nod_lt e; omega⟩
theorem Bd.all {E : List Int} {ns : List Node} {c : Nat} (h : c < ns.length + 2) : Bd E ns E.length c := ⟨h, fun _ _ => lev_all _ _⟩
theorem Bd.up {E : List Int} {ns : List Node} {d c : Nat} {e : Int} (h : Bd E ns d c) (hd : d < lev E e) : Up ns e c := fun n hn => by
  by_cases q : e < n.1
  · exact q
  · have := lev_le E (e := n.1) (e' := e) (by omega)
    have := h.2 n hn
    omega
theorem Bd.of_up {E : List Int} {ns : List Node} {d c : Nat} {e : Int} (hc : c < ns.length + 2) (u : Up ns e c) (he : e ∈ E) (hd : lev E e ≤ d + 1) : Bd E ns d c :=
  ⟨hc, fun n hn => by have := lev_lt (u n hn) he; omega⟩
/-- the parts of a node -/
theorem Bd.kid {E : List Int} {ns : List Node} {d c : Nat} {n : Node} (ok : NOk E ns) (h : Bd E ns (d + 1) c) (hn : nod ns c = some n) : Bd E ns d n.2.1 ∧ Bd E ns d n.2.2 := by
  obtain ⟨l1, l2, _⟩ := ok.lt c n hn
  obtain ⟨u1, u2⟩ := ok.ord c n hn
  have hl := h.2 n hn
  have := h.1
  exact ⟨.of_up (by omega) u1 (ok.en c n hn) hl, .of_up (by omega) u2 (ok.en c n hn) hl⟩
/-- a node is added -/
theorem nod_snoc {ns : List Node} {m : Node} : nod (ns ++ [m]) (ns.length + 2) = some m := by
  rw [nod_add, List.getElem?_append_right (Nat.le_refl _), Nat.sub_self]
  rfl
theorem Pre.snoc (ns : List Node) (m : Node) : Pre ns (ns ++ [m]) := ⟨[m], rfl⟩
theorem nod_snoc_of {ns : List Node} {m n : Node} {c : Nat} (h : nod (ns ++ [m]) c = some n) : nod ns c = some n ∨ (c = ns.length + 2 ∧ n = m) := by
  have hl := nod_lt h
  rw [List.length_append, List.length_singleton] at hl
  by_cases hc : c < ns.length + 2
  · exact .inl (by rw [← (Pre.snoc ns m).nod hc]; exact h)
  · have e : c = ns.length + 2 := by omega
    subst e
    rw [nod_snoc] at h
    exact .inr ⟨rfl, (Option.some.inj h).symm⟩
theorem NOk.snoc {E : List Int} {ns : List Node} (ok : NOk E ns) {e : Int} {a b : Nat} (he : e ∈ E) (ha : a < ns.length + 2) (hb : b < ns.length + 2) (hab : a ≠ b) (ua : Up ns e a) (ub : Up ns e b)
    (hn : ∀ c, nod ns c ≠ some (e, a, b)) : NOk E (ns ++ [(e, a, b)]) where
  lt := fun c n h => by
    rcases nod_snoc_of h with h | ⟨rfl, rfl⟩
    · exact ok.lt c n h
    · exact ⟨ha, hb, hab⟩
  en := fun c n h => by
    rcases nod_snoc_of h with h | ⟨rfl, rfl⟩
    · exact ok.en c n h
    · exact he
  ord := fun c n h => by
    rcases nod_snoc_of h with h | ⟨rfl, rfl⟩
    · obtain ⟨l1, l2, _⟩ := ok.lt c n h
      have := nod_lt h
      obtain ⟨u1, u2⟩ := ok.ord c n h
      exact ⟨(Pre.snoc ns _).up (by omega) u1, (Pre.snoc ns _).up (by omega) u2⟩
    · exact ⟨(Pre.snoc ns _).up ha ua, (Pre.snoc ns _).up hb ub⟩
  inj := fun c d n h k => by
    rcases nod_snoc_of h with h | ⟨rfl, rfl⟩
    · rcases nod_snoc_of k with k | ⟨rfl, rfl⟩
      · exact ok.inj c d n h k
      · exact absurd h (hn c)
    · rcases nod_snoc_of k with k | ⟨rfl, _⟩
      · exact absurd k (hn d)
      · rfl
/-! forms -/
inductive Form where
  | and | or | differ
  deriving DecidableEq
def Form.str : Form → Str
  | .and => "and"
  | .or => "or"
  | .differ => "differ"
def Form.op : Form → Bool → Bool → Bool
  | .and, a, b => a && b
  | .or, a, b => a || b
  | .differ, a, b => a != b
theorem Form.comm (fm : Form) (a b : Bool) : fm.op a b = fm.op b a := by cases fm <;> cases a <;> cases b <;> rfl
theorem Form.str_inj {a b : Form} (h : a.str = b.str) : a = b := by
  cases a <;> cases b <;> first | rfl | exact absurd h (by decide +kernel)
/-- the plain cases -/
def Form.leaf : Form → Nat → Nat → Option Nat
  | .and, a, b => if a = 0 ∨ b = 0 then some 0 else if a = 1 then some b else if b = 1 ∨ a = b then some a else none
  | .or, a, b => if a = 1 ∨ b = 1 then some 1 else if a = 0 then some b else if b = 0 ∨ a = b then some a else none
  | .differ, a, b => if a = b then some 0 else if a = 0 then some b else if b = 0 then some a else none
theorem Form.leaf_ev {fm : Form} {a b r : Nat} (h : fm.leaf a b = some r) (ns : List Node) (f : Int → Bool) : ev ns f r = fm.op (ev ns f a) (ev ns f b) := by
  cases fm <;> (unfold Form.leaf at h; dsimp only at h; repeat' split at h) <;> cases h <;> dsimp only [Form.op]
  · rename_i c; rcases c with rfl | rfl <;> simp [ev_zero]
  · subst_vars; simp [ev_one]
  · rename_i c; rcases c with rfl | rfl <;> simp [ev_one]
  · rename_i c; rcases c with rfl | rfl <;> simp [ev_one]
  · subst_vars; simp [ev_zero]
  · rename_i c; rcases c with rfl | rfl <;> simp [ev_zero]
  · subst_vars; simp [ev_zero]
  · subst_vars; simp [ev_zero]
  · subst_vars; simp [ev_zero]
theorem Form.leaf_bd {fm : Form} {E : List Int} {ns : List Node} {a b r d : Nat} (h : fm.leaf a b = some r) (ha : Bd E ns d a) (hb : Bd E ns d b) : Bd E ns d r := by
  cases fm <;> (unfold Form.leaf at h; dsimp only at h; repeat' split at h) <;> cases h <;> first | assumption | exact Bd.leaf (by decide)
/-- what is left: not two leaves, and not the same -/
theorem Form.leaf_none {fm : Form} {a b : Nat} (h : fm.leaf a b = none) : a ≠ b ∧ a ≠ 0 ∧ b ≠ 0 ∧ (2 ≤ a ∨ 2 ≤ b) := by
  cases fm <;> (unfold Form.leaf at h; dsimp only at h; repeat' split at h) <;> first | omega | cases h
/-- what is kept of results -/
def Good (E : List Int) (ns : List Node) (fm : Form) (a b r : Nat) : Prop :=
  a < ns.length + 2 ∧ b < ns.length + 2 ∧ (∀ d, Bd E ns d a → Bd E ns d b → Bd E ns d r) ∧ ∀ f, ev ns f r = fm.op (ev ns f a) (ev ns f b)
theorem Good.pre {E : List Int} {ns ns' : List Node} {fm : Form} {a b r : Nat} (g : Good E ns fm a b r) (oa : NOk E ns) (ob : NOk E ns') (p : Pre ns ns') : Good E ns' fm a b r := by
  obtain ⟨h1, h2, h3, h4⟩ := g
  have hl := p.len
  have hr : r < ns.length + 2 := (h3 E.length (.all h1) (.all h2)).1
  refine ⟨by omega, by omega, fun d x y => (h3 d (x.back p h1) (y.back p h2)).pre p, fun f => ?_⟩
  rw [p.ev oa ob f _ hr, p.ev oa ob f _ h1, p.ev oa ob f _ h2]
  exact h4 f
theorem Good.swap {E : List Int} {ns : List Node} {fm : Form} {a b r : Nat} (g : Good E ns fm a b r) : Good E ns fm b a r := by
  obtain ⟨h1, h2, h3, h4⟩ := g
  exact ⟨h2, h1, fun d x y => h3 d y x, fun f => by rw [h4 f, fm.comm]⟩

/-! ### the store as it stands in the heap -/
structure SA where
  p : Addr
  dx : Addr
  l : Addr
  d1 : Addr
  d2 : Addr
abbrev SA.M (s : SA) : List Addr := [s.l, s.d1, s.d2]
theorem nN_nu : ¬ (("_nodes" : Str) = "_numbers") := by decide +kernel
theorem nN_re : ¬ (("_nodes" : Str) = "_results") := by decide +kernel
theorem nu_re : ¬ (("_numbers" : Str) = "_results") := by decide +kernel
def sf (l d1 d2 : Addr) : List (Str × V) := putF "_results" (.ref d2) (putF "_numbers" (.ref d1) (putF "_nodes" (.ref l) []))
theorem sf_eq (l d1 d2 : Addr) : sf l d1 d2 = ([("_nodes", V.ref l), ("_numbers", V.ref d1), ("_results", V.ref d2)] : List (Str × V)) := by
  have e1 : putF "_numbers" (V.ref d1) (putF "_nodes" (V.ref l) []) = ([("_nodes", V.ref l), ("_numbers", V.ref d1)] : List (Str × V)) := by
    show (if ("_nodes" : Str) = "_numbers" then [(("_nodes" : Str), V.ref d1)] else (("_nodes" : Str), V.ref l) :: putF "_numbers" (V.ref d1) []) = _
    rw [if_neg nN_nu]
    rfl
  unfold sf
  rw [e1]
  show (if ("_nodes" : Str) = "_results" then _ else (("_nodes" : Str), V.ref l) :: (if ("_numbers" : Str) = "_results" then _ else (("_numbers" : Str), V.ref d1) :: putF "_results" (V.ref d2) [])) = _
  rw [if_neg nN_re, if_neg nu_re]
  rfl
theorem sf_nodes (l d1 d2 : Addr) : (sf l d1 d2).lookup ("_nodes" : Str) = some (.ref l) := by
  unfold sf
  rw [lookup_putF, if_neg nN_re, lookup_putF, if_neg nN_nu, lookup_putF, if_pos rfl]
theorem sf_numbers (l d1 d2 : Addr) : (sf l d1 d2).lookup ("_numbers" : Str) = some (.ref d1) := by
  unfold sf
  rw [lookup_putF, if_neg nu_re, lookup_putF, if_pos rfl]
theorem sf_results (l d1 d2 : Addr) : (sf l d1 d2).lookup ("_results" : Str) = some (.ref d2) := by
  unfold sf
  rw [lookup_putF, if_pos rfl]
theorem sf_no (l d1 d2 : Addr) {m : Str} (h1 : ¬ m = "_results") (h2 : ¬ m = "_numbers") (h3 : ¬ m = "_nodes") : (sf l d1 d2).lookup m = none := by
  unfold sf
  rw [lookup_putF, if_neg h1, lookup_putF, if_neg h2, lookup_putF, if_neg h3]
  rfl
def tupV (n : Node) : List V := [.int n.1, .int (n.2.1 : Int), .int (n.2.2 : Int)]
def nk (n : Node) : List Key := [.inl n.1, .inl (n.2.1 : Int), .inl (n.2.2 : Int)]
def rk (fm : Form) (a b : Nat) : List Key := [.inr fm.str, .inl (a : Int), .inl (b : Int)]
theorem nk_inj {n m : Node} (h : nk n = nk m) : n = m := by
  obtain ⟨a, b, c⟩ := n
  obtain ⟨a', b', c'⟩ := m
  unfold nk at h
  simp only [List.cons.injEq, Sum.inl.injEq, and_true] at h
  obtain ⟨h1, h2, h3⟩ := h
  have h2' : b = b' := Int.ofNat.inj h2
  have h3' : c = c' := Int.ofNat.inj h3
  rw [h1, h2', h3']
theorem rk_inj {fm fm' : Form} {a b a' b' : Nat} (h : rk fm a b = rk fm' a' b') : fm = fm' ∧ a = a' ∧ b = b' := by
  unfold rk at h
  simp only [List.cons.injEq, Sum.inl.injEq, Sum.inr.injEq, and_true] at h
  obtain ⟨h1, h2, h3⟩ := h
  exact ⟨Form.str_inj h1, Int.ofNat.inj h2, Int.ofNat.inj h3⟩
def nodesV (as : List Addr) : List V := .non :: .non :: as.map V.ref
structure StoAt (C : Addr) (E : List Int) (s : SA) (H : Hp) (ns : List Node) (b : Nat) : Prop where
  ob : H s.p = some (.ins C s.dx (sf s.l s.d1 s.d2))
  ls : ∃ as : List Addr, H s.l = some (.lst (nodesV as)) ∧ as.length = ns.length ∧ ∀ (i : Nat) (a : Addr) (n : Node), as[i]? = some a → ns[i]? = some n → H a = some (.tup (tupV n))
  nu : ∃ kvs, H s.d1 = some (.dT kvs) ∧ kvs.length = ns.length ∧ (∀ c n, nod ns c = some n → valV kvs (nk n) = some (.int c)) ∧ ∀ n v, valV kvs (nk n) = some v → ∃ c : Nat, nod ns c = some n ∧ v = .int c
  re : ∃ kvs, H s.d2 = some (.dT kvs) ∧ kvs.length ≤ b ∧ ∀ fm x y v, valV kvs (rk fm x y) = some v → ∃ r : Nat, v = .int r ∧ Good E ns fm x y r
  ok : NOk E ns
  le : ns.length ≤ b
  ne : s.d1 ≠ s.d2
theorem StoAt.mono {C : Addr} {E : List Int} {s : SA} {H : Hp} {ns : List Node} {b b' : Nat} (S : StoAt C E s H ns b) (h : b ≤ b') : StoAt C E s H ns b' := by
  obtain ⟨kvs, h1, h2, h3⟩ := S.re
  exact ⟨S.ob, S.ls, S.nu, ⟨kvs, h1, Nat.le_trans h2 h, h3⟩, S.ok, Nat.le_trans S.le h, S.ne⟩
theorem StoAt.kp {C : Addr} {E : List Int} {s : SA} {H H' : Hp} {ns : List Node} {b : Nat} {M : List Addr} (S : StoAt C E s H ns b) (k : Kp M H H') (hp : s.p ∉ M) (hl : s.l ∉ M) (h1 : s.d1 ∉ M) (h2 : s.d2 ∉ M) : StoAt C E s H' ns b := by
  obtain ⟨as, a1, a2, a3⟩ := S.ls
  obtain ⟨kvs, b1, b2⟩ := S.nu
  obtain ⟨kvs', c1, c2⟩ := S.re
  exact ⟨k.k _ _ S.ob hp, ⟨as, k.k _ _ a1 hl, a2, fun i a n x y => k.t _ _ (a3 i a n x y)⟩, ⟨kvs, k.k _ _ b1 h1, b2⟩, ⟨kvs', k.k _ _ c1 h2, c2⟩, S.ok, S.le, S.ne⟩
theorem StoAt.p_ne {C : Addr} {E : List Int} {s : SA} {H : Hp} {ns : List Node} {b : Nat} (S : StoAt C E s H ns b) : s.p ∉ s.M := by
  obtain ⟨as, a1, _⟩ := S.ls
  obtain ⟨kvs, b1, _⟩ := S.nu
  obtain ⟨kvs', c1, _⟩ := S.re
  have o := S.ob
  intro h
  simp only [SA.M, List.mem_cons, List.not_mem_nil, or_false] at h
  rcases h with e | e | e
  · rw [e, a1] at o; cases o
  · rw [e, b1] at o; cases o
  · rw [e, c1] at o; cases o
/-- nothing but new objects -/
theorem StoAt.new {C : Addr} {E : List Int} {s : SA} {H H' : Hp} {ns : List Node} {b : Nat} (S : StoAt C E s H ns b) (k : Kp [] H H') : StoAt C E s H' ns b :=
  S.kp k (by simp) (by simp) (by simp) (by simp)
/-- a condition's node, read off the list -/
theorem StoAt.at {C : Addr} {E : List Int} {s : SA} {H : Hp} {ns : List Node} {b : Nat} (S : StoAt C E s H ns b) {c : Nat} {n : Node} (h : nod ns c = some n) :
    ∃ (as : List Addr) (a : Addr), H s.l = some (.lst (nodesV as)) ∧ atI (nodesV as) (c : Int) = some (.ref a) ∧ H a = some (.tup (tupV n)) := by
  obtain ⟨as, a1, a2, a3⟩ := S.ls
  obtain ⟨i, rfl, e⟩ := nod_of h
  have hi : i < as.length := by
    have := (List.getElem?_eq_some_iff.mp e).1
    omega
  refine ⟨as, as[i], a1, atI_nat ?_, a3 i _ n (List.getElem?_eq_getElem hi) e⟩
  show (as.map V.ref)[i]? = _
  rw [List.getElem?_map, List.getElem?_eq_getElem hi]
  rfl
theorem StoAt.at1 {C : Addr} {E : List Int} {s : SA} {H : Hp} {ns : List Node} {b : Nat} (S : StoAt C E s H ns b) : ∃ (as : List Addr), H s.l = some (.lst (nodesV as)) ∧ atI (nodesV as) ((1 : Nat) : Int) = some .non := by
  obtain ⟨as, a1, _⟩ := S.ls
  exact ⟨as, a1, atI_nat rfl⟩
/-- what make gives -/
def Made (ns : List Node) (e : Int) (u v c : Nat) : Prop := (u = v ∧ c = u) ∨ (u ≠ v ∧ nod ns c = some (e, u, v))
theorem Made.ev {E : List Int} {ns : List Node} {e : Int} {u v c : Nat} (m : Made ns e u v c) (ok : NOk E ns) (f : Int → Bool) : Lw.ev ns f c = if f e then Lw.ev ns f v else Lw.ev ns f u := by
  rcases m with ⟨rfl, rfl⟩ | ⟨_, h⟩
  · split <;> rfl
  · exact ok.ev h f
theorem Made.bd {E : List Int} {ns : List Node} {e : Int} {u v c d : Nat} (m : Made ns e u v c) (hu : u < ns.length + 2) (u1 : Up ns e u) (he : e ∈ E) (hd : lev E e ≤ d) : Bd E ns d c := by
  rcases m with ⟨rfl, rfl⟩ | ⟨_, h⟩
  · exact .of_up hu u1 he (by omega)
  · exact ⟨(nod_lt h).2, fun n hn => by rw [h] at hn; cases hn; exact hd⟩
theorem Made.pre {ns ns' : List Node} {e : Int} {u v c : Nat} (m : Made ns e u v c) (p : Pre ns ns') : Made ns' e u v c := by
  rcases m with h | ⟨h1, h2⟩
  · exact .inl h
  · exact .inr ⟨h1, p.nod_some h2⟩

/-! ### the promises -/
def spDinit (C : Addr) : Sp := fun vs H Q _ => ∃ (p dx : Addr), vs = [.ref p] ∧ H p = some (.ins C dx []) ∧
  ∀ (s : SA) (H' : Hp), s.p = p → H s.l = none → H s.d1 = none → H s.d2 = none → (∀ E, StoAt C E s H' [] 0) → (∀ b o, H b = some o → b ≠ p → H' b = some o) → Q .non H'
def spMake (C : Addr) : Sp := fun vs H Q _ => ∃ (E : List Int) (s : SA) (ns : List Node) (b : Nat) (e : Int) (u v : Nat), vs = [.ref s.p, .int e, .int u, .int v] ∧ StoAt C E s H ns b ∧
  e ∈ E ∧ u < ns.length + 2 ∧ v < ns.length + 2 ∧ Up ns e u ∧ Up ns e v ∧ b < 1000000 ∧
  ∀ (H' : Hp) (ns' : List Node) (c : Nat), Kp s.M H H' → StoAt C E s H' ns' (b + 1) → Pre ns ns' → Made ns' e u v c → Q (.int c) H'
def spThere (C : Addr) : Sp := fun vs H Q _ => ∃ (E : List Int) (s : SA) (ns : List Node) (b : Nat) (e : Int), vs = [.ref s.p, .int e] ∧ StoAt C E s H ns b ∧ e ∈ E ∧ b < 1000000 ∧
  ∀ (H' : Hp) (ns' : List Node) (c : Nat), Kp s.M H H' → StoAt C E s H' ns' (b + 1) → Pre ns ns' → c < ns'.length + 2 → (∀ f, ev ns' f c = f e) → Q (.int c) H'
def spNode (C : Addr) : Sp := fun vs H Q _ => ∃ (E : List Int) (s : SA) (ns : List Node) (b c : Nat) (n : Node), vs = [.ref s.p, .int c] ∧ StoAt C E s H ns b ∧ nod ns c = some n ∧
  ∀ (a : Addr), H a = some (.tup (tupV n)) → Q (.ref a) H
def spLeaf (fm : Form) : Sp := fun vs H Q _ => ∃ (a b : Nat), vs = [.int a, .int b] ∧ Q (match fm.leaf a b with | some r => .int r | none => .non) H
def spComb (C : Addr) (n : Nat) : Sp := fun vs H Q _ => ∃ (E : List Int) (s : SA) (ns : List Node) (b d : Nat) (fm : Form) (x y : Nat), vs = [.ref s.p, .str fm.str, .int x, .int y] ∧ StoAt C E s H ns b ∧
  Bd E ns d x ∧ Bd E ns d y ∧ 3 * d + 3 ≤ n ∧ b + 2 ^ (d + 1) ≤ 1000000 ∧
  ∀ (H' : Hp) (ns' : List Node) (r : Nat), Kp s.M H H' → StoAt C E s H' ns' (b + 2 ^ (d + 1) - 2) → Pre ns ns' → Good E ns' fm x y r → Q (.int r) H'
/-- the first one is a node whose entry comes first -/
def Lead (ns : List Node) (x y : Nat) : Prop := ∃ n, nod ns x = some n ∧ ∀ m, nod ns y = some m → n.1 ≤ m.1
def spSplit (C : Addr) (n : Nat) : Sp := fun vs H Q _ => ∃ (E : List Int) (s : SA) (ns : List Node) (b d : Nat) (fm : Form) (x y : Nat), vs = [.ref s.p, .str fm.str, .int x, .int y] ∧ StoAt C E s H ns b ∧
  Bd E ns d x ∧ Bd E ns d y ∧ x ≠ 0 ∧ y ≠ 0 ∧ ((Lead ns x y ∧ 3 * d + 1 ≤ n) ∨ (Lead ns y x ∧ 3 * d + 2 ≤ n)) ∧ b + 2 ^ (d + 1) ≤ 1000000 ∧
  ∀ (H' : Hp) (ns' : List Node) (r : Nat), Kp s.M H H' → StoAt C E s H' ns' (b + 2 ^ (d + 1) - 3) → Pre ns ns' → Good E ns' fm x y r → Q (.int r) H'
structure TSto (K : PySem.W.Frag) (w : World) (mg : Str → Option Value) (C : Addr) : Prop where
  cl : Cls K C
  a_nodes : NoAttr K C "_nodes"
  a_numbers : NoAttr K C "_numbers"
  a_results : NoAttr K C "_results"
  n_len : mg "len" = none
  n_min : mg "min" = none
  n_max : mg "max" = none
  n_list : mg "list" = none
  g_NEVER : ∃ u, mg "NEVER" = some u ∧ RelV (.int 0) u
  g_ALWAYS : ∃ u, mg "ALWAYS" = some u ∧ RelV (.int 1) u
theorem dI {i j : Int} (h : decide (V.int i = V.int j) = true) : i = j := V.int.inj (of_decide_eq_true h)
theorem nI {i j : Int} (h : ¬ decide (V.int i = V.int j) = true) : i ≠ j := fun e => h (decide_eq_true (congrArg V.int e))
theorem dN {i j : Nat} (h : decide (V.int (i : Int) = V.int (j : Int)) = true) : i = j := Int.ofNat.inj (dI h)
theorem nN {i j : Nat} (h : ¬ decide (V.int (i : Int) = V.int (j : Int)) = true) : i ≠ j := fun e => nI h (by rw [e])
section
variable {P : Program} {w : World} {K : PySem.W.Frag} {mg : Str → Option Value} {base : Heap} {C : Addr}
/-! ### plain cases -/
/-- the three defs of the table, as they stand -/
def GA (K : PySem.W.Frag) (x : Str) (st : Stmt) (f : Addr) (ps : List Str) : Prop := ∃ (fd : FuncData), Fun K x x st f fd ∧ Binds K fd ps []
theorem GA.held {x : Str} {st : Stmt} {f : Addr} {N ps : List Str} {k : Nat} {sp : Sp} (D : GA K x st f ps) (S : FnScope N ps (defScope st)) (len : ∀ vs H Q E, sp vs H Q E → vs.length = ps.length)
    (hbody : ∀ (cdv : Value) (A : Around) (outer : List Env) (s : Shared) (H : Hp) (vs : List V) (Q : VK) (E : XK),
      Room k (A.deeper (envOfC x (defScope st) s.heap.objs.size f cdv)) → sp vs H Q E →
      ∃ t, PSs (cxOf CX0 P w K mg base N x (defScope st) f cdv A outer s H E).nox (defBody st) t ∧ t { nx := fun _ H' => Q .non H', rt := Q } (start N vs) H) :
    Held P w K mg base (k + 1) f sp := by
  obtain ⟨fd, F, hb⟩ := D
  exact ⟨fd, ps, F.ok S len hbody, F.kp, hb⟩
structure TLeaf (mg : Str → Option Value) : Prop where
  g_NEVER : ∃ u, mg "NEVER" = some u ∧ RelV (.int 0) u
  g_ALWAYS : ∃ u, mg "ALWAYS" = some u ∧ RelV (.int 1) u
theorem ok_and_leaf {f : Addr} (D : GA K "and_leaf" sD_and_leaf f ["first", "second"]) (T : TLeaf mg) : Held P w K mg base 1 f (spLeaf .and) := by
  refine D.held sc_and_leaf (fun vs H Q E h => ?_) (fun cdv A outer s H vs Q E hr h => ?_)
  · obtain ⟨a, b, rfl, _⟩ := h
    rfl
  obtain ⟨a, b, rfl, q⟩ := h
  refine ⟨_, (pss_cons (ps_if (PW.pt (pw_or (pt_cmpR op_eq (pv 0) (pe_gc rfl T.g_NEVER) (nomark _)) (pw_or1 (pt_cmpR op_eq (pv 1) (pe_gc rfl T.g_NEVER) (nomark _))))) (pss_one (ps_ret (pe_gc rfl T.g_NEVER))) pss_nil)
    (pss_cons (ps_if (pt_cmpR op_eq (pv 0) (pe_gc rfl T.g_ALWAYS) (nomark _)) (pss_one (ps_ret (pv 1))) pss_nil)
    (pss_one (ps_ret (pe_ifExp (PW.pt (pw_or (pt_cmpR op_eq (pv 1) (pe_gc rfl T.g_ALWAYS) (nomark _)) (pw_or1 (pt_cmpR op_eq (pv 0) (pv 1) (nomark _))))) (pv 0) pe_non))))), ?_⟩
  unfold Form.leaf at q
  dsimp only at q
  refine ⟨_, rfl, rfl, _, rfl, ?_⟩
  refine ite2 (fun c => ?_) (fun c => ?_)
  · rw [if_pos (.inl (dN (j := 0) c))] at q
    exact iteT q
  refine ⟨_, rfl, rfl, _, rfl, ?_⟩
  refine ite2 (fun c2 => ?_) (fun c2 => ?_)
  · rw [if_pos (.inr (dN (j := 0) c2))] at q
    exact q
  rw [if_neg (fun z => z.elim (nN (j := 0) c) (nN (j := 0) c2))] at q
  refine ⟨_, rfl, rfl, _, rfl, ?_⟩
  refine ite2 (fun c3 => ?_) (fun c3 => ?_)
  · rw [if_pos (dN (j := 1) c3)] at q
    exact ⟨_, rfl, q⟩
  rw [if_neg (nN (j := 1) c3)] at q
  refine ⟨_, rfl, rfl, _, rfl, ?_⟩
  refine ite2 (fun c4 => ?_) (fun c4 => ?_)
  · rw [if_pos (.inl (dN (j := 1) c4))] at q
    exact iteT ⟨_, rfl, q⟩
  refine ⟨_, rfl, _, rfl, rfl, _, rfl, ?_⟩
  refine ite2 (fun c5 => ?_) (fun c5 => ?_)
  · rw [if_pos (.inr (dN c5))] at q
    exact ⟨_, rfl, q⟩
  · rw [if_neg (fun z => z.elim (nN (j := 1) c4) (nN c5))] at q
    exact q
theorem ok_or_leaf {f : Addr} (D : GA K "or_leaf" sD_or_leaf f ["first", "second"]) (T : TLeaf mg) : Held P w K mg base 1 f (spLeaf .or) := by
  refine D.held sc_or_leaf (fun vs H Q E h => ?_) (fun cdv A outer s H vs Q E hr h => ?_)
  · obtain ⟨a, b, rfl, _⟩ := h
    rfl
  obtain ⟨a, b, rfl, q⟩ := h
  refine ⟨_, (pss_cons (ps_if (PW.pt (pw_or (pt_cmpR op_eq (pv 0) (pe_gc rfl T.g_ALWAYS) (nomark _)) (pw_or1 (pt_cmpR op_eq (pv 1) (pe_gc rfl T.g_ALWAYS) (nomark _))))) (pss_one (ps_ret (pe_gc rfl T.g_ALWAYS))) pss_nil)
    (pss_cons (ps_if (pt_cmpR op_eq (pv 0) (pe_gc rfl T.g_NEVER) (nomark _)) (pss_one (ps_ret (pv 1))) pss_nil)
    (pss_one (ps_ret (pe_ifExp (PW.pt (pw_or (pt_cmpR op_eq (pv 1) (pe_gc rfl T.g_NEVER) (nomark _)) (pw_or1 (pt_cmpR op_eq (pv 0) (pv 1) (nomark _))))) (pv 0) pe_non))))), ?_⟩
  unfold Form.leaf at q
  dsimp only at q
  refine ⟨_, rfl, rfl, _, rfl, ?_⟩
  refine ite2 (fun c => ?_) (fun c => ?_)
  · rw [if_pos (.inl (dN (j := 1) c))] at q
    exact iteT q
  refine ⟨_, rfl, rfl, _, rfl, ?_⟩
  refine ite2 (fun c2 => ?_) (fun c2 => ?_)
  · rw [if_pos (.inr (dN (j := 1) c2))] at q
    exact q
  rw [if_neg (fun z => z.elim (nN (j := 1) c) (nN (j := 1) c2))] at q
  refine ⟨_, rfl, rfl, _, rfl, ?_⟩
  refine ite2 (fun c3 => ?_) (fun c3 => ?_)
  · rw [if_pos (dN (j := 0) c3)] at q
    exact ⟨_, rfl, q⟩
  rw [if_neg (nN (j := 0) c3)] at q
  refine ⟨_, rfl, rfl, _, rfl, ?_⟩
  refine ite2 (fun c4 => ?_) (fun c4 => ?_)
  · rw [if_pos (.inl (dN (j := 0) c4))] at q
    exact iteT ⟨_, rfl, q⟩
  refine ⟨_, rfl, _, rfl, rfl, _, rfl, ?_⟩
  refine ite2 (fun c5 => ?_) (fun c5 => ?_)
  · rw [if_pos (.inr (dN c5))] at q
    exact ⟨_, rfl, q⟩
  · rw [if_neg (fun z => z.elim (nN (j := 0) c4) (nN c5))] at q
    exact q
theorem ok_differ_leaf {f : Addr} (D : GA K "differ_leaf" sD_differ_leaf f ["first", "second"]) (T : TLeaf mg) : Held P w K mg base 1 f (spLeaf .differ) := by
  refine D.held sc_differ_leaf (fun vs H Q E h => ?_) (fun cdv A outer s H vs Q E hr h => ?_)
  · obtain ⟨a, b, rfl, _⟩ := h
    rfl
  obtain ⟨a, b, rfl, q⟩ := h
  refine ⟨_, (pss_cons (ps_if (pt_cmpR op_eq (pv 0) (pv 1) (nomark _)) (pss_one (ps_ret (pe_gc rfl T.g_NEVER))) pss_nil)
    (pss_cons (ps_if (pt_cmpR op_eq (pv 0) (pe_gc rfl T.g_NEVER) (nomark _)) (pss_one (ps_ret (pv 1))) pss_nil)
    (pss_one (ps_ret (pe_ifExp (pt_cmpR op_eq (pv 1) (pe_gc rfl T.g_NEVER) (nomark _)) (pv 0) pe_non))))), ?_⟩
  unfold Form.leaf at q
  dsimp only at q
  refine ⟨_, rfl, _, rfl, rfl, _, rfl, ?_⟩
  refine ite2 (fun c => ?_) (fun c => ?_)
  · rw [if_pos (dN c)] at q
    exact q
  rw [if_neg (nN c)] at q
  refine ⟨_, rfl, rfl, _, rfl, ?_⟩
  refine ite2 (fun c2 => ?_) (fun c2 => ?_)
  · rw [if_pos (dN (j := 0) c2)] at q
    exact ⟨_, rfl, q⟩
  rw [if_neg (nN (j := 0) c2)] at q
  refine ⟨_, rfl, rfl, _, rfl, ?_⟩
  refine ite2 (fun c3 => ?_) (fun c3 => ?_)
  · rw [if_pos (dN (j := 0) c3)] at q
    exact ⟨_, rfl, q⟩
  · rw [if_neg (nN (j := 0) c3)] at q
    exact q
/-! ### the store is made -/
theorem ok_Dinit {f : Addr} {fd : FuncData} (F : Fun K "__init__" "Diagrams.__init__" sD_Dinit f fd) (T : TSto K w mg C) : FnOk P w K mg base CX0 1 f fd ["self"] (spDinit C) := by
  refine F.ok sc_Dinit (fun vs H Q E h => ?_) (fun cdv A outer s H vs Q E hr h => ?_)
  · obtain ⟨p, dx, rfl, _⟩ := h
    rfl
  obtain ⟨p, dx, rfl, hp, q⟩ := h
  refine ⟨_, (pss_cons (ps_fld (pv 0) (pe_lst (pa_cons pe_non (pa_cons pe_non pa_nil))) rfl)
    (pss_cons (ps_fld (pv 0) pe_dnewT rfl)
    (pss_one (ps_fld (pv 0) pe_dnewT rfl)))), ?_⟩
  refine ⟨(by show 2 ≤ sizeLine; decide), fun l hl => ?_⟩
  have npl : p ≠ l := ne_of_none hp hl
  refine ⟨_, rfl, p, C, dx, [], rfl, (by rw [upd_ne npl]; exact hp), T.cl, T.a_nodes, (by show 0 < 1000; decide), fun d1 h1 => ?_⟩
  have np1 : p ≠ d1 := ne_of_none upd_same h1
  have nl1 : l ≠ d1 := fun e => by rw [← e, upd_ne npl.symm, upd_same] at h1; cases h1
  have h1' : H d1 = Option.none := by rw [upd_ne np1.symm, upd_ne nl1.symm] at h1; exact h1
  refine ⟨_, rfl, p, C, dx, _, rfl, (by rw [upd_ne np1]; exact upd_same), T.cl, T.a_numbers, (by show 1 < 1000; decide), fun d2 h2 => ?_⟩
  have np2 : p ≠ d2 := ne_of_none upd_same h2
  have n12 : d1 ≠ d2 := fun e => by rw [← e, upd_ne np1.symm, upd_same] at h2; cases h2
  have nl2 : l ≠ d2 := fun e => by rw [← e, upd_ne npl.symm, upd_ne nl1, upd_ne npl.symm, upd_same] at h2; cases h2
  have h2' : H d2 = Option.none := by rw [upd_ne np2.symm, upd_ne n12.symm, upd_ne np2.symm, upd_ne nl2.symm] at h2; exact h2
  refine ⟨_, rfl, p, C, dx, _, rfl, (by rw [upd_ne np2]; exact upd_same), T.cl, T.a_results, (by show 2 < 1000; decide), ?_⟩
  refine q ⟨p, dx, l, d1, d2⟩ _ rfl hl h1' h2' (fun E => ⟨upd_same, ⟨[], ?_, rfl, fun i a n h => by simp at h⟩, ⟨[], ?_, rfl, fun c n h => ?_, fun n v h => ?_⟩, ⟨[], ?_, Nat.le_refl _, fun fm x y v h => ?_⟩, .nil E, Nat.le_refl _, n12⟩) (fun b o e hb => ?_)
  · show upd _ p _ l = _
    rw [upd_ne npl.symm, upd_ne nl2, upd_ne npl.symm, upd_ne nl1, upd_ne npl.symm, upd_same]
    rfl
  · show upd _ p _ d1 = _
    rw [upd_ne np1.symm, upd_ne n12, upd_ne np1.symm, upd_same]
  · have := nod_lt h
    simp at this
    omega
  · cases h
  · show upd _ p _ d2 = _
    rw [upd_ne np2.symm, upd_same]
  · cases h
  · rw [upd_ne hb, upd_ne (ne_of_none e h2'), upd_ne hb, upd_ne (ne_of_none e h1'), upd_ne hb, upd_ne (ne_of_none e hl)]
    exact e
/-! ### make, there, node -/
theorem ok_make (D : GM K C "make" "Diagrams.make" sD_Dmake ["self", "entry", "without", "there"]) (T : TSto K w mg C) : Met P w K mg base 1 C "make" (spMake C) [] := by
  refine D.met T.cl sc_Dmake (fun vs H Q E h => ?_) (fun f cdv A outer s0 H vs Q E hr h => ?_)
  · obtain ⟨E, s, ns, b, e, u, v, rfl, _⟩ := h
    rfl
  obtain ⟨E, s, ns, b, e, u, v, rfl, S, he, hu0, hv0, u1, u2, hb, q⟩ := h
  have hu := hu_of hr
  refine ⟨_, (pss_cons (ps_if (pt_cmpR op_eq (pv 2) (pv 3) (nomark _)) (pss_one (ps_ret (pv 2))) pss_nil)
    (pss_cons (ps_set (i := 4) sc_Dmake.nd rfl (Or.inl rfl) (pe_tup (pa_cons (pv 1) (pa_cons (pv 2) (pa_cons (pv 3) pa_nil)))))
    (pss_cons (ps_if (pt_cmp (pc_dnotin hu (pv 4) (pe_fld (pv 0) rfl))) (pss_cons (ps_dput hu (pe_fld (pv 0) rfl) (pv 4) (pe_callB call_len_seq (by rfl) T.n_len (by decide +kernel) (pa_cons (pe_fld (pv 0) rfl) pa_nil)) rfl)
    (pss_one (ps_expr (pe_bm PySem.F.plainAttrs_list PySem.F.slot_list_append PySem.F.type_list_append mt_append (pe_fld (pv 0) rfl) (pa_cons (pv 4) pa_nil))))) pss_nil)
    (pss_one (ps_ret (pe_dget hu (pe_fld (pv 0) rfl) (pv 4) (fun _ _ => rfl))))))), ?_⟩
  refine ⟨_, rfl, _, rfl, rfl, _, rfl, ?_⟩
  refine ite2 (fun c => ?_) (fun c => ?_)
  · exact ⟨_, rfl, q H ns u .refl (S.mono (Nat.le_succ _)) (.refl _) (.inl ⟨dN c, rfl⟩)⟩
  have huv : u ≠ v := nN c
  refine ⟨_, rfl, _, rfl, _, rfl, (by show 3 ≤ sizeLine; decide), fun k hk => ?_⟩
  obtain ⟨as, a1, a2, a3⟩ := S.ls
  obtain ⟨kvs, b1, b2, b3, b4⟩ := S.nu
  obtain ⟨kvs', c1, c2, c3⟩ := S.re
  have nkp : s.p ≠ k := ne_of_none S.ob hk
  have nkl : s.l ≠ k := ne_of_none a1 hk
  have nk1 : s.d1 ≠ k := ne_of_none b1 hk
  have nk2 : s.d2 ≠ k := ne_of_none c1 hk
  have nl1 : s.l ≠ s.d1 := ne_of a1 b1 (by intro z; cases z)
  have nl2 : s.l ≠ s.d2 := ne_of a1 c1 (by intro z; cases z)
  have np1 : s.p ≠ s.d1 := ne_of S.ob b1 (by intro z; cases z)
  have npl : s.p ≠ s.l := ne_of S.ob a1 (by intro z; cases z)
  generalize hH1 : upd H k (.tup [.int e, .int (u : Int), .int (v : Int)]) = H1
  have k1 : Kp s.M H H1 := by rw [← hH1]; exact .new hk
  have hk1 : H1 k = some (.tup ((nk (e, u, v)).map kV)) := by rw [← hH1]; exact upd_same
  have ob1 : H1 s.p = some (.ins C s.dx (sf s.l s.d1 s.d2)) := by rw [← hH1, upd_ne nkp]; exact S.ob
  have a11 : H1 s.l = some (.lst (nodesV as)) := by rw [← hH1, upd_ne nkl]; exact a1
  have b11 : H1 s.d1 = some (.dT kvs) := by rw [← hH1, upd_ne nk1]; exact b1
  refine ⟨_, rfl, _, rfl, s.p, C, s.dx, _, _, rfl, ob1, T.cl, T.a_numbers, sf_numbers _ _ _, s.d1, _, rfl, DGet.t b11 hk1, _, rfl, ?_⟩
  cases ek : valV kvs (nk (e, u, v)) with
  | some z =>
    refine iteF ?_
    obtain ⟨c0, hc0, rfl⟩ := b4 _ _ ek
    refine ⟨_, rfl, s.p, C, s.dx, _, _, rfl, ob1, T.cl, T.a_numbers, sf_numbers _ _ _, _, rfl, s.d1, _, rfl, by rw [← ek]; exact DGet.t b11 hk1, ?_⟩
    exact q H1 ns c0 k1 ((S.kp (M := []) (by rw [← hH1]; exact .new hk) (by simp) (by simp) (by simp) (by simp)).mono (Nat.le_succ _)) (.refl _) (.inr ⟨huv, hc0⟩)
  | none =>
    refine iteT ?_
    have hkl : kvs.length < sizeLine := Nat.lt_of_le_of_lt (show kvs.length ≤ 1000000 by rw [b2]; exact Nat.le_trans S.le (Nat.le_of_lt hb)) (by decide)
    refine ⟨_, rfl, s.p, C, s.dx, _, _, rfl, ob1, T.cl, T.a_nodes, sf_nodes _ _ _, s.l, _, rfl, .inl (SqL.of a11), _, rfl, s.p, C, s.dx, _, _, rfl, ob1, T.cl, T.a_numbers, sf_numbers _ _ _, _, rfl, s.d1, _, rfl, DPut.t b11 hk1 hkl, ?_⟩
    have el : ((nodesV as).length : Int) = ((ns.length + 2 : Nat) : Int) := by
      unfold nodesV
      simp only [List.length_cons, List.length_map]
      omega
    rw [el]
    generalize hH2 : upd H1 s.d1 (.dT (putK kvs (nk (e, u, v)) (V.int ((ns.length + 2 : Nat) : Int)))) = H2
    have ob2 : H2 s.p = some (.ins C s.dx (sf s.l s.d1 s.d2)) := by rw [← hH2, upd_ne np1]; exact ob1
    have a12 : H2 s.l = some (.lst (nodesV as)) := by rw [← hH2, upd_ne nl1]; exact a11
    have hln : (nodesV as).length < sizeLine := Nat.lt_of_le_of_lt (show (nodesV as).length ≤ 1000002 by
      unfold nodesV
      simp only [List.length_cons, List.length_map]
      have := S.le
      omega) (by decide)
    refine ⟨_, rfl, s.p, C, s.dx, _, _, rfl, ob2, T.cl, T.a_nodes, sf_nodes _ _ _, .inl ⟨rfl, _, SqL.of a12⟩, _, rfl, s.l, _, _, rfl, rfl, a12, hln, ?_⟩
    have ez : nodesV as ++ [V.ref k] = nodesV (as ++ [k]) := by unfold nodesV; rw [List.map_append]; rfl
    rw [ez]
    generalize hH3 : upd H2 s.l (.lst (nodesV (as ++ [k]))) = H3
    have ob3 : H3 s.p = some (.ins C s.dx (sf s.l s.d1 s.d2)) := by rw [← hH3, upd_ne npl]; exact ob2
    have b13 : H3 s.d1 = some (.dT (putK kvs (nk (e, u, v)) (V.int ((ns.length + 2 : Nat) : Int)))) := by rw [← hH3, upd_ne nl1.symm, ← hH2, upd_same]
    have hk3 : H3 k = some (.tup ((nk (e, u, v)).map kV)) := by rw [← hH3, upd_ne nkl.symm, ← hH2, upd_ne nk1.symm]; exact hk1
    have k12 : Kp s.M H1 H2 := by rw [← hH2]; exact .put (by simp) b11 (fun xs z => by cases z)
    have k23 : Kp s.M H2 H3 := by rw [← hH3]; exact .put (by simp) a12 (fun xs z => by cases z)
    have kk := (k1.trans k12).trans k23
    have ev1 : valV (putK kvs (nk (e, u, v)) (V.int ((ns.length + 2 : Nat) : Int))) (nk (e, u, v)) = some (V.int ((ns.length + 2 : Nat) : Int)) := by rw [valV_put, if_pos rfl]
    refine ⟨_, rfl, s.p, C, s.dx, _, _, rfl, ob3, T.cl, T.a_numbers, sf_numbers _ _ _, _, rfl, s.d1, _, rfl, by rw [← ev1]; exact DGet.t b13 hk3, ?_⟩
    have ok' : NOk E (ns ++ [(e, u, v)]) := S.ok.snoc he hu0 hv0 huv u1 u2 fun c0 h0 => by rw [b3 c0 _ h0] at ek; cases ek
    refine q H3 (ns ++ [(e, u, v)]) (ns.length + 2) kk ⟨ob3, ⟨as ++ [k], by rw [← hH3]; exact upd_same, by rw [List.length_append, List.length_append, a2]; rfl, fun i a n x y => ?_⟩, ⟨_, b13, ?_, fun c0 n h0 => ?_, fun n z h0 => ?_⟩, ⟨kvs', ?_, by omega, fun fm x y z h0 => ?_⟩, ok', ?_, S.ne⟩ (.snoc ns _) (.inr ⟨huv, nod_snoc⟩)
    · by_cases hi : i < as.length
      · rw [List.getElem?_append_left hi] at x
        rw [List.getElem?_append_left (by omega)] at y
        exact kk.t _ _ (a3 i a n x y)
      · have hi2 := (List.getElem?_eq_some_iff.mp x).1
        rw [List.length_append, List.length_singleton] at hi2
        have ei : i = as.length := by omega
        subst ei
        rw [List.getElem?_append_right (Nat.le_refl _), Nat.sub_self] at x
        rw [a2, List.getElem?_append_right (Nat.le_refl _), Nat.sub_self] at y
        cases x
        cases y
        exact hk3
    · rw [putK_new _ ek, List.length_append, List.length_append, b2]
      rfl
    · rw [valV_put]
      rcases nod_snoc_of h0 with h0 | ⟨rfl, rfl⟩
      · rw [if_neg fun z => ?_]
        · exact b3 c0 n h0
        · rw [nk_inj z] at h0
          rw [b3 c0 _ h0] at ek
          cases ek
      · rw [if_pos rfl]
    · rw [valV_put] at h0
      split at h0
      · rename_i z1
        cases h0
        rw [nk_inj z1]
        exact ⟨_, nod_snoc, rfl⟩
      · obtain ⟨c1, x1, x2⟩ := b4 n z h0
        exact ⟨c1, (Pre.snoc ns _).nod_some x1, x2⟩
    · rw [← hH3, upd_ne nl2.symm, ← hH2, upd_ne S.ne.symm, ← hH1, upd_ne nk2]
      exact c1
    · obtain ⟨r, x1, x2⟩ := c3 fm x y z h0
      exact ⟨r, x1, x2.pre S.ok ok' (.snoc ns _)⟩
    · rw [List.length_append, List.length_singleton]
      have := S.le
      omega
theorem ok_there (D : GM K C "there" "Diagrams.there" sD_Dthere ["self", "entry"]) (T : TSto K w mg C) (m_make : Met P w K mg base 1 C "make" (spMake C) []) : Met P w K mg base 2 C "there" (spThere C) [] := by
  refine D.met T.cl sc_Dthere (fun vs H Q E h => ?_) (fun f cdv A outer s0 H vs Q E hr h => ?_)
  · obtain ⟨E, s, ns, b, e, rfl, _⟩ := h
    rfl
  obtain ⟨E, s, ns, b, e, rfl, S, he, hb, q⟩ := h
  refine ⟨_, (pss_one (ps_ret (pe_mt m_make hr (by omega) (pv 0) (pa_cons (pv 1) (pa_cons (pe_gc rfl T.g_NEVER) (pa_cons (pe_gc rfl T.g_ALWAYS) pa_nil)))))), ?_⟩
  have no : ∀ c : Nat, c < 2 → Up ns e c := fun c hc n hn => by have := nod_lt hn; omega
  refine ⟨_, rfl, s.p, s.dx, _, rfl, S.ob, sf_no _ _ _ (by decide +kernel) (by decide +kernel) (by decide +kernel), _, rfl, E, s, ns, b, e, 0, 1, rfl, S, he, by omega, by omega, no 0 (by omega), no 1 (by omega), hb, fun H' ns' c k S' p m => ?_⟩
  refine q H' ns' c k S' p ?_ fun f => ?_
  · rcases m with ⟨h, _⟩ | ⟨_, h⟩
    · cases h
    · exact (nod_lt h).2
  · rw [m.ev S'.ok, ev_one, ev_zero]
    cases f e <;> rfl
theorem ok_node (D : GM K C "node" "Diagrams.node" sD_Dnode ["self", "condition"]) (T : TSto K w mg C) : Met P w K mg base 1 C "node" (spNode C) [] := by
  refine D.met T.cl sc_Dnode (fun vs H Q E h => ?_) (fun f cdv A outer s0 H vs Q E hr h => ?_)
  · obtain ⟨E, s, ns, b, c, n, rfl, _⟩ := h
    rfl
  obtain ⟨E, s, ns, b, c, n, rfl, S, hn, q⟩ := h
  refine ⟨_, (pss_one (ps_ret (pe_ix ix_list (pe_fld (pv 0) rfl) (pv 1) (fun _ _ => rfl)))), ?_⟩
  obtain ⟨as, a, h1, h2, h3⟩ := S.at hn
  exact ⟨_, rfl, s.p, C, s.dx, _, _, rfl, S.ob, T.cl, T.a_nodes, sf_nodes _ _ _, _, rfl, s.l, _, _, _, rfl, rfl, SqL.of h1, h2, q a h3⟩
end

/-! ### combining -/
/-- what the table of the plain cases is: its address, its three defs -/
structure TTab (P : Program) (K : PySem.W.Frag) (w : World) (mg : Str → Option Value) (base : Heap) (aL : Addr) (fa : Form → Addr) : Prop where
  g_LEAVES : ∃ u, mg "LEAVES" = some u ∧ RelV (.ref aL) u
  kd : ∀ fm : Form, KDct K w aL fm.str (.ref (fa fm))
  held : ∀ fm : Form, Held P w K mg base 1 (fa fm) (spLeaf fm)
theorem Lead.or {ns : List Node} {x y : Nat} (hx : x < ns.length + 2) (hy : y < ns.length + 2) (h : 2 ≤ x ∨ 2 ≤ y) : Lead ns x y ∨ Lead ns y x := by
  by_cases x2 : 2 ≤ x
  · obtain ⟨n, hn⟩ := nod_some hx x2
    by_cases y2 : 2 ≤ y
    · obtain ⟨m, hm⟩ := nod_some hy y2
      by_cases q : n.1 ≤ m.1
      · exact .inl ⟨n, hn, fun k hk => by rw [hm] at hk; cases hk; exact q⟩
      · exact .inr ⟨m, hm, fun k hk => by rw [hn] at hk; cases hk; omega⟩
    · exact .inl ⟨n, hn, fun k hk => by have := nod_lt hk; omega⟩
  · obtain ⟨m, hm⟩ := nod_some hy (by omega)
    exact .inr ⟨m, hm, fun k hk => by have := nod_lt hk; omega⟩
theorem pow2_pos (d : Nat) : 2 ≤ 2 ^ (d + 1) := by
  have : 0 < 2 ^ d := Nat.pos_of_ne_zero (by simp)
  rw [Nat.pow_succ]
  omega
theorem Held.up {P : Program} {w : World} {K : PySem.W.Frag} {mg : Str → Option Value} {base : Heap} {i j : Nat} {f : Addr} {sp : Sp} (h : Held P w K mg base i f sp) (hij : i ≤ j) : Held P w K mg base j f sp := by
  obtain ⟨fd, ps, F, r⟩ := h.ex
  exact ⟨fd, ps, F.mono hij, r⟩
section
variable {P : Program} {w : World} {K : PySem.W.Frag} {mg : Str → Option Value} {base : Heap} {C aL : Addr} {fa : Form → Addr}
theorem ok_combined {n : Nat} (D : GM K C "_combined" "Diagrams._combined" sD_Dcombined ["self", "form", "first", "second"]) (T1 : TSto K w mg C) (T2 : TTab P K w mg base aL fa)
    (m_split : Met P w K mg base n C "_split" (spSplit C n) []) : Met P w K mg base (n + 1) C "_combined" (spComb C (n + 1)) [] := by
  refine D.met T1.cl sc_Dcombined (fun vs H Q E h => ?_) (fun f cdv A outer s0 H vs Q E hr h => ?_)
  · obtain ⟨E, s, ns, b, d, fm, x, y, rfl, _⟩ := h
    rfl
  obtain ⟨E, s, ns, b, d, fm, x, y, rfl, S, bx, byy, hn, hb, q⟩ := h
  have hu := hu_of hr
  have T := T1
  have A_action : ∀ f sp, (fun g => if g = fa fm then some (spLeaf fm) else none) f = some sp → Held P w K mg base n f sp := fun f sp h => by
    dsimp only at h
    split at h
    · rename_i e
      cases h
      rw [e]
      exact Held.up (T2.held fm) (by omega)
    · cases h
  refine ⟨_, (pss_cons (ps_set (i := 4) sc_Dcombined.nd rfl (Or.inl rfl) (pe_ix ix_kdict (pe_gc rfl T2.g_LEAVES) (pv 1) (fun _ _ => rfl)))
    (pss_cons (ps_set (i := 5) sc_Dcombined.nd rfl (Or.inl rfl) (pe_callA (i := 4) A_action hr rfl (Or.inl rfl) (pa_cons (pv 2) (pa_cons (pv 3) pa_nil))))
    (pss_cons (ps_if (pt_cmp (pc_notN (pv 5))) (pss_one (ps_ret (pv 5))) pss_nil)
    (pss_cons (ps_set (i := 6) sc_Dcombined.nd rfl (Or.inl rfl) (pe_tup (pa_cons (pv 1) (pa_cons (pe_callB (call_min2 rfl) (by rfl) T.n_min (by decide +kernel) (pa_cons (pv 2) (pa_cons (pv 3) pa_nil))) (pa_cons (pe_callB (call_max2 rfl) (by rfl) T.n_max (by decide +kernel) (pa_cons (pv 2) (pa_cons (pv 3) pa_nil))) pa_nil)))))
    (pss_cons (ps_if (pt_cmp (pc_dnotin hu (pv 6) (pe_fld (pv 0) rfl))) (pss_one (ps_dput hu (pe_fld (pv 0) rfl) (pv 6) (pe_mt m_split hr (by omega) (pv 0) (pa_cons (pv 1) (pa_cons (pv 2) (pa_cons (pv 3) pa_nil)))) rfl)) pss_nil)
    (pss_one (ps_ret (pe_dget hu (pe_fld (pv 0) rfl) (pv 6) (fun _ _ => rfl))))))))), ?_⟩
  refine ⟨_, rfl, aL, _, _, rfl, rfl, T2.kd fm, ?_⟩
  refine ⟨fa fm, spLeaf fm, rfl, if_pos rfl, _, rfl, _, rfl, x, y, rfl, ?_⟩
  have hp2 := pow2_pos d
  cases el : fm.leaf x y with
  | some r =>
    refine ⟨_, rfl, _, rfl, ?_⟩
    refine iteT ⟨_, rfl, ?_⟩
    exact q H ns r .refl (S.mono (by omega)) (.refl _) ⟨bx.1, byy.1, fun d' h1 h2 => Form.leaf_bd el h1 h2, fun f => Form.leaf_ev el ns f⟩
  | none =>
    refine ⟨_, rfl, _, rfl, ?_⟩
    refine iteF ?_
    obtain ⟨hxy, x0, y0, h2⟩ := Form.leaf_none el
    have hd1 : 1 ≤ d := by
      rcases Lead.or bx.1 byy.1 h2 with ⟨m, hm, _⟩ | ⟨m, hm, _⟩
      · have := bx.2 m hm; have := lev_pos (S.ok.en x m hm); omega
      · have := byy.2 m hm; have := lev_pos (S.ok.en y m hm); omega
    have hp4 : 4 ≤ 2 ^ (d + 1) := by
      rw [show d + 1 = (d - 1 + 1) + 1 by omega, Nat.pow_succ]
      have := pow2_pos (d - 1)
      omega
    obtain ⟨lo, hi, e1, e2, hh⟩ : ∃ lo hi : Nat, (if (y : Int) < (x : Int) then (y : Int) else (x : Int)) = lo ∧ (if (y : Int) > (x : Int) then (y : Int) else (x : Int)) = hi ∧ ((lo = x ∧ hi = y) ∨ (lo = y ∧ hi = x)) := by
      by_cases hlt : y < x
      · exact ⟨y, x, by rw [if_pos (by omega)], by rw [if_neg (by omega)], .inr ⟨rfl, rfl⟩⟩
      · exact ⟨x, y, by rw [if_neg (by omega)], by rw [if_pos (by omega)], .inl ⟨rfl, rfl⟩⟩
    refine ⟨_, rfl, _, rfl, _, rfl, _, _, rfl, _, rfl, _, rfl, _, _, rfl, (by show 3 ≤ sizeLine; decide), fun k hk => ?_⟩
    rw [e1, e2]
    obtain ⟨kvs', c1, c2, c3⟩ := S.re
    have nk2 : s.d2 ≠ k := ne_of_none c1 hk
    generalize hH1 : upd H k _ = H1
    have k1 : Kp [] H H1 := by rw [← hH1]; exact .new hk
    have hk1 : H1 k = some (.tup ((rk fm lo hi).map kV)) := by rw [← hH1]; exact upd_same
    have S1 := S.new k1
    have c11 : H1 s.d2 = some (.dT kvs') := k1.k _ _ c1 (by simp)
    have kM : Kp s.M H H1 := k1.wide (by simp)
    refine ⟨_, rfl, _, rfl, s.p, C, s.dx, _, _, rfl, S1.ob, T.cl, T.a_results, sf_results _ _ _, s.d2, _, rfl, DGet.t c11 hk1, _, rfl, ?_⟩
    have good : ∀ {ns' r}, Good E ns' fm lo hi r → Good E ns' fm x y r := fun g => by
      rcases hh with ⟨rfl, rfl⟩ | ⟨rfl, rfl⟩
      · exact g
      · exact g.swap
    have good' : ∀ {ns' r}, Good E ns' fm x y r → Good E ns' fm lo hi r := fun g => by
      rcases hh with ⟨rfl, rfl⟩ | ⟨rfl, rfl⟩
      · exact g
      · exact g.swap
    cases ek : valV kvs' (rk fm lo hi) with
    | some z =>
      refine iteF ?_
      obtain ⟨r, rfl, g⟩ := c3 _ _ _ _ ek
      refine ⟨_, rfl, s.p, C, s.dx, _, _, rfl, S1.ob, T.cl, T.a_results, sf_results _ _ _, _, rfl, s.d2, _, rfl, by rw [← ek]; exact DGet.t c11 hk1, ?_⟩
      exact q H1 ns r kM (S1.mono (by omega)) (.refl _) (good g)
    | none =>
      refine iteT ?_
      refine ⟨_, rfl, s.p, s.dx, _, rfl, S1.ob, sf_no _ _ _ (by decide +kernel) (by decide +kernel) (by decide +kernel), _, rfl, _, rfl, _, rfl, E, s, ns, b, d, fm, x, y, rfl, S1, bx, byy, x0, y0, ?_, hb, fun H2 ns2 r k2 S2 p2 g => ?_⟩
      · rcases Lead.or bx.1 byy.1 h2 with l | l
        · exact .inl ⟨l, by omega⟩
        · exact .inr ⟨l, by omega⟩
      obtain ⟨kvs2, c21, c22, c23⟩ := S2.re
      have hk2 : H2 k = some (.tup ((rk fm lo hi).map kV)) := k2.t _ _ hk1
      have hsz : kvs2.length < sizeLine := Nat.lt_of_le_of_lt (show kvs2.length ≤ 1000000 by omega) (by decide)
      refine ⟨_, rfl, s.p, C, s.dx, _, _, rfl, S2.ob, T.cl, T.a_results, sf_results _ _ _, _, rfl, s.d2, _, rfl, DPut.t c21 hk2 hsz, ?_⟩
      generalize hH3 : upd H2 s.d2 _ = H3
      have k3 : Kp [s.d2] H2 H3 := by rw [← hH3]; exact .put (by simp) c21 (fun xs z => by cases z)
      have hk3 : H3 k = some (.tup ((rk fm lo hi).map kV)) := k3.t _ _ hk2
      have c31 : H3 s.d2 = some (.dT (putK kvs2 (rk fm lo hi) (V.int r))) := by rw [← hH3]; exact upd_same
      have ev1 : valV (putK kvs2 (rk fm lo hi) (V.int r)) (rk fm lo hi) = some (V.int r) := by rw [valV_put, if_pos rfl]
      obtain ⟨as, a1, a2, a3⟩ := S2.ls
      obtain ⟨kvs3, b1, b2⟩ := S2.nu
      have nl2 : s.l ≠ s.d2 := ne_of a1 c21 (by intro z; cases z)
      have np2 : s.p ≠ s.d2 := ne_of S2.ob c21 (by intro z; cases z)
      have ob3 : H3 s.p = some (.ins C s.dx (sf s.l s.d1 s.d2)) := k3.k _ _ S2.ob (by simpa using np2)
      refine ⟨_, rfl, s.p, C, s.dx, _, _, rfl, ob3, T.cl, T.a_results, sf_results _ _ _, _, rfl, s.d2, _, rfl, by rw [← ev1]; exact DGet.t c31 hk3, ?_⟩
      have hl := length_putK kvs2 (rk fm lo hi) (V.int r)
      refine q H3 ns2 r ((kM.trans k2).trans (k3.wide (by simp))) ⟨ob3, ⟨as, k3.k _ _ a1 (by simpa using nl2), a2, fun i a n x y => k3.t _ _ (a3 i a n x y)⟩, ⟨kvs3, k3.k _ _ b1 (by simpa using S.ne), b2⟩, ⟨_, c31, by omega, fun fm' x' y' z h0 => ?_⟩, S2.ok, by have := S2.le; omega, S.ne⟩ p2 g
      rw [valV_put] at h0
      split at h0
      · rename_i z1
        cases h0
        obtain ⟨rfl, rfl, rfl⟩ := rk_inj z1
        exact ⟨r, rfl, good' g⟩
      · exact c23 fm' x' y' z h0
/-- two nodes of one entry, or the later one below it: the parts -/
structure Kids (E : List Int) (ns : List Node) (e : Int) (d y y1 y2 : Nat) : Prop where
  b1 : Bd E ns d y1
  b2 : Bd E ns d y2
  ev : ∀ f, Lw.ev ns f y = if f e then Lw.ev ns f y2 else Lw.ev ns f y1
  up1 : Up ns e y1
  up2 : Up ns e y2
  bd : ∀ d', lev E e ≤ d' + 1 → Bd E ns d' y1 ∧ Bd E ns d' y2
theorem Kids.of {E : List Int} {ns : List Node} {d y : Nat} {n : Node} (ok : NOk E ns) (h : nod ns y = some n) (hd : lev E n.1 ≤ d + 1) : Kids E ns n.1 d y n.2.1 n.2.2 := by
  obtain ⟨l1, l2, _⟩ := ok.lt y n h
  obtain ⟨u1, u2⟩ := ok.ord y n h
  have := nod_lt h
  have hh : ∀ d', lev E n.1 ≤ d' + 1 → Bd E ns d' n.2.1 ∧ Bd E ns d' n.2.2 := fun d' h' => ⟨.of_up (by omega) u1 (ok.en y n h) h', .of_up (by omega) u2 (ok.en y n h) h'⟩
  exact ⟨(hh d hd).1, (hh d hd).2, fun f => ok.ev h f, u1, u2, hh⟩
theorem Kids.dup {E : List Int} {ns : List Node} {e : Int} {d y : Nat} (hy : y < ns.length + 2) (u : Up ns e y) (he : e ∈ E) (hd : lev E e ≤ d + 1) : Kids E ns e d y y y :=
  have hh : ∀ d', lev E e ≤ d' + 1 → Bd E ns d' y ∧ Bd E ns d' y := fun d' h' => ⟨.of_up hy u he h', .of_up hy u he h'⟩
  ⟨(hh d hd).1, (hh d hd).2, fun f => by split <;> rfl, u, u, hh⟩
theorem ok_split {n : Nat} (D : GM K C "_split" "Diagrams._split" sD_Dsplit ["self", "form", "first", "second"]) (T : TSto K w mg C) (m_make : Met P w K mg base 1 C "make" (spMake C) [])
    (m_split : Met P w K mg base n C "_split" (spSplit C n) []) (m_combined : Met P w K mg base n C "_combined" (spComb C n) []) : Met P w K mg base (n + 1) C "_split" (spSplit C (n + 1)) [] := by
  refine D.met T.cl sc_Dsplit (fun vs H Q E h => ?_) (fun f cdv A outer s0 H vs Q E hr h => ?_)
  · obtain ⟨E, s, ns, b, d, fm, x, y, rfl, _⟩ := h
    rfl
  obtain ⟨E, s, ns, b, d, fm, x, y, rfl, S, bx, byy, x0, y0, hlead, hb, q⟩ := h
  have hd1 : 1 ≤ d := by
    rcases hlead with ⟨⟨m, hm, _⟩, _⟩ | ⟨⟨m, hm, _⟩, _⟩
    · have := bx.2 m hm; have := lev_pos (S.ok.en x m hm); omega
    · have := byy.2 m hm; have := lev_pos (S.ok.en y m hm); omega
  have hn1 : 1 ≤ n := by omega
  refine ⟨_, (pss_cons (ps_set (i := 4) sc_Dsplit.nd rfl (Or.inl rfl) (pe_ix ix_list (pe_fld (pv 0) rfl) (pv 2) (fun _ _ => rfl)))
    (pss_cut (ps_set (i := 5) sc_Dsplit.nd rfl (Or.inl rfl) (pe_ifExp (pt_cmpR op_gt (pv 3) pe_int (nomark _)) (pe_ix ix_list (pe_fld (pv 0) rfl) (pv 3) (fun _ _ => rfl)) pe_non))
    (pss_cut (ps_if (PW.pt (pw_or (pt_cmp (pc_isN (pv 4))) (pw_or1 (PW.pt (pw_and (pt_cmp (pc_notN (pv 5))) (pw_and1 (pt_cmpR op_lt (pe_ix ix_tup (pv 5) pe_int (fun _ _ => rfl)) (pe_ix ix_tup (pv 4) pe_int (fun _ _ => rfl)) (nomark _)))))))) (pss_one (ps_ret (pe_mt m_split hr (by omega) (pv 0) (pa_cons (pv 1) (pa_cons (pv 3) (pa_cons (pv 2) pa_nil)))))) pss_nil)
    (pss_cut (ps_if (PW.pt (pw_or (pt_cmp (pc_isN (pv 5))) (pw_or1 (pt_cmpR op_lt (pe_ix ix_tup (pv 4) pe_int (fun _ _ => rfl)) (pe_ix ix_tup (pv 5) pe_int (fun _ _ => rfl)) (nomark _))))) (pss_one (ps_set (i := 5) sc_Dsplit.nd rfl (Or.inl rfl) (pe_tup (pa_cons (pe_ix ix_tup (pv 4) pe_int (fun _ _ => rfl)) (pa_cons (pv 3) (pa_cons (pv 3) pa_nil)))))) pss_nil)
    (pss_cons (ps_set (i := 6) sc_Dsplit.nd rfl (Or.inl rfl) (pe_mt m_combined hr (by omega) (pv 0) (pa_cons (pv 1) (pa_cons (pe_ix ix_tup (pv 4) pe_int (fun _ _ => rfl)) (pa_cons (pe_ix ix_tup (pv 5) pe_int (fun _ _ => rfl)) pa_nil)))))
    (pss_one (ps_ret (pe_mt m_make hr (by omega) (pv 0) (pa_cons (pe_ix ix_tup (pv 4) pe_int (fun _ _ => rfl)) (pa_cons (pv 6) (pa_cons (pe_mt m_combined hr (by omega) (pv 0) (pa_cons (pv 1) (pa_cons (pe_ix ix_tup (pv 4) pe_int (fun _ _ => rfl)) (pa_cons (pe_ix ix_tup (pv 5) pe_int (fun _ _ => rfl)) pa_nil)))) pa_nil))))))))))), ?_⟩
  have mth : ∀ {m : Str}, ¬ m = "_results" → ¬ m = "_numbers" → ¬ m = "_nodes" → (sf s.l s.d1 s.d2).lookup m = none := fun h1 h2 h3 => sf_no _ _ _ h1 h2 h3
  -- the value of a condition's place
  have val : ∀ c : Nat, c < ns.length + 2 → c ≠ 0 → ∃ (as : List Addr) (v : V), H s.l = some (.lst (nodesV as)) ∧ atI (nodesV as) (c : Int) = some v ∧ ((c = 1 ∧ v = .non) ∨ ∃ a m, v = .ref a ∧ nod ns c = some m ∧ H a = some (.tup (tupV m))) := fun c hc h0 => by
    by_cases hc2 : 2 ≤ c
    · obtain ⟨m, hm⟩ := nod_some hc hc2
      obtain ⟨as, a, h1, h2, h3⟩ := S.at hm
      exact ⟨as, _, h1, h2, .inr ⟨a, m, rfl, hm, h3⟩⟩
    · obtain ⟨as, h1, h2⟩ := S.at1
      have : c = 1 := by omega
      subst this
      exact ⟨as, _, h1, h2, .inl ⟨rfl, rfl⟩⟩
  obtain ⟨as, v1, hl, hv1, cv1⟩ := val x bx.1 x0
  obtain ⟨as', v2, hl', hv2, cv2⟩ := val y byy.1 y0
  have fl := fun {H' : Hp} (ob : H' s.p = some (.ins C s.dx (sf s.l s.d1 s.d2))) => ob
  refine ⟨_, rfl, s.p, C, s.dx, _, _, rfl, S.ob, T.cl, T.a_nodes, sf_nodes _ _ _, _, rfl, s.l, _, _, _, rfl, rfl, SqL.of hl, hv1, ?_⟩
  -- two
  refine ⟨fun σ' H' => σ' = [some (.ref s.p), some (.str fm.str), some (.int x), some (.int y), some v1, some v2, none] ∧ H' = H, ?_, ?_⟩
  · refine ⟨_, rfl, _, _, rfl, rfl, _, rfl, ?_⟩
    refine ite2 (fun c => ?_) (fun c => ?_)
    · exact ⟨_, rfl, s.p, C, s.dx, _, _, rfl, S.ob, T.cl, T.a_nodes, sf_nodes _ _ _, _, rfl, s.l, _, _, _, rfl, rfl, SqL.of hl', hv2, rfl, rfl⟩
    · have c' : ¬ (y : Int) > 1 := fun z => c (decide_eq_true z)
      rcases cv2 with ⟨_, rfl⟩ | ⟨a, m, rfl, hm, _⟩
      · exact ⟨rfl, rfl⟩
      · have := nod_lt hm
        omega
  rintro σ' H' ⟨rfl, rfl⟩
  -- the first one comes first
  refine ⟨fun σ' H1 => σ' = [some (.ref s.p), some (.str fm.str), some (.int x), some (.int y), some v1, some v2, none] ∧ H1 = H' ∧ Lead ns x y ∧ 3 * d ≤ n, ?_, ?_⟩
  · rcases cv1 with ⟨rfl, rfl⟩ | ⟨a1, m1, rfl, hm1, ha1⟩
    · -- one is None
      refine ⟨_, rfl, _, rfl, ?_⟩
      refine iteT ?_
      refine iteT ?_
      rcases hlead with ⟨⟨m, hm, _⟩, _⟩ | ⟨l, hl3⟩
      · have := nod_lt hm
        omega
      · exact ⟨_, rfl, s.p, s.dx, _, rfl, S.ob, mth (by decide +kernel) (by decide +kernel) (by decide +kernel), _, rfl, _, rfl, _, rfl, E, s, ns, b, d, fm, y, 1, rfl, S, byy, bx, y0, x0, .inl ⟨l, by omega⟩, hb, fun H2 ns2 r k2 S2 p2 g => q H2 ns2 r k2 S2 p2 g.swap⟩
    · refine ⟨_, rfl, _, rfl, ?_⟩
      refine iteF ?_
      rcases cv2 with ⟨rfl, rfl⟩ | ⟨a2, m2, rfl, hm2, ha2⟩
      · -- two is None
        refine ⟨_, rfl, _, rfl, ?_⟩
        refine iteF ?_
        refine iteF ?_
        refine ⟨rfl, rfl, ⟨m1, hm1, fun k hk => by have := nod_lt hk; omega⟩, ?_⟩
        rcases hlead with ⟨_, h⟩ | ⟨⟨m, hm, _⟩, _⟩
        · omega
        · have := nod_lt hm
          omega
      · refine ⟨_, rfl, _, rfl, ?_⟩
        refine iteT ?_
        refine ⟨_, rfl, a2, _, _, _, rfl, rfl, SqT.of ha2, rfl, _, rfl, a1, _, _, _, rfl, rfl, SqT.of ha1, rfl, _, _, rfl, rfl, _, rfl, ?_⟩
        refine ite2 (fun c => ?_) (fun c => ?_)
        · have c' : m2.1 < m1.1 := of_decide_eq_true c
          rcases hlead with ⟨⟨m, hm, hle⟩, _⟩ | ⟨l, hl3⟩
          · rw [hm1] at hm
            cases hm
            have := hle m2 hm2
            omega
          · exact ⟨_, rfl, s.p, s.dx, _, rfl, S.ob, mth (by decide +kernel) (by decide +kernel) (by decide +kernel), _, rfl, _, rfl, _, rfl, E, s, ns, b, d, fm, y, x, rfl, S, byy, bx, y0, x0, .inl ⟨l, by omega⟩, hb, fun H2 ns2 r k2 S2 p2 g => q H2 ns2 r k2 S2 p2 g.swap⟩
        · have c' : ¬ m2.1 < m1.1 := fun z => c (decide_eq_true z)
          refine ⟨rfl, rfl, ⟨m1, hm1, fun k hk => by rw [hm2] at hk; cases hk; omega⟩, ?_⟩
          rcases hlead with ⟨_, h⟩ | ⟨_, h⟩ <;> omega
  rintro σ' H1 ⟨rfl, rfl, ⟨m1, hm1, hle⟩, h3⟩
  rcases cv1 with ⟨rfl, rfl⟩ | ⟨a1, m1', rfl, hm1', ha1⟩
  · have := nod_lt hm1
    omega
  rw [hm1] at hm1'
  cases hm1'
  have he := S.ok.en x m1 hm1
  have hlev := bx.2 m1 hm1
  -- the parts of both
  refine ⟨fun σ' H2 => ∃ (a2 : Addr) (y1 y2 : Nat) (z : V), σ' = [some (.ref s.p), some (.str fm.str), some (.int x), some (.int y), some (.ref a1), some (.ref a2), none] ∧ Kp [] H1 H2 ∧ H2 a2 = some (.tup [z, .int y1, .int y2]) ∧ Kids E ns m1.1 (d - 1) y y1 y2, ?_, ?_⟩
  · have dup : ∀ u : Up ns m1.1 y, Kids E ns m1.1 (d - 1) y y y := fun u => .dup byy.1 u he (by omega)
    rcases cv2 with ⟨rfl, rfl⟩ | ⟨a2, m2, rfl, hm2, ha2⟩
    · refine ⟨_, rfl, _, rfl, ?_⟩
      refine iteT ?_
      refine iteT ?_
      refine ⟨_, rfl, a1, _, _, _, rfl, rfl, SqT.of ha1, rfl, _, rfl, _, rfl, (by show 3 ≤ sizeLine; decide), fun k hk => ?_⟩
      exact ⟨k, 1, 1, _, rfl, .new hk, upd_same, dup fun k hk => by have := nod_lt hk; omega⟩
    · refine ⟨_, rfl, _, rfl, ?_⟩
      refine iteF ?_
      refine ⟨_, rfl, a1, _, _, _, rfl, rfl, SqT.of ha1, rfl, _, rfl, a2, _, _, _, rfl, rfl, SqT.of ha2, rfl, _, _, rfl, rfl, _, rfl, ?_⟩
      refine ite2 (fun c => ?_) (fun c => ?_)
      · have c' : m1.1 < m2.1 := of_decide_eq_true c
        refine ⟨_, rfl, a1, _, _, _, rfl, rfl, SqT.of ha1, rfl, _, rfl, _, rfl, (by show 3 ≤ sizeLine; decide), fun k hk => ?_⟩
        exact ⟨k, y, y, _, rfl, .new hk, upd_same, dup fun k hk => by rw [hm2] at hk; cases hk; exact c'⟩
      · have c' : ¬ m1.1 < m2.1 := fun z => c (decide_eq_true z)
        have e : m1.1 = m2.1 := by have := hle m2 hm2; omega
        exact ⟨a2, m2.2.1, m2.2.2, _, rfl, .refl, ha2, by rw [e]; exact .of S.ok hm2 (by have := byy.2 m2 hm2; omega)⟩
  rintro σ' H2 ⟨a2, y1, y2, z, rfl, k12, ha2, kid⟩
  have S2 := S.new k12
  have kx := Kids.of (d := d - 1) S.ok hm1 (by omega)
  have ha1' : H2 a1 = some (.tup (tupV m1)) := k12.t _ _ ha1
  have hpd : 2 ^ (d + 1) = 2 * 2 ^ (d - 1 + 1) := by
    rw [show d + 1 = (d - 1 + 1) + 1 by omega, Nat.pow_succ]
    omega
  have hpp := pow2_pos (d - 1)
  generalize hpw : 2 ^ (d - 1 + 1) = pw at hpd hpp
  rw [hpd] at hb q
  have hd3 : 3 * (d - 1) + 3 ≤ n := by omega
  refine ⟨_, rfl, s.p, s.dx, _, rfl, S2.ob, mth (by decide +kernel) (by decide +kernel) (by decide +kernel), _, rfl, _, rfl, a1, _, _, _, rfl, rfl, SqT.of ha1', rfl, _, rfl, a2, _, _, _, rfl, rfl, SqT.of ha2, rfl, ?_⟩
  refine ⟨E, s, ns, b, d - 1, fm, m1.2.1, y1, rfl, S2, kx.b1, kid.b1, hd3, by rw [hpw]; omega, fun H3 ns3 r1 k3 S3 p3 g3 => ?_⟩
  have ha13 : H3 a1 = some (.tup (tupV m1)) := k3.t _ _ ha1'
  have ha23 : H3 a2 = some (.tup [z, .int y1, .int y2]) := k3.t _ _ ha2
  rw [hpw] at S3
  refine ⟨_, rfl, s.p, s.dx, _, rfl, S3.ob, mth (by decide +kernel) (by decide +kernel) (by decide +kernel), _, rfl, a1, _, _, _, rfl, rfl, SqT.of ha13, rfl, _, rfl, ?_⟩
  refine ⟨_, rfl, s.p, s.dx, _, rfl, S3.ob, mth (by decide +kernel) (by decide +kernel) (by decide +kernel), _, rfl, _, rfl, a1, _, _, _, rfl, rfl, SqT.of ha13, rfl, _, rfl, a2, _, _, _, rfl, rfl, SqT.of ha23, rfl, ?_⟩
  refine ⟨E, s, ns3, b + pw - 2, d - 1, fm, m1.2.2, y2, rfl, S3, kx.b2.pre p3, kid.b2.pre p3, hd3, by rw [hpw]; omega, fun H4 ns4 r2 k4 S4 p4 g4 => ?_⟩
  rw [hpw] at S4
  have p34 := p3.trans p4
  have g3' : Good E ns4 fm m1.2.1 y1 r1 := g3.pre S3.ok S4.ok p4
  -- both parts stand below the entry
  obtain ⟨D, hD⟩ : ∃ D, lev E m1.1 = D + 1 := ⟨lev E m1.1 - 1, by have := lev_pos he; omega⟩
  have r1b : Bd E ns4 D r1 := g3'.2.2.1 D ((kx.bd D (by omega)).1.pre p34) ((kid.bd D (by omega)).1.pre p34)
  have r2b : Bd E ns4 D r2 := g4.2.2.1 D ((kx.bd D (by omega)).2.pre p34) ((kid.bd D (by omega)).2.pre p34)
  refine ⟨E, s, ns4, _, m1.1, r1, r2, rfl, S4, he, r1b.1, r2b.1, r1b.up (by omega), r2b.up (by omega), by omega, fun H5 ns5 c k5 S5 p5 md => ?_⟩
  have p45 := p34.trans p5
  have kk : Kp s.M H1 H5 := (((k12.wide (by simp)).trans k3).trans k4).trans k5
  refine q H5 ns5 c kk (S5.mono (by omega)) p45 ⟨(bx.pre p45).1, (byy.pre p45).1, fun d' h1 h2 => ?_, fun f => ?_⟩
  · have hle' : lev E m1.1 ≤ d' := h1.2 m1 (p45.nod_some hm1)
    exact md.bd (r1b.pre p5).1 ((r1b.pre p5).up (by omega)) he hle'
  · have e1 := g3'.2.2.2 f
    have e2 := g4.2.2.2 f
    have l1 := r1b.1
    have l2 := r2b.1
    have kxe := kx.ev f
    have kie := kid.ev f
    have t1 := p45.ev S.ok S5.ok f x bx.1
    have t2 := p45.ev S.ok S5.ok f y byy.1
    have t3 := p34.ev S.ok S4.ok f _ kx.b1.1
    have t4 := p34.ev S.ok S4.ok f _ kx.b2.1
    have t5 := p34.ev S.ok S4.ok f _ kid.b1.1
    have t6 := p34.ev S.ok S4.ok f _ kid.b2.1
    rw [md.ev S5.ok f, p5.ev S4.ok S5.ok f _ l1, p5.ev S4.ok S5.ok f _ l2, e1, e2, t1, t2, kxe, kie, t3, t4, t5, t6]
    cases f m1.1 <;> rfl
theorem ok_both (Dc : GM K C "_combined" "Diagrams._combined" sD_Dcombined ["self", "form", "first", "second"]) (Ds : GM K C "_split" "Diagrams._split" sD_Dsplit ["self", "form", "first", "second"])
    (T1 : TSto K w mg C) (T2 : TTab P K w mg base aL fa) (m_make : Met P w K mg base 1 C "make" (spMake C) []) :
    ∀ n, Met P w K mg base n C "_combined" (spComb C n) [] ∧ Met P w K mg base n C "_split" (spSplit C n) []
  | 0 => by
    have n1 : ∀ vs H Q E, ¬ spComb C 0 vs H Q E := fun vs H Q E h => by
      obtain ⟨E, s, ns, b, d, fm, x, y, _, _, _, _, h, _⟩ := h
      omega
    have n2 : ∀ vs H Q E, ¬ spSplit C 0 vs H Q E := fun vs H Q E h => by
      obtain ⟨E, s, ns, b, d, fm, x, y, _, _, _, _, _, _, h, _⟩ := h
      rcases h with ⟨_, h⟩ | ⟨_, h⟩ <;> omega
    obtain ⟨f, fd, F, hm, hb⟩ := Dc
    obtain ⟨f', fd', F', hm', hb'⟩ := Ds
    exact ⟨⟨f, fd, _, [], T1.cl, hm, ⟨fun vs H Q E h => absurd h (n1 vs H Q E), fun A outer s H args us vs Q E _ _ _ _ h => absurd h (n1 vs H Q E)⟩, hb, .nil⟩,
      ⟨f', fd', _, [], T1.cl, hm', ⟨fun vs H Q E h => absurd h (n2 vs H Q E), fun A outer s H args us vs Q E _ _ _ _ h => absurd h (n2 vs H Q E)⟩, hb', .nil⟩⟩
  | n + 1 => by
    obtain ⟨i1, i2⟩ := ok_both Dc Ds T1 T2 m_make n
    exact ⟨ok_combined Dc T1 T2 i2, ok_split Ds T1 m_make i2 i1⟩
/-! ### the four that are called -/
def spOp (C : Addr) (fm : Form) : Sp := fun vs H Q _ => ∃ (E : List Int) (s : SA) (ns : List Node) (b x y : Nat), vs = [.ref s.p, .int x, .int y] ∧ StoAt C E s H ns b ∧
  x < ns.length + 2 ∧ y < ns.length + 2 ∧ E.length ≤ 8 ∧ b + 512 ≤ 1000000 ∧
  ∀ (H' : Hp) (ns' : List Node) (r : Nat), Kp s.M H H' → StoAt C E s H' ns' (b + 512) → Pre ns ns' → Good E ns' fm x y r → Q (.int r) H'
def spNeg (C : Addr) : Sp := fun vs H Q _ => ∃ (E : List Int) (s : SA) (ns : List Node) (b x : Nat), vs = [.ref s.p, .int x] ∧ StoAt C E s H ns b ∧
  x < ns.length + 2 ∧ E.length ≤ 8 ∧ b + 512 ≤ 1000000 ∧
  ∀ (H' : Hp) (ns' : List Node) (r : Nat), Kp s.M H H' → StoAt C E s H' ns' (b + 512) → Pre ns ns' → Good E ns' .differ x 1 r → (∀ f, ev ns' f r = !ev ns' f x) → Q (.int r) H'
theorem pow_8 {n : Nat} (h : n ≤ 8) : 2 ^ (n + 1) ≤ 512 := by
  have := Nat.pow_le_pow_right (n := 2) (by omega) (show n + 1 ≤ 9 by omega)
  have e : (2 : Nat) ^ 9 = 512 := by decide
  omega
section
variable (T : TSto K w mg C) (m_combined : Met P w K mg base 30 C "_combined" (spComb C 30) [])
include T m_combined
theorem ok_conjunction (D : GM K C "conjunction" "Diagrams.conjunction" sD_Dconjunction ["self", "first", "second"]) : Met P w K mg base 31 C "conjunction" (spOp C .and) [] := by
  refine D.met T.cl sc_Dconjunction (fun vs H Q E h => ?_) (fun f cdv A outer s0 H vs Q E hr h => ?_)
  · obtain ⟨E, s, ns, b, x, y, rfl, _⟩ := h
    rfl
  obtain ⟨E, s, ns, b, x, y, rfl, S, hx, hy, hE, hb, q⟩ := h
  refine ⟨_, (pss_one (ps_ret (pe_mt m_combined hr (by omega) (pv 0) (pa_cons pe_str (pa_cons (pv 1) (pa_cons (pv 2) pa_nil)))))), ?_⟩
  have hp := pow_8 hE
  have hp2 := pow2_pos E.length
  exact ⟨_, rfl, s.p, s.dx, _, rfl, S.ob, sf_no _ _ _ (by decide +kernel) (by decide +kernel) (by decide +kernel), _, rfl, _, rfl, E, s, ns, b, E.length, .and, x, y, rfl, S, .all hx, .all hy, by omega, by omega, fun H' ns' r k S' p g => q H' ns' r k (S'.mono (by omega)) p g⟩
theorem ok_disjunction (D : GM K C "disjunction" "Diagrams.disjunction" sD_Ddisjunction ["self", "first", "second"]) : Met P w K mg base 31 C "disjunction" (spOp C .or) [] := by
  refine D.met T.cl sc_Ddisjunction (fun vs H Q E h => ?_) (fun f cdv A outer s0 H vs Q E hr h => ?_)
  · obtain ⟨E, s, ns, b, x, y, rfl, _⟩ := h
    rfl
  obtain ⟨E, s, ns, b, x, y, rfl, S, hx, hy, hE, hb, q⟩ := h
  refine ⟨_, (pss_one (ps_ret (pe_mt m_combined hr (by omega) (pv 0) (pa_cons pe_str (pa_cons (pv 1) (pa_cons (pv 2) pa_nil)))))), ?_⟩
  have hp := pow_8 hE
  have hp2 := pow2_pos E.length
  exact ⟨_, rfl, s.p, s.dx, _, rfl, S.ob, sf_no _ _ _ (by decide +kernel) (by decide +kernel) (by decide +kernel), _, rfl, _, rfl, E, s, ns, b, E.length, .or, x, y, rfl, S, .all hx, .all hy, by omega, by omega, fun H' ns' r k S' p g => q H' ns' r k (S'.mono (by omega)) p g⟩
theorem ok_differs (D : GM K C "differs" "Diagrams.differs" sD_Ddiffers ["self", "first", "second"]) : Met P w K mg base 31 C "differs" (spOp C .differ) [] := by
  refine D.met T.cl sc_Ddiffers (fun vs H Q E h => ?_) (fun f cdv A outer s0 H vs Q E hr h => ?_)
  · obtain ⟨E, s, ns, b, x, y, rfl, _⟩ := h
    rfl
  obtain ⟨E, s, ns, b, x, y, rfl, S, hx, hy, hE, hb, q⟩ := h
  refine ⟨_, (pss_one (ps_ret (pe_mt m_combined hr (by omega) (pv 0) (pa_cons pe_str (pa_cons (pv 1) (pa_cons (pv 2) pa_nil)))))), ?_⟩
  have hp := pow_8 hE
  have hp2 := pow2_pos E.length
  exact ⟨_, rfl, s.p, s.dx, _, rfl, S.ob, sf_no _ _ _ (by decide +kernel) (by decide +kernel) (by decide +kernel), _, rfl, _, rfl, E, s, ns, b, E.length, .differ, x, y, rfl, S, .all hx, .all hy, by omega, by omega, fun H' ns' r k S' p g => q H' ns' r k (S'.mono (by omega)) p g⟩
omit m_combined in
theorem ok_negation (D : GM K C "negation" "Diagrams.negation" sD_Dnegation ["self", "condition"]) (m_differs : Met P w K mg base 31 C "differs" (spOp C .differ) []) : Met P w K mg base 32 C "negation" (spNeg C) [] := by
  refine D.met T.cl sc_Dnegation (fun vs H Q E h => ?_) (fun f cdv A outer s0 H vs Q E hr h => ?_)
  · obtain ⟨E, s, ns, b, x, rfl, _⟩ := h
    rfl
  obtain ⟨E, s, ns, b, x, rfl, S, hx, hE, hb, q⟩ := h
  refine ⟨_, (pss_one (ps_ret (pe_mt m_differs hr (by omega) (pv 0) (pa_cons (pv 1) (pa_cons (pe_gc rfl T.g_ALWAYS) pa_nil))))), ?_⟩
  refine ⟨_, rfl, s.p, s.dx, _, rfl, S.ob, sf_no _ _ _ (by decide +kernel) (by decide +kernel) (by decide +kernel), _, rfl, E, s, ns, b, x, 1, rfl, S, hx, by omega, hE, hb, fun H' ns' r k S' p g => q H' ns' r k S' p g fun f => ?_⟩
  rw [g.2.2.2 f, ev_one]
  cases ev ns' f x <;> rfl
end
end

/-! ### a set of ints, written {e for x in ..}, as a value; {k: v for ..} given to a name -/
section
variable {X : Cx}
def tSci (w : World) (wi : TI) (g : TG) (te : TE) (vs : List Nat) : TE := fun τ G Q => wi τ G fun J G1 => ∀ D, G1 D = none →
  ∃ W : Nat → Nat → Hp → Prop, (∃ m, W 0 m (upd G1 D (SetO w D (fun _ => false) 0))) ∧
    ∀ i m G', W i m G' → (J.stop i G' ∧ Q (.ref D) G') ∨
      (J.go i G' ∧ ∃ N : Hp → Prop, (∀ G2, N G2 → ∃ m', m' < m ∧ W (i + 1) m' G2) ∧
        ∀ x G2, J.yld i G' x G2 → g x (wipe τ vs) G2 fun τ2 G3 => wipe τ2 vs = wipe τ vs ∧ te τ2 G3 fun y G4 =>
          ∃ (k : Int) (S : Int → Bool) (n : Nat), y = .int k ∧ G4 D = some (SetO w D S n) ∧ n + 1 < scanBound ∧ N (upd G4 D (SetO w D (fun j => S j || decide (j = k)) (if S k = true then n else n + 1))))
/-- the members of a block's comprehension, as they are laid -/
def cenvAt (scope : Scope) (X : Cx) (L : Addr) : Env := compEnvC scope (cellsFrom (L + 1) scope.names (cloFrom X.env.cells scope.names [])) L X.env
theorem pe_sci {elt tg iter : Expr} {scope : Scope} {own : List (Str × Nat)} {pos : Pos} {wi : TI} {g : TG} {te : TE} (calm : X.calm = true) (nd : X.N.Nodup) (hi : PI X tg iter wi) (bk : BlkOk X.N X.env.scope scope own)
    (hg : ∀ (z : Shared) (G : Hp) (L : Addr) (cl : List (Str × Addr)) (fp : List Addr), PG (X.blk z G scope (compEnvC scope cl L X.env) fp) tg g)
    (he : ∀ (z : Shared) (G : Hp) (L : Addr) (cl : List (Str × Addr)) (fp : List Addr), PE (X.blk z G scope (compEnvC scope cl L X.env) fp) elt te)
    (hf : ∀ x, foldedSetIterable iter X.env x = pure x := by intro _; rfl) : PE X (.SetComp elt [⟨tg, iter, [], 0⟩] scope pos) (tSci X.w wi g te (own.map (·.2))) := by
  refine ⟨fun pins z τ G Q I0 hw => ?_⟩
  rw [PpSet.eval_SetComp]
  have cells : ∀ y ∈ scope.names, y.2 = .free → ∃ c, X.env.cells.lookup y.1 = some c := fun y my ye => I0.ok.has _ (bk.free y my ye)
  refine wpAny_comprehension_free (use := none) rfl hf (closure_ok cells) bk.kind (fun y my ye => (bk.uniq y my).trans (congrArg some ye)) (thn (hi.run pins z τ G _ I0 hw) fun _ z1 h1 => thn h1 fun _ z2 h2 => ?_)
  obtain ⟨it, fp, tn, J, G2, rfl, I2, T, t2, p2, q⟩ := h2
  refine PpSet.newSet_ok (newEnv_comp ?_)
  obtain ⟨D, hD⟩ : ∃ D, z2.heap.objs.size = D := ⟨_, rfl⟩
  have free2 : G2 D = none := I2.hok.fresh (Nat.le_of_eq hD)
  obtain ⟨W, ⟨m0, w0⟩, turn⟩ := q D free2
  obtain ⟨O, hO⟩ : ∃ O : HO, SetO X.w D (fun _ => false) 0 = O := ⟨_, rfl⟩
  obtain ⟨z3, hz3⟩ : ∃ z3 : Shared, ({ z2 with heap := z2.heap.push { cls := .type "set", dict := none, data := .set #[] 0 (.fresh 0 0 (!X.w.params.followText "set-order")) } } : Shared) = z3 := ⟨_, rfl⟩
  obtain ⟨G3, hG3⟩ : ∃ G3 : Hp, upd G2 D O = G3 := ⟨_, rfl⟩
  have keep3 : ∀ b o, z2.heap.get? b = some o → z3.heap.get? b = some o := fun b o e => by rw [← hz3]; exact Heap.get?_push_of_some _ e
  have size3 : z3.heap.objs.size = z2.heap.objs.size + 1 := by rw [← hz3]; exact Heap.size_push ..
  have I3 : Inv X pins τ G3 z3 := by
    rw [← hz3, ← hG3, ← hO]
    refine I2.laid (t' := z2.toks) (fun b o e => Heap.get?_push_of_some _ e) (Nat.le_of_eq hD) ?_
    rw [← hD]
    exact setO_new (setR_fresh X.w)
  have fps : ∀ b ∈ fp, b < z2.heap.objs.size := fun b mb => let ⟨_, e, _⟩ := T.obj _ _ t2 b mb; Heap.lt_size e
  have p3 : ∀ b ∈ fp, FpOk X pins G3 b ∧ b < z3.heap.objs.size := fun b mb => by
    have lt := fps b mb
    refine ⟨⟨?_, (p2 b mb).2⟩, by rw [size3]; exact Nat.lt_succ_of_lt lt⟩
    rw [← hG3, upd_ne (by rw [← hD]; exact Nat.ne_of_lt lt)]
    exact (p2 b mb).1
  have I4 := block_start I3 bk nd p3
  obtain ⟨L, hL⟩ : ∃ L, z3.heap.objs.size = L := ⟨_, rfl⟩
  rw [hL] at I4
  rw [hO, hG3] at w0
  have pg := hg z3 G3 L (cellsFrom (L + 1) scope.names (cloFrom X.env.cells scope.names [])) fp
  have pe := he z3 G3 L (cellsFrom (L + 1) scope.names (cloFrom X.env.cells scope.names [])) fp
  rw [hz3, hL]
  show codeAny _ _ (.compStart (.SetComp elt [⟨tg, iter, [], 0⟩] scope pos) 0 (.ref it) (.ref z2.heap.objs.size) (cenvAt scope X L)) (compPost (model X.prog X.w) X.A X.xe none _ (.ref z2.heap.objs.size) L) { z3 with heap := pushCells (z3.heap.push { cls := .type "dict", data := .dict #[] }) scope.names }
  rw [hD]
  obtain ⟨ce, hce⟩ : ∃ ce, cenvAt scope X L = ce := ⟨_, rfl⟩
  have hloc : ce.locals = L := by rw [← hce]; rfl
  have hce' : compEnvC scope (cellsFrom (L + 1) scope.names (cloFrom X.env.cells scope.names [])) L X.env = ce := hce
  rw [hce'] at I4 pg pe
  rw [hce]
  obtain ⟨z4, hz4⟩ : ∃ z4 : Shared, ({ z3 with heap := pushCells (z3.heap.push { cls := .type "dict", data := .dict #[] }) scope.names } : Shared) = z4 := ⟨_, rfl⟩
  rw [hz4] at I4 ⊢
  have t4 : tn 0 z4.heap := T.keep _ _ _ t2 fun b _ o e => by rw [← hz4]; exact pushCells_keeps _ _ _ _ (Heap.get?_push_of_some _ (keep3 b o e))
  have still : ∀ {τ' : L2.St} {G' : Hp} {z' : Shared}, Inv (X.blk z3 G3 scope ce fp) [] τ' G' z' → (∀ b ∈ fp, G' b = none) → ∀ b ∈ fp, FpOk (X.blk z3 G3 scope ce fp) [] G' b := fun J' no b mb =>
    ⟨no b mb, (J'.ok.exf b mb).1, J'.ok.exfs b mb, .inl mb, fun x c e => (J'.ok.exf b mb).2 x c e, fun p mp => by cases (show p ∈ ([] : List (Addr × Obj)) ++ [] from mp)⟩
  have loop : codeAny (model X.prog X.w) X.A (.compLoop (.SetComp elt [⟨tg, iter, [], 0⟩] scope pos) 0 (.ref it) (.ref D) ce) (compPost (model X.prog X.w) X.A X.xe none (EP X pins τ Q) (.ref D) L) z4 := by
    refine PpSet.compLoopS_any (fun n z' => ∃ i G', Inv (X.blk z3 G3 scope ce fp) [] (wipe τ (own.map (·.2))) G' z' ∧ tn i z'.heap ∧ (∀ b ∈ fp, G' b = none) ∧ W i n G') ?_ m0 ⟨0, G3, I4, t4, fun b mb => (p3 b mb).1.1, w0⟩
    rintro n z5 ⟨i, G5, I5, t5, n5, w5⟩
    rcases turn i n G5 w5 with ⟨stop, done⟩ | ⟨go, N, hN, step⟩
    · refine thnF (T.done (X.blk z3 G3 scope ce fp) rfl rfl rfl calm i [] z5 _ G5 (fun _ _ => False) I5 (still I5 n5) t5 stop) fun r z6 ⟨hr, I6⟩ => ?_
      subst hr
      have I7 : Inv X pins τ G5 z6 := I3.call' (ch := fp) I6.os I6.base I6.hok I6.bare fun b mb => let f := (p3 b mb).1; ⟨f.2.2.2.1, f.2.1, f.2.2.2.2.1, f.2.2.2.2.2⟩
      obtain ⟨m, hm, _⟩ := I6.loc
      have hm' : z6.heap.Ns L m := hloc ▸ (show z6.heap.Ns ce.locals m from hm)
      have noL : G5 L = none := hloc ▸ (show G5 ce.locals = none from I6.free)
      obtain ⟨f0, f1, f2, f3, f4, f5⟩ := I3.fpOk (Nat.le_of_eq hL) noL
      exact ⟨m, hm', fun _ sb => ⟨.ref D, G5, I7.turned (t' := z6.toks) (fun b o mb e => (sb.2 b mb).trans e) f0 f1 f3 f4 f5, rfl, done⟩⟩
    · refine thnF (T.item (X.blk z3 G3 scope ce fp) rfl rfl rfl calm i [] z5 _ G5 (fun _ _ => False) I5 (still I5 n5) t5 go) fun r z6 ⟨u, hr, h6⟩ => ?_
      subst hr
      refine thnF h6 fun _ z7 ⟨x, G7, I7, r7, y7, t7, n7⟩ => ?_
      have J7 := I7.pinned (still I7 n7) (T.obj _ _ t7)
      refine thnF (pg.run _ z7 _ G7 x u _ J7 r7 (step x G7 y7)) fun _ z8 ⟨τ8, G8, I8, hw8, q8⟩ => ?_
      refine wpAny_pure ?_
      rw [if_pos rfl]
      refine thnF (pe.run _ z8 τ8 G8 _ I8 q8) fun v z9 ⟨y, G9, I9, r9, k, S, c, ey, hD9, room, nx⟩ => ?_
      subst ey
      obtain ⟨tk, rfl⟩ := (show ∃ tk, v = Value.int k tk from r9)
      have R9 := setO_get I9 hD9
      refine setR_add R9 room fun h' sb new => ?_
      have some9 : ∃ u, h'.get? D = some u := let ⟨o, _, _, _, e, _⟩ := new; ⟨o, e⟩
      have I10 := I9.write (e := D) (t' := z9.toks + 1) (by rw [hD9]; trivial) (.inl rfl) (fun b u mb e => (sb.2 b mb).trans e) some9 (setO_new (P := X.prog) (H := upd G9 D (SetO X.w D (fun j => S j || decide (j = k)) (if S k = true then c else c + 1))) new)
      obtain ⟨m', lt, w'⟩ := hN _ nx
      have pin : ∀ b ∈ fp, ∀ o, z7.heap.get? b = some o → h'.get? b = some o ∧ (upd G9 D (SetO X.w D (fun j => S j || decide (j = k)) (if S k = true then c else c + 1))) b = none := fun b mb o e =>
        let a := I10.pin (b, o) (List.mem_append_right _ (List.mem_append_right _ (mem_pinsAt mb e)))
        ⟨a.1, a.2.1⟩
      refine ⟨m', lt, i + 1, _, (I10.unpinned (pins := [])).weak (by rw [← hw8, wipe_length]) (fun j v e => (wipe_some (by rw [hw8]; exact e)).1), T.keep _ _ _ t7 fun b mb o e => (pin b mb o e).1, fun b mb => ?_, w'⟩
      obtain ⟨o, e, _⟩ := T.obj _ _ t7 b mb
      exact (pin b mb o e).2
  exact PpSet.codeAny_compStart_set loop (T.self X.A 0 _ _ _ t4 loop)
/-- over a list that the block leaves as it is -/
theorem sci_list {w : World} {K : PySem.W.Frag} {a : Addr} {xs : List V} {g : TG} {te : TE} {vs : List Nat} {τ : L2.St} {G1 : Hp} {D : Addr} {Z : Hp → Prop} (Pv : Nat → Hp → Prop) (h0 : Pv 0 (upd G1 D (SetO w D (fun _ => false) 0)))
    (hl : ∀ i G, i ≤ xs.length → Pv i G → SqL K G a xs)
    (hs : ∀ i x G, xs[i]? = some x → Pv i G → g x (wipe τ vs) G fun τ2 G3 => wipe τ2 vs = wipe τ vs ∧ te τ2 G3 fun y G4 =>
      ∃ (k : Int) (S : Int → Bool) (n : Nat), y = .int k ∧ G4 D = some (SetO w D S n) ∧ n + 1 < scanBound ∧ Pv (i + 1) (upd G4 D (SetO w D (fun j => S j || decide (j = k)) (if S k = true then n else n + 1))))
    (hd : ∀ G, Pv xs.length G → Z G) :
    ∃ W : Nat → Nat → Hp → Prop, (∃ m, W 0 m (upd G1 D (SetO w D (fun _ => false) 0))) ∧
    ∀ i m G', W i m G' → ((Itl K a).stop i G' ∧ Z G') ∨
      ((Itl K a).go i G' ∧ ∃ N : Hp → Prop, (∀ G2, N G2 → ∃ m', m' < m ∧ W (i + 1) m' G2) ∧
        ∀ x G2, (Itl K a).yld i G' x G2 → g x (wipe τ vs) G2 fun τ2 G3 => wipe τ2 vs = wipe τ vs ∧ te τ2 G3 fun y G4 =>
          ∃ (k : Int) (S : Int → Bool) (n : Nat), y = .int k ∧ G4 D = some (SetO w D S n) ∧ n + 1 < scanBound ∧ N (upd G4 D (SetO w D (fun j => S j || decide (j = k)) (if S k = true then n else n + 1)))) := by
  refine ⟨fun i m G => m + i = xs.length ∧ Pv i G, ⟨xs.length, rfl, h0⟩, fun i m G ⟨e, p⟩ => ?_⟩
  have q := hl i G (by omega) p
  cases m with
  | zero => exact .inl ⟨⟨xs, q, by omega⟩, hd G (by rw [← e, Nat.zero_add]; exact p)⟩
  | succ m =>
    have lt : i < xs.length := by omega
    refine .inr ⟨⟨xs, xs[i], q, List.getElem?_eq_getElem lt⟩, Pv (i + 1), fun G2 p' => ⟨m, Nat.lt_succ_self m, by omega, p'⟩, fun x G2 y => ?_⟩
    obtain ⟨rfl, y⟩ := y
    exact hs i x _ (y xs q) p
end
section
variable {X : Cx}
theorem sw_dict {kx vx : Expr} {gs : List Comprehension} {scope : Scope} {pos py : Pos} {y : Str} {l : Nat} {env : Env} (hk : env.scope.kind = .function) (hy : env.scope.names.lookup y = some .local) (same : (py.line == pos.line) = true)
    (no : (scope.names.any fun (n, k) => n == y && (k == .local || k == .cell)) = false) : swapsWith (.DictComp kx vx gs scope pos) (some (.Name y py)) l env = pure true := by
  have k1 : env.kindOf y = some .local := hy
  have k2 : env.blockKind = .function := by
    show (match env.scope.kind with | _ => _) = _
    rw [hk]
    rfl
  unfold swapsWith
  simp only [k2, k1, no, Expr.pos, same]
  rfl
/-- name = {k: v for ..} on one line, the name a local one -/
theorem ps_setDc {i : Nat} {y : Str} {py : Pos} {kx vx tg iter : Expr} {ifs : List Expr} {scope : Scope} {own : List (Str × Nat)} {pos spos : Pos} {wi : TI} {g : TG} {tt : TT} {tk tv : TE}
    (calm : X.calm = true) (nd : X.N.Nodup) (hy : X.N[i]? = some y) (loc : X.env.scope.names.lookup y = some .local)
    (sw : swapsWith (.DictComp kx vx [⟨tg, iter, ifs, 0⟩] scope pos) (some (.Name y py)) spos.line X.env = pure true) (hi : PI X tg iter wi) (bk : BlkOk X.N X.env.scope scope own)
    (hg : ∀ (z : Shared) (G : Hp) (L : Addr) (cl : List (Str × Addr)) (fp : List Addr), PG (X.blk z G scope (compEnvC scope cl L X.env) fp) tg g)
    (ht : ∀ (z : Shared) (G : Hp) (L : Addr) (cl : List (Str × Addr)) (fp : List Addr), PTs (X.blk z G scope (compEnvC scope cl L X.env) fp) ifs tt)
    (hk : ∀ (z : Shared) (G : Hp) (L : Addr) (cl : List (Str × Addr)) (fp : List Addr), PE (X.blk z G scope (compEnvC scope cl L X.env) fp) kx tk)
    (hv : ∀ (z : Shared) (G : Hp) (L : Addr) (cl : List (Str × Addr)) (fp : List Addr), PE (X.blk z G scope (compEnvC scope cl L X.env) fp) vx tv)
    (hf : ∀ x, foldedSetIterable iter X.env x = pure x := by intro _; rfl) :
    PS X (.Assign [.Name y py] (.DictComp kx vx [⟨tg, iter, ifs, 0⟩] scope pos) spos) (tAsg (tDc wi g tt tk tv (own.map (·.2))) (gName i)) := by
  refine ⟨fun pins z τ G D I0 hw => ?_⟩
  rw [exec_Assign_Name_used _ _ _ _ sw]
  refine wpAny_bind (wpAny_standAt (wpAny_bind ?_))
  show wpAny _ X.A (do let _ ← comprehension (.DictComp kx vx [⟨tg, iter, ifs, 0⟩] scope pos) scope X.env (firstIterPos [⟨tg, iter, ifs, 0⟩] pos) newDict false (eval iter X.env) (some (assign (.Name y py) X.env))) _ _ z
  refine wpAny_bind (thn (dc_core (Qf := fun _ z' => SP X pins D .next z') calm nd I0 hi bk hg ht hk hv hf (show tDc wi g tt tk tv (own.map (·.2)) τ G (fun x G1 => gName i x τ G1 D.nx) from hw) fun L E z1 m G1 I1 q hn f => ?_) fun _ _ hq => wpAny_pure (wpAny_pure hq))
  refine wpAny_assign_Name (store_ok2 (v := V.ref L) I1 nd hy (.inl loc) rfl (fun z2 I2 ⟨a, sb, ha⟩ => ?_) (.inr loc))
  obtain ⟨f0, f1, f2, f3, f4, f5⟩ := f
  refine ⟨m, hn.sameBut sb (ha.elim (fun e => by rw [e]; exact f1) fun e e' => f4 y a e e'.symm), fun h3 sb3 => ?_⟩
  exact ⟨_, G1, I2.turned (t' := z2.toks) (fun b o hb e => (sb3.2 b hb).trans e) f0 f1 f3 f4 f5, q⟩
/-- over anything that is walked, by a word -/
theorem dc_walk {J : It} {g : TG} {tt : TT} {tk tv : TE} {vs : List Nat} {τ : L2.St} {G1 : Hp} {D : Addr} {Z : Hp → Prop} (n : Nat) (Pv : Nat → Hp → Prop) (h0 : Pv 0 (upd G1 D (.dK [])))
    (hgo : ∀ i G, i < n → Pv i G → J.go i G) (hst : ∀ G, Pv n G → J.stop n G)
    (hs : ∀ i x G G2, i < n → Pv i G → J.yld i G x G2 → g x (wipe τ vs) G2 fun τ2 G3 => wipe τ2 vs = wipe τ vs ∧ tt τ2 G3 fun b G4 =>
      if b = true then tk τ2 G4 fun y G5 => tv τ2 G5 fun v G6 => ∃ kvs k, y = kV k ∧ G6 D = some (.dK kvs) ∧ kvs.length < sizeLine ∧ Pv (i + 1) (upd G6 D (.dK (putK kvs k v))) else Pv (i + 1) G4)
    (hd : ∀ G, Pv n G → Z G) :
    ∃ W : Nat → Nat → Hp → Prop, (∃ m, W 0 m (upd G1 D (.dK []))) ∧ ∀ i m G, W i m G →
      (J.stop i G ∧ Z G) ∨ (J.go i G ∧ ∃ Nx : Hp → Prop, (∀ G', Nx G' → ∃ m', m' < m ∧ W (i + 1) m' G') ∧ ∀ x G', J.yld i G x G' → g x (wipe τ vs) G' fun τ2 G2 => wipe τ2 vs = wipe τ vs ∧ tt τ2 G2 fun b G3 =>
        if b = true then tk τ2 G3 fun y G4 => tv τ2 G4 fun v G5 => ∃ kvs k, y = kV k ∧ G5 D = some (.dK kvs) ∧ kvs.length < sizeLine ∧ Nx (upd G5 D (.dK (putK kvs k v))) else Nx G3) := by
  refine ⟨fun i m G => m + i = n ∧ Pv i G, ⟨n, rfl, h0⟩, fun i m G ⟨e, p⟩ => ?_⟩
  cases m with
  | zero =>
    have e' : i = n := by omega
    subst e'
    exact .inl ⟨hst G p, hd G p⟩
  | succ m => exact .inr ⟨hgo i G (by omega) p, Pv (i + 1), fun G' p' => ⟨m, Nat.lt_succ_self m, by omega, p'⟩, fun x G' y => hs i x G G' (by omega) p y⟩
end

/-! ### the nodes that a condition leads to, in plain Lean -/
def kids (ns : List Node) (c : Nat) : List Nat := match nod ns c with
  | none => []
  | some n => [n.2.1, n.2.2].filter fun x => decide (2 ≤ x)
theorem kids_of {ns : List Node} {c : Nat} {n : Node} (h : nod ns c = some n) : kids ns c = [n.2.1, n.2.2].filter fun x => decide (2 ≤ x) := by
  unfold kids
  rw [h]
theorem kids_low {ns : List Node} {c : Nat} (h : c < 2) : kids ns c = [] := by
  unfold kids nod
  rw [if_pos h]
theorem mem_kids {ns : List Node} {c y : Nat} (h : y ∈ kids ns c) : ∃ n, nod ns c = some n ∧ (y = n.2.1 ∨ y = n.2.2) ∧ 2 ≤ y := by
  cases e : nod ns c with
  | none => unfold kids at h; rw [e] at h; cases h
  | some n =>
    rw [kids_of e] at h
    obtain ⟨h1, h2⟩ := List.mem_filter.mp h
    refine ⟨n, rfl, ?_, of_decide_eq_true h2⟩
    simp only [List.mem_cons, List.not_mem_nil, or_false] at h1
    exact h1
theorem kids_mem {ns : List Node} {c : Nat} {n : Node} (h : nod ns c = some n) : (2 ≤ n.2.1 → n.2.1 ∈ kids ns c) ∧ (2 ≤ n.2.2 → n.2.2 ∈ kids ns c) := by
  rw [kids_of h]
  exact ⟨fun q => List.mem_filter.mpr ⟨by simp, decide_eq_true q⟩, fun q => List.mem_filter.mpr ⟨by simp, decide_eq_true q⟩⟩
theorem NOk.kid_lt {E : List Int} {ns : List Node} (ok : NOk E ns) {c y : Nat} (h : y ∈ kids ns c) : y < c ∧ 2 ≤ y := by
  obtain ⟨n, hn, hy, h2⟩ := mem_kids h
  obtain ⟨l1, l2, _⟩ := ok.lt c n hn
  rcases hy with rfl | rfl <;> exact ⟨by assumption, h2⟩
inductive Rch (ns : List Node) (c : Nat) : Nat → Prop
  | refl : Rch ns c c
  | step {x y : Nat} : Rch ns c x → y ∈ kids ns x → Rch ns c y
theorem Rch.le {E : List Int} {ns : List Node} (ok : NOk E ns) {c x : Nat} (h : Rch ns c x) : x ≤ c := by
  induction h with
  | refl => exact Nat.le_refl _
  | step _ hk ih => have := (ok.kid_lt hk).1; omega
/-- found so far: all that is below is found before -/
structure Fnd (ns : List Node) (cs F : List Nat) : Prop where
  nd : F.Nodup
  mem : ∀ x ∈ F, 2 ≤ x ∧ ∃ c ∈ cs, Rch ns c x
  topo : ∀ (i x : Nat), F[i]? = some x → ∀ y ∈ kids ns x, y ∈ F.take i
structure Reached (ns : List Node) (cs F : List Nat) : Prop extends Fnd ns cs F where
  top : ∀ c ∈ cs, 2 ≤ c → c ∈ F
theorem Fnd.wide {ns : List Node} {cs cs' F : List Nat} (h : Fnd ns cs F) (s : ∀ c ∈ cs, c ∈ cs') : Fnd ns cs' F :=
  ⟨h.nd, fun x hx => let ⟨a, c, m, r⟩ := h.mem x hx; ⟨a, c, s c m, r⟩, h.topo⟩
/-- the stack: from the condition at its bottom down to its parts -/
structure Stk (ns : List Node) (cs : List Nat) (c : Nat) (F S : List Nat) : Prop where
  f : Fnd ns cs F
  bot : S ≠ [] → S.head? = some c
  desc : S.Pairwise (· > ·)
  rch : ∀ x ∈ S, Rch ns c x
  nin : ∀ x ∈ S.tail, x ∉ F ∧ 2 ≤ x
  fin : S = [] → 2 ≤ c → c ∈ F
theorem nodup_len : ∀ (N : Nat) (l : List Nat), l.Nodup → (∀ x ∈ l, x < N) → l.length ≤ N
  | 0, l, _, h => by
    cases l with
    | nil => exact Nat.le_refl _
    | cons x r => have := h x (by simp); omega
  | N + 1, l, nd, h => by
    have e : (l.filter fun x => decide (x ≠ N)).length ≤ N := nodup_len N _ (nd.filter _) fun x hx => by
      obtain ⟨h1, h2⟩ := List.mem_filter.mp hx
      have := h x h1
      have := of_decide_eq_true h2
      omega
    have c1 : l.count N ≤ 1 := List.nodup_iff_count.mp nd N
    have e2 : l.length = (l.filter fun x => decide (x ≠ N)).length + l.count N := by
      clear e c1 nd h
      induction l with
      | nil => rfl
      | cons x r ih =>
        rw [List.filter_cons, List.count_cons]
        by_cases hx : x = N
        · subst hx
          rw [if_neg (by simp), if_pos (by simp), List.length_cons, ih]
          omega
        · rw [if_pos (by simpa using hx), if_neg (by simpa using hx), List.length_cons, List.length_cons, ih]
          omega
    omega
theorem desc_nodup {l : List Nat} (h : l.Pairwise (· > ·)) : l.Nodup := h.imp fun h e => by omega
theorem Fnd.lt {E : List Int} {ns : List Node} {cs F : List Nat} (h : Fnd ns cs F) (ok : NOk E ns) (hc : ∀ c ∈ cs, c < ns.length + 2) : ∀ x ∈ F, x < ns.length + 2 := fun x hx => by
  obtain ⟨_, c, hm, r⟩ := h.mem x hx
  have := r.le ok
  have := hc c hm
  omega
theorem Stk.start {ns : List Node} {cs : List Nat} {c : Nat} {F : List Nat} (h : Fnd ns cs F) : Stk ns cs c F [c] :=
  ⟨h, fun _ => rfl, List.pairwise_singleton _ _, fun x hx => by rw [List.mem_singleton.mp hx]; exact .refl, fun x hx => (by cases hx), fun e => (by cases e)⟩
theorem head_app {α : Type} {S T : List α} (h : S ≠ []) : (S ++ T).head? = S.head? := by
  cases S with
  | nil => exact absurd rfl h
  | cons a r => rfl
/-- how much is left -/
def left (N : Nat) (F S : List Nat) : Nat := (N - F.length) * (N + 2) + (if S = [] then 0 else N + 1 - S.length)
theorem snoc_of {S : List Nat} (h : S ≠ []) : ∃ S0 x, S = S0 ++ [x] := ⟨S.dropLast, S.getLast h, (List.dropLast_concat_getLast h).symm⟩
section
variable {E : List Int} {ns : List Node} {cs : List Nat} {c : Nat} {F S0 : List Nat} {x y : Nat}
theorem Stk.push (ok : NOk E ns) (h : Stk ns cs c F (S0 ++ [x])) (hy : y ∈ kids ns x) (hn : y ∉ F) : Stk ns cs c F (S0 ++ [x] ++ [y]) := by
  obtain ⟨l1, l2⟩ := ok.kid_lt hy
  have e1 : ∀ z ∈ S0 ++ [x], z > y := fun z hz => by
    have hp := List.pairwise_append.mp h.desc
    rcases List.mem_append.mp hz with m | m
    · have := hp.2.2 z m x (by simp); omega
    · rw [List.mem_singleton.mp m]; exact l1
  have ne : S0 ++ [x] ≠ [] := by simp
  refine ⟨h.f, fun _ => ?_, List.pairwise_append.mpr ⟨h.desc, List.pairwise_singleton _ _, fun a ha b hb => by rw [List.mem_singleton.mp hb]; exact e1 a ha⟩, fun z hz => ?_, fun z hz => ?_, fun e => by simp at e⟩
  · rw [head_app ne]
    exact h.bot ne
  · rcases List.mem_append.mp hz with m | m
    · exact h.rch z m
    · rw [List.mem_singleton.mp m]; exact .step (h.rch x (by simp)) hy
  · rw [List.tail_append_of_ne_nil ne] at hz
    rcases List.mem_append.mp hz with m | m
    · exact h.nin z m
    · rw [List.mem_singleton.mp m]; exact ⟨hn, l2⟩
theorem Stk.len (h : Stk ns cs c F S0) (hc : c < ns.length + 2) (ok : NOk E ns) : S0.length ≤ ns.length + 2 :=
  nodup_len _ _ (desc_nodup h.desc) fun x hx => by have := (h.rch x hx).le ok; omega
theorem Fnd.len (h : Fnd ns cs F) (ok : NOk E ns) (hc : ∀ c ∈ cs, c < ns.length + 2) : F.length ≤ ns.length + 2 := nodup_len _ _ h.nd (h.lt ok hc)
theorem Fnd.add (h : Fnd ns cs F) (hx : x ∉ F) (h2 : 2 ≤ x) (hc : c ∈ cs) (hr : Rch ns c x) (hk : ∀ y ∈ kids ns x, y ∈ F) : Fnd ns cs (F ++ [x]) := by
  refine ⟨List.nodup_append.mpr ⟨h.nd, by simp, fun a ha b hb e => ?_⟩, fun z hz => ?_, fun i z hz y hy => ?_⟩
  · rw [List.mem_singleton.mp hb] at e
    exact hx (e ▸ ha)
  · rcases List.mem_append.mp hz with m | m
    · exact h.mem z m
    · rw [List.mem_singleton.mp m]
      exact ⟨h2, c, hc, hr⟩
  · by_cases hi : i < F.length
    · rw [List.getElem?_append_left hi] at hz
      rw [List.take_append_of_le_length (by omega)]
      exact h.topo i z hz y hy
    · have hi2 := (List.getElem?_eq_some_iff.mp hz).1
      rw [List.length_append, List.length_singleton] at hi2
      have e : i = F.length := by omega
      subst e
      rw [List.getElem?_append_right (Nat.le_refl _), Nat.sub_self] at hz
      cases hz
      rw [List.take_append_of_le_length (Nat.le_refl _), List.take_length]
      exact hk y hy
/-- F with x, if it is a node and not there -/
def addF (F : List Nat) (x : Nat) : List Nat := if 2 ≤ x ∧ x ∉ F then F ++ [x] else F
theorem Stk.pop (h : Stk ns cs c F (S0 ++ [x])) (hc : c ∈ cs) (hk : ∀ y ∈ kids ns x, y ∈ F) : Stk ns cs c (addF F x) S0 := by
  have hp := List.pairwise_append.mp h.desc
  have fx : Fnd ns cs (addF F x) := by
    unfold addF
    split
    · rename_i q
      exact h.f.add q.2 q.1 hc (h.rch x (by simp)) hk
    · exact h.f
  have inx : 2 ≤ x → x ∈ addF F x := fun q => by
    unfold addF
    by_cases m : x ∈ F
    · rw [if_neg (fun z => z.2 m)]; exact m
    · rw [if_pos ⟨q, m⟩]; simp
  refine ⟨fx, fun ne => ?_, hp.1, fun z hz => h.rch z (List.mem_append_left _ hz), fun z hz => ?_, fun e => ?_⟩
  · have := h.bot (by simp)
    rwa [head_app ne] at this
  · have ne : S0 ≠ [] := fun e => by rw [e] at hz; cases hz
    have hz' : z ∈ (S0 ++ [x]).tail := by rw [List.tail_append_of_ne_nil ne]; exact List.mem_append_left _ hz
    obtain ⟨n1, n2⟩ := h.nin z hz'
    refine ⟨fun m => ?_, n2⟩
    unfold addF at m
    split at m
    · rcases List.mem_append.mp m with m | m
      · exact n1 m
      · have := hp.2.2 z (List.mem_of_mem_tail hz) x (by simp)
        rw [List.mem_singleton.mp m] at this
        omega
    · exact n1 m
  · subst e
    have := h.bot (by simp)
    rw [List.nil_append] at this
    cases this
    exact inx
theorem left_push {N : Nat} {F S : List Nat} {y : Nat} (hs : S ≠ []) (h : S.length ≤ N) : left N F (S ++ [y]) < left N F S := by
  unfold left
  rw [if_neg hs, if_neg (by simp), List.length_append, List.length_singleton]
  have : 0 < S.length := List.length_pos_iff.mpr hs
  omega
theorem left_pop {N : Nat} (h : Stk ns cs c F (S0 ++ [x])) (hl : (S0 ++ [x]).length ≤ N) (hf : (addF F x).length ≤ N) : left N (addF F x) S0 < left N F (S0 ++ [x]) := by
  unfold left
  rw [if_neg (by simp : S0 ++ [x] ≠ [])]
  rw [List.length_append, List.length_singleton] at hl ⊢
  by_cases e : S0 = []
  · rw [if_pos e, e]
    have : F.length ≤ (addF F x).length := by unfold addF; split <;> simp
    have := Nat.mul_le_mul_right (N + 2) (show N - (addF F x).length ≤ N - F.length by omega)
    simp only [List.length_nil]
    omega
  · rw [if_neg e]
    have hx : x ∈ (S0 ++ [x]).tail := by rw [List.tail_append_of_ne_nil e]; simp
    obtain ⟨n1, n2⟩ := h.nin x hx
    have ea : addF F x = F ++ [x] := by unfold addF; rw [if_pos ⟨n2, n1⟩]
    rw [ea, List.length_append, List.length_singleton] at hf ⊢
    have : 0 < S0.length := List.length_pos_iff.mpr e
    have e3 : N - F.length = (N - (F.length + 1)) + 1 := by omega
    rw [e3, Nat.add_mul]
    omega
end

/-! ### the nodes that a condition leads to: the defs -/
abbrev vI (c : Nat) : V := .int (c : Int)
theorem ft_yes {α β : Type} {p : α → Bool} {f : α → β} {L : List α} {i : Nat} {y : α} (h : L[i]? = some y) (hp : p y = true) : ((L.take (i + 1)).filter p).map f = ((L.take i).filter p).map f ++ [f y] := by
  rw [List.take_add_one, h, List.filter_append, List.map_append]
  show _ ++ (([y].filter p).map f) = _
  rw [List.filter_cons, if_pos hp]
  rfl
theorem ft_no {α β : Type} {p : α → Bool} {f : α → β} {L : List α} {i : Nat} {y : α} (h : L[i]? = some y) (hp : p y = false) : ((L.take (i + 1)).filter p).map f = ((L.take i).filter p).map f := by
  rw [List.take_add_one, h, List.filter_append, List.map_append]
  show _ ++ (([y].filter p).map f) = _
  rw [List.filter_cons, if_neg (by rw [hp]; decide)]
  show _ ++ [] = _
  rw [List.append_nil]
theorem takeS {α : Type} {l : List α} {i : Nat} {x : α} (h : l[i]? = some x) : l.take (i + 1) = l.take i ++ [x] := by rw [List.take_add_one, h]; rfl
theorem mapAt {α : Type} {f : α → V} {L : List α} {i : Nat} {x : V} (h : (L.map f)[i]? = some x) : ∃ y, L[i]? = some y ∧ x = f y := by
  rw [List.getElem?_map] at h
  cases e : L[i]? with
  | none => rw [e] at h; cases h
  | some y => rw [e] at h; exact ⟨y, rfl, (Option.some.inj h).symm⟩
/-- the dict of what is found -/
def fk (F : List Nat) : List (Key × V) := F.map fun (x : Nat) => ((Sum.inl (x : Int) : Key), V.bl true)
theorem fk_val (F : List Nat) (x : Nat) : valV (fk F) (Sum.inl (x : Int) : Key) = if x ∈ F then some (.bl true) else none := by
  induction F with
  | nil => rfl
  | cons y r ih =>
    show valV (((Sum.inl (y : Int) : Key), V.bl true) :: fk r) _ = _
    by_cases e : y = x
    · subst e
      rw [valV_pos rfl, if_pos (by simp)]
    · rw [valV_neg (fun z => e (Int.ofNat.inj (Sum.inl.inj z))), ih]
      by_cases m : x ∈ r
      · rw [if_pos m, if_pos (List.mem_cons_of_mem _ m)]
      · rw [if_neg m, if_neg (fun z => (List.mem_cons.mp z).elim (fun e' => e e'.symm) m)]
theorem fk_put (F : List Nat) (x : Nat) : putK (fk F) (Sum.inl (x : Int) : Key) (.bl true) = fk (if x ∈ F then F else F ++ [x]) := by
  by_cases m : x ∈ F
  · rw [if_pos m]
    unfold putK
    rw [if_pos (by rw [valV_any, fk_val, if_pos m]; rfl)]
    refine (List.map_congr_left fun kv hkv => ?_).trans (List.map_id _)
    obtain ⟨y, _, rfl⟩ := List.mem_map.mp hkv
    show (if _ then _ else _) = _
    split <;> rfl
  · rw [if_neg m, putK_new _ (by rw [fk_val, if_neg m])]
    unfold fk
    rw [List.map_append]
    rfl
theorem fk_add (F : List Nat) (x : Nat) (h : 2 ≤ x) : putK (fk F) (Sum.inl (x : Int) : Key) (.bl true) = fk (addF F x) := by
  rw [fk_put]
  unfold addF
  by_cases m : x ∈ F
  · rw [if_pos m, if_neg fun z => z.2 m]
  · rw [if_neg m, if_pos ⟨h, m⟩]
theorem fk_keys (F : List Nat) : ((fk F).map fun kv => kV kv.1) = F.map vI := by
  unfold fk
  rw [List.map_map]
  rfl
theorem fk_len (F : List Nat) : (fk F).length = F.length := List.length_map _
def spParts (C : Addr) : Sp := fun vs H Q _ => ∃ (E : List Int) (s : SA) (ns : List Node) (b c : Nat), vs = [.ref s.p, .int c] ∧ StoAt C E s H ns b ∧ c < ns.length + 2 ∧
  ∀ (p : Addr) (H' : Hp), H p = none → Kp [] H H' → H' p = some (.lst ((kids ns c).map vI)) → Q (.ref p) H'
def spReached (K : PySem.W.Frag) (C : Addr) : Sp := fun vs H Q _ => ∃ (E : List Int) (s : SA) (ns : List Node) (b : Nat) (cs : List Nat) (a : Addr), vs = [.ref s.p, .ref a] ∧ StoAt C E s H ns b ∧
  SqL K H a (cs.map vI) ∧ (∀ c ∈ cs, c < ns.length + 2) ∧ b ≤ 1000000 ∧
  ∀ (R : List Nat) (r : Addr) (H' : Hp), Reached ns cs R → H r = none → Kp [] H H' → H' r = some (.lst (R.map vI)) → Q (.ref r) H'
section
variable {P : Program} {w : World} {K : PySem.W.Frag} {mg : Str → Option Value} {base : Heap} {C : Addr}
theorem ok_parts (D : GM K C "_parts" "Diagrams._parts" sD_Dparts ["self", "condition"]) (T : TSto K w mg C) : Met P w K mg base 1 C "_parts" (spParts C) [] := by
  refine D.met T.cl sc_Dparts (fun vs H Q E h => ?_) (fun f cdv A outer s0 H vs Q E hr h => ?_)
  · obtain ⟨E, s, ns, b, c, rfl, _⟩ := h
    rfl
  obtain ⟨E, s, ns, b, c, rfl, S, hc, q⟩ := h
  refine ⟨_, (pss_cons (ps_if (pt_cmpR op_le (pv 1) (pe_gc rfl T.g_ALWAYS) (nomark _)) (pss_one (ps_ret (pe_lst pa_nil))) pss_nil)
    (pss_one (ps_ret (pe_lc (own := [("part", 2)]) (g := gName 2) rfl sc_Dparts.nd (pi_tup (pe_slice sl_tup (pe_ix ix_list (pe_fld (pv 0) rfl) (pv 1) (fun _ _ => rfl)) (po_some pe_int) po_none)) (blkOk_by (own := [("part", 2)]) (N := ["self", "condition", "part"]) (sc := defScope sD_Dparts) (by decide +kernel)) (fun _ _ _ _ _ => (pg_name (i := 2) sc_Dparts.nd rfl (Or.inl rfl))) (fun _ _ _ _ _ => (pts_one (pt_cmpR op_gt (pv 2) (pe_gc rfl T.g_ALWAYS) (nomark _)))) (fun _ _ _ _ _ => (pv 2)))))), ?_⟩
  refine ⟨_, rfl, _, _, rfl, rfl, _, rfl, ?_⟩
  refine ite2 (fun c1 => ?_) (fun c1 => ?_)
  · have c1' : (c : Int) ≤ 1 := of_decide_eq_true c1
    exact ⟨(by show 0 ≤ sizeLine; decide), fun p hp => q p _ hp (.new hp) (by rw [kids_low (by omega)]; exact upd_same)⟩
  have c1' : ¬ (c : Int) ≤ 1 := fun z => c1 (decide_eq_true z)
  obtain ⟨n, hn⟩ := nod_some hc (by omega)
  obtain ⟨as, a, h1, h2, h3⟩ := S.at hn
  refine ⟨_, rfl, s.p, C, s.dx, _, _, rfl, S.ob, T.cl, T.a_nodes, sf_nodes _ _ _, _, rfl, s.l, _, _, _, rfl, rfl, SqL.of h1, h2, 1, rfl, a, _, rfl, SqT.of h3, (by show ¬ (HT.sIx 3 0 (some 1) = 0 ∧ HT.sIx 3 3 none = 3); decide), fun t ht => ?_⟩
  obtain ⟨H1, hH1⟩ : ∃ H1, upd H t (.tup (cutV (tupV n) (some 1) none)) = H1 := ⟨_, rfl⟩
  have k1 : Kp [] H H1 := by rw [← hH1]; exact .new ht
  have ht1 : H1 t = some (.tup ([n.2.1, n.2.2].map vI)) := by rw [← hH1]; exact upd_same
  rw [hH1]
  refine ⟨t, rfl, ⟨_, SqT.of ht1⟩, fun D hD => lc_tup (xs := [n.2.1, n.2.2].map vI) (fun i H' => Kp [] H1 H' ∧ H' D = some (.lst ((([n.2.1, n.2.2].take i).filter fun x => decide (2 ≤ x)).map vI))) ⟨.new hD, upd_same⟩ (fun i H' _ p => SqT.of (p.1.t _ _ ht1)) (fun i x H' hi p => ?_) (fun H' p => ?_)⟩
  · obtain ⟨y, hy, rfl⟩ := mapAt hi
    obtain ⟨kk, hD'⟩ := p
    refine ⟨rfl, _, rfl, _, _, rfl, rfl, _, rfl, ?_⟩
    refine ite2 (fun c2 => ?_) (fun c2 => ?_)
    · have c2' : (y : Int) > 1 := of_decide_eq_true c2
      refine ⟨_, rfl, _, hD', small1000 ?_, kk.mt hD, ?_⟩
      · rw [List.length_map]
        refine Nat.le_trans (List.length_filter_le _ _) (Nat.le_trans (List.length_take_le' _ _) (by simp))
      · rw [ft_yes hy (decide_eq_true (by omega))]
        exact upd_same
    · have c2' : ¬ (y : Int) > 1 := fun z => c2 (decide_eq_true z)
      exact ⟨kk, by rw [ft_no hy (decide_eq_false (by omega))]; exact hD'⟩
  · refine q D H' ?_ (k1.trans p.1) ?_
    · cases e : H D with
      | none => rfl
      | some o => rw [k1.k _ _ e (by simp)] at hD; cases hD
    · rw [kids_of hn]
      exact p.2
theorem ok_reached (D : GM K C "reached" "Diagrams.reached" sD_Dreached ["self", "conditions"]) (T : TSto K w mg C) (m_parts : Met P w K mg base 1 C "_parts" (spParts C) []) : Met P w K mg base 2 C "reached" (spReached K C) [] := by
  refine D.met T.cl sc_Dreached (fun vs H Q E h => ?_) (fun f cdv A outer s0 H vs Q E hr h => ?_)
  · obtain ⟨E, s, ns, b, cs, a, rfl, _⟩ := h
    rfl
  obtain ⟨E, s, ns, b, cs, a, rfl, S, hS, hcs, hb, q⟩ := h
  have hu := hu_of hr
  refine ⟨_, (pss_cons (ps_set (i := 2) sc_Dreached.nd rfl (Or.inr rfl) pe_dnewK)
    (pss_cons (ps_for PassesOwn.never rfl (pi_list (pv 1)) (pg_name (i := 3) sc_Dreached.nd rfl (Or.inl rfl)) (pss_cons (ps_set (i := 4) sc_Dreached.nd rfl (Or.inl rfl) (pe_lst (pa_cons (pv 3) pa_nil)))
    (pss_one (ps_while PassesOwn.never (pt_truth (pv 4) (by intro _; rfl)) (pss_cons (ps_set (i := 5) sc_Dreached.nd rfl (Or.inl rfl) (pe_ix ix_list (pv 4) (pe_un un_neg pe_int) (fun _ _ => rfl)))
    (pss_cons (ps_setLc (i := 6) (own := [("part", 7)]) (g := gName 7) rfl sc_Dreached.nd rfl rfl (sw_true rfl rfl rfl (by decide +kernel)) (pi_list (pe_mt m_parts hr (by omega) (pv 0) (pa_cons (pv 5) pa_nil))) (blkOk_by (own := [("part", 7)]) (N := ["self", "conditions", "found", "condition", "pending", "last", "parts", "part"]) (sc := defScope sD_Dreached) (by decide +kernel)) (fun _ _ _ _ _ => (pg_name (i := 7) sc_Dreached.nd rfl (Or.inl rfl))) (fun _ _ _ _ _ => (pts_one (pt_cmp (pc_dnotin hu (pv 7) (pv 2))))) (fun _ _ _ _ _ => (pv 7)))
    (pss_one (ps_if (pt_truth (pv 6) (by intro _; rfl)) (pss_one (ps_expr (pe_bm PySem.F.plainAttrs_list PySem.F.slot_list_append PySem.F.type_list_append mt_append (pv 4) (pa_cons (pe_ix ix_list (pv 6) pe_int (fun _ _ => rfl)) pa_nil)))) (pss_cons (ps_expr (pe_bm0 PySem.F.plainAttrs_list PySem.F.slot_list_pop PySem.F.type_list_pop mt_pop (pv 4)))
    (pss_one (ps_if (pt_cmpR op_gt (pv 5) (pe_gc rfl T.g_ALWAYS) (nomark _)) (pss_one (ps_dput hu (pv 2) (pv 5) pe_bl rfl)) pss_nil)))))))))))
    (pss_one (ps_ret (pe_callTy (call_list_dK rfl) (by rfl) T.n_list (by decide +kernel) (pa_cons (pv 2) pa_nil)))))), ?_⟩
  intro d hd
  have nle := S.le
  have sz : ∀ n : Nat, n ≤ ns.length + 3 → n < sizeLine := fun n h => Nat.lt_of_le_of_lt (show n ≤ 1000003 by omega) (by decide)
  refine ⟨_, rfl, a, rfl, ⟨_, (Kp.toSame (.new hd)).seq hS⟩, for_list (K := K) (a := a) (xs := cs.map vI) (fun i σ H' => ∃ (F : List Nat) (v3 v4 v5 v6 : Option V),
    σ = [some (.ref s.p), some (.ref a), some (.ref d), v3, v4, v5, v6, none] ∧ Kp [] H H' ∧ H' d = some (.dK (fk F)) ∧ Reached ns (cs.take i) F)
    ⟨[], none, none, none, none, rfl, .new hd, upd_same, ⟨⟨List.nodup_nil, fun x hx => (by cases hx), fun i x hx => (by simp at hx)⟩, fun c hc => (by simp at hc)⟩⟩
    (fun i σ H' _ ⟨F, v3, v4, v5, v6, _, k, _⟩ => k.toSame.seq hS) ?_ ?_⟩
  · rintro i x σ H1 hi ⟨F0, v3, v4, v5, v6, rfl, k1, hd1, R0⟩
    obtain ⟨c, hc, rfl⟩ := mapAt hi
    have hcm : c ∈ cs := List.mem_of_getElem? hc
    have tk : cs.take (i + 1) = cs.take i ++ [c] := by rw [List.take_add_one, hc]; rfl
    have hct : c ∈ cs.take (i + 1) := by rw [tk]; simp
    have hsub : ∀ c' ∈ cs.take i, c' ∈ cs.take (i + 1) := fun c' h => by rw [tk]; exact List.mem_append_left _ h
    have hcs' : ∀ c' ∈ cs.take (i + 1), c' < ns.length + 2 := fun c' h => hcs c' (List.mem_of_mem_take h)
    refine ⟨_, rfl, (by show 1 ≤ sizeLine; decide), fun P hP => ?_⟩
    have hP0 : H P = none := k1.free hP (by simp)
    have hdP : d ≠ P := fun e => by rw [← e, hd1] at hP; cases hP
    refine ⟨fun m σ' H2 => ∃ (F S : List Nat) (v5 v6 : Option V), σ' = [some (.ref s.p), some (.ref a), some (.ref d), some (.int c), some (.ref P), v5, v6, none] ∧ Kp [] H H2 ∧ H2 d = some (.dK (fk F)) ∧ H2 P = some (.lst (S.map vI)) ∧
      Stk ns (cs.take (i + 1)) c F S ∧ (∀ c' ∈ cs.take i, 2 ≤ c' → c' ∈ F) ∧ m = left (ns.length + 2) F S, ⟨_, F0, [c], v5, v6, rfl, k1.mt hP0, by rw [upd_ne hdP]; exact hd1, upd_same, .start (R0.toFnd.wide hsub), R0.top, rfl⟩, ?_⟩
    rintro m σ' H2 ⟨F, St, v5, v6, rfl, k2, hd2, hP2, stk, old, rfl⟩
    have hFl := stk.f.len S.ok hcs'
    have hSl := stk.len (hcs c hcm) S.ok
    refine ⟨_, rfl, _, .inl ⟨_, SqL.of hP2, rfl⟩, ?_⟩
    by_cases e : St = []
    · subst e
      refine iteF ?_
      refine ⟨F, _, _, _, _, rfl, k2, hd2, ⟨stk.f, fun c' hc' h2 => ?_⟩⟩
      rw [tk] at hc'
      rcases List.mem_append.mp hc' with m | m
      · exact old c' m h2
      · rw [List.mem_singleton.mp m] at h2 ⊢
        exact stk.fin rfl h2
    · obtain ⟨S0, x, rfl⟩ := snoc_of e
      rw [show (!((S0 ++ [x]).map vI).isEmpty) = true by simp]
      refine iteT ⟨fun σ2 H3 => ∃ m', m' < left (ns.length + 2) F (S0 ++ [x]) ∧ ∃ (F S : List Nat) (v5 v6 : Option V), σ2 = [some (.ref s.p), some (.ref a), some (.ref d), some (.int c), some (.ref P), v5, v6, none] ∧ Kp [] H H3 ∧ H3 d = some (.dK (fk F)) ∧ H3 P = some (.lst (S.map vI)) ∧
        Stk ns (cs.take (i + 1)) c F S ∧ (∀ c' ∈ cs.take i, 2 ≤ c' → c' ∈ F) ∧ m' = left (ns.length + 2) F S, fun _ _ h => h, ?_⟩
      have hx : x < ns.length + 2 := by have := (stk.rch x (by simp)).le S.ok; have := hcs c hcm; omega
      refine ⟨_, rfl, _, rfl, P, _, _, _, rfl, rfl, SqL.of hP2, (by rw [List.map_append]; exact atI_last _ _), ?_⟩
      have S2 := S.new k2
      refine ⟨_, rfl, s.p, s.dx, _, rfl, S2.ob, sf_no _ _ _ (by decide +kernel) (by decide +kernel) (by decide +kernel), _, rfl, E, s, ns, b, x, rfl, S2, hx, fun p H3 hp k3 hp3 => ?_⟩
      have hd3 : H3 d = some (.dK (fk F)) := k3.k _ _ hd2 (by simp)
      refine ⟨p, rfl, ⟨_, SqL.of hp3⟩, fun D hD => lc_list (K := K) (a := p) (xs := (kids ns x).map vI) (fun j H4 => Kp [] H3 H4 ∧ H4 D = some (.lst ((((kids ns x).take j).filter fun y => decide (y ∉ F)).map vI))) ⟨.new hD, upd_same⟩ (fun j H4 _ z => SqL.of (z.1.k _ _ hp3 (by simp))) (fun j y H4 hj z => ?_) (fun H4 z => ?_)⟩
      · obtain ⟨y, hy, rfl⟩ := mapAt hj
        obtain ⟨k4, hD4⟩ := z
        have hd4 : H4 d = some (.dK (fk F)) := k4.k _ _ hd3 (by simp)
        refine ⟨rfl, _, rfl, _, rfl, d, _, rfl, DGet.k (k := Sum.inl (y : Int)) hd4, _, rfl, ?_⟩
        rw [fk_val]
        by_cases m : y ∈ F
        · rw [if_pos m]
          refine iteF ⟨k4, ?_⟩
          rw [ft_no hy (decide_eq_false fun z => z m)]
          exact hD4
        · rw [if_neg m]
          refine iteT ⟨_, rfl, _, hD4, small1000 ?_, k4.mt hD, ?_⟩
          · rw [List.length_map]
            have h2 : (kids ns x).length ≤ 2 := by
              unfold kids
              split
              · exact Nat.zero_le _
              · exact List.length_filter_le _ _
            refine Nat.le_trans (List.length_filter_le _ _) (Nat.le_trans (List.length_take_le' _ _) (by omega))
          · rw [ft_yes hy (decide_eq_true m)]
            exact upd_same
      · obtain ⟨k4, hD4⟩ := z
        have ef : (kids ns x).take ((kids ns x).map vI).length = kids ns x := by rw [List.length_map, List.take_length]
        rw [ef] at hD4
        have k24 : Kp [] H2 H4 := k3.trans k4
        have hd4 : H4 d = some (.dK (fk F)) := k24.k _ _ hd2 (by simp)
        have hP4 : H4 P = some (.lst ((S0 ++ [x]).map vI)) := k24.k _ _ hP2 (by simp)
        have k04 : Kp [] H H4 := k2.trans k24
        refine ⟨_, rfl, _, .inl ⟨_, SqL.of hD4, rfl⟩, ?_⟩
        cases el : (kids ns x).filter fun y => decide (y ∉ F) with
        | cons y rest =>
          refine iteT ?_
          rw [el] at hD4
          have hy : y ∈ (kids ns x).filter fun y => decide (y ∉ F) := by rw [el]; simp
          obtain ⟨hy1, hy2⟩ := List.mem_filter.mp hy
          have hl4 : ((S0 ++ [x]).map vI).length < sizeLine := by rw [List.length_map]; exact sz _ (by omega)
          refine ⟨_, rfl, .inl ⟨rfl, _, SqL.of hP4⟩, _, rfl, D, _, _, _, rfl, rfl, SqL.of hD4, (atI_nat (j := 0) rfl), P, _, _, rfl, rfl, hP4, hl4, ?_⟩
          refine ⟨_, left_push (y := y) (by simp) hSl, F, S0 ++ [x] ++ [y], _, _, rfl, k04.mt hP0, by rw [upd_ne hdP]; exact hd4, ?_, stk.push S.ok hy1 (of_decide_eq_true hy2), old, rfl⟩
          rw [upd_same, List.map_append (l₁ := S0 ++ [x])]
          rfl
        | nil =>
          refine iteF ?_
          have hk : ∀ y ∈ kids ns x, y ∈ F := fun y hy => Classical.byContradiction fun z => by
            have : y ∈ (kids ns x).filter fun y => decide (y ∉ F) := List.mem_filter.mpr ⟨hy, decide_eq_true z⟩
            rw [el] at this
            cases this
          have stk' := stk.pop hct hk
          have hA := stk'.f.len S.ok hcs'
          have lt := left_pop stk hSl hA
          have el2 : ((S0 ++ [x]).map vI)[((S0 ++ [x]).map vI).length - 1]? = some (vI x) := by
            rw [List.map_append, List.length_append]
            show (S0.map vI ++ [vI x])[(S0.map vI).length + 1 - 1]? = _
            rw [Nat.add_sub_cancel, List.getElem?_append_right (Nat.le_refl _), Nat.sub_self]
            rfl
          have ed : ((S0 ++ [x]).map vI).dropLast = S0.map vI := by rw [List.map_append]; exact List.dropLast_concat
          refine ⟨_, rfl, .inl ⟨rfl, _, SqL.of hP4⟩, P, _, _, rfl, rfl, hP4, el2, ?_⟩
          rw [ed]
          have old' : ∀ c' ∈ cs.take i, 2 ≤ c' → c' ∈ addF F x := fun c' h h2 => by
            unfold addF
            split
            · exact List.mem_append_left _ (old c' h h2)
            · exact old c' h h2
          refine ⟨_, rfl, _, _, rfl, rfl, _, rfl, ?_⟩
          refine ite2 (fun c2 => ?_) (fun c2 => ?_)
          · have c2' : (x : Int) > 1 := of_decide_eq_true c2
            have hd5 : (upd H4 P (.lst (S0.map vI))) d = some (.dK (fk F)) := by rw [upd_ne hdP]; exact hd4
            refine ⟨_, rfl, _, rfl, d, _, rfl, DPut.k (k := Sum.inl (x : Int)) hd5 (by rw [fk_len]; exact sz _ (by omega)), ?_⟩
            refine ⟨_, lt, addF F x, S0, _, _, rfl, (k04.mt hP0).mt hd, ?_, by rw [upd_ne hdP.symm, upd_same], stk', old', rfl⟩
            rw [upd_same, fk_add F x (by omega)]
          · have c2' : ¬ (x : Int) > 1 := fun z => c2 (decide_eq_true z)
            have ea : addF F x = F := by unfold addF; rw [if_neg (fun z => by omega)]
            refine ⟨_, lt, addF F x, S0, _, _, rfl, k04.mt hP0, by rw [upd_ne hdP, ea]; exact hd4, upd_same, stk', old', rfl⟩
  · rintro σ H1 ⟨F, v3, v4, v5, v6, rfl, k1, hd1, R⟩
    rw [List.length_map, List.take_length] at R
    refine ⟨_, rfl, d, _, rfl, hd1, fun r hr' => ?_⟩
    refine q F r _ R (k1.free hr' (by simp)) (k1.newer hr') ?_
    rw [upd_same, fk_keys]
end

/-! ### depends -/
def spDepends (C : Addr) : Sp := fun vs H Q _ => ∃ (E : List Int) (s : SA) (ns : List Node) (b c : Nat), vs = [.ref s.p, .int c] ∧ StoAt C E s H ns b ∧ c < ns.length + 2 ∧ E.Nodup ∧ E.length ≤ 8 ∧ b ≤ 1000000 ∧
  ∀ (R : List Nat) (L : List Int) (r : Addr) (H' : Hp), Reached ns [c] R → L.Pairwise (· < ·) → (∀ k, k ∈ L ↔ ∃ x ∈ R, ∃ n, nod ns x = some n ∧ n.1 = k) → H r = none → Kp [] H H' →
    H' r = some (.lst (L.map V.int)) → Q (.ref r) H'
theorem filter_add {E : List Int} {S : Int → Bool} {k : Int} (nd : E.Nodup) (hk : k ∈ E) : (E.filter fun j => S j || decide (j = k)).length = if S k = true then (E.filter S).length else (E.filter S).length + 1 := by
  by_cases h : S k = true
  · rw [if_pos h]
    congr 1
    refine List.filter_congr fun j _ => ?_
    by_cases e : j = k
    · rw [e, h]; rfl
    · rw [decide_eq_false e, Bool.or_false]
  · rw [if_neg h]
    induction E with
    | nil => cases hk
    | cons a r ih =>
      obtain ⟨n1, n2⟩ := List.nodup_cons.mp nd
      rw [List.filter_cons, List.filter_cons]
      by_cases e : a = k
      · subst e
        rw [if_pos (by simp), if_neg h, List.length_cons]
        congr 2
        refine List.filter_congr fun j hj => ?_
        have : j ≠ a := fun z => n1 (z ▸ hj)
        rw [decide_eq_false this, Bool.or_false]
      · have hk' : k ∈ r := (List.mem_cons.mp hk).resolve_left fun z => e z.symm
        have := ih n2 hk'
        rw [decide_eq_false e, Bool.or_false]
        split
        · rw [List.length_cons, List.length_cons, this]
        · exact this
section
variable {P : Program} {w : World} {K : PySem.W.Frag} {mg : Str → Option Value} {base : Heap} {C : Addr}
theorem ok_depends (D : GM K C "depends" "Diagrams.depends" sD_Ddepends ["self", "condition"]) (T0 : TSto K w mg C) (n_sorted : mg "sorted" = none) (m_reached : Met P w K mg base 2 C "reached" (spReached K C) []) :
    Met P w K mg base 3 C "depends" (spDepends C) [] := by
  refine D.met T0.cl sc_Ddepends (fun vs H Q E h => ?_) (fun f cdv A outer s0 H vs Q E hr h => ?_)
  · obtain ⟨E, s, ns, b, c, rfl, _⟩ := h
    rfl
  obtain ⟨E, s, ns, b, c, rfl, S, hc, nd, hE, hb, q⟩ := h
  refine ⟨_, (pss_one (ps_ret (pe_callB (cr_sortedSet rfl) (by rfl) n_sorted (by decide +kernel) (pa_cons (pe_sci (own := [("node", 2)]) (g := gName 2) rfl sc_Ddepends.nd (pi_list (pe_mt m_reached hr (by omega) (pv 0) (pa_cons (pe_lst (pa_cons (pv 1) pa_nil)) pa_nil))) (blkOk_by (own := [("node", 2)]) (N := ["self", "condition", "node"]) (sc := defScope sD_Ddepends) (by decide +kernel)) (fun _ _ _ _ _ => (pg_name (i := 2) sc_Ddepends.nd rfl (Or.inl rfl))) (fun _ _ _ _ _ => (bx_tup (K := K) rfl (bx_list (K := K) rfl (bx_fld (K := K) rfl (pv 0) rfl) (pv 2) (fun _ _ => rfl)) pe_int (fun _ _ => rfl)))) pa_nil)))), ?_⟩
  refine ⟨_, rfl, s.p, s.dx, _, rfl, S.ob, sf_no _ _ _ (by decide +kernel) (by decide +kernel) (by decide +kernel), _, rfl, (by show 1 ≤ sizeLine; decide), fun a ha => ?_⟩
  have S1 : StoAt C E s (upd H a (.lst [.int c])) ns b := S.new (.new ha)
  refine ⟨E, s, ns, b, [c], a, rfl, S1, SqL.of upd_same, fun x hx => by rw [List.mem_singleton.mp hx]; exact hc, hb, fun R r H2 hR hr k2 h2 => ?_⟩
  have k02 : Kp [] H H2 := (Kp.new ha).trans k2
  have hS2 := S.new k02
  have tk : ∀ {i x}, R[i]? = some x → R.take (i + 1) = R.take i ++ [x] := fun h => by rw [List.take_add_one, h]; rfl
  refine ⟨r, rfl, ⟨_, SqL.of h2⟩, fun D hD => sci_list (K := K) (a := r) (xs := R.map vI) (fun i H' => Kp [] H2 H' ∧ ∃ S : Int → Bool, H' D = some (SetO w D S (E.filter S).length) ∧ ∀ k, S k = true ↔ ∃ x ∈ R.take i, ∃ n, nod ns x = some n ∧ n.1 = k)
    ⟨.new hD, fun _ => false, ?_, fun k => ⟨fun h => (by cases h), fun ⟨x, hx, _⟩ => (by simp at hx)⟩⟩ (fun i H' _ p => SqL.of (p.1.k _ _ h2 (by simp))) (fun i x H' hi p => ?_) (fun H' p => ?_)⟩
  · have e0 : (E.filter fun _ => false).length = 0 := by simp
    rw [e0]
    exact upd_same
  · obtain ⟨x, hx, rfl⟩ := mapAt hi
    obtain ⟨k3, S3, hD3, hm⟩ := p
    have hxR : x ∈ R := List.mem_of_getElem? hx
    have hxl := hR.toFnd.lt S.ok (fun c' hc' => by rw [List.mem_singleton.mp hc']; exact hc) x hxR
    obtain ⟨n, hn⟩ := nod_some hxl (hR.mem x hxR).1
    have St := hS2.new k3
    obtain ⟨as, a', h1, h2, h3⟩ := St.at hn
    have hle : (E.filter S3).length ≤ E.length := List.length_filter_le _ _
    refine ⟨rfl, _, rfl, s.p, C, s.dx, _, _, rfl, St.ob, T0.cl, T0.a_nodes, sf_nodes _ _ _, _, rfl, s.l, _, _, _, rfl, rfl, SqL.of h1, h2, a', _, _, _, rfl, rfl, SqT.of h3, rfl, n.1, S3, _, rfl, hD3, Nat.lt_of_le_of_lt (show _ ≤ 9 by omega) (by decide), k3.mt hD, fun j => S3 j || decide (j = n.1), ?_, fun k => ?_⟩
    · rw [filter_add nd (S.ok.en x n hn)]
      exact upd_same
    · rw [tk hx, Bool.or_eq_true, hm k]
      constructor
      · rintro (⟨y, hy, z⟩ | h)
        · exact ⟨y, List.mem_append_left _ hy, z⟩
        · exact ⟨x, by simp, n, hn, (of_decide_eq_true h).symm⟩
      · rintro ⟨y, hy, z⟩
        rcases List.mem_append.mp hy with m | m
        · exact .inl ⟨y, m, z⟩
        · rw [List.mem_singleton.mp m, hn] at z
          obtain ⟨n', e1, e2⟩ := z
          cases e1
          exact .inr (decide_eq_true e2.symm)
  · obtain ⟨k3, S3, hD3, hm⟩ := p
    have hle : (E.filter S3).length ≤ E.length := List.length_filter_le _ _
    refine ⟨D, S3, _, rfl, hD3, by omega, fun L p' hs hL hl hp' => ?_⟩
    refine q R L p' _ hR hs (fun k => ?_) ((k02.trans k3).free hp' (by simp)) ((k02.trans k3).newer hp') upd_same
    rw [hL k, hm k, List.length_map, List.take_length]
end

/-! ### data that are compared: _law_same of equal data -/
mutual
inductive Has (H : Hp) : V → PyData → Prop
  | non : Has H .non .none
  | bl (b : Bool) : Has H (.bl b) (.bool b)
  | int (i : Int) : Has H (.int i) (.int i)
  | str (x : Str) : Has H (.str x) (.str x)
  | lst {a : Addr} {xs : List V} {ds : List PyData} : H a = some (.lst xs) → HasAll H xs ds → Has H (.ref a) (.list ds)
  | tup {a : Addr} {xs : List V} {ds : List PyData} : H a = some (.tup xs) → HasAll H xs ds → Has H (.ref a) (.tuple ds)
inductive HasAll (H : Hp) : List V → List PyData → Prop
  | nil : HasAll H [] []
  | cons {v : V} {vs : List V} {d : PyData} {ds : List PyData} : Has H v d → HasAll H vs ds → HasAll H (v :: vs) (d :: ds)
end
mutual
theorem Has.kp {H H' : Hp} (k : Kp [] H H') : ∀ (d : PyData) (v : V), Has H v d → Has H' v d
  | .none, _, h => by cases h; exact .non
  | .bool b, _, h => by cases h; exact .bl b
  | .int i, _, h => by cases h; exact .int i
  | .str x, _, h => by cases h; exact .str x
  | .list ds, _, h => by cases h with | lst e r => exact .lst (k.k _ _ e (by simp)) (HasAll.kp k ds _ r)
  | .tuple ds, _, h => by cases h with | tup e r => exact .tup (k.t _ _ e) (HasAll.kp k ds _ r)
  | .dict _, _, h => by cases h
theorem HasAll.kp {H H' : Hp} (k : Kp [] H H') : ∀ (ds : List PyData) (vs : List V), HasAll H vs ds → HasAll H' vs ds
  | [], _, h => by cases h; exact .nil
  | d :: ds, _, h => by cases h with | cons h1 h2 => exact .cons (Has.kp k d _ h1) (HasAll.kp k ds _ h2)
end
theorem HasAll.len {H : Hp} : ∀ {ds : List PyData} {vs : List V}, HasAll H vs ds → vs.length = ds.length
  | [], _, h => by cases h; rfl
  | d :: ds, _, h => by
    cases h with
    | cons h1 h2 =>
      rw [List.length_cons, List.length_cons, HasAll.len h2]
theorem HasAll.at {H : Hp} : ∀ {ds : List PyData} {vs : List V} {i : Nat}, HasAll H vs ds → i < ds.length → ∃ v d, vs[i]? = some v ∧ ds[i]? = some d ∧ Has H v d
  | [], _, _, _, h => absurd h (Nat.not_lt_zero _)
  | d :: ds, _, 0, h, _ => by
    cases h with
    | cons h1 h2 => exact ⟨_, d, rfl, rfl, h1⟩
  | d :: ds, _, i + 1, h, l => by
    cases h with
    | cons h1 h2 =>
      obtain ⟨v, d', e1, e2, e3⟩ := HasAll.at (i := i) h2 (by simpa using l)
      exact ⟨v, d', e1, e2, e3⟩
-- how deep, how long
mutual
def fitsD : Nat → PyData → Prop
  | _, .none => True
  | _, .bool _ => True
  | _, .int _ => True
  | _, .str _ => True
  | 0, .list _ => False
  | 0, .tuple _ => False
  | n + 1, .list ds => ds.length ≤ 1000 ∧ fitsAll n ds
  | n + 1, .tuple ds => ds.length ≤ 1000 ∧ fitsAll n ds
  | _, .dict _ => False
def fitsAll : Nat → List PyData → Prop
  | _, [] => True
  | n, d :: ds => fitsD n d ∧ fitsAll n ds
end
theorem fitsAll_at : ∀ {n : Nat} {ds : List PyData} {i : Nat} {d : PyData}, fitsAll n ds → ds[i]? = some d → fitsD n d
  | _, [], _, _, _, h => by simp at h
  | n, x :: ds, 0, d, h, e => by
    cases e
    simp only [fitsAll] at h
    exact h.1
  | n, x :: ds, i + 1, d, h, e => by
    simp only [fitsAll] at h
    exact fitsAll_at h.2 (by simpa using e)
def spSame (n : Nat) : Sp := fun vs H Q _ => ∃ (x y : V) (d : PyData) (m : Nat), vs = [x, y] ∧ Has H x d ∧ Has H y d ∧ fitsD m d ∧ m < n ∧ ∀ H', Kp [] H H' → Q (.bl true) H'
structure TSame (mg : Str → Option Value) : Prop where
  n_isinstance : mg "isinstance" = none
  n_list : mg "list" = none
  n_tuple : mg "tuple" = none
  n_bool : mg "bool" = none
  n_str : mg "str" = none
  n_int : mg "int" = none
  n_len : mg "len" = none
  n_all : mg "all" = none
  n_range : mg "range" = none
theorem kitAny2 {K : PySem.W.Frag} {t c1 c2 : Value} {b1 b2 : Bool} (h1 : PySem.W.kitOne K t c1 = some b1) (h2 : PySem.W.kitOne K t c2 = some b2) : PySem.W.kitAny K t [c1, c2] = some (b1 || b2) := by
  unfold PySem.W.kitAny
  rw [h1]
  cases b1 with
  | true => rfl
  | false =>
    dsimp only
    unfold PySem.W.kitAny
    rw [h2]
    cases b2 <;> rfl
theorem all_true (n : Nat) : (List.replicate n true).all id = true := by simp
section
variable {P : Program} {w : World} {K : PySem.W.Frag} {mg : Str → Option Value} {base : Heap}
theorem same_step {n : Nat} (D : GD K mg "_law_same" sD_Lsame ["actual", "due"]) (T : TSame mg) (c_Lsame : Cal P w K mg base n "_law_same" (spSame n) []) : Cal P w K mg base (n + 1) "_law_same" (spSame (n + 1)) [] := by
  refine D.cal sc_Lsame (fun vs H Q E h => ?_) (fun f cdv A outer s0 H vs Q E hr h => ?_)
  · obtain ⟨x, y, d, m, rfl, _⟩ := h
    rfl
  obtain ⟨x, y, d, m, rfl, hx, hy, hf, hm, q⟩ := h
  refine ⟨_, (pss_cons (ps_if (pt_val (pe_callB call_isiT (by rfl) T.n_isinstance (by decide +kernel) (pa_cons (pv 1) (pa_cons (pe_tup (pa_cons (pe_bltn (v := .ty "list") (by rfl) T.n_list (by decide +kernel) rfl) (pa_cons (pe_bltn (v := .ty "tuple") (by rfl) T.n_tuple (by decide +kernel) rfl) pa_nil))) pa_nil)))) (pss_cons (ps_if (PW.pt (pw_or (pt_cmpR op_ne (pe_callB call_isi (by rfl) T.n_isinstance (by decide +kernel) (pa_cons (pv 1) (pa_cons (pe_bltn (v := .ty "list") (by rfl) T.n_list (by decide +kernel) rfl) pa_nil))) (pe_callB call_isi (by rfl) T.n_isinstance (by decide +kernel) (pa_cons (pv 0) (pa_cons (pe_bltn (v := .ty "list") (by rfl) T.n_list (by decide +kernel) rfl) pa_nil))) (nomark _)) (pw_or1 (pt_cmpR op_ne (pe_callB call_isi (by rfl) T.n_isinstance (by decide +kernel) (pa_cons (pv 1) (pa_cons (pe_bltn (v := .ty "tuple") (by rfl) T.n_tuple (by decide +kernel) rfl) pa_nil))) (pe_callB call_isi (by rfl) T.n_isinstance (by decide +kernel) (pa_cons (pv 0) (pa_cons (pe_bltn (v := .ty "tuple") (by rfl) T.n_tuple (by decide +kernel) rfl) pa_nil))) (nomark _))))) (pss_one (ps_ret pe_bl)) pss_nil)
    (pss_cons (ps_if (pt_cmpR op_ne (pe_callB call_len_seq (by rfl) T.n_len (by decide +kernel) (pa_cons (pv 0) pa_nil)) (pe_callB call_len_seq (by rfl) T.n_len (by decide +kernel) (pa_cons (pv 1) pa_nil)) (nomark _)) (pss_one (ps_ret pe_bl)) pss_nil)
    (pss_one (ps_ret (pe_callB (cr_all rfl) (by rfl) T.n_all (by decide +kernel) (pa_cons (pe_lc (own := [("k", 2)]) (g := gName 2) (tt := tYes) rfl sc_Lsame.nd (pi_range1 (by rfl) T.n_range (pa_cons (pe_callB call_len_seq (by rfl) T.n_len (by decide +kernel) (pa_cons (pv 1) pa_nil)) pa_nil)) (blkOk_by (own := [("k", 2)]) (N := ["actual", "due", "k"]) (sc := defScope sD_Lsame) (by decide +kernel)) (fun _ _ _ _ _ => (pg_name (i := 2) sc_Lsame.nd rfl (Or.inl rfl))) (fun _ _ _ _ _ => pts_nil) (fun _ _ _ _ _ => (pe_c c_Lsame hr (by omega) rfl (pa_cons (bx_seq (K := K) rfl (pv 0) (pv 2) (fun _ _ => rfl)) (pa_cons (bx_seq (K := K) rfl (pv 1) (pv 2) (fun _ _ => rfl)) pa_nil))))) pa_nil)))))) pss_nil)
    (pss_cons (ps_if (pt_cmp (pc_isN (pv 1))) (pss_one (ps_ret (pe_cmp (pc_isN (pv 0)) rfl))) pss_nil)
    (pss_cons (ps_if (pt_cmpR op_ne (pe_callB call_isi (by rfl) T.n_isinstance (by decide +kernel) (pa_cons (pv 1) (pa_cons (pe_bltn (v := .ty "bool") (by rfl) T.n_bool (by decide +kernel) rfl) pa_nil))) (pe_callB call_isi (by rfl) T.n_isinstance (by decide +kernel) (pa_cons (pv 0) (pa_cons (pe_bltn (v := .ty "bool") (by rfl) T.n_bool (by decide +kernel) rfl) pa_nil))) (nomark _)) (pss_one (ps_ret pe_bl)) pss_nil)
    (pss_cons (ps_if (pt_val (pe_callB call_isi (by rfl) T.n_isinstance (by decide +kernel) (pa_cons (pv 1) (pa_cons (pe_bltn (v := .ty "str") (by rfl) T.n_str (by decide +kernel) rfl) pa_nil)))) (pss_one (ps_ret (pe_and (pe_callB call_isi (by rfl) T.n_isinstance (by decide +kernel) (pa_cons (pv 0) (pa_cons (pe_bltn (v := .ty "str") (by rfl) T.n_str (by decide +kernel) rfl) pa_nil))) (pe_one (pe_cmpR op_eq (pv 0) (pv 1) (nomark _)))))) pss_nil)
    (pss_one (ps_ret (pe_and (pe_callB call_isi (by rfl) T.n_isinstance (by decide +kernel) (pa_cons (pv 0) (pa_cons (pe_bltn (v := .ty "int") (by rfl) T.n_int (by decide +kernel) rfl) pa_nil))) (pe_one (pe_cmpR op_eq (pv 0) (pv 1) (nomark _)))))))))), ?_⟩
  have b2 : (2 : Nat) ≤ sizeLine := by decide
  have kit : ∀ {a b : String} {r : Bool}, kitB a b = some r → PySem.W.kitOne K (.type a) (.type b) = some r := fun h => kit_ty h
  have cls2 : Paired ClsV [.ty "list", .ty "tuple"] [Value.type "list", Value.type "tuple"] := .cons (.ty _) (.cons (.ty _) .nil)
  -- a list or a tuple: its parts
  have parts : ∀ {xs ys : List V} {ds : List PyData} {a a' : Addr} {H1 : Hp} {D' : Ends} , True := fun {_ _ _ _ _ _ _} => True.intro
  cases d with
  | none =>
    cases hx
    cases hy
    refine ⟨_, rfl, b2, fun tp htp => ⟨_, tp, _, _, _, _, rfl, upd_same, cls2, .base .non, kitAny2 (kit (r := false) (by decide +kernel)) (kit (r := false) (by decide +kernel)), _, rfl, ?_⟩⟩
    refine iteF ?_
    refine ⟨_, rfl, _, rfl, iteT ?_⟩
    exact ⟨_, rfl, q _ (.new htp)⟩
  | bool b =>
    cases hx
    cases hy
    refine ⟨_, rfl, b2, fun tp htp => ⟨_, tp, _, _, _, _, rfl, upd_same, cls2, .base (.bl b), kitAny2 (kit (r := false) (by decide +kernel)) (kit (r := false) (by decide +kernel)), _, rfl, ?_⟩⟩
    refine iteF ?_
    refine ⟨_, rfl, _, rfl, iteF ?_⟩
    refine ⟨_, rfl, _, _, _, _, _, rfl, .ty _, .base (.bl b), kit (r := true) (by decide +kernel), _, rfl, _, _, _, _, _, rfl, .ty _, .base (.bl b), kit (r := true) (by decide +kernel), rfl, _, rfl, ?_⟩
    refine iteF ?_
    refine ⟨_, rfl, _, _, _, _, _, rfl, .ty _, .base (.bl b), kit (r := false) (by decide +kernel), _, rfl, iteF ?_⟩
    refine ⟨_, rfl, _, _, _, _, _, rfl, .ty _, .base (.bl b), kit (r := true) (by decide +kernel), _, rfl, iteT ?_⟩
    refine ⟨_, rfl, _, rfl, rfl, ?_⟩
    have e : decide (V.bl b = V.bl b) = true := decide_eq_true rfl
    rw [e]
    exact q _ (.new htp)
  | int i =>
    cases hx
    cases hy
    refine ⟨_, rfl, b2, fun tp htp => ⟨_, tp, _, _, _, _, rfl, upd_same, cls2, .base (.int i), kitAny2 (kit (r := false) (by decide +kernel)) (kit (r := false) (by decide +kernel)), _, rfl, ?_⟩⟩
    refine iteF ?_
    refine ⟨_, rfl, _, rfl, iteF ?_⟩
    refine ⟨_, rfl, _, _, _, _, _, rfl, .ty _, .base (.int i), kit (r := false) (by decide +kernel), _, rfl, _, _, _, _, _, rfl, .ty _, .base (.int i), kit (r := false) (by decide +kernel), rfl, _, rfl, ?_⟩
    refine iteF ?_
    refine ⟨_, rfl, _, _, _, _, _, rfl, .ty _, .base (.int i), kit (r := false) (by decide +kernel), _, rfl, iteF ?_⟩
    refine ⟨_, rfl, _, _, _, _, _, rfl, .ty _, .base (.int i), kit (r := true) (by decide +kernel), _, rfl, iteT ?_⟩
    refine ⟨_, rfl, _, rfl, rfl, ?_⟩
    have e : decide (V.int i = V.int i) = true := decide_eq_true rfl
    rw [e]
    exact q _ (.new htp)
  | str z =>
    cases hx
    cases hy
    refine ⟨_, rfl, b2, fun tp htp => ⟨_, tp, _, _, _, _, rfl, upd_same, cls2, .base (.str z), kitAny2 (kit (r := false) (by decide +kernel)) (kit (r := false) (by decide +kernel)), _, rfl, ?_⟩⟩
    refine iteF ?_
    refine ⟨_, rfl, _, rfl, iteF ?_⟩
    refine ⟨_, rfl, _, _, _, _, _, rfl, .ty _, .base (.str z), kit (r := false) (by decide +kernel), _, rfl, _, _, _, _, _, rfl, .ty _, .base (.str z), kit (r := false) (by decide +kernel), rfl, _, rfl, ?_⟩
    refine iteF ?_
    refine ⟨_, rfl, _, _, _, _, _, rfl, .ty _, .base (.str z), kit (r := true) (by decide +kernel), _, rfl, iteT ?_⟩
    refine ⟨_, rfl, _, _, _, _, _, rfl, .ty _, .base (.str z), kit (r := true) (by decide +kernel), _, rfl, iteT ?_⟩
    refine ⟨_, rfl, _, rfl, rfl, ?_⟩
    have e : decide (V.str z = V.str z) = true := decide_eq_true rfl
    rw [e]
    exact q _ (.new htp)
  | dict _ => cases hx
  | list ds =>
    cases m with
    | zero => simp only [fitsD] at hf
    | succ m =>
    simp only [fitsD] at hf
    obtain ⟨hl, hfa⟩ := hf
    cases hx with
    | @lst a xs _ ea ra =>
    cases hy with
    | @lst a' ys _ eb rb =>
    have lx := ra.len
    have ly := rb.len
    refine ⟨_, rfl, b2, fun tp htp => ⟨_, tp, _, _, _, _, rfl, upd_same, cls2, .base (.lst (by rw [upd_ne (ne_of_none eb htp)]; exact eb)), kitAny2 (kit (r := true) (by decide +kernel)) (kit (r := false) (by decide +kernel)), _, rfl, ?_⟩⟩
    obtain ⟨H1, hH1⟩ : ∃ H1, upd H tp (.tup [.ty "list", .ty "tuple"]) = H1 := ⟨_, rfl⟩
    have k1 : Kp [] H H1 := by rw [← hH1]; exact .new htp
    rw [hH1]
    have ea1 := k1.k _ _ ea (by simp)
    have eb1 := k1.k _ _ eb (by simp)
    refine iteT ?_
    refine ⟨_, rfl, _, _, _, _, _, rfl, .ty _, .base (.lst eb1), kit (r := true) (by decide +kernel), _, rfl, _, _, _, _, _, rfl, .ty _, .base (.lst ea1), kit (r := true) (by decide +kernel), rfl, _, rfl, ?_⟩
    refine iteF ?_
    refine ⟨_, rfl, _, _, _, _, _, rfl, .ty _, .base (.lst eb1), kit (r := false) (by decide +kernel), _, rfl, _, _, _, _, _, rfl, .ty _, .base (.lst ea1), kit (r := false) (by decide +kernel), rfl, _, rfl, ?_⟩
    refine iteF ?_
    refine ⟨_, rfl, a, _, rfl, .inl (SqL.of ea1), _, rfl, a', _, rfl, .inl (SqL.of eb1), rfl, _, rfl, ?_⟩
    refine iteNS (by rw [lx, ly]) ?_
    have e0 : ((ys.length : Int)).toNat = ds.length := by omega
    refine ⟨_, rfl, a', _, rfl, .inl (SqL.of eb1), _, rfl, by omega, by omega, ?_⟩
    rw [e0]
    refine fun L hL => lc_range (lo := 0) (n := ds.length) (fun i H' => Kp [] H1 H' ∧ H' L = some (.lst ((List.replicate i true).map V.bl))) ⟨.new hL, upd_same⟩ (fun i H' hi p => ?_) (fun H' p => ?_)
    · obtain ⟨k2, hL2⟩ := p
      obtain ⟨v, d, e1, e2, e3⟩ := ra.at hi
      obtain ⟨v', d', e1', e2', e3'⟩ := rb.at hi
      rw [e2] at e2'
      cases e2'
      have k02 := k1.trans k2
      refine ⟨rfl, _, rfl, _, rfl, .inl ⟨a, _, _, _, rfl, rfl, SqL.of (k02.k _ _ ea (by simp)), at_of (by omega) e1, _, rfl, _, rfl, .inl ⟨a', _, _, _, rfl, rfl, SqL.of (k02.k _ _ eb (by simp)), at_of (by omega) e1', ?_⟩⟩⟩
      refine ⟨v, v', d, m, rfl, e3.kp k02, e3'.kp k02, fitsAll_at hfa e2, by omega, fun H3 k3 => ⟨_, k3.k _ _ hL2 (by simp), ?_, (k2.trans k3).mt hL, ?_⟩⟩
      · rw [List.length_map, List.length_replicate]
        exact small1000 (by omega)
      · rw [upd_same, List.replicate_succ', List.map_append]
        rfl
    · exact ⟨L, _, rfl, SqL.of p.2, by rw [all_true]; exact q _ (k1.trans p.1)⟩
  | tuple ds =>
    cases m with
    | zero => simp only [fitsD] at hf
    | succ m =>
    simp only [fitsD] at hf
    obtain ⟨hl, hfa⟩ := hf
    cases hx with
    | @tup a xs _ ea ra =>
    cases hy with
    | @tup a' ys _ eb rb =>
    have lx := ra.len
    have ly := rb.len
    refine ⟨_, rfl, b2, fun tp htp => ⟨_, tp, _, _, _, _, rfl, upd_same, cls2, .base (.tup (by rw [upd_ne (ne_of_none eb htp)]; exact eb)), kitAny2 (kit (r := false) (by decide +kernel)) (kit (r := true) (by decide +kernel)), _, rfl, ?_⟩⟩
    obtain ⟨H1, hH1⟩ : ∃ H1, upd H tp (.tup [.ty "list", .ty "tuple"]) = H1 := ⟨_, rfl⟩
    have k1 : Kp [] H H1 := by rw [← hH1]; exact .new htp
    rw [hH1]
    have ea1 := k1.t _ _ ea
    have eb1 := k1.t _ _ eb
    refine iteT ?_
    refine ⟨_, rfl, _, _, _, _, _, rfl, .ty _, .base (.tup eb1), kit (r := false) (by decide +kernel), _, rfl, _, _, _, _, _, rfl, .ty _, .base (.tup ea1), kit (r := false) (by decide +kernel), rfl, _, rfl, ?_⟩
    refine iteF ?_
    refine ⟨_, rfl, _, _, _, _, _, rfl, .ty _, .base (.tup eb1), kit (r := true) (by decide +kernel), _, rfl, _, _, _, _, _, rfl, .ty _, .base (.tup ea1), kit (r := true) (by decide +kernel), rfl, _, rfl, ?_⟩
    refine iteF ?_
    refine ⟨_, rfl, a, _, rfl, .inr (SqT.of ea1), _, rfl, a', _, rfl, .inr (SqT.of eb1), rfl, _, rfl, ?_⟩
    refine iteNS (by rw [lx, ly]) ?_
    have e0 : ((ys.length : Int)).toNat = ds.length := by omega
    refine ⟨_, rfl, a', _, rfl, .inr (SqT.of eb1), _, rfl, by omega, by omega, ?_⟩
    rw [e0]
    refine fun L hL => lc_range (lo := 0) (n := ds.length) (fun i H' => Kp [] H1 H' ∧ H' L = some (.lst ((List.replicate i true).map V.bl))) ⟨.new hL, upd_same⟩ (fun i H' hi p => ?_) (fun H' p => ?_)
    · obtain ⟨k2, hL2⟩ := p
      obtain ⟨v, d, e1, e2, e3⟩ := ra.at hi
      obtain ⟨v', d', e1', e2', e3'⟩ := rb.at hi
      rw [e2] at e2'
      cases e2'
      have k02 := k1.trans k2
      refine ⟨rfl, _, rfl, _, rfl, .inr ⟨a, _, _, _, rfl, rfl, SqT.of (k02.t _ _ ea), at_of (by omega) e1, _, rfl, _, rfl, .inr ⟨a', _, _, _, rfl, rfl, SqT.of (k02.t _ _ eb), at_of (by omega) e1', ?_⟩⟩⟩
      refine ⟨v, v', d, m, rfl, e3.kp k02, e3'.kp k02, fitsAll_at hfa e2, by omega, fun H3 k3 => ⟨_, k3.k _ _ hL2 (by simp), ?_, (k2.trans k3).mt hL, ?_⟩⟩
      · rw [List.length_map, List.length_replicate]
        exact small1000 (by omega)
      · rw [upd_same, List.replicate_succ', List.map_append]
        rfl
    · exact ⟨L, _, rfl, SqL.of p.2, by rw [all_true]; exact q _ (k1.trans p.1)⟩
theorem ok_same (D : GD K mg "_law_same" sD_Lsame ["actual", "due"]) (T : TSame mg) : ∀ n, Cal P w K mg base n "_law_same" (spSame n) []
  | 0 => by
    have no : ∀ vs H Q E, ¬ spSame 0 vs H Q E := fun vs H Q E h => by
      obtain ⟨x, y, d, m, _, _, _, _, h, _⟩ := h
      omega
    obtain ⟨f, fd, F, hm, hb⟩ := D
    exact ⟨f, fd, _, [], ⟨fun vs H Q E h => absurd h (no vs H Q E), fun A outer s H args us vs Q E _ _ _ _ h => absurd h (no vs H Q E)⟩, hm, F.kp, hb, .nil⟩
  | n + 1 => same_step D T (ok_same D T n)
end

/-! ### the law's own draws: entries, a condition as a tree -/
inductive Tr where
  | con (b : Bool) | there (e : Int) | not (t : Tr) | bin (fm : Form) (a b : Tr)
def Tr.ev : Tr → (Int → Bool) → Bool
  | .con b, _ => b
  | .there e, f => f e
  | .not t, f => !t.ev f
  | .bin fm a b, f => fm.op (a.ev f) (b.ev f)
def Tr.In (E : List Int) : Tr → Prop
  | .con _ => True
  | .there e => e ∈ E
  | .not t => t.In E
  | .bin _ a b => a.In E ∧ b.In E
def Tr.depth : Tr → Nat
  | .con _ => 0
  | .there _ => 0
  | .not t => t.depth + 1
  | .bin _ a b => Nat.max a.depth b.depth + 1
def Tr.size : Tr → Nat
  | .con _ => 1
  | .there _ => 1
  | .not t => t.size + 1
  | .bin _ a b => a.size + b.size + 1
theorem Tr.size_le : ∀ t : Tr, t.size + 1 ≤ 2 ^ (t.depth + 1)
  | .con _ => by show 1 + 1 ≤ 2 ^ 1; decide
  | .there _ => by show 1 + 1 ≤ 2 ^ 1; decide
  | .not t => by
    have := t.size_le
    show t.size + 1 + 1 ≤ 2 ^ (t.depth + 1 + 1)
    rw [Nat.pow_succ]
    have := pow2_pos t.depth
    omega
  | .bin _ a b => by
    have h1 := a.size_le
    have h2 := b.size_le
    show a.size + b.size + 1 + 1 ≤ 2 ^ (Nat.max a.depth b.depth + 1 + 1)
    have m1 : 2 ^ (a.depth + 1) ≤ 2 ^ (Nat.max a.depth b.depth + 1) := Nat.pow_le_pow_right (by omega) (Nat.succ_le_succ (Nat.le_max_left _ _))
    have m2 : 2 ^ (b.depth + 1) ≤ 2 ^ (Nat.max a.depth b.depth + 1) := Nat.pow_le_pow_right (by omega) (Nat.succ_le_succ (Nat.le_max_right _ _))
    rw [Nat.pow_succ (m := Nat.max a.depth b.depth + 1)]
    omega
theorem Tr.congr {E : List Int} {f g : Int → Bool} (h : ∀ e ∈ E, f e = g e) : ∀ t : Tr, t.In E → t.ev f = t.ev g
  | .con _, _ => rfl
  | .there e, i => h e i
  | .not t, i => by
    show (!t.ev f) = (!t.ev g)
    rw [Tr.congr h t i]
  | .bin fm a b, ⟨i, j⟩ => by
    show fm.op (a.ev f) (b.ev f) = fm.op (a.ev g) (b.ev g)
    rw [Tr.congr h a i, Tr.congr h b j]
/-- the tree as nested tuples at r -/
def TreeAt (H : Hp) : Tr → Addr → Prop
  | .con b, r => H r = some (.tup [.str "constant", .int (if b then 1 else 0)])
  | .there e, r => H r = some (.tup [.str "there", .int e])
  | .not t, r => ∃ a, H r = some (.tup [.str "not", .ref a]) ∧ TreeAt H t a
  | .bin fm t u, r => ∃ a b, H r = some (.tup [.str fm.str, .ref a, .ref b]) ∧ TreeAt H t a ∧ TreeAt H u b
theorem TreeAt.kp {M : List Addr} {H H' : Hp} (k : Kp M H H') : ∀ (t : Tr) (r : Addr), TreeAt H t r → TreeAt H' t r
  | .con _, _, h => k.t _ _ h
  | .there _, _, h => k.t _ _ h
  | .not t, _, ⟨a, h, i⟩ => ⟨a, k.t _ _ h, TreeAt.kp k t a i⟩
  | .bin _ t u, _, ⟨a, b, h, i, j⟩ => ⟨a, b, k.t _ _ h, TreeAt.kp k t a i, TreeAt.kp k u b j⟩
theorem Drw.put {d sc p : Addr} {H : Hp} {o : HO} (D : Drw d sc H) (h1 : d ≠ p) (h2 : sc ≠ p) : Drw d sc (upd H p o) := by
  obtain ⟨ns, a, b, z, e1, e2, r⟩ := D
  exact ⟨ns, a, b, z, by rw [upd_ne h1]; exact e1, by rw [upd_ne h2]; exact e2, r⟩
theorem Drw.step {d sc : Addr} {H : Hp} {o : HO} (D : Drw d sc H) : Kp [d] H (upd H d o) := by
  obtain ⟨ns, a, b, z, e1, e2, r⟩ := D
  exact .put (by simp) e1 (fun xs e => by cases e)
theorem Drw.ne_new {d sc p : Addr} {H : Hp} (D : Drw d sc H) (h : H p = none) : d ≠ p ∧ sc ≠ p := by
  obtain ⟨ns, a, b, z, e1, e2, r⟩ := D
  exact ⟨ne_of_none e1 h, ne_of_none e2 h⟩
theorem Drw.dsc {d sc : Addr} {H : Hp} (D : Drw d sc H) : d ≠ sc := by
  obtain ⟨ns, a, b, z, e1, e2, p, q, r, ne⟩ := D
  exact ne
/-- entries: rising, few, small -/
structure Ent (E : List Int) (m : Nat) : Prop where
  up : E.Pairwise (· < ·)
  ne : E ≠ []
  len : E.length ≤ m
  lo : ∀ e ∈ E, 0 ≤ e ∧ e ≤ 1000
theorem Ent.nd {E : List Int} {m : Nat} (h : Ent E m) : E.Nodup := h.up.imp fun h e => by omega
def spEntries : Sp := fun vs H Q _ => ∃ (d sc : Addr) (m : Nat), vs = [.ref d, .int m] ∧ 1 ≤ m ∧ m ≤ 8 ∧ Drw d sc H ∧
  ∀ (E : List Int) (ea : Addr) (H' : Hp), Ent E m → H ea = none → Kp [d] H H' → Drw d sc H' → H' ea = some (.lst (E.map V.int)) → Q (.ref ea) H'
def spTree (n : Nat) : Sp := fun vs H Q _ => ∃ (d sc ea : Addr) (E : List Int) (dep : Nat), vs = [.ref d, .ref ea, .int dep] ∧ dep + 2 ≤ n ∧ Drw d sc H ∧ H ea = some (.lst (E.map V.int)) ∧ E ≠ [] ∧ E.length ≤ 1000 ∧ ea ≠ d ∧
  ∀ (t : Tr) (r : Addr) (H' : Hp), t.depth ≤ dep → t.In E → TreeAt H' t r → Kp [d] H H' → Drw d sc H' → Q (.ref r) H'
def spBuild (C : Addr) (n : Nat) : Sp := fun vs H Q _ => ∃ (E : List Int) (s : SA) (ns : List Node) (b : Nat) (t : Tr) (r : Addr), vs = [.ref s.p, .ref r] ∧ StoAt C E s H ns b ∧ TreeAt H t r ∧ t.In E ∧ t.depth + 33 ≤ n ∧
  E.length ≤ 8 ∧ b + 512 * t.size ≤ 1000000 ∧
  ∀ (H' : Hp) (ns' : List Node) (c : Nat), Kp s.M H H' → StoAt C E s H' ns' (b + 512 * t.size) → Pre ns ns' → c < ns'.length + 2 → (∀ f, ev ns' f c = t.ev f) → Q (.int c) H'
def spTrue (K : PySem.W.Frag) (n : Nat) : Sp := fun vs H Q _ => ∃ (t : Tr) (r a : Addr) (L : List Int), vs = [.ref r, .ref a] ∧ TreeAt H t r ∧ SqL K H a (L.map V.int) ∧ t.depth + 1 ≤ n ∧ Q (.bl (t.ev fun e => decide (e ∈ L))) H
theorem inV_ints (e : Int) (L : List Int) : inV (.int e) (L.map V.int) = decide (e ∈ L) := by
  unfold inV
  rw [List.any_map]
  induction L with
  | nil => simp
  | cons a r ih =>
    rw [List.any_cons, ih]
    show ((a == e) || decide (e ∈ r)) = decide (e ∈ a :: r)
    by_cases h : a = e
    · subst h; simp
    · have h' : ¬ e = a := fun z => h z.symm
      rw [beq_eq_false_iff_ne.mpr h, Bool.false_or]
      by_cases m : e ∈ r
      · rw [decide_eq_true m, decide_eq_true (List.mem_cons_of_mem _ m)]
      · rw [decide_eq_false m, decide_eq_false fun z => (List.mem_cons.mp z).elim h' m]
theorem flat_ints (L : List Int) : (L.map V.int).all flatV = true := by
  rw [List.all_map, List.all_eq_true]
  intro x _
  rfl
theorem dS {a b : Str} (h : a ≠ b) : decide (V.str a = V.str b) = false := decide_eq_false fun e => h (V.str.inj e)
theorem dSs (a : Str) : decide (V.str a = V.str a) = true := decide_eq_true rfl
structure TLaw (mg : Str → Option Value) : Prop where
  n_len : mg "len" = none
  n_range : mg "range" = none
  n_abs : mg "abs" = none
section
variable {P : Program} {w : World} {K : PySem.W.Frag} {mg : Str → Option Value} {base : Heap} {C : Addr}
theorem ok_entries (D : GD K mg "_law_entries" sD_Lentries ["draw", "most"]) (T : TLaw mg) (c_Lnext : Cal P w K mg base 1 "_law_next" spNext []) : Cal P w K mg base 2 "_law_entries" spEntries [] := by
  refine D.cal sc_Lentries (fun vs H Q E h => ?_) (fun f cdv A outer s0 H vs Q E hr h => ?_)
  · obtain ⟨d, sc, m, rfl, _⟩ := h
    rfl
  obtain ⟨d, sc, m, rfl, m1, m8, dr, q⟩ := h
  refine ⟨_, (pss_cons (ps_set (i := 2) sc_Lentries.nd rfl (Or.inl rfl) (pe_lst pa_nil))
    (pss_cons (ps_set (i := 3) sc_Lentries.nd rfl (Or.inl rfl) (pe_c c_Lnext hr (by omega) rfl (pa_cons (pv 0) (pa_cons pe_int pa_nil))))
    (pss_cons (ps_for PassesOwn.never rfl (pi_range1 (by rfl) T.n_range (pa_cons (pe_op op_add pe_int (pe_c c_Lnext hr (by omega) rfl (pa_cons (pv 0) (pa_cons (pv 1) pa_nil)))) pa_nil)) (pg_name (i := 4) sc_Lentries.nd rfl (Or.inl rfl)) (pss_cons (ps_expr (pe_bm PySem.F.plainAttrs_list PySem.F.slot_list_append PySem.F.type_list_append mt_append (pv 2) (pa_cons (pv 3) pa_nil)))
    (pss_one (ps_set (i := 3) sc_Lentries.nd rfl (Or.inl rfl) (pe_op op_add (pe_op op_add (pv 3) pe_int) (pe_op op_mul (pe_c c_Lnext hr (by omega) rfl (pa_cons (pv 0) (pa_cons pe_int pa_nil))) (pe_c c_Lnext hr (by omega) rfl (pa_cons (pv 0) (pa_cons pe_int pa_nil)))))))))
    (pss_one (ps_ret (pv 2)))))), ?_⟩
  refine ⟨(by show 0 ≤ sizeLine; decide), fun ea hea => ?_⟩
  obtain ⟨n1, n2⟩ := dr.ne_new hea
  have dr1 := dr.put (o := .lst []) n1 n2
  refine ⟨_, rfl, d, sc, 3, rfl, by decide, by decide, dr1, fun z o z0 z3 no dr2 => ?_⟩
  obtain ⟨H1, hH1⟩ : ∃ H1, upd (upd H ea (.lst [])) d o = H1 := ⟨_, rfl⟩
  have k1 : Kp [d] H H1 := by rw [← hH1]; exact (Kp.new hea).trans dr1.step
  have e1 : H1 ea = some (.lst ([].map V.int)) := by rw [← hH1, upd_ne n1.symm, upd_same]; rfl
  rw [hH1] at dr2 ⊢
  refine ⟨_, rfl, _, rfl, d, sc, m, rfl, by omega, by omega, dr2, fun r o' r0 rm no' dr3 => ?_⟩
  refine ⟨_, _, rfl, rfl, 1 + r, rfl, by omega, by omega, ?_⟩
  refine for_range (lo := 0) (n := (1 + r).toNat) (fun i σ H' => ∃ (L : List Int) (z : Int) (v : Option V), σ = [some (.ref d), some (.int m), some (.ref ea), some (.int z), v] ∧ Drw d sc H' ∧ Kp [d] H H' ∧ H' ea = some (.lst (L.map V.int)) ∧
    L.length = i ∧ L.Pairwise (· < ·) ∧ (∀ e ∈ L, 0 ≤ e ∧ e < z ∧ e ≤ 1000) ∧ 0 ≤ z ∧ z ≤ 2 + 90 * (i : Int)) ⟨[], z, none, rfl, dr3, k1.trans dr2.step, by rw [upd_ne n1.symm]; exact e1, rfl, List.Pairwise.nil, fun e h => (by cases h), z0, by omega⟩ (fun i σ H' hi p => ?_) (fun σ H' p => ?_)
  · obtain ⟨L, z, v, rfl, dr4, k4, e4, hl, up, lo, z0, zb⟩ := p
    have hsz : (L.map V.int).length < sizeLine := by rw [List.length_map]; exact small1000 (by omega)
    refine ⟨_, rfl, .inl ⟨rfl, _, SqL.of e4⟩, _, rfl, ea, _, _, rfl, rfl, e4, hsz, ?_⟩
    have em : L.map V.int ++ [V.int z] = (L ++ [z]).map V.int := by rw [List.map_append]; rfl
    rw [em]
    have dr5 := dr4.put (o := .lst ((L ++ [z]).map V.int)) n1 n2
    refine ⟨_, rfl, _, _, rfl, rfl, _, rfl, d, sc, 2, rfl, by decide, by decide, dr5, fun a o5 a0 a2 no5 dr6 => ?_⟩
    refine ⟨_, rfl, d, sc, 90, rfl, by decide, by decide, dr6, fun b o6 b0 b2 no6 dr7 => ?_⟩
    have hab : 0 ≤ a * b ∧ a * b ≤ 89 := by
      have : a = 0 ∨ a = 1 := by omega
      rcases this with rfl | rfl <;> omega
    refine ⟨_, _, rfl, rfl, .inl ⟨by omega, by omega⟩, _, _, rfl, rfl, ?_⟩
    generalize a * b = ab at hab
    refine ⟨L ++ [z], z + 1 + ab, _, rfl, dr7, ((k4.mt hea).trans dr5.step).trans dr6.step, by rw [upd_ne n1.symm, upd_ne n1.symm, upd_same], by rw [List.length_append, List.length_singleton, hl], ?_, fun e he => ?_, by omega, by omega⟩
    · exact List.pairwise_append.mpr ⟨up, List.pairwise_singleton _ _, fun x hx y hy => by rw [List.mem_singleton.mp hy]; exact (lo x hx).2.1⟩
    · rcases List.mem_append.mp he with h | h
      · have := lo e h; omega
      · rw [List.mem_singleton.mp h]; omega
  · obtain ⟨L, z, v, rfl, dr4, k4, e4, hl, up, lo, z0, zb⟩ := p
    refine ⟨_, rfl, q L ea H' ⟨up, fun e => ?_, by omega, fun e he => ⟨(lo e he).1, (lo e he).2.2⟩⟩ hea k4 dr4 e4⟩
    rw [e, List.length_nil] at hl
    omega
theorem tree_step {n : Nat} (D : GD K mg "_law_tree" sD_Ltree ["draw", "entries", "depth"]) (T : TLaw mg) (c_Lnext : Cal P w K mg base 1 "_law_next" spNext []) (c_Ltree : Cal P w K mg base n "_law_tree" (spTree n) []) :
    Cal P w K mg base (n + 1) "_law_tree" (spTree (n + 1)) [] := by
  refine D.cal sc_Ltree (fun vs H Q E h => ?_) (fun f cdv A outer s0 H vs Q E hr h => ?_)
  · obtain ⟨d, sc, ea, E, dep, rfl, _⟩ := h
    rfl
  obtain ⟨d, sc, ea, E, dep, rfl, hn, dr, he, hne, hlen, ned, q⟩ := h
  have hn1 : 1 ≤ n := by omega
  refine ⟨_, (pss_cons (ps_set (i := 3) sc_Ltree.nd rfl (Or.inl rfl) (pe_c c_Lnext hr (by omega) rfl (pa_cons (pv 0) (pa_cons pe_int pa_nil))))
    (pss_cons (ps_if (PW.pt (pw_or (pt_cmpR op_eq (pv 2) pe_int (nomark _)) (pw_or1 (pt_cmpR op_lt (pv 3) pe_int (nomark _))))) (pss_cons (ps_if (pt_cmpR op_eq (pe_c c_Lnext hr (by omega) rfl (pa_cons (pv 0) (pa_cons pe_int pa_nil))) pe_int (nomark _)) (pss_one (ps_ret (pe_tup (pa_cons pe_str (pa_cons (pe_c c_Lnext hr (by omega) rfl (pa_cons (pv 0) (pa_cons pe_int pa_nil))) pa_nil))))) pss_nil)
    (pss_one (ps_ret (pe_tup (pa_cons pe_str (pa_cons (pe_ix ix_list (pv 1) (pe_c c_Lnext hr (by omega) rfl (pa_cons (pv 0) (pa_cons (pe_callB call_len_seq (by rfl) T.n_len (by decide +kernel) (pa_cons (pv 1) pa_nil)) pa_nil))) (fun _ _ => rfl)) pa_nil)))))) pss_nil)
    (pss_cons (ps_if (pt_cmpR op_eq (pv 3) pe_int (nomark _)) (pss_one (ps_ret (pe_tup (pa_cons pe_str (pa_cons (pe_c c_Ltree hr (by omega) rfl (pa_cons (pv 0) (pa_cons (pv 1) (pa_cons (pe_op op_sub (pv 2) pe_int) pa_nil)))) pa_nil))))) pss_nil)
    (pss_cons (ps_set (i := 4) sc_Ltree.nd rfl (Or.inl rfl) (pe_c c_Ltree hr (by omega) rfl (pa_cons (pv 0) (pa_cons (pv 1) (pa_cons (pe_op op_sub (pv 2) pe_int) pa_nil)))))
    (pss_one (ps_ret (pe_tup (pa_cons (pe_ix ix_list (pe_lst (pa_cons pe_str (pa_cons pe_str (pa_cons pe_str pa_nil)))) (pe_op op_mod (pv 3) pe_int) (fun _ _ => rfl)) (pa_cons (pv 4) (pa_cons (pe_c c_Ltree hr (by omega) rfl (pa_cons (pv 0) (pa_cons (pv 1) (pa_cons (pe_op op_sub (pv 2) pe_int) pa_nil)))) pa_nil)))))))))), ?_⟩
  have e2 : (2 : Nat) ≤ sizeLine := by decide
  have e3 : (3 : Nat) ≤ sizeLine := by decide
  have hl0 : 0 < E.length := List.length_pos_iff.mpr hne
  refine ⟨_, rfl, d, sc, 9, rfl, by decide, by decide, dr, fun fm o f0 f9 no dr1 => ?_⟩
  obtain ⟨H1, hH1⟩ : ∃ H1, upd H d o = H1 := ⟨_, rfl⟩
  have k1 : Kp [d] H H1 := by rw [← hH1]; exact dr.step
  have he1 : H1 ea = some (.lst (E.map V.int)) := by rw [← hH1, upd_ne ned]; exact he
  rw [hH1] at dr1 ⊢
  refine ⟨_, rfl, rfl, _, rfl, ?_⟩
  refine ite2 (fun c => iteT ?g1) (fun c => ?g0)
  case' g0 =>
    refine ⟨_, rfl, _, _, rfl, rfl, _, rfl, ?_⟩
    refine ite2 (fun c2 => ?g2) (fun c2 => ?g3)
  case g1 | g2 =>
    refine ⟨_, rfl, d, sc, 12, rfl, by decide, by decide, dr1, fun a o1 a0 a1 no1 dr2 => ⟨rfl, _, rfl, ?_⟩⟩
    have k2 : Kp [d] H (upd H1 d o1) := k1.trans dr1.step
    refine ite2 (fun c3 => ?_) (fun c3 => ?_)
    · refine ⟨_, rfl, d, sc, 2, rfl, by decide, by decide, dr2, fun b o2 b0 b1 no2 dr3 => ⟨e2, fun p hp => ?_⟩⟩
      obtain ⟨x1, x2⟩ := dr3.ne_new hp
      refine q (.con (decide (b = 1))) p _ (Nat.zero_le _) True.intro ?_ ((k2.trans dr2.step).newer hp) (dr3.put x1 x2)
      show upd _ p _ p = _
      rw [upd_same]
      have : b = 0 ∨ b = 1 := by omega
      rcases this with rfl | rfl <;> rfl
    · have he2 : (upd H1 d o1) ea = some (.lst (E.map V.int)) := by rw [upd_ne ned]; exact he1
      have el : (((E.map V.int).length : Nat) : Int) = (E.length : Int) := by rw [List.length_map]
      refine ⟨_, rfl, _, rfl, _, rfl, ea, _, rfl, .inl (SqL.of he2), d, sc, (E.length : Int), (by rw [el]; rfl), by omega, by omega, dr2, fun b o2 b0 b1 no2 dr3 => ?_⟩
      have hi : b.toNat < E.length := by omega
      have he3 : (upd (upd H1 d o1) d o2) ea = some (.lst (E.map V.int)) := by rw [upd_ne ned]; exact he2
      refine ⟨ea, _, _, _, rfl, rfl, SqL.of he3, at_of (j := b.toNat) (by omega) (by rw [List.getElem?_map, List.getElem?_eq_getElem hi]; rfl), e2, fun p hp => ?_⟩
      obtain ⟨x1, x2⟩ := dr3.ne_new hp
      exact q (.there E[b.toNat]) p _ (Nat.zero_le _) (List.getElem_mem hi) upd_same ((k2.trans dr2.step).newer hp) (dr3.put x1 x2)
  case g3 =>
    have hd : dep ≠ 0 := fun e => nI c (by rw [e]; rfl)
    have h2 : ¬ fm < 2 := fun z => c2 (decide_eq_true z)
    have edp : (dep : Int) - 1 = ((dep - 1 : Nat) : Int) := by omega
    have eargs : ([V.ref d, V.ref ea, V.int ((dep : Int) - 1)] : List V) = [V.ref d, V.ref ea, V.int ((dep - 1 : Nat) : Int)] := by rw [edp]
    refine ⟨_, rfl, rfl, _, rfl, ?_⟩
    refine ite2 (fun c3 => ?_) (fun c3 => ?_)
    · refine ⟨_, rfl, _, rfl, _, rfl, _, _, rfl, rfl, d, sc, ea, E, dep - 1, eargs, by omega, dr1, he1, hne, hlen, ned, fun t r H2 td ti ta k2 dr2 => ⟨e2, fun p hp => ?_⟩⟩
      obtain ⟨x1, x2⟩ := dr2.ne_new hp
      refine q (.not t) p _ (by show t.depth + 1 ≤ dep; omega) ti ⟨r, upd_same, TreeAt.kp (Kp.new (M := []) hp) t r ta⟩ ((k1.trans k2).newer hp) (dr2.put x1 x2)
    · refine ⟨_, rfl, _, rfl, _, rfl, _, _, rfl, rfl, d, sc, ea, E, dep - 1, eargs, by omega, dr1, he1, hne, hlen, ned, fun t r H2 td ti ta k2 dr2 => ?_⟩
      refine ⟨e3, fun l hl => ?_⟩
      obtain ⟨x1, x2⟩ := dr2.ne_new hl
      have dr3 := dr2.put (o := .lst [.str "and", .str "or", .str "differ"]) x1 x2
      obtain ⟨H3, hH3⟩ : ∃ H3, upd H2 l (.lst [.str "and", .str "or", .str "differ"]) = H3 := ⟨_, rfl⟩
      have k3 : Kp [d] H H3 := by rw [← hH3]; exact (k1.trans k2).newer hl
      have hl3 : H3 l = some (.lst [.str "and", .str "or", .str "differ"]) := by rw [← hH3]; exact upd_same
      have he3 : H3 ea = some (.lst (E.map V.int)) := k3.k _ _ he (by simpa using ned)
      have ta3 : TreeAt H3 t r := by rw [← hH3]; exact TreeAt.kp (Kp.new (M := []) hl) t r ta
      rw [hH3] at dr3 ⊢
      obtain ⟨form, hform⟩ : ∃ form : Form, atI ([.str "and", .str "or", .str "differ"] : List V) (fm % 3) = some (.str form.str) := by
        have : fm % 3 = 0 ∨ fm % 3 = 1 ∨ fm % 3 = 2 := by omega
        rcases this with e | e | e
        · exact ⟨.and, by rw [e]; rfl⟩
        · exact ⟨.or, by rw [e]; rfl⟩
        · exact ⟨.differ, by rw [e]; rfl⟩
      refine ⟨_, rfl, _, _, rfl, rfl, (by show (0 : Int) < 3; decide), l, _, _, _, rfl, rfl, SqL.of hl3, hform, _, rfl, ?_⟩
      refine ⟨_, rfl, _, rfl, _, rfl, _, _, rfl, rfl, d, sc, ea, E, dep - 1, eargs, by omega, dr3, he3, hne, hlen, ned, fun u r' H4 ud ui ua k4 dr4 => ⟨e3, fun p hp => ?_⟩⟩
      obtain ⟨y1, y2⟩ := dr4.ne_new hp
      exact q (.bin form t u) p _ (by show Nat.max t.depth u.depth + 1 ≤ dep; have hmx : Nat.max t.depth u.depth ≤ dep - 1 := Nat.max_le.mpr ⟨td, ud⟩; omega) ⟨ti, ui⟩ ⟨r, r', upd_same, TreeAt.kp (k4.trans (Kp.new hp)) t r ta3, TreeAt.kp (Kp.new (M := []) hp) u r' ua⟩ ((k3.trans k4).newer hp) (dr4.put y1 y2)
theorem ok_tree (D : GD K mg "_law_tree" sD_Ltree ["draw", "entries", "depth"]) (T : TLaw mg) (c_Lnext : Cal P w K mg base 1 "_law_next" spNext []) : ∀ n, Cal P w K mg base n "_law_tree" (spTree n) []
  | 0 => by
    have no : ∀ vs H Q E, ¬ spTree 0 vs H Q E := fun vs H Q E h => by
      obtain ⟨d, sc, ea, E, dep, _, h, _⟩ := h
      omega
    obtain ⟨f, fd, F, hm, hb⟩ := D
    exact ⟨f, fd, _, [], ⟨fun vs H Q E h => absurd h (no vs H Q E), fun A outer s H args us vs Q E _ _ _ _ h => absurd h (no vs H Q E)⟩, hm, F.kp, hb, .nil⟩
  | n + 1 => tree_step D T c_Lnext (ok_tree D T c_Lnext n)
theorem build_step {n : Nat} (D : GD K mg "_law_build" sD_Lbuild ["store", "tree"]) (m_there : Met P w K mg base 2 C "there" (spThere C) []) (m_negation : Met P w K mg base 32 C "negation" (spNeg C) [])
    (m_conjunction : Met P w K mg base 31 C "conjunction" (spOp C .and) []) (m_disjunction : Met P w K mg base 31 C "disjunction" (spOp C .or) []) (m_differs : Met P w K mg base 31 C "differs" (spOp C .differ) [])
    (c_Lbuild : Cal P w K mg base n "_law_build" (spBuild C n) []) : Cal P w K mg base (n + 1) "_law_build" (spBuild C (n + 1)) [] := by
  refine D.cal sc_Lbuild (fun vs H Q E h => ?_) (fun f cdv A outer s0 H vs Q E hr h => ?_)
  · obtain ⟨E, s, ns, b, t, r, rfl, _⟩ := h
    rfl
  obtain ⟨E, s, ns, b, t, r, rfl, S, ta, ti, hn, hE, hb, q⟩ := h
  have hn1 : 32 ≤ n := by omega
  refine ⟨_, (pss_cons (ps_if (pt_cmpR op_eq (pe_ix ix_tup (pv 1) pe_int (fun _ _ => rfl)) pe_str (nomark _)) (pss_one (ps_ret (pe_ix ix_tup (pv 1) pe_int (fun _ _ => rfl)))) pss_nil)
    (pss_cons (ps_if (pt_cmpR op_eq (pe_ix ix_tup (pv 1) pe_int (fun _ _ => rfl)) pe_str (nomark _)) (pss_one (ps_ret (pe_mt m_there hr (by omega) (pv 0) (pa_cons (pe_ix ix_tup (pv 1) pe_int (fun _ _ => rfl)) pa_nil)))) pss_nil)
    (pss_cons (ps_set (i := 2) sc_Lbuild.nd rfl (Or.inl rfl) (pe_c c_Lbuild hr (by omega) rfl (pa_cons (pv 0) (pa_cons (pe_ix ix_tup (pv 1) pe_int (fun _ _ => rfl)) pa_nil))))
    (pss_cons (ps_if (pt_cmpR op_eq (pe_ix ix_tup (pv 1) pe_int (fun _ _ => rfl)) pe_str (nomark _)) (pss_one (ps_ret (pe_mt m_negation hr (by omega) (pv 0) (pa_cons (pv 2) pa_nil)))) pss_nil)
    (pss_cons (ps_set (i := 3) sc_Lbuild.nd rfl (Or.inl rfl) (pe_c c_Lbuild hr (by omega) rfl (pa_cons (pv 0) (pa_cons (pe_ix ix_tup (pv 1) pe_int (fun _ _ => rfl)) pa_nil))))
    (pss_cons (ps_if (pt_cmpR op_eq (pe_ix ix_tup (pv 1) pe_int (fun _ _ => rfl)) pe_str (nomark _)) (pss_one (ps_ret (pe_mt m_conjunction hr (by omega) (pv 0) (pa_cons (pv 2) (pa_cons (pv 3) pa_nil))))) pss_nil)
    (pss_one (ps_ret (pe_ifExp (pt_cmpR op_eq (pe_ix ix_tup (pv 1) pe_int (fun _ _ => rfl)) pe_str (nomark _)) (pe_mt m_disjunction hr (by omega) (pv 0) (pa_cons (pv 2) (pa_cons (pv 3) pa_nil))) (pe_mt m_differs hr (by omega) (pv 0) (pa_cons (pv 2) (pa_cons (pv 3) pa_nil)))))))))))), ?_⟩
  have mth : ∀ {m : Str}, ¬ m = "_results" → ¬ m = "_numbers" → ¬ m = "_nodes" → (sf s.l s.d1 s.d2).lookup m = none := fun h1 h2 h3 => sf_no _ _ _ h1 h2 h3
  cases t with
  | con v =>
    have ta : H r = some (.tup [.str "constant", .int (if v then 1 else 0)]) := ta
    refine ⟨_, rfl, r, _, _, _, rfl, rfl, SqT.of ta, rfl, rfl, _, rfl, ?_⟩
    rw [dSs]
    refine iteT ⟨_, rfl, r, _, _, _, rfl, rfl, SqT.of ta, rfl, ?_⟩
    cases v with
    | true => exact q H ns 1 .refl (S.mono (Nat.le_add_right _ _)) (.refl _) (by omega) fun f => ev_one ns f
    | false => exact q H ns 0 .refl (S.mono (Nat.le_add_right _ _)) (.refl _) (by omega) fun f => ev_zero ns f
  | there e =>
    have ta : H r = some (.tup [.str "there", .int e]) := ta
    have hb : b + 512 * 1 ≤ 1000000 := hb
    refine ⟨_, rfl, r, _, _, _, rfl, rfl, SqT.of ta, rfl, rfl, _, rfl, ?_⟩
    rw [dS (by decide +kernel)]
    refine iteF ⟨_, rfl, r, _, _, _, rfl, rfl, SqT.of ta, rfl, rfl, _, rfl, ?_⟩
    rw [dSs]
    refine iteT ⟨_, rfl, s.p, s.dx, _, rfl, S.ob, mth (by decide +kernel) (by decide +kernel) (by decide +kernel), _, rfl, r, _, _, _, rfl, rfl, SqT.of ta, rfl, E, s, ns, b, e, rfl, S, ti, by omega, fun H' ns' c k S' p hc hv => ?_⟩
    exact q H' ns' c k (S'.mono (by show b + 1 ≤ b + 512 * 1; omega)) p hc hv
  | not t =>
    obtain ⟨a, ta, tb⟩ := ta
    have hb : b + 512 * (t.size + 1) ≤ 1000000 := hb
    have hn : t.depth + 1 + 33 ≤ n + 1 := hn
    refine ⟨_, rfl, r, _, _, _, rfl, rfl, SqT.of ta, rfl, rfl, _, rfl, ?_⟩
    rw [dS (by decide +kernel)]
    refine iteF ⟨_, rfl, r, _, _, _, rfl, rfl, SqT.of ta, rfl, rfl, _, rfl, ?_⟩
    rw [dS (by decide +kernel)]
    refine iteF ⟨_, rfl, _, rfl, r, _, _, _, rfl, rfl, SqT.of ta, rfl, E, s, ns, b, t, a, rfl, S, tb, ti, by omega, hE, by omega, fun H1 ns1 c k1 S1 p1 hc hv => ?_⟩
    have ta1 := k1.t _ _ ta
    refine ⟨_, rfl, r, _, _, _, rfl, rfl, SqT.of ta1, rfl, rfl, _, rfl, ?_⟩
    rw [dSs]
    refine iteT ⟨_, rfl, s.p, s.dx, _, rfl, S1.ob, mth (by decide +kernel) (by decide +kernel) (by decide +kernel), _, rfl, E, s, ns1, _, c, rfl, S1, hc, hE, by omega, fun H2 ns2 r2 k2 S2 p2 g h2 => ?_⟩
    refine q H2 ns2 r2 (k1.trans k2) (S2.mono (by show _ ≤ b + 512 * (t.size + 1); omega)) (p1.trans p2) (g.2.2.1 E.length (.all g.1) (.all g.2.1)).1 fun f => ?_
    rw [h2 f, p2.ev S1.ok S2.ok f c hc, hv f]
    rfl
  | bin fm t u =>
    obtain ⟨a, a', ta, tb, tc⟩ := ta
    have hb : b + 512 * (t.size + u.size + 1) ≤ 1000000 := hb
    have hn : Nat.max t.depth u.depth + 1 + 33 ≤ n + 1 := hn
    have hm1 : t.depth ≤ Nat.max t.depth u.depth := Nat.le_max_left _ _
    have hm2 : u.depth ≤ Nat.max t.depth u.depth := Nat.le_max_right _ _
    have d0 : ∀ x : Form, decide (V.str x.str = V.str "constant") = false ∧ decide (V.str x.str = V.str "there") = false ∧ decide (V.str x.str = V.str "not") = false := fun x => by
      cases x <;> exact ⟨dS (by decide +kernel), dS (by decide +kernel), dS (by decide +kernel)⟩
    obtain ⟨d1, d2, d3⟩ := d0 fm
    refine ⟨_, rfl, r, _, _, _, rfl, rfl, SqT.of ta, rfl, rfl, _, rfl, ?_⟩
    rw [d1]
    refine iteF ⟨_, rfl, r, _, _, _, rfl, rfl, SqT.of ta, rfl, rfl, _, rfl, ?_⟩
    rw [d2]
    refine iteF ⟨_, rfl, _, rfl, r, _, _, _, rfl, rfl, SqT.of ta, rfl, E, s, ns, b, t, a, rfl, S, tb, ti.1, by omega, hE, by omega, fun H1 ns1 c k1 S1 p1 hc hv => ?_⟩
    have ta1 := k1.t _ _ ta
    refine ⟨_, rfl, r, _, _, _, rfl, rfl, SqT.of ta1, rfl, rfl, _, rfl, ?_⟩
    rw [d3]
    refine iteF ⟨_, rfl, _, rfl, r, _, _, _, rfl, rfl, SqT.of ta1, rfl, E, s, ns1, _, u, a', rfl, S1, TreeAt.kp k1 u a' tc, ti.2, by omega, hE, by omega, fun H2 ns2 c2 k2 S2 p2 hc2 hv2 => ?_⟩
    have ta2 := k2.t _ _ ta1
    have hc' : c < ns2.length + 2 := by have := p2.len; omega
    have fin : ∀ (H3 : Hp) (ns3 : List Node) (r3 : Nat), Kp s.M H2 H3 → StoAt C E s H3 ns3 (b + 512 * t.size + 512 * u.size + 512) → Pre ns2 ns3 → Good E ns3 fm c c2 r3 → Q (.int r3) H3 := fun H3 ns3 r3 k3 S3 p3 g => by
      refine q H3 ns3 r3 ((k1.trans k2).trans k3) (S3.mono (by show _ ≤ b + 512 * (t.size + u.size + 1); omega)) ((p1.trans p2).trans p3) (g.2.2.1 E.length (.all g.1) (.all g.2.1)).1 fun f => ?_
      rw [g.2.2.2 f, p3.ev S2.ok S3.ok f c hc', p2.ev S1.ok S2.ok f c hc, hv f, p3.ev S2.ok S3.ok f c2 hc2, hv2 f]
      rfl
    refine ⟨_, rfl, r, _, _, _, rfl, rfl, SqT.of ta2, rfl, rfl, _, rfl, ?_⟩
    cases fm with
    | and =>
      rw [show decide (V.str Form.and.str = V.str "and") = true from dSs _]
      exact iteT ⟨_, rfl, s.p, s.dx, _, rfl, S2.ob, mth (by decide +kernel) (by decide +kernel) (by decide +kernel), _, rfl, _, rfl, E, s, ns2, _, c, c2, rfl, S2, hc', hc2, hE, by omega, fin⟩
    | or =>
      rw [show decide (V.str Form.or.str = V.str "and") = false from dS (by decide +kernel)]
      refine iteF ⟨_, rfl, r, _, _, _, rfl, rfl, SqT.of ta2, rfl, rfl, _, rfl, ?_⟩
      rw [show decide (V.str Form.or.str = V.str "or") = true from dSs _]
      exact iteT ⟨_, rfl, s.p, s.dx, _, rfl, S2.ob, mth (by decide +kernel) (by decide +kernel) (by decide +kernel), _, rfl, _, rfl, E, s, ns2, _, c, c2, rfl, S2, hc', hc2, hE, by omega, fin⟩
    | differ =>
      rw [show decide (V.str Form.differ.str = V.str "and") = false from dS (by decide +kernel)]
      refine iteF ⟨_, rfl, r, _, _, _, rfl, rfl, SqT.of ta2, rfl, rfl, _, rfl, ?_⟩
      rw [show decide (V.str Form.differ.str = V.str "or") = false from dS (by decide +kernel)]
      exact iteF ⟨_, rfl, s.p, s.dx, _, rfl, S2.ob, mth (by decide +kernel) (by decide +kernel) (by decide +kernel), _, rfl, _, rfl, E, s, ns2, _, c, c2, rfl, S2, hc', hc2, hE, by omega, fin⟩
theorem ok_build (D : GD K mg "_law_build" sD_Lbuild ["store", "tree"]) (m_there : Met P w K mg base 2 C "there" (spThere C) []) (m_negation : Met P w K mg base 32 C "negation" (spNeg C) [])
    (m_conjunction : Met P w K mg base 31 C "conjunction" (spOp C .and) []) (m_disjunction : Met P w K mg base 31 C "disjunction" (spOp C .or) []) (m_differs : Met P w K mg base 31 C "differs" (spOp C .differ) []) : ∀ n, Cal P w K mg base n "_law_build" (spBuild C n) []
  | 0 => by
    have no : ∀ vs H Q E, ¬ spBuild C 0 vs H Q E := fun vs H Q E h => by
      obtain ⟨E, s, ns, b, t, r, _, _, _, _, h, _⟩ := h
      omega
    obtain ⟨f, fd, F, hm, hb⟩ := D
    exact ⟨f, fd, _, [], ⟨fun vs H Q E h => absurd h (no vs H Q E), fun A outer s H args us vs Q E _ _ _ _ h => absurd h (no vs H Q E)⟩, hm, F.kp, hb, .nil⟩
  | n + 1 => build_step D m_there m_negation m_conjunction m_disjunction m_differs (ok_build D m_there m_negation m_conjunction m_disjunction m_differs n)
theorem true_step {n : Nat} (D : GD K mg "_law_true" sD_Ltrue ["tree", "present"]) (c_Ltrue : Cal P w K mg base n "_law_true" (spTrue K n) []) : Cal P w K mg base (n + 1) "_law_true" (spTrue K (n + 1)) [] := by
  refine D.cal sc_Ltrue (fun vs H Q E h => ?_) (fun f cdv A outer s0 H vs Q E hr h => ?_)
  · obtain ⟨t, r, a, L, rfl, _⟩ := h
    rfl
  obtain ⟨t, r, p, L, rfl, ta, hL, hn, q⟩ := h
  refine ⟨_, (pss_cons (ps_if (pt_cmpR op_eq (pe_ix ix_tup (pv 0) pe_int (fun _ _ => rfl)) pe_str (nomark _)) (pss_one (ps_ret (pe_cmpR op_eq (pe_ix ix_tup (pv 0) pe_int (fun _ _ => rfl)) pe_int (nomark _)))) pss_nil)
    (pss_cons (ps_if (pt_cmpR op_eq (pe_ix ix_tup (pv 0) pe_int (fun _ _ => rfl)) pe_str (nomark _)) (pss_one (ps_ret (pe_cmpR op_in_seq (pe_ix ix_tup (pv 0) pe_int (fun _ _ => rfl)) (pv 1) (by rfl)))) pss_nil)
    (pss_cons (ps_set (i := 2) sc_Ltrue.nd rfl (Or.inl rfl) (pe_c c_Ltrue hr (by omega) rfl (pa_cons (pe_ix ix_tup (pv 0) pe_int (fun _ _ => rfl)) (pa_cons (pv 1) pa_nil))))
    (pss_cons (ps_if (pt_cmpR op_eq (pe_ix ix_tup (pv 0) pe_int (fun _ _ => rfl)) pe_str (nomark _)) (pss_one (ps_ret (pe_not (pv 2)))) pss_nil)
    (pss_cons (ps_set (i := 3) sc_Ltrue.nd rfl (Or.inl rfl) (pe_c c_Ltrue hr (by omega) rfl (pa_cons (pe_ix ix_tup (pv 0) pe_int (fun _ _ => rfl)) (pa_cons (pv 1) pa_nil))))
    (pss_cons (ps_if (pt_cmpR op_eq (pe_ix ix_tup (pv 0) pe_int (fun _ _ => rfl)) pe_str (nomark _)) (pss_one (ps_ret (pe_and (pv 2) (pe_one (pv 3))))) pss_nil)
    (pss_one (ps_ret (pe_ifExp (pt_cmpR op_eq (pe_ix ix_tup (pv 0) pe_int (fun _ _ => rfl)) pe_str (nomark _)) (pe_or (pv 2) (pe_one (pv 3))) (pe_cmpR op_ne (pv 2) (pv 3) (nomark _))))))))))), ?_⟩
  cases t with
  | con v =>
    have ta : H r = some (.tup [.str "constant", .int (if v then 1 else 0)]) := ta
    refine ⟨_, rfl, r, _, _, _, rfl, rfl, SqT.of ta, rfl, rfl, _, rfl, ?_⟩
    rw [dSs]
    refine iteT ⟨_, rfl, r, _, _, _, rfl, rfl, SqT.of ta, rfl, rfl, ?_⟩
    cases v with
    | true => exact q
    | false => exact q
  | there e =>
    have ta : H r = some (.tup [.str "there", .int e]) := ta
    refine ⟨_, rfl, r, _, _, _, rfl, rfl, SqT.of ta, rfl, rfl, _, rfl, ?_⟩
    rw [dS (by decide +kernel)]
    refine iteF ⟨_, rfl, r, _, _, _, rfl, rfl, SqT.of ta, rfl, rfl, _, rfl, ?_⟩
    rw [dSs]
    refine iteT ⟨_, rfl, r, _, _, _, rfl, rfl, SqT.of ta, rfl, _, rfl, p, _, rfl, .inl hL, rfl, flat_ints L, ?_⟩
    rw [if_neg Bool.false_ne_true, inV_ints]
    exact q
  | not t =>
    obtain ⟨a, ta, tb⟩ := ta
    have hn : t.depth + 1 + 1 ≤ n + 1 := hn
    refine ⟨_, rfl, r, _, _, _, rfl, rfl, SqT.of ta, rfl, rfl, _, rfl, ?_⟩
    rw [dS (by decide +kernel)]
    refine iteF ⟨_, rfl, r, _, _, _, rfl, rfl, SqT.of ta, rfl, rfl, _, rfl, ?_⟩
    rw [dS (by decide +kernel)]
    refine iteF ⟨_, rfl, r, _, _, _, rfl, rfl, SqT.of ta, rfl, _, rfl, t, a, p, L, rfl, tb, hL, by omega, ?_⟩
    refine ⟨_, rfl, r, _, _, _, rfl, rfl, SqT.of ta, rfl, rfl, _, rfl, ?_⟩
    rw [dSs]
    exact iteT ⟨_, rfl, _, rfl, q⟩
  | bin fm t u =>
    obtain ⟨a, a', ta, tb, tc⟩ := ta
    have hn : Nat.max t.depth u.depth + 1 + 1 ≤ n + 1 := hn
    have hm1 : t.depth ≤ Nat.max t.depth u.depth := Nat.le_max_left _ _
    have hm2 : u.depth ≤ Nat.max t.depth u.depth := Nat.le_max_right _ _
    have d0 : ∀ x : Form, decide (V.str x.str = V.str "constant") = false ∧ decide (V.str x.str = V.str "there") = false ∧ decide (V.str x.str = V.str "not") = false := fun x => by
      cases x <;> exact ⟨dS (by decide +kernel), dS (by decide +kernel), dS (by decide +kernel)⟩
    obtain ⟨d1, d2, d3⟩ := d0 fm
    refine ⟨_, rfl, r, _, _, _, rfl, rfl, SqT.of ta, rfl, rfl, _, rfl, ?_⟩
    rw [d1]
    refine iteF ⟨_, rfl, r, _, _, _, rfl, rfl, SqT.of ta, rfl, rfl, _, rfl, ?_⟩
    rw [d2]
    refine iteF ⟨_, rfl, r, _, _, _, rfl, rfl, SqT.of ta, rfl, _, rfl, t, a, p, L, rfl, tb, hL, by omega, ?_⟩
    refine ⟨_, rfl, r, _, _, _, rfl, rfl, SqT.of ta, rfl, rfl, _, rfl, ?_⟩
    rw [d3]
    refine iteF ⟨_, rfl, r, _, _, _, rfl, rfl, SqT.of ta, rfl, _, rfl, u, a', p, L, rfl, tc, hL, by omega, ?_⟩
    refine ⟨_, rfl, r, _, _, _, rfl, rfl, SqT.of ta, rfl, rfl, _, rfl, ?_⟩
    have q : Q (.bl (fm.op (t.ev fun e => decide (e ∈ L)) (u.ev fun e => decide (e ∈ L)))) H := q
    generalize (t.ev fun e => decide (e ∈ L)) = x at q ⊢
    generalize (u.ev fun e => decide (e ∈ L)) = y at q ⊢
    cases fm with
    | and =>
      rw [show decide (V.str Form.and.str = V.str "and") = true from dSs _]
      refine iteT ⟨_, rfl, _, rfl, ?_⟩
      cases x with
      | true => exact iteT ⟨_, rfl, q⟩
      | false => exact iteF q
    | or =>
      rw [show decide (V.str Form.or.str = V.str "and") = false from dS (by decide +kernel)]
      refine iteF ⟨_, rfl, r, _, _, _, rfl, rfl, SqT.of ta, rfl, rfl, _, rfl, ?_⟩
      rw [show decide (V.str Form.or.str = V.str "or") = true from dSs _]
      refine iteT ⟨_, rfl, _, rfl, ?_⟩
      cases x with
      | true => exact iteT q
      | false => exact iteF ⟨_, rfl, q⟩
    | differ =>
      rw [show decide (V.str Form.differ.str = V.str "and") = false from dS (by decide +kernel)]
      refine iteF ⟨_, rfl, r, _, _, _, rfl, rfl, SqT.of ta, rfl, rfl, _, rfl, ?_⟩
      rw [show decide (V.str Form.differ.str = V.str "or") = false from dS (by decide +kernel)]
      refine iteF ⟨_, rfl, _, rfl, rfl, ?_⟩
      cases x <;> cases y <;> exact q
theorem ok_true (D : GD K mg "_law_true" sD_Ltrue ["tree", "present"]) : ∀ n, Cal P w K mg base n "_law_true" (spTrue K n) []
  | 0 => by
    have no : ∀ vs H Q E, ¬ spTrue K 0 vs H Q E := fun vs H Q E h => by
      obtain ⟨t, r, a, L, _, _, _, h, _⟩ := h
      omega
    obtain ⟨f, fd, F, hm, hb⟩ := D
    exact ⟨f, fd, _, [], ⟨fun vs H Q E h => absurd h (no vs H Q E), fun A outer s H args us vs Q E _ _ _ _ h => absurd h (no vs H Q E)⟩, hm, F.kp, hb, .nil⟩
  | n + 1 => true_step D (ok_true D n)
end

/-! ### all subsets, fractions -/
def subs (E : List Int) : List (List Int) := E.foldl (fun acc e => acc ++ acc.map fun p => p ++ [e]) [[]]
theorem subs_snoc (E : List Int) (e : Int) : subs (E ++ [e]) = subs E ++ (subs E).map fun p => p ++ [e] := by
  unfold subs
  rw [List.foldl_append]
  rfl
theorem snoc_ind {α : Type} {P : List α → Prop} (h0 : P []) (h1 : ∀ l a, P l → P (l ++ [a])) : ∀ l, P l := by
  intro l
  rw [← List.reverse_reverse l]
  induction l.reverse with
  | nil => exact h0
  | cons a r ih =>
    rw [List.reverse_cons]
    exact h1 _ a ih
theorem subs_len (E : List Int) : (subs E).length = 2 ^ E.length := by
  induction E using snoc_ind with
  | h0 => rfl
  | h1 E e ih =>
    rw [subs_snoc, List.length_append, List.length_map, ih, List.length_append, List.length_singleton, Nat.pow_succ]
    omega
theorem subs_mem {E p : List Int} (h : p ∈ subs E) : ∀ x ∈ p, x ∈ E := by
  induction E using snoc_ind generalizing p with
  | h0 =>
    intro x hx
    have : p = [] := by simpa [subs] using h
    rw [this] at hx
    cases hx
  | h1 E e ih =>
    rw [subs_snoc] at h
    intro x hx
    rcases List.mem_append.mp h with m | m
    · exact List.mem_append_left _ (ih m x hx)
    · obtain ⟨p', hp', rfl⟩ := List.mem_map.mp m
      rcases List.mem_append.mp hx with m | m
      · exact List.mem_append_left _ (ih hp' x m)
      · exact List.mem_append_right _ m
theorem subs_short {E p : List Int} (h : p ∈ subs E) : p.length ≤ E.length := by
  induction E using snoc_ind generalizing p with
  | h0 =>
    have : p = [] := by simpa [subs] using h
    rw [this]
    exact Nat.le_refl _
  | h1 E e ih =>
    rw [subs_snoc] at h
    rw [List.length_append, List.length_singleton]
    rcases List.mem_append.mp h with m | m
    · have := ih m; omega
    · obtain ⟨p', hp', rfl⟩ := List.mem_map.mp m
      have := ih hp'
      rw [List.length_append, List.length_singleton]
      omega
/-- lists of ints at the places of a list -/
def LstsAt (H : Hp) (r : Addr) (LL : List (List Int)) : Prop :=
  ∃ as : List Addr, H r = some (.lst (as.map V.ref)) ∧ as.length = LL.length ∧ ∀ (i : Nat) (a : Addr) (l : List Int), as[i]? = some a → LL[i]? = some l → H a = some (.lst (l.map V.int))
theorem LstsAt.kp {H H' : Hp} {r : Addr} {LL : List (List Int)} (h : LstsAt H r LL) (k : Kp [] H H') : LstsAt H' r LL := by
  obtain ⟨as, h1, h2, h3⟩ := h
  exact ⟨as, k.k _ _ h1 (by simp), h2, fun i a l x y => k.k _ _ (h3 i a l x y) (by simp)⟩
def spSubsets (K : PySem.W.Frag) : Sp := fun vs H Q _ => ∃ (a : Addr) (E : List Int), vs = [.ref a] ∧ SqL K H a (E.map V.int) ∧ E.length ≤ 8 ∧
  ∀ (r : Addr) (H' : Hp), H r = none → Kp [] H H' → LstsAt H' r (subs E) → Q (.ref r) H'
def spCommon : Sp := fun vs H Q _ => ∃ (a b : Int), vs = [.int a, .int b] ∧ 0 ≤ a ∧ 0 ≤ b ∧ a < 2 ^ 60 ∧ b < 2 ^ 60 ∧ Q (.int (Int.gcd a b : Int)) H
/-- in lowest terms -/
def low (n d : Int) : List V := [.int (n / (Int.gcd n d : Int)), .int (d / (Int.gcd n d : Int))]
def spLowest : Sp := fun vs H Q _ => ∃ (a b : Int), vs = [.int a, .int b] ∧ 0 < b ∧ a.natAbs < 2 ^ 60 ∧ b < 2 ^ 60 ∧ ∀ p, H p = none → Q (.ref p) (upd H p (.tup (low a b)))
def spPower : Sp := fun vs H Q _ => ∃ (a : Int) (n : Nat), vs = [.int a, .int n] ∧ 0 ≤ a ∧ a ≤ 1000 ∧ n ≤ 1000 ∧ Q (.int (a ^ n)) H
structure TFrac (mg : Str → Option Value) : Prop where
  n_range : mg "range" = none
  n_abs : mg "abs" = none
  n_len : mg "len" = none
  g_gcd : mg "gcd" = some (.builtin "math.gcd")
theorem gcd_turn {a b : Int} : Int.gcd b (a - b * (a / b)) = Int.gcd a b := by
  rw [Int.gcd_sub_mul_left_right, Int.gcd_comm]
section
variable {P : Program} {w : World} {K : PySem.W.Frag} {mg : Str → Option Value} {base : Heap}
theorem ok_subsets (D : GD K mg "_law_subsets" sD_Lsubsets ["entries"]) : Cal P w K mg base 1 "_law_subsets" (spSubsets K) [] := by
  refine D.cal sc_Lsubsets (fun vs H Q E h => ?_) (fun f cdv A outer s0 H vs Q E hr h => ?_)
  · obtain ⟨a, E, rfl, _⟩ := h
    rfl
  obtain ⟨a, E, rfl, hS, hE, q⟩ := h
  refine ⟨_, (pss_cons (ps_set (i := 1) sc_Lsubsets.nd rfl (Or.inl rfl) (pe_lst (pa_cons (pe_lst pa_nil) pa_nil)))
    (pss_cons (ps_for PassesOwn.never rfl (pi_list (pv 0)) (pg_name (i := 2) sc_Lsubsets.nd rfl (Or.inr rfl)) (pss_one (ps_set (i := 1) sc_Lsubsets.nd rfl (Or.inl rfl) (pe_op op_cat (pv 1) (pe_lc (own := [("part", 3)]) (g := gName 3) (tt := tYes) rfl sc_Lsubsets.nd (pi_list (pv 1)) (blkOk_by (own := [("part", 3)]) (N := ["entries", "found", "entry", "part"]) (sc := defScope sD_Lsubsets) (by decide +kernel)) (fun _ _ _ _ _ => (pg_name (i := 3) sc_Lsubsets.nd rfl (Or.inl rfl))) (fun _ _ _ _ _ => pts_nil) (fun _ _ _ _ _ => (pe_op op_cat (pv 3) (pe_lst (pa_cons (pv 2) pa_nil)))))))))
    (pss_one (ps_ret (pv 1))))), ?_⟩
  refine ⟨(by show 0 ≤ sizeLine; decide), fun e0 he0 => ⟨(by show 1 ≤ sizeLine; decide), fun f0 hf0 => ?_⟩⟩
  have n0 : e0 ≠ f0 := ne_of_none upd_same hf0
  have k0 : Kp [] H (upd (upd H e0 (.lst [])) f0 (.lst [.ref e0])) := (Kp.new he0).newer hf0
  have hf0H : H f0 = none := by rw [upd_ne n0.symm] at hf0; exact hf0
  refine ⟨_, rfl, a, rfl, ⟨_, k0.toSame.seq hS⟩, for_list (K := K) (a := a) (xs := E.map V.int) (fun i σ H' => ∃ (f : Addr) (v : Option V), σ = [some (.ref a), some (.ref f), v, none] ∧ Kp [] H H' ∧ LstsAt H' f (subs (E.take i)) ∧ H f = none)
    ⟨f0, none, rfl, k0, ⟨[e0], upd_same, rfl, fun i a l x y => ?_⟩, hf0H⟩ (fun i σ H' _ ⟨f, v, _, k, _⟩ => k.toSame.seq hS) ?_ ?_⟩
  · cases i with
    | zero =>
      cases x
      cases y
      rw [upd_ne n0, upd_same]
      rfl
    | succ i => simp at x
  · rintro i x σ H1 hi ⟨f, v, rfl, k1, ⟨as, hf, hal, hls⟩, hfn⟩
    obtain ⟨e, he, rfl⟩ := mapAt hi
    have hiE : i < E.length := (List.getElem?_eq_some_iff.mp he).1
    have tk : E.take (i + 1) = E.take i ++ [e] := by rw [List.take_add_one, he]; rfl
    have hlen : (subs (E.take i)).length ≤ 256 := by
      rw [subs_len, List.length_take]
      exact Nat.le_trans (Nat.pow_le_pow_right (by omega) (show min i E.length ≤ 8 by omega)) (by decide)
    have hasl : as.length ≤ 256 := by omega
    refine ⟨_, rfl, _, rfl, f, rfl, ⟨_, SqL.of hf⟩, fun D hD => lc_list (K := K) (a := f) (xs := as.map V.ref) (fun j H2 => Kp [] H1 H2 ∧ ∃ bs : List Addr, H2 D = some (.lst (bs.map V.ref)) ∧ bs.length = j ∧
      ∀ (n : Nat) (b : Addr) (l : List Int), bs[n]? = some b → (subs (E.take i))[n]? = some l → H2 b = some (.lst ((l ++ [e]).map V.int)))
      ⟨.new hD, [], upd_same, rfl, fun n b l x => by simp at x⟩ (fun j H2 _ p => SqL.of (p.1.k _ _ hf (by simp))) (fun j x H2 hj p => ?_) (fun H2 p => ?_)⟩
    · obtain ⟨c, hc, rfl⟩ := mapAt hj
      obtain ⟨k2, bs, hD2, hbl, hbs⟩ := p
      have hjl : j < as.length := (List.getElem?_eq_some_iff.mp hc).1
      have hjs : j < (subs (E.take i)).length := by omega
      have hcl := k2.k _ _ (hls j c _ hc (List.getElem?_eq_getElem hjs)) (by simp)
      have hshort : ((subs (E.take i))[j]).length ≤ 8 := by
        have := subs_short (List.getElem_mem hjs)
        rw [List.length_take] at this
        omega
      refine ⟨rfl, _, rfl, _, rfl, (by show 1 ≤ sizeLine; decide), fun u hu => ?_⟩
      have ncu : c ≠ u := ne_of_none hcl hu
      refine ⟨c, u, _, _, rfl, rfl, (by rw [upd_ne ncu]; exact hcl), upd_same, small (by rw [List.length_map]; simp only [List.length_singleton]; omega), fun t ht => ?_⟩
      have nut : u ≠ t := ne_of_none upd_same ht
      have ht2 : H2 t = none := by rw [upd_ne nut.symm] at ht; exact ht
      have kt : Kp [] H2 (upd (upd H2 u (.lst [.int e])) t (.lst (((subs (E.take i))[j]).map V.int ++ [.int e]))) := (Kp.new hu).newer ht
      refine ⟨_, kt.k _ _ hD2 (by simp), by rw [List.length_map]; exact small1000 (by omega), (k2.trans kt).mt hD, bs ++ [t], by rw [upd_same, List.map_append]; rfl, by rw [List.length_append, List.length_singleton, hbl], fun n b l x y => ?_⟩
      have nD : ∀ {b : Addr}, H2 b = none ∨ H2 b ≠ H2 D → b ≠ D := fun h e' => by rw [e'] at h; rcases h with h | h; (rw [hD2] at h; cases h); exact h rfl
      by_cases hn : n < bs.length
      · rw [List.getElem?_append_left hn] at x
        have hb := hbs n b l x y
        by_cases e' : b = D
        · subst e'
          rw [hD2] at hb
          have hb' := HO.lst.inj (Option.some.inj hb)
          exfalso
          have hbm : bs.length = ((l ++ [e]).map V.int).length := by rw [← hb', List.length_map]
          have h0 : 0 < bs.length := by omega
          have hx0 : ((l ++ [e]).map V.int)[0]? = some (V.ref bs[0]) := by rw [← hb', List.getElem?_map, List.getElem?_eq_getElem h0]; rfl
          obtain ⟨z, _, hz⟩ := mapAt hx0
          cases hz
        · rw [upd_ne e']
          exact kt.k _ _ hb (by simp)
      · have hn2 := (List.getElem?_eq_some_iff.mp x).1
        rw [List.length_append, List.length_singleton] at hn2
        have en : n = bs.length := by omega
        subst en
        rw [List.getElem?_append_right (Nat.le_refl _), Nat.sub_self] at x
        cases x
        rw [upd_ne (nD (.inl ht2)), upd_same]
        rw [hbl, List.getElem?_eq_getElem hjs] at y
        cases y
        rw [List.map_append]
        rfl
    · obtain ⟨k2, bs, hD2, hbl, hbs⟩ := p
      rw [List.length_map] at hbl
      refine ⟨f, D, _, _, rfl, rfl, k2.k _ _ hf (by simp), hD2, small (by rw [List.length_map, List.length_map]; omega), fun g hg => ?_⟩
      have k3 : Kp [] H2 (upd H2 g (.lst (as.map V.ref ++ bs.map V.ref))) := .new hg
      refine ⟨g, _, rfl, (k1.trans k2).trans k3, ⟨as ++ bs, by rw [upd_same, List.map_append], ?_, fun n b l x y => ?_⟩, (k1.trans k2).free hg (by simp)⟩
      · rw [tk, subs_snoc, List.length_append, List.length_append, List.length_map]
        omega
      · rw [tk, subs_snoc] at y
        by_cases hn : n < as.length
        · rw [List.getElem?_append_left hn] at x
          rw [List.getElem?_append_left (by omega)] at y
          exact k3.k _ _ (k2.k _ _ (hls n b l x y) (by simp)) (by simp)
        · rw [List.getElem?_append_right (by omega)] at x
          rw [List.getElem?_append_right (by omega)] at y
          rw [List.getElem?_map] at y
          rw [← hal] at y
          cases el : (subs (E.take i))[n - as.length]? with
          | none => rw [el] at y; cases y
          | some l0 =>
            rw [el] at y
            cases y
            exact k3.k _ _ (hbs _ b l0 x el) (by simp)
  · rintro σ H1 ⟨f, v, rfl, k1, hL, hfn⟩
    rw [List.length_map, List.take_length] at hL
    exact ⟨_, rfl, q f H1 hfn k1 hL⟩
theorem ok_lowest (D : GD K mg "lowest" sD_lowest ["numerator", "denominator"]) (T : TFrac mg) : Cal P w K mg base 1 "lowest" spLowest [] := by
  refine D.cal sc_lowest (fun vs H Q E h => ?_) (fun f cdv A outer s0 H vs Q E hr h => ?_)
  · obtain ⟨a, b, rfl, _⟩ := h
    rfl
  obtain ⟨a, b, rfl, b0, ha, hb, q⟩ := h
  refine ⟨_, (pss_cons (ps_set (i := 2) sc_lowest.nd rfl (Or.inl rfl) (pe_callBfun cr_gcd rfl T.g_gcd (pa_cons (pv 0) (pa_cons (pv 1) pa_nil))))
    (pss_one (ps_ret (pe_tup (pa_cons (pe_op op_fdivW (pv 0) (pv 2)) (pa_cons (pe_op op_fdivW (pv 1) (pv 2)) pa_nil)))))), ?_⟩
  have g0 : (0 : Int) < (Int.gcd a b : Int) := by
    have : Int.gcd a b ≠ 0 := fun e => by
      have := (Int.gcd_eq_zero_iff.mp e).2
      omega
    omega
  have g1 : ((Int.gcd a b : Nat) : Int) ≤ b := by
    have := Int.gcd_le_natAbs_right a (show b ≠ 0 by omega)
    omega
  have cd : ∀ x : Int, CDivW x ((Int.gcd a b : Nat) : Int) := fun x => wide_div (b := 60) g0 (by omega) (by decide) (by decide)
  exact ⟨_, rfl, _, rfl, a, b, rfl, _, rfl, _, rfl, _, _, rfl, rfl, cd a, _, rfl, _, rfl, _, _, rfl, rfl, cd b, (by show 2 ≤ sizeLine; decide), fun p hp => q p hp⟩
theorem ok_common (D : GD K mg "_law_common" sD_Lcommon ["first", "second"]) (T : TFrac mg) : Cal P w K mg base 1 "_law_common" spCommon [] := by
  refine D.cal sc_Lcommon (fun vs H Q E h => ?_) (fun f cdv A outer s0 H vs Q E hr h => ?_)
  · obtain ⟨a, b, rfl, _⟩ := h
    rfl
  obtain ⟨a, b, rfl, a0, b0, ha, hb, q⟩ := h
  refine ⟨_, (pss_cons (ps_for PassesOwn.never rfl (pi_range1 (by rfl) T.n_range (pa_cons pe_int pa_nil)) (pg_name (i := 2) sc_Lcommon.nd rfl (Or.inl rfl)) (pss_cons (ps_if (pt_cmpR op_eq (pv 1) pe_int (nomark _)) (pss_one ps_break) pss_nil)
    (pss_cons (ps_set (i := 3) sc_Lcommon.nd rfl (Or.inl rfl) (pe_op op_fdivW (pv 0) (pv 1)))
    (pss_one (ps_par (i := 0) (j := 1) (by rfl) sc_Lcommon.nd rfl rfl (by decide) rfl rfl (pa_cons (pv 1) (pa_cons (pe_op op_sub (pv 0) (pe_op op_mul (pv 1) (pv 3))) pa_nil)) (by rfl))))))
    (pss_one (ps_ret (pv 0)))), ?_⟩
  refine ⟨_, rfl, by decide, by decide, ?_⟩
  have fin : ∀ (σ : L2.St) (x y : Int) (v2 v3 : Option V), σ = [some (.int x), some (.int y), v2, v3] → Int.gcd x y = Int.gcd a b → 0 ≤ x → y = 0 → tRet (tVar 0) { nx := fun _ H' => Q .non H', rt := Q } σ H := fun σ x y v2 v3 e1 e2 e3 e4 => by
    subst e1 e4
    rw [Int.gcd_zero_right] at e2
    refine ⟨_, rfl, ?_⟩
    have e5 : x = ((Int.gcd a b : Nat) : Int) := by rw [← e2]; omega
    rw [e5]
    exact q
  refine for_range (lo := 0) (n := 400) (fun i σ H' => ∃ (x y : Int) (v2 v3 : Option V), σ = [some (.int x), some (.int y), v2, v3] ∧ H' = H ∧ 0 ≤ x ∧ 0 ≤ y ∧ x < 2 ^ 60 ∧ y < 2 ^ 60 ∧ Int.gcd x y = Int.gcd a b ∧ (0 < i → y ≤ x) ∧ x * y * 2 ^ (i - 1) < 2 ^ 120)
    ⟨a, b, none, none, rfl, rfl, a0, b0, ha, hb, rfl, fun h => absurd h (by decide), ?_⟩ (fun i σ H' hi p => ?_) (fun σ H' p => ?_)
  · have h1 : a * b ≤ (2 ^ 60 - 1) * (2 ^ 60 - 1) := Int.mul_le_mul (by omega) (by omega) b0 (by decide)
    have e : (0 : Nat) - 1 = 0 := rfl
    rw [e, Int.pow_zero, Int.mul_one]
    exact Int.lt_of_le_of_lt h1 (by decide)
  · obtain ⟨x, y, v2, v3, rfl, rfl, x0, y0, xb, yb, hg, hxy, hp⟩ := p
    refine ⟨_, rfl, rfl, _, rfl, ?_⟩
    refine ite2 (fun c => ?_) (fun c => ?_)
    · exact fin _ x y _ _ rfl hg x0 (dI c)
    · have y1 : y ≠ 0 := nI c
      refine ⟨_, rfl, _, rfl, _, _, rfl, rfl, wide_div (b := 60) (by omega) (by omega) (by decide) (by decide), ?_⟩
      have hm0 := Int.emod_nonneg x y1
      have hm1 := Int.emod_lt_of_pos x (show 0 < y by omega)
      have em : x - y * (x / y) = x % y := by have := Int.mul_ediv_add_emod x y; omega
      refine ⟨_, rfl, _, rfl, _, rfl, _, rfl, _, _, rfl, rfl, .inl ⟨by omega, by omega⟩, _, _, rfl, rfl, _, _, rfl, ?_⟩
      refine ⟨y, x - y * (x / y), _, _, rfl, rfl, y0, by omega, yb, by omega, by rw [gcd_turn]; exact hg, fun _ => by omega, ?_⟩
      rw [em]
      -- the product falls by half
      have e1 : i + 1 - 1 = i := rfl
      rw [e1]
      cases i with
      | zero =>
        rw [Int.pow_zero, Int.mul_one]
        have h1 : y * (x % y) ≤ (2 ^ 60 - 1) * (2 ^ 60 - 1) := Int.mul_le_mul (by omega) (by omega) hm0 (by decide)
        exact Int.lt_of_le_of_lt h1 (by decide)
      | succ j =>
        have hyx := hxy (Nat.succ_pos j)
        have e2 : j + 1 - 1 = j := rfl
        rw [e2] at hp
        have half : 2 * (x % y) ≤ x := by
          have q1 : 1 ≤ x / y := Int.le_ediv_of_mul_le (by omega) (by omega)
          have q2 : y * 1 ≤ y * (x / y) := Int.mul_le_mul_of_nonneg_left q1 y0
          omega
        have h2 : y * (x % y) * 2 ^ (j + 1) ≤ x * y * 2 ^ j := by
          have e3 : y * (x % y) * 2 ^ (j + 1) = (y * (2 * (x % y))) * 2 ^ j := by
            rw [Int.pow_succ, Int.mul_comm (2 ^ j) 2, ← Int.mul_assoc]
            congr 1
            rw [Int.mul_assoc, Int.mul_comm (x % y) 2]
          rw [e3, Int.mul_comm x y]
          exact Int.mul_le_mul_of_nonneg_right (Int.mul_le_mul_of_nonneg_left half y0) (Int.pow_nonneg (by decide))
        exact Int.lt_of_le_of_lt h2 hp
  · obtain ⟨x, y, v2, v3, rfl, rfl, x0, y0, xb, yb, hg, hxy, hp⟩ := p
    refine fin _ x y _ _ rfl hg x0 ?_
    by_cases y1 : y = 0
    · exact y1
    · exfalso
      have hyx := hxy (by decide)
      have h1 : 1 ≤ x * y := by
        have := Int.mul_le_mul (show (1 : Int) ≤ x by omega) (show (1 : Int) ≤ y by omega) (by decide) x0
        omega
      have h2 : (1 : Int) * 2 ^ 399 ≤ x * y * 2 ^ 399 := Int.mul_le_mul_of_nonneg_right h1 (by decide)
      have h3 : (2 : Int) ^ 120 < 1 * 2 ^ 399 := by decide
      have hp' : x * y * 2 ^ 399 < 2 ^ 120 := hp
      omega
theorem ok_llowest (D : GD K mg "_law_lowest" sD_Llowest ["numerator", "denominator"]) (T : TFrac mg) (c_Lcommon : Cal P w K mg base 1 "_law_common" spCommon []) : Cal P w K mg base 2 "_law_lowest" spLowest [] := by
  refine D.cal sc_Llowest (fun vs H Q E h => ?_) (fun f cdv A outer s0 H vs Q E hr h => ?_)
  · obtain ⟨a, b, rfl, _⟩ := h
    rfl
  obtain ⟨a, b, rfl, b0, ha, hb, q⟩ := h
  refine ⟨_, (pss_cons (ps_set (i := 2) sc_Llowest.nd rfl (Or.inl rfl) (pe_c c_Lcommon hr (by omega) rfl (pa_cons (pe_callB call_abs (by rfl) T.n_abs (by decide +kernel) (pa_cons (pv 0) pa_nil)) (pa_cons (pv 1) pa_nil))))
    (pss_one (ps_ret (pe_tup (pa_cons (pe_op op_fdivW (pv 0) (pv 2)) (pa_cons (pe_op op_fdivW (pv 1) (pv 2)) pa_nil)))))), ?_⟩
  have g0 : (0 : Int) < (Int.gcd a b : Int) := by
    have : Int.gcd a b ≠ 0 := fun e => by
      have := (Int.gcd_eq_zero_iff.mp e).2
      omega
    omega
  have g1 : ((Int.gcd a b : Nat) : Int) ≤ b := by
    have := Int.gcd_le_natAbs_right a (show b ≠ 0 by omega)
    omega
  have cd : ∀ x : Int, CDivW x ((Int.gcd a b : Nat) : Int) := fun x => wide_div (b := 60) g0 (by omega) (by decide) (by decide)
  have eg : Int.gcd (if a < 0 then -a else a) b = Int.gcd a b := by split <;> simp
  refine ⟨_, rfl, a, rfl, _, rfl, (if a < 0 then -a else a), b, rfl, by split <;> omega, by omega, by split <;> omega, hb, ?_⟩
  rw [eg]
  exact ⟨_, rfl, _, rfl, _, _, rfl, rfl, cd a, _, rfl, _, rfl, _, _, rfl, rfl, cd b, (by show 2 ≤ sizeLine; decide), fun p hp => q p hp⟩
end

/-! ### sums over all subsets, in plain Lean -/
def set1 (e : Int) (f : Int → Bool) : Int → Bool := fun y => f y || decide (y = e)
theorem set1_comm (e x : Int) (f : Int → Bool) : set1 e (set1 x f) = set1 x (set1 e f) := by
  funext y
  unfold set1
  rw [Bool.or_assoc, Bool.or_assoc, Bool.or_comm (decide (y = x))]
theorem set1_self (e : Int) (f : Int → Bool) : set1 e f e = true := by unfold set1; simp
theorem set1_ne {e y : Int} (h : y ≠ e) (f : Int → Bool) : set1 e f y = f y := by unfold set1; rw [decide_eq_false h, Bool.or_false]
def Sm (a b : Int → Int) : List Int → ((Int → Bool) → Int) → Int
  | [], g => g fun _ => false
  | e :: L, g => a e * Sm a b L g + b e * Sm a b L fun f => g (set1 e f)
section
variable {a b : Int → Int}
theorem Sm_congr : ∀ {L : List Int} {g h : (Int → Bool) → Int}, (∀ f, (∀ x, x ∉ L → f x = false) → g f = h f) → Sm a b L g = Sm a b L h
  | [], g, h, q => q _ fun _ _ => rfl
  | e :: L, g, h, q => by
    show a e * Sm a b L g + b e * Sm a b L _ = a e * Sm a b L h + b e * Sm a b L _
    rw [Sm_congr (L := L) (g := g) (h := h) fun f hf => q f fun x hx => hf x fun m => hx (List.mem_cons_of_mem _ m),
      Sm_congr (L := L) (g := fun f => g (set1 e f)) (h := fun f => h (set1 e f)) fun f hf => q _ fun x hx => by
        rw [set1_ne (fun z => hx (by rw [z]; exact List.mem_cons_self))]
        exact hf x fun m => hx (List.mem_cons_of_mem _ m)]
theorem Sm_snoc : ∀ (L : List Int) (x : Int) (g : (Int → Bool) → Int), Sm a b (L ++ [x]) g = a x * Sm a b L g + b x * Sm a b L fun f => g (set1 x f)
  | [], x, g => rfl
  | e :: L, x, g => by
    show a e * Sm a b (L ++ [x]) g + b e * Sm a b (L ++ [x]) _ = a x * (a e * Sm a b L g + b e * Sm a b L _) + b x * (a e * Sm a b L _ + b e * Sm a b L fun f => g (set1 x (set1 e f)))
    rw [Sm_snoc L x g, Sm_snoc L x fun f => g (set1 e f)]
    have e1 : (fun f => g (set1 x (set1 e f))) = fun f => g (set1 e (set1 x f)) := by funext f; rw [set1_comm]
    rw [e1]
    generalize Sm a b L g = p
    generalize (Sm a b L fun f => g (set1 x f)) = q
    generalize (Sm a b L fun f => g (set1 e f)) = r
    generalize (Sm a b L fun f => g (set1 e (set1 x f))) = s
    grind
theorem Sm_add : ∀ (L : List Int) (g h : (Int → Bool) → Int), Sm a b L (fun f => g f + h f) = Sm a b L g + Sm a b L h
  | [], _, _ => rfl
  | e :: L, g, h => by
    show a e * Sm a b L (fun f => g f + h f) + b e * Sm a b L (fun f => g (set1 e f) + h (set1 e f)) = (a e * Sm a b L g + b e * Sm a b L _) + (a e * Sm a b L h + b e * Sm a b L _)
    rw [Sm_add L g h, Sm_add L (fun f => g (set1 e f)) fun f => h (set1 e f)]
    grind
/-- g does not ask about e -/
def Ind (g : (Int → Bool) → Int) (e : Int) : Prop := ∀ f, g (set1 e f) = g f
theorem Sm_skip {g : (Int → Bool) → Int} {e : Int} (L : List Int) (h : Ind g e) : Sm a b (e :: L) g = (a e + b e) * Sm a b L g := by
  show a e * Sm a b L g + b e * Sm a b L _ = _
  rw [show (fun f => g (set1 e f)) = g from funext h, Int.add_mul]
theorem Sm_drop {of : Int} (hab : ∀ e, a e + b e = of) {g : (Int → Bool) → Int} : ∀ (L1 L2 : List Int), (∀ e ∈ L1, Ind g e) → Sm a b (L1 ++ L2) g = of ^ L1.length * Sm a b L2 g
  | [], L2, _ => by
    show Sm a b L2 g = of ^ 0 * Sm a b L2 g
    rw [Int.pow_zero, Int.one_mul]
  | e :: L1, L2, h => by
    show Sm a b (e :: (L1 ++ L2)) g = of ^ (L1.length + 1) * Sm a b L2 g
    rw [Sm_skip _ (h e List.mem_cons_self), hab, Sm_drop hab L1 L2 fun x hx => h x (List.mem_cons_of_mem _ hx), Int.pow_succ]
    grind
theorem Sm_filter {of : Int} (hab : ∀ e, a e + b e = of) {g : (Int → Bool) → Int} (p : Int → Bool) : ∀ L : List Int, (∀ e ∈ L, p e = false → Ind g e) → ∃ k : Nat, k + (L.filter p).length = L.length ∧ Sm a b L g = of ^ k * Sm a b (L.filter p) g := by
  intro L
  induction L generalizing g with
  | nil => exact fun _ => ⟨0, rfl, by rw [Int.pow_zero, Int.one_mul]; rfl⟩
  | cons e L ih =>
    intro h
    rw [List.filter_cons]
    by_cases hp : p e = true
    · rw [if_pos hp]
      obtain ⟨k, h1, h2⟩ := ih (g := g) fun x hx => h x (List.mem_cons_of_mem _ hx)
      obtain ⟨k', h1', h2'⟩ := ih (g := fun f => g (set1 e f)) fun x hx hpx f => by
        show g (set1 e (set1 x f)) = g (set1 e f)
        rw [set1_comm]
        exact h x (List.mem_cons_of_mem _ hx) hpx _
      have ek : k' = k := by omega
      subst ek
      refine ⟨k', by simp only [List.length_cons]; omega, ?_⟩
      show a e * Sm a b L g + b e * Sm a b L _ = of ^ k' * (a e * Sm a b (L.filter p) g + b e * Sm a b (L.filter p) _)
      rw [h2, h2']
      grind
    · rw [if_neg hp]
      obtain ⟨k, h1, h2⟩ := ih (g := g) fun x hx => h x (List.mem_cons_of_mem _ hx)
      refine ⟨k + 1, by simp only [List.length_cons]; omega, ?_⟩
      rw [Sm_skip _ (h e List.mem_cons_self (by simpa using hp)), hab, h2, Int.pow_succ]
      grind
theorem Sm_bound {of : Int} (hab : ∀ e, a e + b e = of) (ha : ∀ e, 0 ≤ a e) (hb : ∀ e, 0 ≤ b e) : ∀ (L : List Int) (g : (Int → Bool) → Int), (∀ f, 0 ≤ g f ∧ g f ≤ 1) → 0 ≤ Sm a b L g ∧ Sm a b L g ≤ of ^ L.length
  | [], g, h => by
    show 0 ≤ g _ ∧ g _ ≤ of ^ 0
    rw [Int.pow_zero]
    exact h _
  | e :: L, g, h => by
    obtain ⟨h1, h2⟩ := Sm_bound hab ha hb L g h
    obtain ⟨h3, h4⟩ := Sm_bound hab ha hb L (fun f => g (set1 e f)) fun f => h _
    show 0 ≤ a e * Sm a b L g + b e * Sm a b L _ ∧ a e * Sm a b L g + b e * Sm a b L _ ≤ of ^ (L.length + 1)
    have x1 := Int.mul_nonneg (ha e) h1
    have x2 := Int.mul_nonneg (hb e) h3
    have x3 := Int.mul_le_mul_of_nonneg_left h2 (ha e)
    have x4 := Int.mul_le_mul_of_nonneg_left h4 (hb e)
    have x5 : a e * of ^ L.length + b e * of ^ L.length = of ^ (L.length + 1) := by rw [← Int.add_mul, hab, Int.pow_succ, Int.mul_comm]
    exact ⟨by omega, by omega⟩
/-- the law's own way -/
def wpr (a b : Int → Int) (E p : List Int) : Int := E.foldl (fun acc e => acc * (if e ∈ p then b e else a e)) 1
def memf (p : List Int) : Int → Bool := fun y => decide (y ∈ p)
theorem memf_snoc (p : List Int) (x : Int) : memf (p ++ [x]) = set1 x (memf p) := by
  funext y
  show decide (y ∈ p ++ [x]) = (decide (y ∈ p) || decide (y = x))
  by_cases h1 : y ∈ p
  · rw [decide_eq_true h1, decide_eq_true (List.mem_append_left _ h1)]; rfl
  · by_cases h2 : y = x
    · rw [decide_eq_true h2, Bool.or_true, decide_eq_true (by rw [h2]; simp)]
    · rw [decide_eq_false h1, decide_eq_false h2, decide_eq_false (by simp [h1, h2])]
      rfl
theorem wpr_snoc (E p : List Int) (x : Int) : wpr a b (E ++ [x]) p = wpr a b E p * (if x ∈ p then b x else a x) := by
  unfold wpr
  rw [List.foldl_append]
  rfl
theorem wpr_congr {p q : List Int} : ∀ {E : List Int}, (∀ e ∈ E, e ∈ p ↔ e ∈ q) → wpr a b E p = wpr a b E q := by
  intro E
  induction E using snoc_ind with
  | h0 => intro _; rfl
  | h1 E x ih =>
    intro h
    rw [wpr_snoc, wpr_snoc, ih fun e he => h e (List.mem_append_left _ he)]
    have := h x (by simp)
    by_cases hx : x ∈ p
    · rw [if_pos hx, if_pos (this.mp hx)]
    · rw [if_neg hx, if_neg fun z => hx (this.mpr z)]
theorem sum_map_mul (l : List (List Int)) (f : List Int → Int) (c : Int) : (l.map fun p => f p * c).sum = (l.map f).sum * c := by
  induction l with
  | nil => simp
  | cons x r ih =>
    rw [List.map_cons, List.map_cons, List.sum_cons, List.sum_cons, ih, Int.add_mul]
theorem Sm_sum {E : List Int} (nd : E.Nodup) (g : (Int → Bool) → Int) : ((subs E).map fun p => wpr a b E p * g (memf p)).sum = Sm a b E g := by
  induction E using snoc_ind generalizing g with
  | h0 =>
    show ([([] : List Int)].map fun p => wpr a b [] p * g (memf p)).sum = g fun _ => false
    rw [List.map_singleton, List.sum_singleton]
    show 1 * g (memf []) = _
    rw [Int.one_mul]
    rfl
  | h1 E x ih =>
    have hx : x ∉ E := fun m => by
      have := (List.nodup_append.mp nd).2.2 x m x (by simp)
      exact this rfl
    have ndE : E.Nodup := (List.nodup_append.mp nd).1
    rw [subs_snoc, List.map_append, List.sum_append, Sm_snoc, ← ih ndE g, ← ih ndE fun f => g (set1 x f)]
    congr 1
    · rw [Int.mul_comm, ← sum_map_mul]
      refine congrArg List.sum (List.map_congr_left fun p hp => ?_)
      rw [wpr_snoc, if_neg fun z => hx (subs_mem hp x z)]
      grind
    · rw [Int.mul_comm, ← sum_map_mul, List.map_map]
      refine congrArg List.sum (List.map_congr_left fun p hp => ?_)
      show wpr a b (E ++ [x]) (p ++ [x]) * g (memf (p ++ [x])) = _
      rw [wpr_snoc, if_pos (by simp), memf_snoc, wpr_congr (p := p ++ [x]) (q := p) fun e he => ?_]
      · grind
      · have : e ≠ x := fun z => hx (z ▸ he)
        simp [this]
theorem sum_filter (l : List (List Int)) (q : List Int → Bool) (f : List Int → Int) : ((l.filter q).map f).sum = (l.map fun p => f p * (if q p then 1 else 0)).sum := by
  induction l with
  | nil => rfl
  | cons x r ih =>
    rw [List.filter_cons, List.map_cons, List.sum_cons, ← ih]
    by_cases h : q x = true
    · rw [if_pos h, if_pos h, List.map_cons, List.sum_cons, Int.mul_one]
    · rw [if_neg h, if_neg h, Int.mul_zero, Int.zero_add]
end
/-! the diagram and what it asks -/
theorem Rch.trans {ns : List Node} {c x y : Nat} (h : Rch ns c x) (k : Rch ns x y) : Rch ns c y := by
  induction k with
  | refl => exact h
  | step _ hk ih => exact .step ih hk
theorem Rch.up {E : List Int} {ns : List Node} (ok : NOk E ns) {c x : Nat} {e : Int} (h : Rch ns c x) (u : Up ns e c) : Up ns e x := by
  induction h with
  | refl => exact u
  | step _ hk ih =>
    rename_i x' y' _
    obtain ⟨n, hn, hy, _⟩ := mem_kids hk
    have h1 := ih n hn
    obtain ⟨u1, u2⟩ := ok.ord _ n hn
    intro m hm
    rcases hy with rfl | rfl
    · have := u1 m hm; omega
    · have := u2 m hm; omega
/-- only what is asked counts -/
theorem ev_congr {E : List Int} {ns : List Node} (ok : NOk E ns) {f g : Int → Bool} : ∀ c, c < ns.length + 2 → (∀ y, Rch ns c y → ∀ n, nod ns y = some n → f n.1 = g n.1) → ev ns f c = ev ns g c := by
  intro c
  induction c using Nat.strongRecOn with
  | ind c ih =>
    intro hc h
    by_cases h2 : 2 ≤ c
    · obtain ⟨n, hn⟩ := nod_some hc h2
      obtain ⟨l1, l2, _⟩ := ok.lt c n hn
      have kid : ∀ y, (y = n.2.1 ∨ y = n.2.2) → ev ns f y = ev ns g y := fun y hy => by
        have hyc : y < c := by rcases hy with rfl | rfl <;> assumption
        refine ih y hyc (by omega) fun z hz m hm => ?_
        by_cases y2 : 2 ≤ y
        · refine h z (Rch.trans (.step .refl ?_) hz) m hm
          rcases hy with rfl | rfl
          · exact (kids_mem hn).1 y2
          · exact (kids_mem hn).2 y2
        · have := hz.le ok
          have := nod_lt hm
          omega
      rw [ok.ev hn, ok.ev hn, h c .refl n hn, kid _ (.inl rfl), kid _ (.inr rfl)]
    · have : c = 0 ∨ c = 1 := by omega
      rcases this with rfl | rfl
      · rw [ev_zero, ev_zero]
      · rw [ev_one, ev_one]
theorem ev_set1 {E : List Int} {ns : List Node} (ok : NOk E ns) {c : Nat} {e x : Int} (hc : c < ns.length + 2) (u : Up ns e c) (hx : x ≤ e) (f : Int → Bool) : ev ns (set1 x f) c = ev ns f c :=
  ev_congr ok c hc fun y hy n hn => set1_ne (by have := hy.up ok u n hn; omega) f
/-- 1 if the condition holds -/
def hol (ns : List Node) (c : Nat) : (Int → Bool) → Int := fun f => if ev ns f c then 1 else 0
theorem hol_b (ns : List Node) (c : Nat) (f : Int → Bool) : 0 ≤ hol ns c f ∧ hol ns c f ≤ 1 := by
  unfold hol
  split <;> decide
theorem hol_ind {E : List Int} {ns : List Node} (ok : NOk E ns) {c : Nat} {e x : Int} (hc : c < ns.length + 2) (u : Up ns e c) (hx : x ≤ e) : Ind (hol ns c) x := fun f => by
  unfold hol
  rw [ev_set1 ok hc u hx]
/-- the place of a condition among L, and the sum from there -/
structure Pla (a b : Int → Int) (ns : List Node) (L : List Int) (x p : Nat) (m : Int) : Prop where
  at_ : (x < 2 ∧ p = L.length) ∨ ∃ n, nod ns x = some n ∧ L[p]? = some n.1
  val : m = Sm a b (L.drop p) (hol ns x)
theorem Pla.le {a b : Int → Int} {ns : List Node} {L : List Int} {x p : Nat} {m : Int} (h : Pla a b ns L x p m) : p ≤ L.length := by
  rcases h.at_ with ⟨_, e⟩ | ⟨n, _, e⟩
  · omega
  · have := (List.getElem?_eq_some_iff.mp e).1; omega
section
variable {a b : Int → Int} {of : Int} {E L : List Int} {ns : List Node}
theorem Pla.ind {x p : Nat} {m : Int} (h : Pla a b ns L x p m) (ok : NOk E ns) (hx : x < ns.length + 2) (up : L.Pairwise (· < ·)) : ∀ (j : Nat) (e : Int), j < p → L[j]? = some e → Ind (hol ns x) e := fun j e hj he => by
  refine hol_ind ok hx (e := e) (fun n hn => ?_) (Int.le_refl _)
  rcases h.at_ with ⟨h1, _⟩ | ⟨n', h1, h2⟩
  · have := nod_lt hn; omega
  · rw [hn] at h1
    cases h1
    obtain ⟨i1, e1⟩ := List.getElem?_eq_some_iff.mp he
    obtain ⟨i2, e2⟩ := List.getElem?_eq_some_iff.mp h2
    rw [← e1, ← e2]
    exact List.pairwise_iff_getElem.mp up j p i1 i2 hj
theorem Pla.from {x p q : Nat} {m : Int} (h : Pla a b ns L x p m) (ok : NOk E ns) (hx : x < ns.length + 2) (up : L.Pairwise (· < ·)) (hab : ∀ e, a e + b e = of) (hq : q ≤ p) : m * of ^ (p - q) = Sm a b (L.drop q) (hol ns x) := by
  have hp := h.le
  have e : L.drop q = (L.drop q).take (p - q) ++ L.drop p := by
    have := (List.take_append_drop (p - q) (L.drop q)).symm
    rw [List.drop_drop] at this
    rw [show q + (p - q) = p by omega] at this
    exact this
  rw [e, Sm_drop hab _ _ fun x' hx' => ?_, h.val]
  · rw [List.length_take, List.length_drop, show min (p - q) (L.length - q) = p - q by omega, Int.mul_comm]
  · obtain ⟨j, hj⟩ := List.getElem?_of_mem hx'
    have hj1 := (List.getElem?_eq_some_iff.mp hj).1
    rw [List.length_take] at hj1
    rw [List.getElem?_take_of_lt (by omega), List.getElem?_drop] at hj
    exact h.ind ok hx up (q + j) x' (by omega) hj
theorem Pla.leaf (x : Nat) (hx : x < 2) : Pla a b ns L x L.length (if x = 0 then 0 else 1) := by
  refine ⟨.inl ⟨hx, rfl⟩, ?_⟩
  rw [List.drop_length]
  show _ = hol ns x _
  unfold hol
  have : x = 0 ∨ x = 1 := by omega
  rcases this with rfl | rfl
  · rw [ev_zero]; rfl
  · rw [ev_one]; rfl
theorem Pla.node {x p pw pt : Nat} {n : Node} {mw mt : Int} (ok : NOk E ns) (up : L.Pairwise (· < ·)) (hab : ∀ e, a e + b e = of) (hn : nod ns x = some n) (hp : L[p]? = some n.1) (w : Pla a b ns L n.2.1 pw mw) (t : Pla a b ns L n.2.2 pt mt) :
    p < pw ∧ p < pt ∧ Pla a b ns L x p (a n.1 * (mw * of ^ (pw - p - 1)) + b n.1 * (mt * of ^ (pt - p - 1))) := by
  obtain ⟨l1, l2, _⟩ := ok.lt x n hn
  obtain ⟨u1, u2⟩ := ok.ord x n hn
  have hx := nod_lt hn
  obtain ⟨ip, ep⟩ := List.getElem?_eq_some_iff.mp hp
  have lt : ∀ {y q : Nat} {m : Int}, Pla a b ns L y q m → Up ns n.1 y → p < q := fun {y q m} h u => by
    rcases h.at_ with ⟨_, e⟩ | ⟨k, h1, h2⟩
    · omega
    · have h3 := u k h1
      obtain ⟨iq, eq⟩ := List.getElem?_eq_some_iff.mp h2
      by_cases z : p < q
      · exact z
      · by_cases z2 : q = p
        · subst z2
          rw [ep] at eq
          omega
        · have := List.pairwise_iff_getElem.mp up q p iq ip (by omega)
          omega
  have h1 := lt w u1
  have h2 := lt t u2
  refine ⟨h1, h2, .inr ⟨n, hn, hp⟩, ?_⟩
  have ew := w.from (q := p + 1) ok (by omega) up hab (by omega)
  have et := t.from (q := p + 1) ok (by omega) up hab (by omega)
  rw [show pw - p - 1 = pw - (p + 1) by omega, show pt - p - 1 = pt - (p + 1) by omega, ew, et, List.drop_eq_getElem_cons ip, ep]
  have hne : n.1 ∉ L.drop (p + 1) := fun m => by
    obtain ⟨j, hj⟩ := List.getElem?_of_mem m
    rw [List.getElem?_drop] at hj
    obtain ⟨ij, ej⟩ := List.getElem?_eq_some_iff.mp hj
    have := List.pairwise_iff_getElem.mp up p (p + 1 + j) ip ij (by omega)
    omega
  show _ = a n.1 * Sm a b (L.drop (p + 1)) (hol ns x) + b n.1 * Sm a b (L.drop (p + 1)) fun f => hol ns x (set1 n.1 f)
  rw [Sm_congr (g := hol ns x) (h := hol ns n.2.1) fun f hf => ?_, Sm_congr (g := fun f => hol ns x (set1 n.1 f)) (h := hol ns n.2.2) fun f hf => ?_]
  · show hol ns x (set1 n.1 f) = hol ns n.2.2 f
    unfold hol
    rw [ok.ev hn, set1_self, if_pos rfl, ev_set1 ok (by omega) u2 (Int.le_refl _)]
  · unfold hol
    rw [ok.ev hn, hf _ hne]
    rfl
theorem Pla.all {x p : Nat} {m : Int} (h : Pla a b ns L x p m) (ok : NOk E ns) (hx : x < ns.length + 2) (up : L.Pairwise (· < ·)) (hab : ∀ e, a e + b e = of) : m * of ^ p = Sm a b L (hol ns x) := by
  have := h.from (q := 0) ok hx up hab (Nat.zero_le _)
  rwa [Nat.sub_zero, List.drop_zero] at this
theorem Pla.bound {x p : Nat} {m : Int} (h : Pla a b ns L x p m) (hab : ∀ e, a e + b e = of) (ha : ∀ e, 0 ≤ a e) (hb : ∀ e, 0 ≤ b e) : 0 ≤ m ∧ m ≤ of ^ (L.length - p) := by
  have := Sm_bound hab ha hb (L.drop p) (hol ns x) (hol_b ns x)
  rw [List.length_drop] at this
  rw [h.val]
  exact this
end

/-! ### the chance of a condition -/
theorem low_mul (m d : Int) {k : Int} (hk : 0 < k) : low (k * m) (k * d) = low m d := by
  unfold low
  rw [Int.gcd_mul_left]
  have e : ((k.natAbs * Int.gcd m d : Nat) : Int) = k * (Int.gcd m d : Int) := by
    rw [Int.natCast_mul]
    congr 1
    omega
  rw [e, Int.mul_ediv_mul_of_pos _ _ hk, Int.mul_ediv_mul_of_pos _ _ hk]
theorem asc_unique : ∀ {L M : List Int}, L.Pairwise (· < ·) → M.Pairwise (· < ·) → (∀ x, x ∈ L ↔ x ∈ M) → L = M
  | [], [], _, _, _ => rfl
  | [], y :: M, _, _, h => absurd ((h y).mpr List.mem_cons_self) (by simp)
  | x :: L, [], _, _, h => absurd ((h x).mp List.mem_cons_self) (by simp)
  | x :: L, y :: M, a, b, h => by
    obtain ⟨a1, a2⟩ := List.pairwise_cons.mp a
    obtain ⟨b1, b2⟩ := List.pairwise_cons.mp b
    have e : x = y := by
      rcases List.mem_cons.mp ((h x).mp List.mem_cons_self) with m | m
      · exact m
      · rcases List.mem_cons.mp ((h y).mpr List.mem_cons_self) with q | q
        · exact q.symm
        · have := a1 y q; have := b1 x m; omega
    subst e
    rw [asc_unique a2 b2 fun z => ?_]
    have := h z
    constructor
    · intro m
      rcases List.mem_cons.mp (this.mp (List.mem_cons_of_mem _ m)) with q | q
      · have := a1 z m; omega
      · exact q
    · intro m
      rcases List.mem_cons.mp (this.mpr (List.mem_cons_of_mem _ m)) with q | q
      · have := b1 z m; omega
      · exact q
theorem Reached.all {ns : List Node} {c : Nat} {R : List Nat} (hR : Reached ns [c] R) {x : Nat} {n : Node} (h : Rch ns c x) (hn : nod ns x = some n) : x ∈ R := by
  revert n
  induction h with
  | refl => exact fun hn => hR.top c (by simp) (nod_lt hn).1
  | @step y z _ hk ih =>
    intro n _
    obtain ⟨n', hn', _⟩ := mem_kids hk
    obtain ⟨i, hi⟩ := List.getElem?_of_mem (ih hn')
    exact List.mem_of_mem_take (hR.topo i y hi z hk)
/-- only what the condition asks counts -/
theorem Sm_asked {a b : Int → Int} {of : Int} {E L : List Int} {ns : List Node} {c : Nat} {R : List Nat} (ok : NOk E ns) (hc : c < ns.length + 2) (up : E.Pairwise (· < ·)) (hab : ∀ e, a e + b e = of) (hR : Reached ns [c] R)
    (upL : L.Pairwise (· < ·)) (hL : ∀ k, k ∈ L ↔ ∃ x ∈ R, ∃ n, nod ns x = some n ∧ n.1 = k) : ∃ k : Nat, k + L.length = E.length ∧ Sm a b E (hol ns c) = of ^ k * Sm a b L (hol ns c) := by
  have inR := fun x n h (hn : nod ns x = some n) => hR.all (c := c) (x := x) (n := n) h hn
  have hin : ∀ k ∈ L, k ∈ E := fun k hk => by
    obtain ⟨x, _, n, hn, rfl⟩ := (hL k).mp hk
    exact ok.en x n hn
  have ef : E.filter (fun e => decide (e ∈ L)) = L := asc_unique (up.sublist List.filter_sublist) upL fun x => by
    rw [List.mem_filter]
    exact ⟨fun h => of_decide_eq_true h.2, fun h => ⟨hin x h, decide_eq_true h⟩⟩
  obtain ⟨k, h1, h2⟩ := Sm_filter hab (g := hol ns c) (fun e => decide (e ∈ L)) E fun e he hp f => by
    unfold hol
    rw [ev_congr ok (f := set1 e f) (g := f) c hc fun y hy n hn => set1_ne (fun z => ?_) f]
    exact of_decide_eq_false hp ((hL e).mpr ⟨y, inR y n hy hn, n, hn, z⟩)
  rw [ef] at h1 h2
  exact ⟨k, h1, h2⟩
/-- a def with a keyword of its own -/
structure GK (K : PySem.W.Frag) (mg : Str → Option Value) (x : Str) (st : Stmt) (kws : List (Str × V)) (f : Addr) (fd : FuncData) : Prop where
  fn : FunD K x x (defArgs st) (defBody st) (defScope st) [] kws f fd
  m : mg x = some (.ref f)
/-- what a call with keywords wants -/
structure KCal (P : Program) (w : World) (K : PySem.W.Frag) (mg : Str → Option Value) (base : Heap) (k : Nat) (x : Str) (sp : Sp) (ps : List Str) (n : Nat) (ks : List Str) (f : Addr) (fd : FuncData) : Prop where
  F : FnOk P w K mg base CX0 k f fd ps sp
  m : mg x = some (.ref f)
  kp : PySem.W.keepIn K (.ref f) = true
  kb : KBn K fd ps n ks (fun us ws => us ++ ws) (fun vs zs => vs ++ zs)
section
variable {P : Program} {w : World} {K : PySem.W.Frag} {mg : Str → Option Value} {base : Heap} {C : Addr}
theorem GK.ok {x : Str} {st : Stmt} {k : Nat} {sp : Sp} {N ps : List Str} {kws : List (Str × V)} {f : Addr} {fd : FuncData} (D : GK K mg x st kws f fd) (S : FnScope N ps (defScope st)) (len : ∀ vs H Q E, sp vs H Q E → vs.length = ps.length)
    (body : ∀ (cdv : Value) (A : Around) (outer : List Env) (s : Shared) (H : Hp) (vs : List V) (Q : VK) (E : XK), Room k (A.deeper (envOfC x (defScope st) s.heap.objs.size f cdv)) → sp vs H Q E →
      ∃ t, PSs (cxOf CX0 P w K mg base N x (defScope st) f cdv A outer s H E).nox (defBody st) t ∧ t { nx := fun _ H' => Q .non H', rt := Q } (start N vs) H) : FnOk P w K mg base CX0 (k + 1) f fd ps sp :=
  D.fn.ok S len fun cdv A outer s H vs Q E hr h => let ⟨t, h1, h2⟩ := body cdv A outer s H vs Q E hr h
    ⟨t, h1.nox, h2⟩
theorem GK.kcal {x : Str} {st : Stmt} {k : Nat} {sp : Sp} {ps : List Str} {n : Nat} {ks : List Str} {kws : List (Str × V)} {f : Addr} {fd : FuncData} (D : GK K mg x st kws f fd) (F : FnOk P w K mg base CX0 k f fd ps sp) (hk : kws ≠ [])
    (h : ∀ (D : Addr) (doc pm : Value) (an : Option Addr) (cdv ct : Value) (us ws : List Value), us.length = n → ws.length = ks.length → bindArgs (PySem.W.fnOf x x (defArgs st) (defBody st) (defScope st) .none (.ref D) doc pm an cdv ct) ⟨us, ks.zip ws⟩ = pure (ps.zip (us ++ ws))) :
    KCal P w K mg base k x sp ps n ks f fd := by
  refine ⟨F, D.m, D.fn.kp, ⟨fun s us ws _ l1 l2 => ?_, fun r1 r2 => r1.append r2⟩⟩
  obtain ⟨oc, od, dV, kV, doc, pm, an, cdv, ct, osl, rfl, lk, hcd, hD, hK⟩ := D.fn.ex
  rcases hD with ⟨_, rfl⟩ | ⟨e, _⟩
  · rcases hK with e | ⟨Da, rfl, _⟩
    · exact absurd e hk
    · exact .of_eq (h Da doc pm an cdv ct us ws l1 l2)
  · exact absurd rfl e
theorem GK.cal {x : Str} {st : Stmt} {k : Nat} {sp : Sp} {ps : List Str} {n : Nat} {kws : List (Str × V)} {f : Addr} {fd : FuncData} (D : GK K mg x st kws f fd) (F : FnOk P w K mg base CX0 k f fd ps sp) (hk : kws ≠ []) (hn : n + kws.length = ps.length)
    (h : ∀ (D : Addr) (doc pm : Value) (an : Option Addr) (cdv ct : Value) (us ks : List Value), us.length = n → ks.length = kws.length →
      KwChain D ((kws.map (·.1)).zip ks) (bindArgs (PySem.W.fnOf x x (defArgs st) (defBody st) (defScope st) .none (.ref D) doc pm an cdv ct) ⟨us, []⟩) (ps.zip (us ++ ks))) : Cal P w K mg base k x sp (kws.map (·.2)) := by
  obtain ⟨ds, rv, hb⟩ := D.fn.binds0 n hk hn h
  exact ⟨f, fd, ps, ds, F, D.m, D.fn.kp, hb, rv⟩
end

/-! ### diagrams are canonical: what a condition asks is what it depends on -/
def put1 (e : Int) (b : Bool) (f : Int → Bool) : Int → Bool := fun y => if y = e then b else f y
theorem put1_self (e : Int) (b : Bool) (f : Int → Bool) : put1 e b f e = b := if_pos rfl
theorem put1_ne {e y : Int} (h : y ≠ e) (b : Bool) (f : Int → Bool) : put1 e b f y = f y := if_neg h
theorem put1_comm {e k : Int} (h : e ≠ k) (b c : Bool) (f : Int → Bool) : put1 e b (put1 k c f) = put1 k c (put1 e b f) := by
  funext y
  unfold put1
  by_cases h1 : y = e
  · rw [if_pos h1, if_neg (fun z => h (h1.symm.trans z)), if_pos h1]
  · rw [if_neg h1]
    by_cases h2 : y = k
    · rw [if_pos h2, if_pos h2]
    · rw [if_neg h2, if_neg h2, if_neg h1]
/-- the condition depends on k -/
def Dep (ns : List Node) (c : Nat) (k : Int) : Prop := ∃ f, ev ns (put1 k true f) c ≠ ev ns (put1 k false f) c
section
variable {E : List Int} {ns : List Node}
theorem ev_put {c : Nat} {e : Int} (ok : NOk E ns) (hc : c < ns.length + 2) (u : Up ns e c) (b : Bool) (f : Int → Bool) : ev ns (put1 e b f) c = ev ns f c :=
  ev_congr ok c hc fun y hy n hn => put1_ne (by have := hy.up ok u n hn; omega) b f
theorem NOk.kid1 (ok : NOk E ns) {x : Nat} {n : Node} (hn : nod ns x = some n) (f : Int → Bool) : Lw.ev ns (put1 n.1 false f) x = Lw.ev ns f n.2.1 ∧ Lw.ev ns (put1 n.1 true f) x = Lw.ev ns f n.2.2 := by
  obtain ⟨l1, l2, _⟩ := ok.lt x n hn
  obtain ⟨u1, u2⟩ := ok.ord x n hn
  have hx := nod_lt hn
  refine ⟨?_, ?_⟩
  · rw [ok.ev hn, put1_self, if_neg (by decide), ev_put ok (by omega) u1]
  · rw [ok.ev hn, put1_self, if_pos rfl, ev_put ok (by omega) u2]
/-- conditions that are alike are the same -/
theorem canon (ok : NOk E ns) : ∀ (N x y : Nat), x + y ≤ N → x < ns.length + 2 → y < ns.length + 2 → (∀ f, ev ns f x = ev ns f y) → x = y := by
  intro N
  induction N with
  | zero => intro x y h _ _ _; omega
  | succ N ih =>
    -- a node over one that does not ask its entry
    have over : ∀ (x y : Nat) (n : Node), x + y ≤ N + 1 → y < ns.length + 2 → nod ns x = some n → Up ns n.1 y → (∀ f, ev ns f x = ev ns f y) → False := fun x y n h hy hn u q => by
      obtain ⟨l1, l2, ne⟩ := ok.lt x n hn
      have hx := nod_lt hn
      have e1 := ih n.2.1 y (by omega) (by omega) hy fun f => by rw [← (ok.kid1 hn f).1, q, ev_put ok hy u]
      have e2 := ih n.2.2 y (by omega) (by omega) hy fun f => by rw [← (ok.kid1 hn f).2, q, ev_put ok hy u]
      exact ne (e1.trans e2.symm)
    intro x y h hx hy q
    by_cases x2 : 2 ≤ x
    · obtain ⟨n, hn⟩ := nod_some hx x2
      by_cases y2 : 2 ≤ y
      · obtain ⟨m, hm⟩ := nod_some hy y2
        by_cases e : n.1 = m.1
        · obtain ⟨l1, l2, _⟩ := ok.lt x n hn
          obtain ⟨l3, l4, _⟩ := ok.lt y m hm
          have e1 := ih n.2.1 m.2.1 (by omega) (by omega) (by omega) fun f => by rw [← (ok.kid1 hn f).1, q, e, (ok.kid1 hm f).1]
          have e2 := ih n.2.2 m.2.2 (by omega) (by omega) (by omega) fun f => by rw [← (ok.kid1 hn f).2, q, e, (ok.kid1 hm f).2]
          have en : n = m := Prod.ext e (Prod.ext e1 e2)
          subst en
          exact ok.inj x y n hn hm
        · by_cases lt : n.1 < m.1
          · exact (over x y n h hy hn (fun k hk => by rw [hm] at hk; cases hk; exact lt) q).elim
          · exact (over y x m (by omega) hx hm (fun k hk => by rw [hn] at hk; cases hk; omega) fun f => (q f).symm).elim
      · exact (over x y n h hy hn (fun k hk => by have := nod_lt hk; omega) q).elim
    · by_cases y2 : 2 ≤ y
      · obtain ⟨m, hm⟩ := nod_some hy y2
        exact (over y x m (by omega) hx hm (fun k hk => by have := nod_lt hk; omega) fun f => (q f).symm).elim
      · have q0 := q fun _ => false
        have h1 : x = 0 ∨ x = 1 := by omega
        have h2 : y = 0 ∨ y = 1 := by omega
        rcases h1 with rfl | rfl <;> rcases h2 with rfl | rfl
        · rfl
        · rw [ev_zero, ev_one] at q0; cases q0
        · rw [ev_zero, ev_one] at q0; cases q0
        · rfl
theorem dep_top (ok : NOk E ns) {x : Nat} {n : Node} (hn : nod ns x = some n) : Dep ns x n.1 := by
  obtain ⟨l1, l2, ne⟩ := ok.lt x n hn
  have hx := nod_lt hn
  refine Classical.byContradiction fun no => ne (canon ok _ n.2.1 n.2.2 (Nat.le_refl _) (by omega) (by omega) fun f => ?_)
  refine Classical.byContradiction fun d => no ⟨f, ?_⟩
  rw [(ok.kid1 hn f).1, (ok.kid1 hn f).2]
  exact fun z => d z.symm
theorem dep_kid (ok : NOk E ns) {x y : Nat} {k : Int} (hk : y ∈ kids ns x) (d : Dep ns y k) : Dep ns x k := by
  obtain ⟨n, hn, hy, _⟩ := mem_kids hk
  obtain ⟨f, hf⟩ := d
  obtain ⟨l1, l2, _⟩ := ok.lt x n hn
  obtain ⟨u1, u2⟩ := ok.ord x n hn
  have hx := nod_lt hn
  have hyl : y < ns.length + 2 := by rcases hy with rfl | rfl <;> omega
  have uy : Up ns n.1 y := by rcases hy with rfl | rfl <;> assumption
  have ne : k ≠ n.1 := fun e => hf (by rw [e, ev_put ok hyl uy, ev_put ok hyl uy])
  rcases hy with rfl | rfl
  · refine ⟨put1 n.1 false f, ?_⟩
    rw [put1_comm ne, put1_comm ne, (ok.kid1 hn _).1, (ok.kid1 hn _).1]
    exact hf
  · refine ⟨put1 n.1 true f, ?_⟩
    rw [put1_comm ne, put1_comm ne, (ok.kid1 hn _).2, (ok.kid1 hn _).2]
    exact hf
theorem dep_rch (ok : NOk E ns) {c x : Nat} {k : Int} (h : Rch ns c x) (d : Dep ns x k) : Dep ns c k := by
  induction h with
  | refl => exact d
  | step _ hk ih => exact ih (dep_kid ok hk d)
/-- what is asked is what counts -/
theorem dep_iff (ok : NOk E ns) {c : Nat} (hc : c < ns.length + 2) (k : Int) : Dep ns c k ↔ ∃ x n, Rch ns c x ∧ nod ns x = some n ∧ n.1 = k := by
  constructor
  · rintro ⟨f, hf⟩
    refine Classical.byContradiction fun no => hf (ev_congr ok c hc fun y hy n hn => ?_)
    have ne : n.1 ≠ k := fun e => no ⟨y, n, hy, hn, e⟩
    rw [put1_ne ne, put1_ne ne]
  · rintro ⟨x, n, hx, hn, rfl⟩
    exact dep_rch ok hx (dep_top ok hn)
theorem Pre.dep {ns' : List Node} (p : Pre ns ns') (oa : NOk E ns) (ob : NOk E ns') {c : Nat} (hc : c < ns.length + 2) (k : Int) : Dep ns' c k ↔ Dep ns c k := by
  unfold Dep
  constructor
  · rintro ⟨f, hf⟩
    exact ⟨f, by rw [← p.ev oa ob _ c hc, ← p.ev oa ob _ c hc]; exact hf⟩
  · rintro ⟨f, hf⟩
    exact ⟨f, by rw [p.ev oa ob _ c hc, p.ev oa ob _ c hc]; exact hf⟩
theorem Reached.dep {c : Nat} {R : List Nat} {L : List Int} (hR : Reached ns [c] R) (ok : NOk E ns) (hc : c < ns.length + 2) (hL : ∀ k, k ∈ L ↔ ∃ x ∈ R, ∃ n, nod ns x = some n ∧ n.1 = k) (k : Int) : k ∈ L ↔ Dep ns c k := by
  rw [hL k, dep_iff ok hc k]
  constructor
  · rintro ⟨x, hx, n, hn, e⟩
    obtain ⟨_, c', hc', h⟩ := hR.mem x hx
    rw [List.mem_singleton.mp hc'] at h
    exact ⟨x, n, h, hn, e⟩
  · rintro ⟨x, n, hx, hn, e⟩
    exact ⟨x, hR.all hx hn, n, hn, e⟩
end

/-! ### what the store is not -/
theorem StoAt.out {C : Addr} {E : List Int} {s : SA} {H : Hp} {ns : List Node} {b : Nat} (S : StoAt C E s H ns b) : (∀ a kvs, H a = some (.dK kvs) → a ∉ s.M) ∧ (∀ (a : Addr) (L : List Int), H a = some (.lst (L.map V.int)) → a ∉ s.M) ∧ ∀ a, H a = none → a ∉ s.M := by
  obtain ⟨as, a1, _⟩ := S.ls
  obtain ⟨kvs, b1, _⟩ := S.nu
  obtain ⟨kvs', c1, _⟩ := S.re
  refine ⟨fun a kv h m => ?_, fun a L h m => ?_, fun a h m => ?_⟩ <;> (simp only [SA.M, List.mem_cons, List.not_mem_nil, or_false] at m; rcases m with e | e | e <;> rw [e] at h)
  · rw [a1] at h; cases h
  · rw [b1] at h; cases h
  · rw [c1] at h; cases h
  · rw [a1] at h
    have h' : V.non :: V.non :: as.map V.ref = L.map V.int := HO.lst.inj (Option.some.inj h)
    cases L with
    | nil => cases h'
    | cons x r => cases (List.cons.inj h').1
  · rw [b1] at h; cases h
  · rw [c1] at h; cases h
  · rw [a1] at h; cases h
  · rw [b1] at h; cases h
  · rw [c1] at h; cases h
theorem StoAt.out_ref {C : Addr} {E : List Int} {s : SA} {H : Hp} {ns : List Node} {b : Nat} (S : StoAt C E s H ns b) {a : Addr} {as : List Addr} (h : H a = some (.lst (as.map V.ref))) : a ∉ s.M := by
  obtain ⟨bs, a1, _⟩ := S.ls
  obtain ⟨kvs, b1, _⟩ := S.nu
  obtain ⟨kvs', c1, _⟩ := S.re
  intro m
  simp only [SA.M, List.mem_cons, List.not_mem_nil, or_false] at m
  rcases m with e | e | e <;> rw [e] at h
  · rw [a1] at h
    have h' : V.non :: V.non :: bs.map V.ref = as.map V.ref := HO.lst.inj (Option.some.inj h)
    cases as with
    | nil => cases h'
    | cons x r => cases (List.cons.inj h').1
  · rw [b1] at h; cases h
  · rw [c1] at h; cases h

/-! ### rows -/
/-- rows (e, ..), new tuples in a list -/
def Rows (H : Hp) (r : Addr) (LL : List Int) (nd : Int → List V) : Prop :=
  ∃ as : List Addr, H r = some (.lst (as.map V.ref)) ∧ as.length = LL.length ∧ ∀ (i : Nat) (a : Addr) (e : Int), as[i]? = some a → LL[i]? = some e → H a = some (.tup (V.int e :: nd e))
theorem Rows.kp {M : List Addr} {H H' : Hp} {r : Addr} {LL : List Int} {nd : Int → List V} (h : Rows H r LL nd) (k : Kp M H H') (hr : r ∉ M) : Rows H' r LL nd := by
  obtain ⟨as, h1, h2, h3⟩ := h
  exact ⟨as, k.k _ _ h1 hr, h2, fun i a e x y => k.t _ _ (h3 i a e x y)⟩
theorem Rows.nil {H : Hp} {r : Addr} {nd : Int → List V} (h : H r = some (.lst [])) : Rows H r [] nd := ⟨[], h, rfl, fun i a e x => by simp at x⟩
theorem Rows.len {H : Hp} {r : Addr} {LL : List Int} {nd : Int → List V} (h : Rows H r LL nd) : ∃ as : List Addr, H r = some (.lst (as.map V.ref)) ∧ as.length = LL.length := let ⟨as, h1, h2, _⟩ := h; ⟨as, h1, h2⟩
/-- one more row -/
theorem Rows.snoc {H : Hp} {r t : Addr} {as : List Addr} {LL : List Int} {e : Int} {nd : Int → List V} (h : Rows H r LL nd) (hr : H r = some (.lst (as.map V.ref))) (ht : H t = some (.tup (V.int e :: nd e))) :
    Rows (upd H r (.lst (as.map V.ref ++ [V.ref t]))) r (LL ++ [e]) nd := by
  obtain ⟨bs, h1, h2, h3⟩ := h
  rw [hr] at h1
  have eab : as.map V.ref = bs.map V.ref := HO.lst.inj (Option.some.inj h1)
  have tup_ne : ∀ {a : Addr} {xs : List V}, H a = some (.tup xs) → a ≠ r := fun q z => by rw [z, hr] at q; cases q
  refine ⟨bs ++ [t], by rw [upd_same, eab, List.map_append]; rfl, by simp [h2], fun i a x p q => ?_⟩
  by_cases hi : i < bs.length
  · rw [List.getElem?_append_left hi] at p
    rw [List.getElem?_append_left (by omega)] at q
    have := h3 i a x p q
    rw [upd_ne (tup_ne this)]
    exact this
  · have hl := (List.getElem?_eq_some_iff.mp p).1
    rw [List.length_append, List.length_singleton] at hl
    have ei : i = bs.length := by omega
    subst ei
    rw [List.getElem?_append_right (Nat.le_refl _), Nat.sub_self] at p
    rw [h2, List.getElem?_append_right (Nat.le_refl _), Nat.sub_self] at q
    cases p
    cases q
    rw [upd_ne (tup_ne ht)]
    exact ht

/-! ### a condition where an entry is fixed -/
theorem Rch.head {ns : List Node} {x y : Nat} (h : Rch ns x y) : y = x ∨ ∃ k ∈ kids ns x, Rch ns k y := by
  induction h with
  | refl => exact .inl rfl
  | @step z y _ hk ih =>
    rcases ih with rfl | ⟨k, hkk, h⟩
    · exact .inr ⟨y, hk, .refl⟩
    · exact .inr ⟨k, hkk, .step h hk⟩
theorem filter_two {α : Type} (p q : α → Bool) : ∀ F : List α, F.length ≤ (F.filter p).length + (F.filter q).length + (F.filter fun x => !p x && !q x).length
  | [] => Nat.zero_le _
  | x :: F => by
    have := filter_two p q F
    rw [List.filter_cons, List.filter_cons, List.filter_cons]
    cases hp : p x <;> cases hq : q x <;> simp <;> omega
/-- few nodes stand under a condition -/
theorem rch_len {E : List Int} {ns : List Node} (ok : NOk E ns) : ∀ (d x : Nat), Bd E ns d x → ∀ F : List Nat, F.Nodup → (∀ y ∈ F, Rch ns x y ∧ 2 ≤ y) → F.length + 1 ≤ 2 ^ d := by
  intro d
  induction d with
  | zero =>
    intro x hx F nd h
    cases F with
    | nil => exact Nat.le_refl _
    | cons y r =>
      exfalso
      obtain ⟨hy, y2⟩ := h y List.mem_cons_self
      have yx := hy.le ok
      obtain ⟨n, hn⟩ := nod_some hx.1 (show 2 ≤ x by omega)
      have := hx.2 n hn
      have := lev_pos (ok.en x n hn)
      omega
  | succ d ih =>
    intro x hx F nd h
    have e2 : 2 ^ (d + 1) = 2 * 2 ^ d := by rw [Nat.pow_succ]; omega
    have one := Nat.pow_pos (n := d) (show 0 < 2 by decide)
    by_cases x2 : 2 ≤ x
    · obtain ⟨n, hn⟩ := nod_some hx.1 x2
      obtain ⟨b1, b2⟩ := hx.kid ok hn
      open Classical in
      have f := filter_two (fun y => decide (Rch ns n.2.1 y)) (fun y => decide (Rch ns n.2.2 y)) F
      open Classical in
      have i1 := ih n.2.1 b1 (F.filter fun y => decide (Rch ns n.2.1 y)) (nd.filter _) fun y hy => by
        obtain ⟨m, q⟩ := List.mem_filter.mp hy
        exact ⟨of_decide_eq_true q, (h y m).2⟩
      open Classical in
      have i2 := ih n.2.2 b2 (F.filter fun y => decide (Rch ns n.2.2 y)) (nd.filter _) fun y hy => by
        obtain ⟨m, q⟩ := List.mem_filter.mp hy
        exact ⟨of_decide_eq_true q, (h y m).2⟩
      open Classical in
      have i3 : (F.filter fun y => !decide (Rch ns n.2.1 y) && !decide (Rch ns n.2.2 y)).length ≤ 1 := by
        have al : ∀ y ∈ F.filter fun y => !decide (Rch ns n.2.1 y) && !decide (Rch ns n.2.2 y), y = x := fun y hy => by
          obtain ⟨m, q⟩ := List.mem_filter.mp hy
          rw [Bool.and_eq_true, Bool.not_eq_true', Bool.not_eq_true', decide_eq_false_iff_not, decide_eq_false_iff_not] at q
          rcases (h y m).1.head with e | ⟨k, hk, hr⟩
          · exact e
          · obtain ⟨n', hn', hy', _⟩ := mem_kids hk
            rw [hn] at hn'
            cases hn'
            rcases hy' with rfl | rfl
            · exact absurd hr q.1
            · exact absurd hr q.2
        have nd3 := nd.filter (fun y => !decide (Rch ns n.2.1 y) && !decide (Rch ns n.2.2 y))
        revert al nd3
        generalize F.filter (fun y => !decide (Rch ns n.2.1 y) && !decide (Rch ns n.2.2 y)) = G
        intro al nd3
        match G, al, nd3 with
        | [], _, _ => exact Nat.zero_le _
        | [_], _, _ => exact Nat.le_refl _
        | a :: b :: r, al, nd3 =>
          have e := (al a (by simp)).trans (al b (by simp)).symm
          exact absurd (by rw [e]; simp) (List.nodup_cons.mp nd3).1
      omega
    · cases F with
      | nil => simp only [List.length_nil]; omega
      | cons y r =>
        obtain ⟨hy, y2⟩ := h y List.mem_cons_self
        have := hy.le ok
        omega
theorem Reached.few {E : List Int} {ns : List Node} {c : Nat} {R : List Nat} (hR : Reached ns [c] R) (ok : NOk E ns) (hc : c < ns.length + 2) (hE : E.length ≤ 8) : R.length ≤ 255 := by
  have := rch_len ok E.length c (.all hc) R hR.nd fun y hy => by
    obtain ⟨h2, c', hc', h⟩ := hR.mem y hy
    rw [List.mem_singleton.mp hc'] at h
    exact ⟨h, h2⟩
  have h8 : 2 ^ E.length ≤ 2 ^ 8 := Nat.pow_le_pow_right (by decide) hE
  have e : (2 : Nat) ^ 8 = 256 := by decide
  omega
/-- r is x with e fixed -/
structure Fix (E : List Int) (ns ns' : List Node) (e : Int) (v : Bool) (x r : Nat) : Prop where
  lt : r < ns'.length + 2
  ev : ∀ f, Lw.ev ns' f r = Lw.ev ns (put1 e v f) x
  up : ∀ k, Up ns k x → Up ns' k r
def Ress (E : List Int) (ns ns' : List Node) (e : Int) (v : Bool) (kvs : List (Key × V)) (F : List Nat) : Prop :=
  ∀ x : Nat, x < 2 ∨ x ∈ F → ∃ q : Nat, valV kvs (Sum.inl (x : Int) : Key) = some (.int q) ∧ Fix E ns ns' e v x q
def spRestrict (C : Addr) : Sp := fun vs H Q _ => ∃ (E : List Int) (s : SA) (ns : List Node) (b c : Nat) (e : Int) (v : Bool), vs = [.ref s.p, .int c, .int e, .bl v] ∧ StoAt C E s H ns b ∧ c < ns.length + 2 ∧ E.length ≤ 8 ∧ b + 256 ≤ 1000000 ∧
  ∀ (H' : Hp) (ns' : List Node) (r : Nat), Kp s.M H H' → StoAt C E s H' ns' (b + 256) → Pre ns ns' → Fix E ns ns' e v c r → Q (.int r) H'
section
variable {P : Program} {w : World} {K : PySem.W.Frag} {mg : Str → Option Value} {base : Heap} {C : Addr}
theorem ok_restrict (D : GM K C "restrict" "Diagrams.restrict" sD_Drestrict ["self", "condition", "entry", "is_there"]) (T : TSto K w mg C) (m_reached : Met P w K mg base 2 C "reached" (spReached K C) []) (m_make : Met P w K mg base 1 C "make" (spMake C) []) :
    Met P w K mg base 3 C "restrict" (spRestrict C) [] := by
  refine D.met T.cl sc_Drestrict (fun vs H Q E h => ?_) (fun f cdv A outer s0 H vs Q E hr h => ?_)
  · obtain ⟨E, s, ns, b, c, e, v, rfl, _⟩ := h
    rfl
  obtain ⟨E, s, ns, b, c, e, v, rfl, S, hc, hE, hb, q⟩ := h
  have hu := hu_of hr
  obtain ⟨outC, outL, outN⟩ := S.out
  refine ⟨_, (pss_cons (ps_set (i := 4) sc_Drestrict.nd rfl (Or.inl rfl) (pe_disp (pps_cons (pe_gc rfl T.g_NEVER) (pe_gc rfl T.g_NEVER) (pps_cons (pe_gc rfl T.g_ALWAYS) (pe_gc rfl T.g_ALWAYS) pps_nil)) (by rfl) (by rfl) (fun z => by cases z) (by decide)))
    (pss_cons (ps_for PassesOwn.never rfl (pi_list (pe_mt m_reached hr (by omega) (pv 0) (pa_cons (pe_lst (pa_cons (pv 1) pa_nil)) pa_nil))) (pg_name (i := 5) sc_Drestrict.nd rfl (Or.inl rfl)) (pss_cons (ps_asg (pe_ix ix_list (pe_fld (pv 0) rfl) (pv 5) (fun _ _ => rfl)) (pg_tup rfl (pgs_cons (pg_name (i := 6) sc_Drestrict.nd rfl (Or.inl rfl)) (pgs_cons (pg_name (i := 7) sc_Drestrict.nd rfl (Or.inl rfl)) (pgs_cons (pg_name (i := 8) sc_Drestrict.nd rfl (Or.inl rfl)) pgs_nil)))))
    (pss_one (ps_if (pt_cmpR op_eq (pv 6) (pv 2) (nomark _)) (pss_one (ps_dput hu (pv 4) (pv 5) (pe_ifExp (pt_val (pv 3)) (pe_dget hu (pv 4) (pv 8) (fun _ _ => rfl)) (pe_dget hu (pv 4) (pv 7) (fun _ _ => rfl))) rfl)) (pss_one (ps_dput hu (pv 4) (pv 5) (pe_mt m_make hr (by omega) (pv 0) (pa_cons (pv 6) (pa_cons (pe_dget hu (pv 4) (pv 7) (fun _ _ => rfl)) (pa_cons (pe_dget hu (pv 4) (pv 8) (fun _ _ => rfl)) pa_nil)))) rfl))))))
    (pss_one (ps_ret (pe_dget hu (pv 4) (pv 1) (fun _ _ => rfl)))))), ?_⟩
  refine fun rd hrd => ?_
  refine ⟨upd_same, [(Sum.inl 0, .int 0), (Sum.inl 1, .int 1)], rfl, (by show 2 ≤ 15; decide), ?_⟩
  have k2 : Kp [] H (upd (upd H rd (.dK [])) rd (.dK (mergeK [] [(Sum.inl 0, .int 0), (Sum.inl 1, .int 1)]))) := (Kp.new hrd).mt hrd
  have hrd2 : (upd (upd H rd (.dK [])) rd (.dK (mergeK [] [(Sum.inl 0, .int 0), (Sum.inl 1, .int 1)]))) rd = some (.dK (mergeK [] [(Sum.inl 0, .int 0), (Sum.inl 1, .int 1)])) := upd_same
  have f2 : Ress E ns ns e v (mergeK [] [(Sum.inl 0, .int 0), (Sum.inl 1, .int 1)]) [] := fun x hx => by
    have h2 : x = 0 ∨ x = 1 := by
      rcases hx with h | h
      · omega
      · cases h
    rcases h2 with rfl | rfl
    · exact ⟨0, rfl, ⟨by omega, fun f => by rw [ev_zero, ev_zero], fun k u => u⟩⟩
    · exact ⟨1, rfl, ⟨by omega, fun f => by rw [ev_one, ev_one], fun k u => u⟩⟩
  have g2 : (mergeK [] [((Sum.inl 0 : Key), V.int 0), (Sum.inl 1, .int 1)]).length = 2 := rfl
  generalize mergeK [] [((Sum.inl 0 : Key), V.int 0), (Sum.inl 1, .int 1)] = kv0 at k2 hrd2 f2 g2 ⊢
  obtain ⟨H2, hH2⟩ : ∃ H2, upd (upd H rd (.dK [])) rd (.dK kv0) = H2 := ⟨_, rfl⟩
  rw [hH2] at k2 hrd2 ⊢
  have S2 := S.new k2
  refine ⟨_, rfl, s.p, s.dx, _, rfl, S2.ob, sf_no _ _ _ (by decide +kernel) (by decide +kernel) (by decide +kernel), _, rfl, (by show 1 ≤ sizeLine; decide), fun ra hra => ?_⟩
  have k3 : Kp [] H2 (upd H2 ra (.lst [.int c])) := .new hra
  refine ⟨E, s, ns, b, [c], ra, rfl, S2.new k3, SqL.of upd_same, fun x hx => by rw [List.mem_singleton.mp hx]; exact hc, by omega, fun R r H4 hR hr4 k4 hH4 => ?_⟩
  have k24 := k3.trans k4
  have k04 : Kp [] H H4 := k2.trans k24
  have hRn := hR.few S.ok hc hE
  have rdM := outN rd hrd
  have rM := outN r (((k2.trans k3).free hr4 (by simp)))
  have nrd : r ≠ rd := fun z => by rw [z, k3.k _ _ hrd2 (by simp)] at hr4; cases hr4
  refine ⟨r, rfl, ⟨_, SqL.of hH4⟩, for_list (K := K) (a := r) (xs := R.map vI) (fun i σ H' => ∃ (v5 v6 v7 v8 : Option V) (ns' : List Node) (kv : List (Key × V)),
    σ = [some (.ref s.p), some (.int c), some (.int e), some (.bl v), some (.ref rd), v5, v6, v7, v8] ∧ Kp s.M H H' ∧ StoAt C E s H' ns' (b + i) ∧ Pre ns ns' ∧ H' r = some (.lst (R.map vI)) ∧ H' rd = some (.dK kv) ∧ kv.length ≤ i + 2 ∧ Ress E ns ns' e v kv (R.take i))
    ⟨none, none, none, none, ns, kv0, rfl, k04.wide fun b m => absurd m List.not_mem_nil, S.new k04, .refl _, hH4, k24.k _ _ hrd2 (by simp), by omega, f2⟩ (fun i σ H' _ p => ?_) ?_ ?_⟩
  · obtain ⟨v5, v6, v7, v8, ns', kv, rfl, _, _, _, h, _⟩ := p
    exact SqL.of h
  · rintro i x σ H5 hi ⟨v5, v6, v7, v8, ns5, kv, rfl, k5, S5, p5, r5, d5, l5, f5⟩
    obtain ⟨x, hx, rfl⟩ := mapAt hi
    have hxR : x ∈ R := List.mem_of_getElem? hx
    have hiR := (List.getElem?_eq_some_iff.mp hx).1
    obtain ⟨x2, c', hc', rx⟩ := hR.mem x hxR
    rw [List.mem_singleton.mp hc'] at rx
    have xle := rx.le S.ok
    obtain ⟨n, hn⟩ := nod_some (show x < ns.length + 2 by omega) x2
    obtain ⟨lt1, lt2, _⟩ := S.ok.lt x n hn
    obtain ⟨o1, o2⟩ := S.ok.ord x n hn
    have topo := hR.topo i x hx
    obtain ⟨km1, km2⟩ := kids_mem hn
    obtain ⟨qu, u1, u2⟩ := f5 n.2.1 (by by_cases z : n.2.1 < 2; exact .inl z; exact .inr (topo _ (km1 (by omega))))
    obtain ⟨qw, w1, w2⟩ := f5 n.2.2 (by by_cases z : n.2.2 < 2; exact .inl z; exact .inr (topo _ (km2 (by omega))))
    have gu : DGet H5 rd (.int n.2.1) (some (.int qu)) := by rw [← u1]; exact DGet.k (k := Sum.inl ((n.2.1 : Nat) : Int)) d5
    have gw : DGet H5 rd (.int n.2.2) (some (.int qw)) := by rw [← w1]; exact DGet.k (k := Sum.inl ((n.2.2 : Nat) : Int)) d5
    obtain ⟨as, a, h1, h2, h3⟩ := S5.at (p5.nod_some hn)
    have fin : ∀ (H6 : Hp) (ns6 : List Node) (z : Nat), Kp s.M H5 H6 → StoAt C E s H6 ns6 (b + i + 1) → Pre ns5 ns6 → Fix E ns ns6 e v x z → ∀ N : L2.St → Hp → Prop, (∀ σ H', (∃ (v5 v6 v7 v8 : Option V) (ns' : List Node) (kv : List (Key × V)),
        σ = [some (.ref s.p), some (.int c), some (.int e), some (.bl v), some (.ref rd), v5, v6, v7, v8] ∧ Kp s.M H H' ∧ StoAt C E s H' ns' (b + (i + 1)) ∧ Pre ns ns' ∧ H' r = some (.lst (R.map vI)) ∧ H' rd = some (.dK kv) ∧ kv.length ≤ i + 1 + 2 ∧ Ress E ns ns' e v kv (R.take (i + 1))) → N σ H') →
        ∃ a H4, V.ref rd = .ref a ∧ DPut H6 a (.int x) (.int z) H4 ∧ N [some (.ref s.p), some (.int c), some (.int e), some (.bl v), some (.ref rd), some (.int x), some (.int n.1), some (.int n.2.1), some (.int n.2.2)] H4 := fun H6 ns6 z k6 S6 p6 fx N hN => by
      have d6 := k6.k _ _ d5 rdM
      refine ⟨rd, _, rfl, DPut.k (k := Sum.inl (x : Int)) d6 (small1000 (by omega)), hN _ _ ⟨_, _, _, _, ns6, _, rfl, (k5.trans k6).mt hrd, ?_, p5.trans p6, ?_, upd_same, Nat.le_trans (length_putK _ _ _) (by omega), fun y hy => ?_⟩⟩
      · refine (S6.mono (by omega)).kp (M := [rd]) (.put (by simp) d6 (fun xs e => by cases e)) ?_ ?_ ?_ ?_
        · intro m
          have e1 := List.mem_singleton.mp m
          have := S6.ob
          rw [e1, d6] at this
          cases this
        · exact fun m => rdM (by rw [← List.mem_singleton.mp m]; simp)
        · exact fun m => rdM (by rw [← List.mem_singleton.mp m]; simp)
        · exact fun m => rdM (by rw [← List.mem_singleton.mp m]; simp)
      · rw [upd_ne nrd]
        exact k6.k _ _ r5 rM
      · rw [valV_put]
        by_cases ey : y = x
        · subst ey
          rw [if_pos rfl]
          exact ⟨z, rfl, fx⟩
        · rw [if_neg fun z : (Sum.inl (y : Int) : Key) = Sum.inl (x : Int) => ey (Int.ofNat.inj (Sum.inl.inj z))]
          obtain ⟨q', h1', h2'⟩ := f5 y (hy.imp id fun m => by
            rw [takeS hx] at m
            rcases List.mem_append.mp m with m | m
            · exact m
            · exact absurd (List.mem_singleton.mp m) ey)
          exact ⟨q', h1', ⟨by have := p6.len; have := h2'.lt; omega, fun f => by rw [p6.ev S5.ok S6.ok f _ h2'.lt]; exact h2'.ev f, fun k u => p6.up h2'.lt (h2'.up k u)⟩⟩
    refine ⟨_, rfl, s.p, C, s.dx, _, _, rfl, S5.ob, T.cl, T.a_nodes, sf_nodes _ _ _, _, rfl, s.l, _, _, _, rfl, rfl, SqL.of h1, h2, a, _, rfl, SqT.of h3, rfl, _, _, rfl, _, _, rfl, _, _, rfl, rfl, ?_⟩
    refine ⟨_, rfl, _, rfl, rfl, _, rfl, ?_⟩
    refine ite2 (fun ce => ?_) (fun ce => ?_)
    · have ke : n.1 = e := dI ce
      refine ⟨_, rfl, _, rfl, ?_⟩
      cases v with
      | true =>
        refine iteT ⟨_, rfl, _, rfl, rd, _, rfl, gw, _, rfl, _, rfl, fin H5 ns5 qw .refl (S5.mono (by omega)) (.refl _) ⟨w2.lt, fun f => ?_, fun k u => w2.up k fun m hm => ?_⟩ _ fun _ _ h => h⟩
        · rw [w2.ev, S.ok.ev hn, ke, put1_self, if_pos rfl]
        · have := u n hn
          have := o2 m hm
          omega
      | false =>
        refine iteF ⟨_, rfl, _, rfl, rd, _, rfl, gu, _, rfl, _, rfl, fin H5 ns5 qu .refl (S5.mono (by omega)) (.refl _) ⟨u2.lt, fun f => ?_, fun k u => u2.up k fun m hm => ?_⟩ _ fun _ _ h => h⟩
        · rw [u2.ev, S.ok.ev hn, ke, put1_self, if_neg (by decide)]
        · have := u n hn
          have := o1 m hm
          omega
    · have ke : n.1 ≠ e := nI ce
      refine ⟨_, rfl, s.p, s.dx, _, rfl, S5.ob, sf_no _ _ _ (by decide +kernel) (by decide +kernel) (by decide +kernel), _, rfl, _, rfl, _, rfl, rd, _, rfl, gu, _, rfl, _, rfl, rd, _, rfl, gw, E, s, ns5, b + i, n.1, qu, qw, rfl, S5, S.ok.en x n hn, u2.lt, w2.lt, u2.up _ o1, w2.up _ o2, by omega, fun H6 ns6 z k6 S6 p6 md => ?_⟩
      refine ⟨_, rfl, _, rfl, fin H6 ns6 z k6 S6 p6 ⟨?_, fun f => ?_, fun k u => ?_⟩ _ fun _ _ h => h⟩
      · rcases md with ⟨_, rfl⟩ | ⟨_, h⟩
        · have := p6.len; have := u2.lt; omega
        · exact (nod_lt h).2
      · rw [md.ev S6.ok, p6.ev S5.ok S6.ok f _ w2.lt, p6.ev S5.ok S6.ok f _ u2.lt, w2.ev, u2.ev, S.ok.ev hn, put1_ne ke]
      · have ukn := u n hn
        rcases md with ⟨_, rfl⟩ | ⟨_, h⟩
        · exact p6.up u2.lt (u2.up k fun m hm => by have := o1 m hm; omega)
        · intro m hm
          rw [h] at hm
          cases hm
          exact ukn
  · rintro σ H5 ⟨v5, v6, v7, v8, ns5, kv, rfl, k5, S5, p5, r5, d5, l5, f5⟩
    rw [List.length_map] at S5
    rw [List.length_map, List.take_length] at f5
    obtain ⟨z, h1, h2⟩ := f5 c (by by_cases z : c < 2; exact .inl z; exact .inr (hR.top c (by simp) (by omega)))
    have gz : DGet H5 rd (.int c) (some (.int z)) := by rw [← h1]; exact DGet.k (k := Sum.inl (c : Int)) d5
    exact ⟨_, rfl, _, rfl, rd, _, rfl, gz, q H5 ns5 z k5 (S5.mono (by omega)) p5 h2⟩
end

/-! ### counts of subsets by their size, in plain Lean -/
def addL : List Int → List Int → List Int
  | [], b => b
  | a, [] => a
  | x :: a, y :: b => (x + y) :: addL a b
theorem addL_nil (a : List Int) : addL a [] = a := by cases a <;> rfl
theorem addL_comm : ∀ a b : List Int, addL a b = addL b a
  | [], b => (addL_nil b).symm
  | a :: r, [] => rfl
  | x :: a, y :: b => by
    show (x + y) :: addL a b = (y + x) :: addL b a
    rw [addL_comm a b, Int.add_comm]
theorem addL_len : ∀ a b : List Int, (addL a b).length = Nat.max a.length b.length
  | [], b => (Nat.max_eq_right (Nat.zero_le _)).symm
  | a :: r, [] => (Nat.max_eq_left (Nat.zero_le _)).symm
  | x :: a, y :: b => by
    show (addL a b).length + 1 = Nat.max (a.length + 1) (b.length + 1)
    rw [addL_len a b]
    exact (Nat.succ_max_succ _ _).symm
/-- the longer one first -/
theorem addL_at : ∀ (a b : List Int) (i : Nat) (x : Int), b.length ≤ a.length → a[i]? = some x → (addL a b)[i]? = some (x + (b[i]?).getD 0)
  | [], _, i, x, _, h => by simp at h
  | a :: r, [], i, x, _, h => by
    show (a :: r)[i]? = _
    rw [h]
    simp
  | a :: r, b :: s, 0, x, _, h => by
    cases h
    rfl
  | a :: r, b :: s, i + 1, x, hl, h => addL_at r s i x (Nat.le_of_succ_le_succ hl) h
theorem addL_assoc : ∀ a b c : List Int, addL (addL a b) c = addL a (addL b c)
  | [], b, c => rfl
  | a :: r, [], c => rfl
  | a :: r, b :: s, [] => rfl
  | a :: r, b :: s, c :: t => by
    show (a + b + c) :: addL (addL r s) t = (a + (b + c)) :: addL r (addL s t)
    rw [addL_assoc r s t, Int.add_assoc]
def stepL (a : List Int) : List Int := addL a (0 :: a)
theorem stepL_len (a : List Int) : (stepL a).length = a.length + 1 := by
  unfold stepL
  rw [addL_len]
  exact Nat.max_eq_right (Nat.le_succ _)
def widen : Nat → List Int → List Int
  | 0, a => a
  | n + 1, a => widen n (stepL a)
theorem widen_len : ∀ (n : Nat) (a : List Int), (widen n a).length = a.length + n
  | 0, a => rfl
  | n + 1, a => by
    show (widen n (stepL a)).length = _
    rw [widen_len n, stepL_len]
    omega
theorem widen_step : ∀ (n : Nat) (a : List Int), widen n (stepL a) = stepL (widen n a)
  | 0, a => rfl
  | n + 1, a => by
    show widen n (stepL (stepL a)) = stepL (widen n (stepL a))
    exact widen_step n _
def cnt : List Int → ((Int → Bool) → Int) → List Int
  | [], g => [g fun _ => false]
  | e :: L, g => addL (cnt L g) (0 :: cnt L fun f => g (set1 e f))
theorem cnt_len : ∀ (L : List Int) (g : (Int → Bool) → Int), (cnt L g).length = L.length + 1
  | [], _ => rfl
  | e :: L, g => by
    show (addL (cnt L g) (0 :: cnt L _)).length = _
    rw [addL_len, List.length_cons, cnt_len L, cnt_len L]
    exact Nat.max_eq_right (Nat.le_succ _)
theorem cnt_congr : ∀ {L : List Int} {g h : (Int → Bool) → Int}, (∀ f, (∀ x, x ∉ L → f x = false) → g f = h f) → cnt L g = cnt L h
  | [], g, h, q => by
    show [g _] = [h _]
    rw [q _ fun _ _ => rfl]
  | e :: L, g, h, q => by
    show addL (cnt L g) (0 :: cnt L _) = addL (cnt L h) (0 :: cnt L _)
    rw [cnt_congr (L := L) (g := g) (h := h) fun f hf => q f fun x hx => hf x fun m => hx (List.mem_cons_of_mem _ m),
      cnt_congr (L := L) (g := fun f => g (set1 e f)) (h := fun f => h (set1 e f)) fun f hf => q _ fun x hx => by
        rw [set1_ne (fun z => hx (by rw [z]; exact List.mem_cons_self))]
        exact hf x fun m => hx (List.mem_cons_of_mem _ m)]
theorem cnt_skip {g : (Int → Bool) → Int} {e : Int} (L : List Int) (h : Ind g e) : cnt (e :: L) g = stepL (cnt L g) := by
  show addL (cnt L g) (0 :: cnt L _) = _
  rw [show (fun f => g (set1 e f)) = g from funext h]
  rfl
theorem cnt_drop {g : (Int → Bool) → Int} : ∀ (L1 L2 : List Int), (∀ e ∈ L1, Ind g e) → cnt (L1 ++ L2) g = widen L1.length (cnt L2 g)
  | [], _, _ => rfl
  | e :: L1, L2, h => by
    show cnt (e :: (L1 ++ L2)) g = widen L1.length (stepL (cnt L2 g))
    rw [cnt_skip _ (h e List.mem_cons_self), cnt_drop L1 L2 fun x hx => h x (List.mem_cons_of_mem _ hx), widen_step]
theorem addL_bd {B C : Int} (hC : 0 ≤ B) (hD : 0 ≤ C) : ∀ a b : List Int, (∀ x ∈ a, 0 ≤ x ∧ x ≤ B) → (∀ x ∈ b, 0 ≤ x ∧ x ≤ C) → ∀ x ∈ addL a b, 0 ≤ x ∧ x ≤ B + C
  | [], b, _, hb => fun x hx => by have := hb x hx; omega
  | a :: r, [], ha, _ => fun x hx => by have := ha x hx; omega
  | a :: r, b :: s, ha, hb => fun x hx => by
    rcases List.mem_cons.mp hx with rfl | m
    · have := ha a List.mem_cons_self; have := hb b List.mem_cons_self; omega
    · exact addL_bd hC hD r s (fun y hy => ha y (List.mem_cons_of_mem _ hy)) (fun y hy => hb y (List.mem_cons_of_mem _ hy)) x m
theorem cnt_bd : ∀ (L : List Int) (g : (Int → Bool) → Int), (∀ f, 0 ≤ g f ∧ g f ≤ 1) → ∀ x ∈ cnt L g, 0 ≤ x ∧ x ≤ 2 ^ L.length
  | [], g, h => fun x hx => by
    rw [List.mem_singleton.mp hx]
    show 0 ≤ g _ ∧ g _ ≤ 2 ^ 0
    rw [Int.pow_zero]
    exact h _
  | e :: L, g, h => fun x hx => by
    have p : (0 : Int) ≤ 2 ^ L.length := Int.pow_nonneg (by decide)
    have := addL_bd p p (cnt L g) (0 :: cnt L fun f => g (set1 e f)) (cnt_bd L g h) (fun y hy => by
      rcases List.mem_cons.mp hy with rfl | m
      · exact ⟨Int.le_refl _, p⟩
      · exact cnt_bd L _ (fun f => h _) y m) x hx
    show 0 ≤ x ∧ x ≤ 2 ^ (L.length + 1)
    rw [Int.pow_succ]
    omega
/-- the place of a condition among L, and the counts from there -/
structure PlaL (ns : List Node) (L : List Int) (x p : Nat) (m : List Int) : Prop where
  at_ : (x < 2 ∧ p = L.length) ∨ ∃ n, nod ns x = some n ∧ L[p]? = some n.1
  val : m = cnt (L.drop p) (hol ns x)
theorem PlaL.pla {ns : List Node} {L : List Int} {x p : Nat} {m : List Int} (h : PlaL ns L x p m) : Pla (fun _ => 0) (fun _ => 0) ns L x p (Sm (fun _ => 0) (fun _ => 0) (L.drop p) (hol ns x)) := ⟨h.at_, rfl⟩
section
variable {E L : List Int} {ns : List Node}
theorem PlaL.le {x p : Nat} {m : List Int} (h : PlaL ns L x p m) : p ≤ L.length := h.pla.le
theorem PlaL.from {x p q : Nat} {m : List Int} (h : PlaL ns L x p m) (ok : NOk E ns) (hx : x < ns.length + 2) (up : L.Pairwise (· < ·)) (hq : q ≤ p) : widen (p - q) m = cnt (L.drop q) (hol ns x) := by
  have hp := h.le
  have e : L.drop q = (L.drop q).take (p - q) ++ L.drop p := by
    have := (List.take_append_drop (p - q) (L.drop q)).symm
    rw [List.drop_drop] at this
    rw [show q + (p - q) = p by omega] at this
    exact this
  rw [e, cnt_drop _ _ fun x' hx' => ?_, h.val]
  · rw [List.length_take, List.length_drop, show min (p - q) (L.length - q) = p - q by omega]
  · obtain ⟨j, hj⟩ := List.getElem?_of_mem hx'
    have hj1 := (List.getElem?_eq_some_iff.mp hj).1
    rw [List.length_take] at hj1
    rw [List.getElem?_take_of_lt (by omega), List.getElem?_drop] at hj
    exact h.pla.ind ok hx up (q + j) x' (by omega) hj
theorem PlaL.leaf (x : Nat) (hx : x < 2) : PlaL ns L x L.length [if x = 0 then 0 else 1] := by
  refine ⟨.inl ⟨hx, rfl⟩, ?_⟩
  rw [List.drop_length]
  show _ = [hol ns x _]
  unfold hol
  have : x = 0 ∨ x = 1 := by omega
  rcases this with rfl | rfl
  · rw [ev_zero]; rfl
  · rw [ev_one]; rfl
theorem PlaL.node {x p pw pt : Nat} {n : Node} {mw mt : List Int} (ok : NOk E ns) (up : L.Pairwise (· < ·)) (hn : nod ns x = some n) (hp : L[p]? = some n.1) (w : PlaL ns L n.2.1 pw mw) (t : PlaL ns L n.2.2 pt mt) :
    p < pw ∧ p < pt ∧ PlaL ns L x p (addL (widen (pw - p - 1) mw) (0 :: widen (pt - p - 1) mt)) := by
  obtain ⟨l1, l2, _⟩ := ok.lt x n hn
  obtain ⟨u1, u2⟩ := ok.ord x n hn
  have hx := nod_lt hn
  obtain ⟨ip, ep⟩ := List.getElem?_eq_some_iff.mp hp
  obtain ⟨h1, h2, _⟩ := Pla.node (a := fun _ => 0) (b := fun _ => 0) (of := 0) ok up (fun _ => rfl) hn hp w.pla t.pla
  refine ⟨h1, h2, .inr ⟨n, hn, hp⟩, ?_⟩
  have ew := w.from (q := p + 1) ok (by omega) up (by omega)
  have et := t.from (q := p + 1) ok (by omega) up (by omega)
  rw [show pw - p - 1 = pw - (p + 1) by omega, show pt - p - 1 = pt - (p + 1) by omega, ew, et, List.drop_eq_getElem_cons ip, ep]
  have hne : n.1 ∉ L.drop (p + 1) := fun m => by
    obtain ⟨j, hj⟩ := List.getElem?_of_mem m
    rw [List.getElem?_drop] at hj
    obtain ⟨ij, ej⟩ := List.getElem?_eq_some_iff.mp hj
    have := List.pairwise_iff_getElem.mp up p (p + 1 + j) ip ij (by omega)
    omega
  show _ = addL (cnt (L.drop (p + 1)) (hol ns x)) (0 :: cnt (L.drop (p + 1)) fun f => hol ns x (set1 n.1 f))
  rw [cnt_congr (g := hol ns x) (h := hol ns n.2.1) fun f hf => ?_, cnt_congr (g := fun f => hol ns x (set1 n.1 f)) (h := hol ns n.2.2) fun f hf => ?_]
  · show hol ns x (set1 n.1 f) = hol ns n.2.2 f
    unfold hol
    rw [ok.ev hn, set1_self, if_pos rfl, ev_set1 ok (by omega) u2 (Int.le_refl _)]
  · unfold hol
    rw [ok.ev hn, hf _ hne]
    rfl
theorem PlaL.all {x p : Nat} {m : List Int} (h : PlaL ns L x p m) (ok : NOk E ns) (hx : x < ns.length + 2) (up : L.Pairwise (· < ·)) : widen p m = cnt L (hol ns x) := by
  have := h.from (q := 0) ok hx up (Nat.zero_le _)
  rwa [Nat.sub_zero, List.drop_zero] at this
end
/-! weighed sums -/
def nfac : Nat → Int
  | 0 => 1
  | n + 1 => nfac n * (n + 1 : Nat)
def SW : List Int → (Nat → Int) → ((Int → Bool) → Int) → Int
  | [], φ, g => φ 0 * g fun _ => false
  | e :: L, φ, g => SW L φ g + SW L (fun k => φ (k + 1)) fun f => g (set1 e f)
def wsum : (Nat → Int) → List Int → Int
  | _, [] => 0
  | φ, c :: r => φ 0 * c + wsum (fun k => φ (k + 1)) r
theorem wsum_add : ∀ (φ : Nat → Int) (a b : List Int), wsum φ (addL a b) = wsum φ a + wsum φ b
  | φ, [], b => by
    show wsum φ b = 0 + wsum φ b
    omega
  | φ, a :: r, [] => by
    show wsum φ (a :: r) = wsum φ (a :: r) + 0
    omega
  | φ, a :: r, b :: s => by
    show φ 0 * (a + b) + wsum _ (addL r s) = (φ 0 * a + wsum _ r) + (φ 0 * b + wsum _ s)
    rw [wsum_add _ r s, Int.mul_add]
    omega
theorem wsum_cnt : ∀ (L : List Int) (φ : Nat → Int) (g : (Int → Bool) → Int), wsum φ (cnt L g) = SW L φ g
  | [], φ, g => by
    show φ 0 * g _ + 0 = φ 0 * g _
    omega
  | e :: L, φ, g => by
    show wsum φ (addL (cnt L g) (0 :: cnt L _)) = SW L φ g + SW L _ _
    rw [wsum_add, wsum_cnt L φ g]
    show _ + (φ 0 * 0 + wsum _ (cnt L _)) = _
    rw [wsum_cnt L]
    omega

/-! ### counts, as the program makes them -/
theorem addL_take {lo sh : List Int} (h : sh.length ≤ lo.length) {i : Nat} {x : Int} (hx : lo[i]? = some x) : (addL lo sh).take (i + 1) = (addL lo sh).take i ++ [x + (sh[i]?).getD 0] := takeS (addL_at lo sh i x h hx)
theorem addL_len_ge {lo sh : List Int} (h : sh.length ≤ lo.length) : (addL lo sh).length = lo.length := by
  rw [addL_len]
  exact Nat.max_eq_left h
/-- facs n: 0!, 1!, .. n! -/
def facs (n : Nat) : List Int := (List.range (n + 1)).map nfac
theorem facs_at {n k : Nat} (h : k ≤ n) : (facs n)[k]? = some (nfac k) := by
  unfold facs
  rw [List.getElem?_map, List.getElem?_range (by omega)]
  rfl
theorem facs_succ (n : Nat) : facs (n + 1) = facs n ++ [nfac (n + 1)] := by
  unfold facs
  rw [List.range_succ, List.map_append]
  rfl
theorem facs_len (n : Nat) : (facs n).length = n + 1 := by
  unfold facs
  rw [List.length_map, List.length_range]
theorem nfac_bd : ∀ n : Nat, n ≤ 10 → 1 ≤ nfac n ∧ nfac n ≤ 3628800 := by
  intro n h
  have : n = 0 ∨ n = 1 ∨ n = 2 ∨ n = 3 ∨ n = 4 ∨ n = 5 ∨ n = 6 ∨ n = 7 ∨ n = 8 ∨ n = 9 ∨ n = 10 := by omega
  rcases this with rfl | rfl | rfl | rfl | rfl | rfl | rfl | rfl | rfl | rfl | rfl <;> decide
def wlist : (Nat → Int) → List Int → List Int
  | _, [] => []
  | φ, c :: r => (φ 0 * c) :: wlist (fun k => φ (k + 1)) r
theorem wlist_sum : ∀ (φ : Nat → Int) (cs : List Int), (wlist φ cs).sum = wsum φ cs
  | _, [] => rfl
  | φ, c :: r => by
    show (φ 0 * c :: wlist _ r).sum = φ 0 * c + wsum _ r
    rw [List.sum_cons, wlist_sum _ r]
theorem wlist_at : ∀ (φ : Nat → Int) (cs : List Int) (i : Nat) (c : Int), cs[i]? = some c → (wlist φ cs)[i]? = some (φ i * c)
  | _, [], i, c, h => by simp at h
  | φ, c :: r, 0, _, h => by cases h; rfl
  | φ, c :: r, i + 1, x, h => wlist_at (fun k => φ (k + 1)) r i x h
theorem wlist_len : ∀ (φ : Nat → Int) (cs : List Int), (wlist φ cs).length = cs.length
  | _, [] => rfl
  | φ, c :: r => congrArg Nat.succ (wlist_len _ r)
def spAdded (K : PySem.W.Frag) : Sp := fun vs H Q _ => ∃ (a b : Addr) (x y : List Int), vs = [.ref a, .ref b] ∧ SqL K H a (x.map V.int) ∧ SqL K H b (y.map V.int) ∧ x.length ≤ 100 ∧ y.length ≤ 100 ∧
  ∀ (r : Addr) (H' : Hp), H r = none → Kp [] H H' → H' r = some (.lst ((addL x y).map V.int)) → Q (.ref r) H'
def spWidened : Sp := fun vs H Q _ => ∃ (a : Addr) (x : List Int) (n : Nat), vs = [.ref a, .int n] ∧ H a = some (.lst (x.map V.int)) ∧ x.length + n ≤ 90 ∧
  ∀ (r : Addr) (H' : Hp), Kp [] H H' → H' r = some (.lst ((widen n x).map V.int)) → Q (.ref r) H'
def spOrders : Sp := fun vs H Q _ => ∃ n : Nat, vs = [.int n] ∧ n ≤ 8 ∧ ∀ (r : Addr) (H' : Hp), H r = none → Kp [] H H' → H' r = some (.lst ((facs n).map V.int)) → Q (.ref r) H'
def spWeighed (K : PySem.W.Frag) : Sp := fun vs H Q _ => ∃ (a b : Addr) (cs : List Int) (m N : Nat), vs = [.ref a, .ref b, .int m] ∧ SqL K H a (cs.map V.int) ∧ SqL K H b ((facs N).map V.int) ∧ cs.length = m + 1 ∧ m ≤ N ∧ N ≤ 10 ∧ (∀ c ∈ cs, 0 ≤ c ∧ c ≤ 1000) ∧
  ∀ H', Kp [] H H' → Q (.int (wsum (fun k => nfac k * nfac (m - k)) cs)) H'
structure TPoly (mg : Str → Option Value) : Prop where
  n_len : mg "len" = none
  n_range : mg "range" = none
  n_sum : mg "sum" = none
  n_enumerate : mg "enumerate" = none
section
variable {P : Program} {w : World} {K : PySem.W.Frag} {mg : Str → Option Value} {base : Heap}
theorem ok_added (D : GD K mg "added" sD_added ["first", "second"]) (T : TPoly mg) : Cal P w K mg base 1 "added" (spAdded K) [] := by
  refine D.cal sc_added (fun vs H Q E h => ?_) (fun f cdv A outer s0 H vs Q E hr h => ?_)
  · obtain ⟨a, b, x, y, rfl, _⟩ := h
    rfl
  obtain ⟨a, b, x, y, rfl, hA, hB, lx, ly, q⟩ := h
  refine ⟨_, (pss_cons (ps_asg (pe_ifExp (pt_cmpR op_ge (pe_callB call_len_seq (by rfl) T.n_len (by decide +kernel) (pa_cons (pv 0) pa_nil)) (pe_callB call_len_seq (by rfl) T.n_len (by decide +kernel) (pa_cons (pv 1) pa_nil)) (nomark _)) (pe_tup (pa_cons (pv 0) (pa_cons (pv 1) pa_nil))) (pe_tup (pa_cons (pv 1) (pa_cons (pv 0) pa_nil)))) (pg_tup rfl (pgs_cons (pg_name (i := 2) sc_added.nd rfl (Or.inl rfl)) (pgs_cons (pg_name (i := 3) sc_added.nd rfl (Or.inr rfl)) pgs_nil))))
    (pss_one (ps_ret (pe_lc (own := [("place", 4), ("count", 5)]) (tt := tYes) rfl sc_added.nd (pi_enum (by rfl) T.n_enumerate (pa_cons (pv 2) pa_nil)) (blkOk_by (own := [("place", 4), ("count", 5)]) (N := ["first", "second", "longer", "shorter", "place", "count"]) (sc := defScope sD_added) (by decide +kernel)) (fun _ _ _ _ _ => (bx_ptup (K := K) (n := 2) rfl rfl (pgs_cons (pg_name (i := 4) sc_added.nd rfl (Or.inl rfl)) (pgs_cons (pg_name (i := 5) sc_added.nd rfl (Or.inl rfl)) pgs_nil)))) (fun _ _ _ _ _ => pts_nil) (fun _ _ _ _ _ => (pe_ifExp (pt_cmpR op_lt (pv 4) (bx_len (K := K) rfl (by rfl) T.n_len (by decide +kernel) (pa_cons (pv 3) pa_nil)) (nomark _)) (pe_op op_add (pv 5) (bx_list (K := K) rfl (pv 3) (pv 4) (fun _ _ => rfl))) (pv 5))))))), ?_⟩
  refine ⟨_, rfl, a, _, rfl, .inl hA, _, rfl, b, _, rfl, .inl hB, _, _, rfl, rfl, _, rfl, ?_⟩
  refine ite2 (fun c => ?_) (fun c => ?_)
  · have ge : y.length ≤ x.length := by
      have := of_decide_eq_true c
      rw [List.length_map, List.length_map] at this
      omega
    refine ⟨_, rfl, _, rfl, (by show 2 ≤ sizeLine; decide), fun t ht => ⟨t, _, rfl, SqT.of upd_same, rfl, _, _, rfl, _, _, rfl, rfl, ?_⟩⟩
    have k1 : Kp [] H (upd H t (.tup [.ref a, .ref b])) := .new ht
    have l1 := k1.toSame.seq hA
    have s1 := k1.toSame.seq hB
    obtain ⟨H1, hH1⟩ : ∃ H1, upd H t (.tup [.ref a, .ref b]) = H1 := ⟨_, rfl⟩
    rw [hH1] at k1 l1 s1 ⊢
    refine ⟨_, rfl, a, _, rfl, l1, fun D hD => lc_it walk_enum (fun j G => Kp [] H1 G ∧ G D = some (.lst (((addL x y).take j).map V.int))) ⟨.new hD, upd_same⟩ (fun j G _ p => p.1.toSame.seq l1) (fun j v G G2 hj p yy => ?_) (fun G p => ?_)⟩
    · obtain ⟨k2, hD2⟩ := p
      obtain ⟨T1, v1, v2, rfl, hT, rfl, e1, e2⟩ := yy
      cases e1
      obtain ⟨u, hu, rfl⟩ := mapAt e2
      have nDT : D ≠ T1 := ne_of_none hD2 hT
      have k3 : Kp [] H1 (upd G T1 (.tup [.int (j : Nat), .int u])) := k2.newer hT
      have hD3 : (upd G T1 (.tup [.int (j : Nat), .int u])) D = some (.lst (((addL x y).take j).map V.int)) := by rw [upd_ne nDT]; exact hD2
      have s3 := k3.toSame.seq s1
      have hjx := (List.getElem?_eq_some_iff.mp hu).1
      have len : (((addL x y).take j).map V.int).length < sizeLine := by rw [List.length_map, List.length_take]; exact small1000 (by omega)
      refine ⟨T1, _, rfl, SqT.of upd_same, rfl, _, _, rfl, _, _, rfl, rfl, rfl, ?_⟩
      refine iteT (B := True) ?_
      refine ⟨_, rfl, _, rfl, b, _, rfl, .inl s3, _, _, rfl, rfl, _, rfl, ?_⟩
      refine ite2 (fun cl => ?_) (fun cl => ?_)
      · have hjy : j < y.length := by
          have := of_decide_eq_true cl
          rw [List.length_map] at this
          omega
        refine ⟨_, rfl, _, rfl, _, rfl, b, _, _, _, rfl, rfl, s3, atI_nat (j := j) (by rw [List.getElem?_map, List.getElem?_eq_getElem hjy]; rfl), _, _, rfl, rfl, _, hD3, len, k3.mt hD, ?_⟩
        rw [upd_same, addL_take ge hu, List.getElem?_eq_getElem hjy, List.map_append]
        rfl
      · have hjy : ¬ j < y.length := fun z => cl (decide_eq_true (by rw [List.length_map]; omega))
        refine ⟨_, rfl, _, hD3, len, k3.mt hD, ?_⟩
        rw [upd_same, addL_take ge hu, List.getElem?_eq_none (by omega), List.map_append]
        show _ = some (HO.lst (_ ++ [V.int (u + 0)]))
        rw [Int.add_zero]
    · obtain ⟨k2, hD2⟩ := p
      rw [List.length_map, List.take_of_length_le (by rw [addL_len_ge ge]; omega)] at hD2
      refine q D G (k1.free hD (by simp)) (k1.trans k2) ?_
      exact hD2
  · have ge : x.length ≤ y.length := by
      have : ¬ ((x.map V.int).length : Int) ≥ ((y.map V.int).length : Int) := fun z => c (decide_eq_true z)
      rw [List.length_map, List.length_map] at this
      omega
    refine ⟨_, rfl, _, rfl, (by show 2 ≤ sizeLine; decide), fun t ht => ⟨t, _, rfl, SqT.of upd_same, rfl, _, _, rfl, _, _, rfl, rfl, ?_⟩⟩
    have k1 : Kp [] H (upd H t (.tup [.ref b, .ref a])) := .new ht
    have l1 := k1.toSame.seq hB
    have s1 := k1.toSame.seq hA
    obtain ⟨H1, hH1⟩ : ∃ H1, upd H t (.tup [.ref b, .ref a]) = H1 := ⟨_, rfl⟩
    rw [hH1] at k1 l1 s1 ⊢
    refine ⟨_, rfl, b, _, rfl, l1, fun D hD => lc_it walk_enum (fun j G => Kp [] H1 G ∧ G D = some (.lst (((addL y x).take j).map V.int))) ⟨.new hD, upd_same⟩ (fun j G _ p => p.1.toSame.seq l1) (fun j v G G2 hj p yy => ?_) (fun G p => ?_)⟩
    · obtain ⟨k2, hD2⟩ := p
      obtain ⟨T1, v1, v2, rfl, hT, rfl, e1, e2⟩ := yy
      cases e1
      obtain ⟨u, hu, rfl⟩ := mapAt e2
      have nDT : D ≠ T1 := ne_of_none hD2 hT
      have k3 : Kp [] H1 (upd G T1 (.tup [.int (j : Nat), .int u])) := k2.newer hT
      have hD3 : (upd G T1 (.tup [.int (j : Nat), .int u])) D = some (.lst (((addL y x).take j).map V.int)) := by rw [upd_ne nDT]; exact hD2
      have s3 := k3.toSame.seq s1
      have hjx := (List.getElem?_eq_some_iff.mp hu).1
      have len : (((addL y x).take j).map V.int).length < sizeLine := by rw [List.length_map, List.length_take]; exact small1000 (by omega)
      refine ⟨T1, _, rfl, SqT.of upd_same, rfl, _, _, rfl, _, _, rfl, rfl, rfl, ?_⟩
      refine iteT (B := True) ?_
      refine ⟨_, rfl, _, rfl, a, _, rfl, .inl s3, _, _, rfl, rfl, _, rfl, ?_⟩
      refine ite2 (fun cl => ?_) (fun cl => ?_)
      · have hjy : j < x.length := by
          have := of_decide_eq_true cl
          rw [List.length_map] at this
          omega
        refine ⟨_, rfl, _, rfl, _, rfl, a, _, _, _, rfl, rfl, s3, atI_nat (j := j) (by rw [List.getElem?_map, List.getElem?_eq_getElem hjy]; rfl), _, _, rfl, rfl, _, hD3, len, k3.mt hD, ?_⟩
        rw [upd_same, addL_take ge hu, List.getElem?_eq_getElem hjy, List.map_append]
        rfl
      · have hjy : ¬ j < x.length := fun z => cl (decide_eq_true (by rw [List.length_map]; omega))
        refine ⟨_, rfl, _, hD3, len, k3.mt hD, ?_⟩
        rw [upd_same, addL_take ge hu, List.getElem?_eq_none (by omega), List.map_append]
        show _ = some (HO.lst (_ ++ [V.int (u + 0)]))
        rw [Int.add_zero]
    · obtain ⟨k2, hD2⟩ := p
      rw [List.length_map, List.take_of_length_le (by rw [addL_len_ge ge]; omega)] at hD2
      refine q D G (k1.free hD (by simp)) (k1.trans k2) ?_
      rw [addL_comm]
      exact hD2
theorem ok_widened (D : GD K mg "widened" sD_widened ["counts", "times"]) (T : TPoly mg) (c_added : Cal P w K mg base 1 "added" (spAdded K) []) : Cal P w K mg base 2 "widened" spWidened [] := by
  refine D.cal sc_widened (fun vs H Q E h => ?_) (fun f cdv A outer s0 H vs Q E hr h => ?_)
  · obtain ⟨a, x, n, rfl, _⟩ := h
    rfl
  obtain ⟨a, x, n, rfl, hA, hn, q⟩ := h
  refine ⟨_, (pss_cons (ps_for PassesOwn.never rfl (pi_range1 (by rfl) T.n_range (pa_cons (pv 1) pa_nil)) (pg_name (i := 2) sc_widened.nd rfl (Or.inl rfl)) (pss_one (ps_set (i := 0) sc_widened.nd rfl (Or.inl rfl) (pe_c c_added hr (by omega) rfl (pa_cons (pv 0) (pa_cons (pe_op op_cat (pe_lst (pa_cons pe_int pa_nil)) (pv 0)) pa_nil))))))
    (pss_one (ps_ret (pv 0)))), ?_⟩
  refine ⟨_, rfl, _, rfl, by omega, by omega, ?_⟩
  rw [show ((n : Int)).toNat = n by omega]
  refine for_range (lo := 0) (n := n) (fun i σ H' => ∃ (r : Addr) (y : List Int) (v : Option V), σ = [some (.ref r), some (.int n), v] ∧ Kp [] H H' ∧ H' r = some (.lst (y.map V.int)) ∧ y.length = x.length + i ∧ widen (n - i) y = widen n x) ⟨a, x, none, rfl, .refl, hA, rfl, rfl⟩ (fun i σ H' hi p => ?_) (fun σ H' p => ?_)
  · obtain ⟨r, y, v, rfl, k, hr1, ly, ew⟩ := p
    refine ⟨_, rfl, (by show 1 ≤ sizeLine; decide), fun t ht => ?_⟩
    have k1 : Kp [] H' (upd H' t (.lst [.int 0])) := .new ht
    refine ⟨_, rfl, t, r, _, _, rfl, rfl, upd_same, k1.k _ _ hr1 (by simp), small (by rw [List.length_map]; simp only [List.length_singleton]; omega), fun u hu => ?_⟩
    have k2 := k1.newer (o := .lst ([.int 0] ++ y.map V.int)) hu
    refine ⟨r, u, y, 0 :: y, rfl, SqL.of (k2.k _ _ hr1 (by simp)), SqL.of upd_same, by omega, by rw [List.length_cons]; omega, fun r' H2 hr' k3 hr2 => ?_⟩
    refine ⟨r', stepL y, _, rfl, (k.trans k2).trans k3, hr2, by rw [stepL_len]; omega, ?_⟩
    rw [← ew, show n - i = (n - (i + 1)) + 1 by omega]
    rfl
  · obtain ⟨r, y, v, rfl, k, hr1, ly, ew⟩ := p
    rw [Nat.sub_self] at ew
    have ew : y = widen n x := ew
    exact ⟨_, rfl, q r H' k (by rw [← ew]; exact hr1)⟩
theorem ok_orders (D : GD K mg "orders" sD_orders ["most"]) (T : TPoly mg) : Cal P w K mg base 1 "orders" spOrders [] := by
  refine D.cal sc_orders (fun vs H Q E h => ?_) (fun f cdv A outer s0 H vs Q E hr h => ?_)
  · obtain ⟨n, rfl, _⟩ := h
    rfl
  obtain ⟨n, rfl, hn, q⟩ := h
  refine ⟨_, (pss_cons (ps_set (i := 1) sc_orders.nd rfl (Or.inl rfl) (pe_lst (pa_cons pe_int pa_nil)))
    (pss_cons (ps_for PassesOwn.never rfl (pi_range2 (by rfl) T.n_range (pa_cons pe_int (pa_cons (pe_op op_add (pv 0) pe_int) pa_nil))) (pg_name (i := 2) sc_orders.nd rfl (Or.inl rfl)) (pss_one (ps_expr (pe_bm PySem.F.plainAttrs_list PySem.F.slot_list_append PySem.F.type_list_append mt_append (pv 1) (pa_cons (pe_op op_mul (pe_ix ix_list (pv 1) (pe_un un_neg pe_int) (fun _ _ => rfl)) (pv 2)) pa_nil)))))
    (pss_one (ps_ret (pv 1))))), ?_⟩
  refine ⟨(by show 1 ≤ sizeLine; decide), fun r hr0 => ?_⟩
  refine ⟨_, rfl, _, _, rfl, rfl, 1, (n : Int) + 1, rfl, ⟨by decide, by decide, by omega, by omega⟩, ?_⟩
  rw [show ((n : Int) + 1 - 1).toNat = n by omega]
  refine for_range (lo := 1) (n := n) (fun i σ H' => ∃ (v : Option V), σ = [some (.int n), some (.ref r), v] ∧ Kp [] H H' ∧ H' r = some (.lst ((facs i).map V.int))) ⟨none, rfl, .new hr0, upd_same⟩ (fun i σ H' hi p => ?_) (fun σ H' p => ?_)
  · obtain ⟨v, rfl, k, h1⟩ := p
    have el : (facs i).map V.int = ((List.range i).map nfac).map V.int ++ [.int (nfac i)] := by
      unfold facs
      rw [List.range_succ, List.map_append, List.map_append]
      rfl
    have bd := nfac_bd i (by omega)
    refine ⟨_, rfl, .inl ⟨rfl, _, SqL.of h1⟩, _, rfl, _, rfl, r, _, _, _, rfl, rfl, SqL.of h1, by rw [el]; exact atI_last _ _, _, rfl, _, _, rfl, rfl, .inl ⟨by omega, by omega⟩, r, _, _, rfl, rfl, h1, small1000 (by rw [List.length_map, facs_len]; omega), ?_⟩
    refine ⟨_, rfl, k.mt hr0, ?_⟩
    rw [upd_same, facs_succ, List.map_append]
    show _ = some (HO.lst (_ ++ [V.int (nfac i * ((i + 1 : Nat) : Int))]))
    rw [show (1 : Int) + (i : Int) = ((i + 1 : Nat) : Int) by omega]
  · obtain ⟨v, rfl, k, h1⟩ := p
    exact ⟨_, rfl, q r H' hr0 k h1⟩
theorem ok_weighed (D : GD K mg "weighed" sD_weighed ["counts", "numbers", "others"]) (T : TPoly mg) : Cal P w K mg base 1 "weighed" (spWeighed K) [] := by
  refine D.cal sc_weighed (fun vs H Q E h => ?_) (fun f cdv A outer s0 H vs Q E hr h => ?_)
  · obtain ⟨a, b, cs, m, N, rfl, _⟩ := h
    rfl
  obtain ⟨a, b, cs, m, N, rfl, hA, hB, lc, hm, hN, hcs, q⟩ := h
  refine ⟨_, (pss_one (ps_ret (pe_callB (cr_sum rfl) (by rfl) T.n_sum (by decide +kernel) (pa_cons (pe_lc (own := [("size", 3), ("count", 4)]) (tt := tYes) rfl sc_weighed.nd (pi_enum (by rfl) T.n_enumerate (pa_cons (pv 0) pa_nil)) (blkOk_by (own := [("size", 3), ("count", 4)]) (N := ["counts", "numbers", "others", "size", "count"]) (sc := defScope sD_weighed) (by decide +kernel)) (fun _ _ _ _ _ => (bx_ptup (K := K) (n := 2) rfl rfl (pgs_cons (pg_name (i := 3) sc_weighed.nd rfl (Or.inl rfl)) (pgs_cons (pg_name (i := 4) sc_weighed.nd rfl (Or.inl rfl)) pgs_nil)))) (fun _ _ _ _ _ => pts_nil) (fun _ _ _ _ _ => (pe_op op_mul (pe_op op_mul (pv 4) (bx_list (K := K) rfl (pv 1) (pv 3) (fun _ _ => rfl))) (bx_list (K := K) rfl (pv 1) (pe_op op_sub (pv 2) (pv 3)) (fun _ _ => rfl))))) pa_nil)))), ?_⟩
  refine ⟨_, rfl, a, _, rfl, hA, fun D hD => lc_it walk_enum (fun j G => Kp [] H G ∧ G D = some (.lst (((wlist (fun k => nfac k * nfac (m - k)) cs).take j).map V.int))) ⟨.new hD, upd_same⟩ (fun j G _ p => p.1.toSame.seq hA) (fun j v G G2 hj p yy => ?_) (fun G p => ?_)⟩
  · obtain ⟨k2, hD2⟩ := p
    obtain ⟨T1, v1, v2, rfl, hT, rfl, e1, e2⟩ := yy
    cases e1
    obtain ⟨u, hu, rfl⟩ := mapAt e2
    have nDT : D ≠ T1 := ne_of_none hD2 hT
    have k3 : Kp [] H (upd G T1 (.tup [.int (j : Nat), .int u])) := k2.newer hT
    have hD3 : (upd G T1 (.tup [.int (j : Nat), .int u])) D = some (.lst (((wlist (fun k => nfac k * nfac (m - k)) cs).take j).map V.int)) := by rw [upd_ne nDT]; exact hD2
    have s3 := k3.toSame.seq hB
    have hjx := (List.getElem?_eq_some_iff.mp hu).1
    have len : (((wlist (fun k => nfac k * nfac (m - k)) cs).take j).map V.int).length < sizeLine := by rw [List.length_map, List.length_take]; exact small1000 (by omega)
    have bu := hcs u (List.mem_of_getElem? hu)
    have b1 := nfac_bd j (by omega)
    have b2 := nfac_bd (m - j) (by omega)
    refine ⟨T1, _, rfl, SqT.of upd_same, rfl, _, _, rfl, _, _, rfl, rfl, rfl, ?_⟩
    refine iteT (B := True) ?_
    refine ⟨_, rfl, _, rfl, _, rfl, b, _, _, _, rfl, rfl, s3, atI_nat (j := j) (by rw [List.getElem?_map, facs_at (by omega)]; rfl), _, _, rfl, rfl, .inl ⟨by omega, by omega⟩, ?_⟩
    refine ⟨_, rfl, _, rfl, _, rfl, _, _, rfl, rfl, b, _, _, _, rfl, rfl, s3, at_of (j := m - j) (by omega) (by rw [List.getElem?_map, facs_at (by omega)]; rfl), _, _, rfl, rfl, .inr ⟨by omega, by omega⟩, _, hD3, len, k3.mt hD, ?_⟩
    rw [upd_same, takeS (wlist_at _ cs j u hu), List.map_append]
    show some (HO.lst (_ ++ [V.int (u * nfac j * nfac (m - j))])) = some (HO.lst (_ ++ [V.int (nfac j * nfac (m - j) * u)]))
    rw [show u * nfac j * nfac (m - j) = nfac j * nfac (m - j) * u by rw [Int.mul_assoc, Int.mul_comm]]
  · obtain ⟨k2, hD2⟩ := p
    rw [List.length_map, List.take_of_length_le (by rw [wlist_len]; omega)] at hD2
    refine ⟨D, wlist (fun k => nfac k * nfac (m - k)) cs, rfl, SqL.of hD2, ?_⟩
    rw [wlist_sum]
    exact q G k2
end

/-! ### in how many subsets of each size a condition holds -/
def spSizes (C : Addr) : Sp := fun vs H Q _ => ∃ (E : List Int) (s : SA) (ns : List Node) (b c : Nat) (la : Addr) (L : List Int), vs = [.ref s.p, .int c, .ref la] ∧ StoAt C E s H ns b ∧ b + 2048 ≤ 1000000 ∧ c < ns.length + 2 ∧ E.Nodup ∧ E.length ≤ 8 ∧
  H la = some (.lst (L.map V.int)) ∧ L.Pairwise (· < ·) ∧ L.length ≤ 8 ∧
  ∀ (H' : Hp) (ns' : List Node) (r : Addr), Kp s.M H H' → StoAt C E s H' ns' (b + 2048) → Pre ns ns' → H' r = some (.lst ((cnt L (hol ns c)).map V.int)) → Q (.ref r) H'
def FndL (ns : List Node) (L : List Int) (kvs : List (Key × V)) (H : Hp) (F : List Nat) : Prop :=
  ∀ x : Nat, x < 2 ∨ x ∈ F → ∃ (t l : Addr) (p : Nat) (m : List Int), valV kvs (Sum.inl (x : Int) : Key) = some (.ref t) ∧ H t = some (.tup [.int (p : Int), .ref l]) ∧ H l = some (.lst (m.map V.int)) ∧ PlaL ns L x p m
theorem PlaL.len {ns : List Node} {L : List Int} {x p : Nat} {m : List Int} (h : PlaL ns L x p m) : m.length = L.length - p + 1 := by
  rw [h.val, cnt_len, List.length_drop]
theorem dep_fix {E : List Int} {ns ns' : List Node} {c r : Nat} {e : Int} {v : Bool} (fx : Fix E ns ns' e v c r) {k : Int} (h : Dep ns' r k) : Dep ns c k ∧ k ≠ e := by
  obtain ⟨f, hf⟩ := h
  have ne : k ≠ e := fun z => by
    rw [z, fx.ev, fx.ev] at hf
    refine hf ?_
    congr 1
    funext y
    unfold put1
    split <;> rfl
  rw [fx.ev, fx.ev, put1_comm (fun z => ne z.symm), put1_comm (fun z => ne z.symm)] at hf
  exact ⟨⟨_, hf⟩, ne⟩
theorem nodup_sub : ∀ (A B : List Int), A.Nodup → (∀ x ∈ A, x ∈ B) → A.length ≤ B.length
  | [], _, _, _ => Nat.zero_le _
  | a :: r, B, nd, h => by
    obtain ⟨n1, n2⟩ := List.nodup_cons.mp nd
    have ha := h a List.mem_cons_self
    have := nodup_sub r (B.erase a) n2 fun x hx => (List.mem_erase_of_ne (fun z => n1 (by rw [← z]; exact hx))).mpr (h x (List.mem_cons_of_mem _ hx))
    rw [List.length_erase_of_mem ha] at this
    have := List.length_pos_of_mem ha
    rw [List.length_cons]
    omega
structure TSizes (mg : Str → Option Value) : Prop extends TLeaf mg where
  n_len : mg "len" = none
  n_enumerate : mg "enumerate" = none
section
variable {P : Program} {w : World} {K : PySem.W.Frag} {mg : Str → Option Value} {base : Heap} {C : Addr}
theorem ok_sizes (D : GD K mg "sizes" sD_sizes ["store", "condition", "entries"]) (T : TSizes mg) (c_added : Cal P w K mg base 1 "added" (spAdded K) []) (c_widened : Cal P w K mg base 2 "widened" spWidened [])
    (m_depends : Met P w K mg base 3 C "depends" (spDepends C) []) (m_restrict : Met P w K mg base 3 C "restrict" (spRestrict C) []) (m_reached : Met P w K mg base 2 C "reached" (spReached K C) []) (m_node : Met P w K mg base 1 C "node" (spNode C) []) :
    Cal P w K mg base 4 "sizes" (spSizes C) [] := by
  refine D.cal sc_sizes (fun vs H Q E h => ?_) (fun f cdv A outer s0 H vs Q E hr h => ?_)
  · obtain ⟨E, s, ns, b, c, la, L, rfl, _⟩ := h
    rfl
  obtain ⟨E, s, ns, b, c, la, L, rfl, S, hb, hc, ndE, hE, hla, up, hL, q⟩ := h
  have hu := hu_of hr
  obtain ⟨outC, outL, outN⟩ := S.out
  have laM := outL _ _ hla
  refine ⟨_, (pss_cons (ps_for PassesOwn.never rfl (pi_list (pe_mt m_depends hr (by omega) (pv 0) (pa_cons (pv 1) pa_nil))) (pg_name (i := 3) sc_sizes.nd rfl (Or.inl rfl)) (pss_one (ps_if (pt_cmpR op_notIn_seq (pv 3) (pv 2) (by rfl)) (pss_one (ps_set (i := 1) sc_sizes.nd rfl (Or.inl rfl) (pe_mt m_restrict hr (by omega) (pv 0) (pa_cons (pv 1) (pa_cons (pv 3) (pa_cons pe_bl pa_nil)))))) pss_nil)))
    (pss_cons (ps_setDc (i := 5) (own := [("place", 4), ("entry", 3)]) (tt := tYes) rfl sc_sizes.nd rfl rfl (sw_dict rfl rfl rfl (by decide +kernel)) (pi_enum (by rfl) T.n_enumerate (pa_cons (pv 2) pa_nil)) (blkOk_by (own := [("place", 4), ("entry", 3)]) (N := ["store", "condition", "entries", "entry", "place", "places", "found", "node", "without", "there", "missing", "present", "counts"]) (sc := defScope sD_sizes) (by decide +kernel)) (fun _ _ _ _ _ => (bx_ptup (K := K) (n := 2) rfl rfl (pgs_cons (pg_name (i := 4) sc_sizes.nd rfl (Or.inl rfl)) (pgs_cons (pg_name (i := 3) sc_sizes.nd rfl (Or.inl rfl)) pgs_nil)))) (fun _ _ _ _ _ => pts_nil) (fun _ _ _ _ _ => (pv 3)) (fun _ _ _ _ _ => (pv 4)))
    (pss_cons (ps_set (i := 6) sc_sizes.nd rfl (Or.inl rfl) (pe_disp (pps_cons (pe_gc rfl T.g_NEVER) (pe_tup (pa_cons (pe_callB call_len_seq (by rfl) T.n_len (by decide +kernel) (pa_cons (pv 2) pa_nil)) (pa_cons (pe_lst (pa_cons pe_int pa_nil)) pa_nil))) (pps_cons (pe_gc rfl T.g_ALWAYS) (pe_tup (pa_cons (pe_callB call_len_seq (by rfl) T.n_len (by decide +kernel) (pa_cons (pv 2) pa_nil)) (pa_cons (pe_lst (pa_cons pe_int pa_nil)) pa_nil))) pps_nil)) (by rfl) (by rfl) (fun z => by cases z) (by decide)))
    (pss_cons (ps_for PassesOwn.never rfl (pi_list (pe_mt m_reached hr (by omega) (pv 0) (pa_cons (pe_lst (pa_cons (pv 1) pa_nil)) pa_nil))) (pg_name (i := 7) sc_sizes.nd rfl (Or.inl rfl)) (pss_cons (ps_asg (pe_mt m_node hr (by omega) (pv 0) (pa_cons (pv 7) pa_nil)) (pg_tup rfl (pgs_cons (pg_name (i := 3) sc_sizes.nd rfl (Or.inl rfl)) (pgs_cons (pg_name (i := 8) sc_sizes.nd rfl (Or.inl rfl)) (pgs_cons (pg_name (i := 9) sc_sizes.nd rfl (Or.inl rfl)) pgs_nil)))))
    (pss_cons (ps_set (i := 4) sc_sizes.nd rfl (Or.inl rfl) (pe_dget hu (pv 5) (pv 3) (fun _ _ => rfl)))
    (pss_cons (ps_set (i := 10) sc_sizes.nd rfl (Or.inl rfl) (pe_c c_widened hr (by omega) rfl (pa_cons (pe_ix ix_tup (pe_dget hu (pv 6) (pv 8) (fun _ _ => rfl)) pe_int (fun _ _ => rfl)) (pa_cons (pe_op op_sub (pe_op op_sub (pe_ix ix_tup (pe_dget hu (pv 6) (pv 8) (fun _ _ => rfl)) pe_int (fun _ _ => rfl)) (pv 4)) pe_int) pa_nil))))
    (pss_cons (ps_set (i := 11) sc_sizes.nd rfl (Or.inl rfl) (pe_c c_widened hr (by omega) rfl (pa_cons (pe_ix ix_tup (pe_dget hu (pv 6) (pv 9) (fun _ _ => rfl)) pe_int (fun _ _ => rfl)) (pa_cons (pe_op op_sub (pe_op op_sub (pe_ix ix_tup (pe_dget hu (pv 6) (pv 9) (fun _ _ => rfl)) pe_int (fun _ _ => rfl)) (pv 4)) pe_int) pa_nil))))
    (pss_one (ps_dput hu (pv 6) (pv 7) (pe_tup (pa_cons (pv 4) (pa_cons (pe_c c_added hr (by omega) rfl (pa_cons (pv 10) (pa_cons (pe_op op_cat (pe_lst (pa_cons pe_int pa_nil)) (pv 11)) pa_nil))) pa_nil))) rfl)))))))
    (pss_cons (ps_asg (pe_dget hu (pv 6) (pv 1) (fun _ _ => rfl)) (pg_tup rfl (pgs_cons (pg_name (i := 4) sc_sizes.nd rfl (Or.inl rfl)) (pgs_cons (pg_name (i := 12) sc_sizes.nd rfl (Or.inl rfl)) pgs_nil))))
    (pss_one (ps_ret (pe_c c_widened hr (by omega) rfl (pa_cons (pv 12) (pa_cons (pv 4) pa_nil)))))))))), ?_⟩
  refine ⟨_, rfl, s.p, s.dx, _, rfl, S.ob, sf_no _ _ _ (by decide +kernel) (by decide +kernel) (by decide +kernel), _, rfl, E, s, ns, b, c, rfl, S, hc, ndE, hE, by omega, fun R0 L0 r0 H1 hR0 upL0 hL0 hr00 k1 hr1 => ?_⟩
  have dL0 := hR0.dep S.ok hc hL0
  have lenL0 : L0.length ≤ 8 := by
    have hsub : ∀ x ∈ L0, x ∈ E := fun k hk => by
      obtain ⟨x, _, n, hn, rfl⟩ := (hL0 k).mp hk
      exact S.ok.en x n hn
    have := nodup_sub L0 E (upL0.imp fun h e => by omega) hsub
    omega
  have r0M := outN r0 hr00
  refine ⟨r0, rfl, ⟨_, SqL.of hr1⟩, for_list (K := K) (a := r0) (xs := L0.map V.int) (fun i σ H' => ∃ (v3 : Option V) (cur : Nat) (ns' : List Node), σ = [some (.ref s.p), some (.int cur), some (.ref la), v3, none, none, none, none, none, none, none, none, none] ∧ Kp s.M H H' ∧ StoAt C E s H' ns' (b + 256 * i) ∧ Pre ns ns' ∧
    cur < ns'.length + 2 ∧ H' r0 = some (.lst (L0.map V.int)) ∧ (∀ f, (∀ x, x ∉ L → f x = false) → ev ns' f cur = ev ns f c) ∧ ∀ k, Dep ns' cur k → Dep ns c k ∧ (k ∈ L0.take i → k ∈ L))
    ⟨none, c, ns, rfl, k1.wide fun b m => absurd m List.not_mem_nil, S.new k1, .refl _, hc, hr1, fun f _ => rfl, fun k h => ⟨h, fun m => by simp at m⟩⟩ (fun i σ H' _ p => ?_) ?_ ?_⟩
  · obtain ⟨v3, cur, ns', rfl, _, _, _, _, h, _⟩ := p
    exact SqL.of h
  · rintro i x σ H2 hi ⟨v3, cur, ns2, rfl, k2, S2, p2, hc2, hr2, e2, d2⟩
    obtain ⟨e, he, rfl⟩ := mapAt hi
    have hi0 := (List.getElem?_eq_some_iff.mp he).1
    have hla2 := k2.k _ _ hla laM
    refine ⟨_, rfl, _, rfl, la, _, rfl, .inl (SqL.of hla2), rfl, flat_ints L, ?_⟩
    rw [if_pos rfl, inV_ints]
    refine ⟨_, rfl, ?_⟩
    by_cases m : e ∈ L
    · rw [decide_eq_true m]
      refine iteF ⟨_, cur, ns2, rfl, k2, S2.mono (by omega), p2, hc2, hr2, e2, fun k h => ⟨(d2 k h).1, fun mk => ?_⟩⟩
      rw [takeS he] at mk
      rcases List.mem_append.mp mk with q' | q'
      · exact (d2 k h).2 q'
      · rw [List.mem_singleton.mp q']; exact m
    · rw [decide_eq_false m]
      refine iteT ⟨_, rfl, s.p, s.dx, _, rfl, S2.ob, sf_no _ _ _ (by decide +kernel) (by decide +kernel) (by decide +kernel), _, rfl, _, rfl, E, s, ns2, b + 256 * i, cur, e, false, rfl, S2, hc2, hE, by omega, fun H3 ns3 z k3 S3 p3 fx => ?_⟩
      refine ⟨_, z, ns3, rfl, k2.trans k3, S3.mono (by omega), p2.trans p3, fx.lt, k3.k _ _ hr2 r0M, fun f hf => ?_, fun k h => ?_⟩
      · rw [fx.ev, show put1 e false f = f from ?_, e2 f hf]
        funext y
        unfold put1
        split
        · rename_i ey; rw [ey, hf e m]
        · rfl
      · obtain ⟨h1, h2⟩ := dep_fix fx h
        refine ⟨(d2 k h1).1, fun mk => ?_⟩
        rw [takeS he] at mk
        rcases List.mem_append.mp mk with q' | q'
        · exact (d2 k h1).2 q'
        · exact absurd (List.mem_singleton.mp q') h2
  rintro σ H2 ⟨v3, cur, ns2, rfl, k2, S2, p2, hc2, hr2, e2, d2⟩
  rw [List.length_map] at S2
  rw [List.length_map, List.take_length] at d2
  have dL : ∀ k, Dep ns2 cur k → k ∈ L := fun k h => (d2 k h).2 ((dL0 k).mpr (d2 k h).1)
  have eC : cnt L (hol ns c) = cnt L (hol ns2 cur) := cnt_congr fun f hf => by
    unfold hol
    rw [e2 f hf]
  rw [eC] at q
  have S2 := S2.mono (show b + 256 * L0.length ≤ b + 2048 by omega)
  have hla2 := k2.k _ _ hla laM
  have nd : L.Nodup := up.imp fun h e => by omega
  have keepE : ∀ {H' : Hp}, Kp [] H2 H' → H' la = some (.lst (L.map V.int)) := fun k => k.k _ _ hla2 (by simp)
  refine ⟨_, rfl, la, _, rfl, SqL.of hla2, fun pd hpd => dc_walk (n := L.length) (fun i G => Kp [] H2 G ∧ ∃ ps, G pd = some (.dK ps) ∧ ps.length ≤ i ∧ ∀ (j : Nat) (e : Int), j < i → L[j]? = some e → valV ps (Sum.inl e : Key) = some (.int (j : Int)))
    ⟨.new hpd, [], upd_same, Nat.le_refl _, fun j e h => absurd h (Nat.not_lt_zero _)⟩ (fun i G hi p => ?_) (fun G p => ?_) (fun i x G G2 hi p y => ?_) (fun G p => ?_)⟩
  · exact ⟨_, _, SqL.of (keepE p.1), List.getElem?_eq_getElem (by rw [List.length_map]; exact hi)⟩
  · exact ⟨_, SqL.of (keepE p.1), by rw [List.length_map]; exact Nat.le_refl _⟩
  · obtain ⟨k1, ps, hp1, hl, hv⟩ := p
    obtain ⟨T1, x', rfl, hT, rfl, hx⟩ := y
    obtain ⟨e, he, rfl⟩ := mapAt (hx _ (SqL.of (keepE k1)))
    have ne : pd ≠ T1 := ne_of_none hp1 hT
    refine ⟨T1, _, rfl, SqT.of upd_same, rfl, _, _, rfl, _, _, rfl, rfl, rfl, ?_⟩
    refine iteT (B := True) ?_
    refine ⟨_, rfl, _, rfl, ps, Sum.inl e, rfl, by rw [upd_ne ne]; exact hp1, small1000 (by omega), (k1.newer hT).mt hpd, _, upd_same, ?_, fun j e' hj he' => ?_⟩
    · exact Nat.le_trans (length_putK _ _ _) (by omega)
    · rw [valV_put]
      by_cases z : j < i
      · rw [if_neg fun z2 => ?_]
        · exact hv j e' z he'
        · have := Sum.inl.inj z2
          subst this
          obtain ⟨i1, e1⟩ := List.getElem?_eq_some_iff.mp he
          obtain ⟨i2, e2⟩ := List.getElem?_eq_some_iff.mp he'
          exact List.pairwise_iff_getElem.mp nd j i i2 i1 z (e2.trans e1.symm)
      · have : j = i := by omega
        subst this
        rw [he] at he'
        cases he'
        rw [if_pos rfl]
  obtain ⟨k1', ps, hp1, hl, hv⟩ := p
  refine fun fd hfd => ?_
  have nfp : pd ≠ fd := ne_of_none hp1 hfd
  have hfd0 : H2 fd = none := k1'.free hfd (by simp)
  have k3 : Kp [] H2 (upd G fd (.dK [])) := k1'.newer hfd
  refine ⟨_, rfl, la, _, rfl, .inl (SqL.of (keepE k3)), (by show 1 ≤ sizeLine; decide), fun l1 hl1 => ⟨(by show 2 ≤ sizeLine; decide), fun t1 ht1 => ?_⟩⟩
  have k4 := (k3.newer (o := .lst [.int 0]) hl1).newer (o := .tup [.int ((L.map V.int).length : Nat), .ref l1]) ht1
  refine ⟨_, rfl, la, _, rfl, .inl (SqL.of (keepE k4)), (by show 1 ≤ sizeLine; decide), fun l2 hl2 => ⟨(by show 2 ≤ sizeLine; decide), fun t2 ht2 => ?_⟩⟩
  have k5 := (k4.newer (o := .lst [.int 1]) hl2).newer (o := .tup [.int ((L.map V.int).length : Nat), .ref l2]) ht2
  -- what the new ones keep
  have kf1 : Kp [] (upd G fd (.dK [])) (upd (upd (upd G fd (.dK [])) l1 (.lst [.int 0])) t1 (.tup [.int ((L.map V.int).length : Nat), .ref l1])) := (Kp.new hl1).newer ht1
  have kf2 : Kp [] (upd (upd (upd G fd (.dK [])) l1 (.lst [.int 0])) t1 (.tup [.int ((L.map V.int).length : Nat), .ref l1])) (upd (upd (upd (upd (upd G fd (.dK [])) l1 (.lst [.int 0])) t1 (.tup [.int ((L.map V.int).length : Nat), .ref l1])) l2 (.lst [.int 1])) t2 (.tup [.int ((L.map V.int).length : Nat), .ref l2])) := (Kp.new hl2).newer ht2
  obtain ⟨G1, hG1⟩ : ∃ G1, upd (upd (upd G fd (.dK [])) l1 (.lst [.int 0])) t1 (.tup [.int ((L.map V.int).length : Nat), .ref l1]) = G1 := ⟨_, rfl⟩
  have n1 : l1 ≠ t1 := ne_of_none upd_same ht1
  have h_l1 : G1 l1 = some (.lst [.int 0]) := by rw [← hG1, upd_ne n1, upd_same]
  have h_t1 : G1 t1 = some (.tup [.int ((L.map V.int).length : Nat), .ref l1]) := by rw [← hG1, upd_same]
  rw [hG1] at kf1 kf2 hl2 ht2 k5 ⊢
  have n2 : l2 ≠ t2 := ne_of_none upd_same ht2
  obtain ⟨G2, hG2⟩ : ∃ G2, upd (upd G1 l2 (.lst [.int 1])) t2 (.tup [.int ((L.map V.int).length : Nat), .ref l2]) = G2 := ⟨_, rfl⟩
  have h_l2 : G2 l2 = some (.lst [.int 1]) := by rw [← hG2, upd_ne n2, upd_same]
  have h_t2 : G2 t2 = some (.tup [.int ((L.map V.int).length : Nat), .ref l2]) := by rw [← hG2, upd_same]
  rw [hG2] at kf2 k5 ⊢
  have h_fd : G2 fd = some (.dK []) := kf2.k _ _ (kf1.k _ _ upd_same (by simp)) (by simp)
  have h_pd : G2 pd = some (.dK ps) := kf2.k _ _ (kf1.k _ _ (by rw [upd_ne nfp]; exact hp1) (by simp)) (by simp)
  have h_l1 := kf2.k _ _ h_l1 (by simp)
  have h_t1 := kf2.t _ _ h_t1
  refine ⟨h_fd, [(Sum.inl 0, .ref t1), (Sum.inl 1, .ref t2)], rfl, (by show 2 ≤ 15; decide), ?_⟩
  have k6 := k5.mt (o := .dK (mergeK [] [(Sum.inl 0, .ref t1), (Sum.inl 1, .ref t2)])) hfd0
  have nfd : ∀ {a : Addr} {o : HO}, G2 a = some o → o ≠ .dK [] → a ≠ fd := fun e1 e2 z => by rw [z, h_fd] at e1; exact e2 (Option.some.inj e1).symm
  have f4 : ∀ F : List Nat, F = [] → FndL ns2 L (mergeK [] [(Sum.inl 0, .ref t1), (Sum.inl 1, .ref t2)]) (upd G2 fd (.dK (mergeK [] [(Sum.inl 0, .ref t1), (Sum.inl 1, .ref t2)]))) F := fun F hF x hx => by
    have h2 : x = 0 ∨ x = 1 := by
      rcases hx with h | h
      · omega
      · rw [hF] at h; cases h
    rcases h2 with rfl | rfl
    · exact ⟨t1, l1, L.length, [0], rfl, by rw [upd_ne (nfd h_t1 (fun z => by cases z)), h_t1, List.length_map], by rw [upd_ne (nfd h_l1 (fun z => by cases z)), h_l1]; rfl, PlaL.leaf 0 (by decide)⟩
    · exact ⟨t2, l2, L.length, [1], rfl, by rw [upd_ne (nfd h_t2 (fun z => by cases z)), h_t2, List.length_map], by rw [upd_ne (nfd h_l2 (fun z => by cases z)), h_l2]; rfl, PlaL.leaf 1 (by decide)⟩
  have g4 : (mergeK [] [((Sum.inl 0 : Key), V.ref t1), (Sum.inl 1, .ref t2)]).length = 2 := rfl
  have p4 : (upd G2 fd (.dK (mergeK [] [((Sum.inl 0 : Key), V.ref t1), (Sum.inl 1, .ref t2)]))) pd = some (.dK ps) := by rw [upd_ne nfp]; exact h_pd
  generalize mergeK [] [((Sum.inl 0 : Key), V.ref t1), (Sum.inl 1, .ref t2)] = kv0 at k6 f4 g4 p4 ⊢
  have d4 : (upd G2 fd (.dK kv0)) fd = some (.dK kv0) := upd_same
  obtain ⟨H4, hH4⟩ : ∃ H4, upd G2 fd (.dK kv0) = H4 := ⟨_, rfl⟩
  rw [hH4] at k6 f4 p4 d4 ⊢
  have S4 := S2.new k6
  refine ⟨_, rfl, s.p, s.dx, _, rfl, S4.ob, sf_no _ _ _ (by decide +kernel) (by decide +kernel) (by decide +kernel), _, rfl, (by show 1 ≤ sizeLine; decide), fun ra hra => ?_⟩
  have k7 : Kp [] H4 (upd H4 ra (.lst [.int cur])) := .new hra
  refine ⟨E, s, ns2, b + 2048, [cur], ra, rfl, S4.new k7, SqL.of upd_same, fun x hx => by rw [List.mem_singleton.mp hx]; exact hc2, by omega, fun R r H6 hR hr6 k8 hH6 => ?_⟩
  have k46 : Kp [] H4 H6 := k7.trans k8
  have hRn := hR.few S2.ok hc2 hE
  refine ⟨r, rfl, ⟨_, SqL.of hH6⟩, for_list (K := K) (a := r) (xs := R.map vI) (fun i σ H' => ∃ (v3 v4 v7 v8 v9 v10 v11 v12 : Option V) (fk' : List (Key × V)),
    σ = [some (.ref s.p), some (.int cur), some (.ref la), v3, v4, some (.ref pd), some (.ref fd), v7, v8, v9, v10, v11, v12] ∧ Kp [] H2 H' ∧ H' pd = some (.dK ps) ∧ H' r = some (.lst (R.map vI)) ∧
    H' fd = some (.dK fk') ∧ fk'.length ≤ i + 2 ∧ FndL ns2 L fk' H' (R.take i))
    ⟨_, _, none, none, none, none, none, none, kv0, rfl, k6.trans k46, k46.k _ _ p4 (by simp), hH6, k46.k _ _ d4 (by simp), by omega, fun x hx => ?_⟩ (fun i σ H' _ p => ?_) ?_ ?_⟩
  · obtain ⟨t, l, p, m, h1, h2, h3, h4⟩ := f4 _ rfl x hx
    exact ⟨t, l, p, m, h1, k46.t _ _ h2, k46.k _ _ h3 (by simp), h4⟩
  · obtain ⟨v3, v4, v7, v8, v9, v10, v11, v12, fk', rfl, k, _, hrr, _⟩ := p
    exact SqL.of hrr
  · rintro i x σ H7 hi ⟨v3, v4, v7, v8, v9, v10, v11, v12, fk', rfl, kA, p7, r7, d7, l7, f7⟩
    obtain ⟨x, hx, rfl⟩ := mapAt hi
    have hxR : x ∈ R := List.mem_of_getElem? hx
    have hiR := (List.getElem?_eq_some_iff.mp hx).1
    obtain ⟨x2, c', hc', rx⟩ := hR.mem x hxR
    rw [List.mem_singleton.mp hc'] at rx
    have xle := rx.le S2.ok
    obtain ⟨n, hn⟩ := nod_some (show x < ns2.length + 2 by omega) x2
    obtain ⟨lt1, lt2, _⟩ := S2.ok.lt x n hn
    have nL : n.1 ∈ L := dL _ ((dep_iff S2.ok hc2 _).mpr ⟨x, n, rx, hn, rfl⟩)
    obtain ⟨p, hp⟩ := List.getElem?_of_mem nL
    have hpl := (List.getElem?_eq_some_iff.mp hp).1
    have S7 := S2.new kA
    have topo := hR.topo i x hx
    obtain ⟨km1, km2⟩ := kids_mem hn
    obtain ⟨tw, lw, pw, mw, w1, w2, w2', w3⟩ := f7 n.2.1 (by by_cases z : n.2.1 < 2; exact .inl z; exact .inr (topo _ (km1 (by omega))))
    obtain ⟨tt, lt, pt, mt, u1, u2, u2', u3⟩ := f7 n.2.2 (by by_cases z : n.2.2 < 2; exact .inl z; exact .inr (topo _ (km2 (by omega))))
    obtain ⟨pw1, pt1, nw⟩ := PlaL.node S2.ok up hn hp w3 u3
    have lnw := w3.len
    have lnt := u3.len
    have lew := w3.le
    have leu := u3.le
    refine ⟨_, rfl, s.p, s.dx, _, rfl, S7.ob, sf_no _ _ _ (by decide +kernel) (by decide +kernel) (by decide +kernel), _, rfl, E, s, ns2, b + 2048, x, n, rfl, S7, hn, fun a ha' => ?_⟩
    refine ⟨a, _, rfl, SqT.of ha', rfl, _, _, rfl, _, _, rfl, _, _, rfl, rfl, ?_⟩
    have gp : DGet H7 pd (.int n.1) (some (.int (p : Int))) := by rw [← hv p n.1 hpl hp]; exact DGet.k (k := Sum.inl n.1) p7
    have gw : ∀ {H' : Hp}, Kp [] H7 H' → DGet H' fd (.int n.2.1) (some (.ref tw)) := fun k => by rw [← w1]; exact DGet.k (k := Sum.inl ((n.2.1 : Nat) : Int)) (k.k _ _ d7 (by simp))
    have gu : ∀ {H' : Hp}, Kp [] H7 H' → DGet H' fd (.int n.2.2) (some (.ref tt)) := fun k => by rw [← u1]; exact DGet.k (k := Sum.inl ((n.2.2 : Nat) : Int)) (k.k _ _ d7 (by simp))
    refine ⟨_, rfl, _, rfl, pd, _, rfl, gp, ?_⟩
    refine ⟨_, rfl, _, rfl, fd, _, rfl, gw .refl, tw, _, _, _, rfl, rfl, SqT.of w2, rfl, _, rfl, _, rfl, fd, _, rfl, gw .refl, tw, _, _, _, rfl, rfl, SqT.of w2, rfl, _, rfl, _, _, rfl, rfl, _, _, rfl, rfl, lw, mw, pw - p - 1, ?_, w2', by omega, fun rm H8 k9 hrm => ?_⟩
    · show [V.ref lw, V.int ((pw : Int) - (p : Int) - 1)] = _
      rw [show (pw : Int) - (p : Int) - 1 = ((pw - p - 1 : Nat) : Int) by omega]
    refine ⟨_, rfl, _, rfl, fd, _, rfl, gu k9, tt, _, _, _, rfl, rfl, SqT.of (k9.t _ _ u2), rfl, _, rfl, _, rfl, fd, _, rfl, gu k9, tt, _, _, _, rfl, rfl, SqT.of (k9.t _ _ u2), rfl, _, rfl, _, _, rfl, rfl, _, _, rfl, rfl, lt, mt, pt - p - 1, ?_, k9.k _ _ u2' (by simp), by omega, fun rp H9 kB hrp => ?_⟩
    · show [V.ref lt, V.int ((pt : Int) - (p : Int) - 1)] = _
      rw [show (pt : Int) - (p : Int) - 1 = ((pt - p - 1 : Nat) : Int) by omega]
    refine ⟨_, rfl, _, rfl, (by show 1 ≤ sizeLine; decide), fun t ht => ?_⟩
    have kC : Kp [] H9 (upd H9 t (.lst [.int 0])) := .new ht
    refine ⟨_, rfl, t, rp, _, _, rfl, rfl, upd_same, kC.k _ _ hrp (by simp), small (by rw [List.length_map, widen_len]; simp only [List.length_singleton]; omega), fun u hu' => ?_⟩
    have kD := kC.newer (o := .lst ([.int 0] ++ (widen (pt - p - 1) mt).map V.int)) hu'
    refine ⟨rm, u, widen (pw - p - 1) mw, 0 :: widen (pt - p - 1) mt, rfl, SqL.of (kD.k _ _ (kB.k _ _ hrm (by simp)) (by simp)), SqL.of upd_same, by rw [widen_len]; omega, by rw [List.length_cons, widen_len]; omega, fun z HA hz kE hzA => ?_⟩
    refine ⟨(by show 2 ≤ sizeLine; decide), fun t9 ht9 => ?_⟩
    have kF : Kp [] H7 HA := (k9.trans kB).trans (kD.trans kE)
    have kG : Kp [] H7 (upd HA t9 (.tup [.int (p : Int), .ref z])) := kF.newer ht9
    have d8 := kG.k _ _ d7 (by simp)
    refine ⟨_, rfl, _, rfl, fd, _, rfl, DPut.k (k := Sum.inl (x : Int)) d8 (small1000 (by omega)), ?_⟩
    have nrf : r ≠ fd := fun z => by rw [z, d7] at r7; cases r7
    have nft : fd ≠ t9 := ne_of_none (kF.k _ _ d7 (by simp)) ht9
    have nzt : z ≠ t9 := ne_of_none hzA ht9
    have nzf : z ≠ fd := fun y => by rw [y, kF.k _ _ d7 (by simp)] at hzA; cases hzA
    refine ⟨_, _, _, _, _, _, _, _, _, rfl, (kA.trans kG).mt hfd0, ?_, ?_, upd_same, Nat.le_trans (length_putK _ _ _) (by omega), fun y hy => ?_⟩
    · rw [upd_ne nfp]
      exact kG.k _ _ p7 (by simp)
    · rw [upd_ne nrf]
      exact kG.k _ _ r7 (by simp)
    · rw [valV_put]
      by_cases e : y = x
      · subst e
        rw [if_pos rfl]
        exact ⟨t9, z, p, _, rfl, by rw [upd_ne nft.symm, upd_same], by rw [upd_ne nzf, upd_ne nzt]; exact hzA, nw⟩
      · rw [if_neg fun z : (Sum.inl (y : Int) : Key) = Sum.inl (x : Int) => e (Int.ofNat.inj (Sum.inl.inj z))]
        obtain ⟨t', l', p', m', h1, h2, h2', h3⟩ := f7 y (hy.imp id fun m => by
          rw [takeS hx] at m
          rcases List.mem_append.mp m with m | m
          · exact m
          · exact absurd (List.mem_singleton.mp m) e)
        have nft' : t' ≠ fd := fun z => by rw [z, d7] at h2; cases h2
        have nfl' : l' ≠ fd := fun z => by rw [z, d7] at h2'; cases h2'
        exact ⟨t', l', p', m', h1, by rw [upd_ne nft']; exact kG.t _ _ h2, by rw [upd_ne nfl']; exact kG.k _ _ h2' (by simp), h3⟩
  · rintro σ H7 ⟨v3, v4, v7, v8, v9, v10, v11, v12, fk', rfl, kA, p7, r7, d7, l7, f7⟩
    rw [List.length_map, List.take_length] at f7
    obtain ⟨t, l, p, m, h1, h2, h2', h3⟩ := f7 cur (by by_cases z : cur < 2; exact .inl z; exact .inr (hR.top cur (by simp) (by omega)))
    have gt : DGet H7 fd (.int cur) (some (.ref t)) := by rw [← h1]; exact DGet.k (k := Sum.inl (cur : Int)) d7
    have lm := h3.len
    have lp := h3.le
    refine ⟨_, rfl, _, rfl, fd, _, rfl, gt, t, _, rfl, SqT.of h2, rfl, _, _, rfl, _, _, rfl, rfl, ?_⟩
    refine ⟨_, rfl, _, rfl, l, m, p, rfl, h2', by omega, fun z H8 k9 hz => ?_⟩
    rw [h3.all S2.ok hc2 up] at hz
    have k28 := kA.trans k9
    exact q H8 ns2 z (k2.trans (k28.wide fun b m => absurd m List.not_mem_nil)) (S2.new k28) p2 hz
end

/-! ### the shares -/
/-- the weight of a set of k others, of m -/
def wgt (m : Nat) : Nat → Int := fun k => nfac k * nfac (m - k)
/-- what e adds, over all sets of the others -/
def shr (ns : List Node) (c : Nat) (N : List Int) (e : Int) : Int :=
  SW (N.filter fun x => !decide (x = e)) (wgt (N.length - 1)) (fun f => hol ns c (put1 e true f)) - SW (N.filter fun x => !decide (x = e)) (wgt (N.length - 1)) (fun f => hol ns c (put1 e false f))
theorem wsum_bd {B C : Int} (hB : 0 ≤ B) (hC : 0 ≤ C) : ∀ (cs : List Int) (φ : Nat → Int), (∀ i, i < cs.length → 0 ≤ φ i ∧ φ i ≤ B) → (∀ c ∈ cs, 0 ≤ c ∧ c ≤ C) → 0 ≤ wsum φ cs ∧ wsum φ cs ≤ (cs.length : Int) * (B * C)
  | [], φ, _, _ => by
    show (0 : Int) ≤ 0 ∧ (0 : Int) ≤ ((0 : Nat) : Int) * (B * C)
    omega
  | c :: r, φ, h, k => by
    obtain ⟨i1, i2⟩ := wsum_bd hB hC r (fun k => φ (k + 1)) (fun i hi => h (i + 1) (Nat.succ_lt_succ hi)) fun x hx => k x (List.mem_cons_of_mem _ hx)
    obtain ⟨h1, h2⟩ := h 0 (Nat.succ_pos _)
    obtain ⟨k1, k2⟩ := k c List.mem_cons_self
    have m1 : 0 ≤ φ 0 * c := Int.mul_nonneg h1 k1
    have m2 : φ 0 * c ≤ B * C := Int.mul_le_mul h2 k2 k1 hB
    show 0 ≤ φ 0 * c + wsum _ r ∧ φ 0 * c + wsum _ r ≤ ((r.length + 1 : Nat) : Int) * (B * C)
    have e : ((r.length + 1 : Nat) : Int) * (B * C) = (r.length : Int) * (B * C) + B * C := by
      rw [Int.natCast_add, Int.add_mul]
      omega
    omega
theorem filter_lt {N : List Int} {e : Int} (he : e ∈ N) (nd : N.Nodup) : (N.filter fun x => !decide (x = e)).length + 1 = N.length := by
  induction N with
  | nil => cases he
  | cons x r ih =>
    obtain ⟨n1, n2⟩ := List.nodup_cons.mp nd
    rw [List.filter_cons]
    by_cases h : x = e
    · subst h
      rw [if_neg (by simp)]
      have : (r.filter fun y => !decide (y = x)) = r := List.filter_eq_self.mpr fun y hy => by
        have : y ≠ x := fun z => n1 (z ▸ hy)
        simp [this]
      rw [this, List.length_cons]
    · rw [if_pos (by simp [h]), List.length_cons, List.length_cons, ih (List.mem_of_ne_of_mem (fun z => h z.symm) he) n2]
def spShares (C : Addr) : Sp := fun vs H Q _ => ∃ (E : List Int) (s : SA) (ns : List Node) (b c : Nat) (pa : Addr) (PP : List Int), vs = [.ref s.p, .int c, .ref pa] ∧ StoAt C E s H ns b ∧ b + 36864 ≤ 1000000 ∧ c < ns.length + 2 ∧ E.Pairwise (· < ·) ∧ E.length ≤ 8 ∧ H pa = some (.lst (PP.map V.int)) ∧
  ∀ (H' : Hp) (ns' : List Node) (r : Addr) (N : List Int), Kp s.M H H' → StoAt C E s H' ns' (b + 36864) → Pre ns ns' → N.Pairwise (· < ·) → N.length ≤ 8 → (∀ k, k ∈ N ↔ Dep ns c k ∧ k ∈ PP) → H r = none → Rows H' r N (fun e => low (shr ns c N e) (nfac N.length)) → Q (.ref r) H'
section
variable {P : Program} {w : World} {K : PySem.W.Frag} {mg : Str → Option Value} {base : Heap} {C : Addr}
theorem ok_shares (D : GD K mg "shares" sD_shares ["store", "condition", "present"]) (T : TSizes mg) (c_orders : Cal P w K mg base 1 "orders" spOrders []) (c_weighed : Cal P w K mg base 1 "weighed" (spWeighed K) []) (c_lowest : Cal P w K mg base 1 "lowest" spLowest [])
    (c_sizes : Cal P w K mg base 4 "sizes" (spSizes C) []) (m_depends : Met P w K mg base 3 C "depends" (spDepends C) []) (m_restrict : Met P w K mg base 3 C "restrict" (spRestrict C) []) : Cal P w K mg base 5 "shares" (spShares C) [] := by
  refine D.cal sc_shares (fun vs H Q E h => ?_) (fun f cdv A outer s0 H vs Q E hr h => ?_)
  · obtain ⟨E, s, ns, b, c, pa, PP, rfl, _⟩ := h
    rfl
  obtain ⟨E, s, ns, b, c, pa, PP, rfl, S, hb, hc, up, hE, hpa, q⟩ := h
  have nd : E.Nodup := up.imp fun h e => by omega
  obtain ⟨outC, outL, outN⟩ := S.out
  refine ⟨_, (pss_cons (ps_setLc (i := 4) (own := [("entry", 3)]) (g := gName 3) rfl sc_shares.nd rfl rfl (sw_true rfl rfl rfl (by decide +kernel)) (pi_list (pe_mt m_depends hr (by omega) (pv 0) (pa_cons (pv 1) pa_nil))) (blkOk_by (own := [("entry", 3)]) (N := ["store", "condition", "present", "entry", "there", "numbers", "found", "others", "coming", "missing", "difference", "numerator", "denominator", "other"]) (sc := defScope sD_shares) (by decide +kernel)) (fun _ _ _ _ _ => (pg_name (i := 3) sc_shares.nd rfl (Or.inl rfl))) (fun _ _ _ _ _ => (pts_one (bt_in (K := K) rfl (pv 3) (pv 2)))) (fun _ _ _ _ _ => (pv 3)))
    (pss_cons (ps_set (i := 5) sc_shares.nd rfl (Or.inl rfl) (pe_c c_orders hr (by omega) rfl (pa_cons (pe_callB call_len_seq (by rfl) T.n_len (by decide +kernel) (pa_cons (pv 4) pa_nil)) pa_nil)))
    (pss_cons (ps_set (i := 6) sc_shares.nd rfl (Or.inl rfl) (pe_lst pa_nil))
    (pss_cons (ps_for PassesOwn.never rfl (pi_list (pv 4)) (pg_name (i := 3) sc_shares.nd rfl (Or.inr rfl)) (pss_cons (ps_setLc (i := 7) (own := [("other", 13)]) (g := gName 13) rfl sc_shares.nd rfl rfl (sw_true rfl rfl rfl (by decide +kernel)) (pi_list (pv 4)) (blkOk_by (own := [("other", 13)]) (N := ["store", "condition", "present", "entry", "there", "numbers", "found", "others", "coming", "missing", "difference", "numerator", "denominator", "other"]) (sc := defScope sD_shares) (by decide +kernel)) (fun _ _ _ _ _ => (pg_name (i := 13) sc_shares.nd rfl (Or.inl rfl))) (fun _ _ _ _ _ => (pts_one (pt_cmpR op_ne (pv 13) (pv 3) (nomark _)))) (fun _ _ _ _ _ => (pv 13)))
    (pss_cons (ps_set (i := 8) sc_shares.nd rfl (Or.inl rfl) (pe_c c_sizes hr (by omega) rfl (pa_cons (pv 0) (pa_cons (pe_mt m_restrict hr (by omega) (pv 0) (pa_cons (pv 1) (pa_cons (pv 3) (pa_cons pe_bl pa_nil)))) (pa_cons (pv 7) pa_nil)))))
    (pss_cons (ps_set (i := 9) sc_shares.nd rfl (Or.inl rfl) (pe_c c_sizes hr (by omega) rfl (pa_cons (pv 0) (pa_cons (pe_mt m_restrict hr (by omega) (pv 0) (pa_cons (pv 1) (pa_cons (pv 3) (pa_cons pe_bl pa_nil)))) (pa_cons (pv 7) pa_nil)))))
    (pss_cons (ps_set (i := 10) sc_shares.nd rfl (Or.inl rfl) (pe_op op_sub (pe_c c_weighed hr (by omega) rfl (pa_cons (pv 8) (pa_cons (pv 5) (pa_cons (pe_callB call_len_seq (by rfl) T.n_len (by decide +kernel) (pa_cons (pv 7) pa_nil)) pa_nil)))) (pe_c c_weighed hr (by omega) rfl (pa_cons (pv 9) (pa_cons (pv 5) (pa_cons (pe_callB call_len_seq (by rfl) T.n_len (by decide +kernel) (pa_cons (pv 7) pa_nil)) pa_nil))))))
    (pss_cons (ps_asg (pe_c c_lowest hr (by omega) rfl (pa_cons (pv 10) (pa_cons (pe_ix ix_list (pv 5) (pe_callB call_len_seq (by rfl) T.n_len (by decide +kernel) (pa_cons (pv 4) pa_nil)) (fun _ _ => rfl)) pa_nil))) (pg_tup rfl (pgs_cons (pg_name (i := 11) sc_shares.nd rfl (Or.inl rfl)) (pgs_cons (pg_name (i := 12) sc_shares.nd rfl (Or.inl rfl)) pgs_nil))))
    (pss_one (ps_expr (pe_bm PySem.F.plainAttrs_list PySem.F.slot_list_append PySem.F.type_list_append mt_append (pv 6) (pa_cons (pe_tup (pa_cons (pv 3) (pa_cons (pv 11) (pa_cons (pv 12) pa_nil)))) pa_nil))))))))))
    (pss_one (ps_ret (pv 6))))))), ?_⟩
  refine ⟨_, rfl, s.p, s.dx, _, rfl, S.ob, sf_no _ _ _ (by decide +kernel) (by decide +kernel) (by decide +kernel), _, rfl, E, s, ns, b, c, rfl, S, hc, nd, hE, by omega, fun R L r0 H1 hR upL hL hr00 k1 hr1 => ?_⟩
  have dL := hR.dep S.ok hc hL
  have lenL : L.length ≤ 8 := Nat.le_trans (nodup_sub L E (upL.imp fun h e => by omega) fun k hk => by
    obtain ⟨x, _, n, hn, rfl⟩ := (hL k).mp hk
    exact S.ok.en x n hn) hE
  have hpa1 := k1.k _ _ hpa (by simp)
  -- there
  refine ⟨r0, rfl, ⟨_, SqL.of hr1⟩, fun D hD => lc_list (K := K) (a := r0) (xs := L.map V.int) (fun j G => Kp [] H1 G ∧ G D = some (.lst (((L.take j).filter fun x => decide (x ∈ PP)).map V.int))) ⟨.new hD, upd_same⟩ (fun j G _ p => SqL.of (p.1.k _ _ hr1 (by simp))) (fun j x G hj p => ?_) (fun G p => ?_)⟩
  · obtain ⟨e, he, rfl⟩ := mapAt hj
    obtain ⟨k2, hD2⟩ := p
    refine ⟨rfl, _, rfl, _, rfl, pa, _, rfl, .inl (SqL.of (k2.k _ _ hpa1 (by simp))), rfl, flat_ints PP, ?_⟩
    rw [if_neg Bool.false_ne_true, inV_ints]
    refine ⟨_, rfl, ?_⟩
    by_cases m : e ∈ PP
    · rw [decide_eq_true m]
      refine iteT ⟨_, rfl, _, hD2, small1000 ?_, k2.mt hD, ?_⟩
      · rw [List.length_map]
        exact Nat.le_trans (List.length_filter_le _ _) (Nat.le_trans (List.length_take_le' _ _) (by omega))
      · rw [ft_yes he (decide_eq_true m)]
        exact upd_same
    · rw [decide_eq_false m]
      refine iteF ⟨k2, ?_⟩
      rw [ft_no he (decide_eq_false m)]
      exact hD2
  obtain ⟨k2, hD2⟩ := p
  rw [List.length_map, List.take_length] at hD2
  obtain ⟨N, hN⟩ : ∃ N, (L.filter fun x => decide (x ∈ PP)) = N := ⟨_, rfl⟩
  have upN : N.Pairwise (· < ·) := by rw [← hN]; exact upL.sublist List.filter_sublist
  have lenN : N.length ≤ 8 := by rw [← hN]; exact Nat.le_trans (List.length_filter_le _ _) lenL
  have memN : ∀ k, k ∈ N ↔ Dep ns c k ∧ k ∈ PP := fun k => by
    rw [← hN, List.mem_filter, dL k]
    simp
  have ndN : N.Nodup := upN.imp fun h e => by omega
  rw [hN] at hD2
  have k02 : Kp [] H G := k1.trans k2
  have hDH : H D = none := k1.free hD (by simp)
  refine ⟨_, rfl, D, _, rfl, .inl (SqL.of hD2), N.length, by rw [List.length_map]; rfl, lenN, fun nu H3 hnu k3 hnu3 => ?_⟩
  have hnuH := k02.free hnu (by simp)
  refine ⟨(by show 0 ≤ sizeLine; decide), fun fa hfa => ?_⟩
  have k03 := k02.trans k3
  have hfaH := k03.free hfa (by simp)
  have DM := outN D hDH
  have nuM := outN nu hnuH
  have faM := outN fa hfaH
  have k4 : Kp [] H3 (upd H3 fa (.lst [])) := .new hfa
  have nDf : D ≠ fa := ne_of_none (k3.k _ _ hD2 (by simp)) hfa
  have nnf : nu ≠ fa := ne_of_none hnu3 hfa
  refine ⟨_, rfl, D, rfl, ⟨_, SqL.of (k4.k _ _ (k3.k _ _ hD2 (by simp)) (by simp))⟩, for_list (K := K) (a := D) (xs := N.map V.int) (fun i σ H' => ∃ (v3 v7 v8 v9 v10 v11 v12 v13 : Option V) (ns' : List Node), σ = [some (.ref s.p), some (.int c), some (.ref pa), v3, some (.ref D), some (.ref nu), some (.ref fa), v7, v8, v9, v10, v11, v12, v13] ∧
    Kp s.M H H' ∧ StoAt C E s H' ns' (b + 4608 * i) ∧ Pre ns ns' ∧ H' D = some (.lst (N.map V.int)) ∧ H' nu = some (.lst ((facs N.length).map V.int)) ∧ Rows H' fa (N.take i) (fun e => low (shr ns c N e) (nfac N.length)))
    ⟨_, none, none, none, none, none, none, _, ns, rfl, (k03.trans k4).wide fun b m => absurd m List.not_mem_nil, S.new (k03.trans k4), .refl _, k4.k _ _ (k3.k _ _ hD2 (by simp)) (by simp), k4.k _ _ hnu3 (by simp), .nil upd_same⟩ (fun i σ H' _ p => ?_) ?_ ?_⟩
  · obtain ⟨v3, v7, v8, v9, v10, v11, v12, v13, ns', rfl, _, _, _, h, _⟩ := p
    exact SqL.of h
  · rintro i x σ H5 hi ⟨v3, v7, v8, v9, v10, v11, v12, v13, ns5, rfl, k5, S5, p5, hD5, hnu5, rows5⟩
    obtain ⟨e, he, rfl⟩ := mapAt hi
    have heN := List.mem_of_getElem? he
    have hiN := (List.getElem?_eq_some_iff.mp he).1
    have hc5 : c < ns5.length + 2 := by have := p5.len; omega
    -- others
    refine ⟨_, rfl, D, rfl, ⟨_, SqL.of hD5⟩, fun oa hoa => lc_list (K := K) (a := D) (xs := N.map V.int) (fun j G => Kp [] H5 G ∧ G oa = some (.lst (((N.take j).filter fun x => !decide (x = e)).map V.int))) ⟨.new hoa, upd_same⟩ (fun j G _ p => SqL.of (p.1.k _ _ hD5 (by simp))) (fun j x G hj p => ?_) (fun G p => ?_)⟩
    · obtain ⟨o, ho, rfl⟩ := mapAt hj
      obtain ⟨kG, hG⟩ := p
      refine ⟨rfl, _, rfl, _, rfl, rfl, _, rfl, ?_⟩
      by_cases m : o = e
      · refine iteF_of (by rw [m, decide_eq_true rfl]; rfl) ⟨kG, ?_⟩
        rw [ft_no ho (by simp [m])]
        exact hG
      · refine iteT_of (by rw [decide_eq_false fun z => m (V.int.inj z)]; rfl) ⟨_, rfl, _, hG, small1000 ?_, kG.mt hoa, ?_⟩
        · rw [List.length_map]
          exact Nat.le_trans (List.length_filter_le _ _) (Nat.le_trans (List.length_take_le' _ _) (by omega))
        · rw [ft_yes ho (by simp [m])]
          exact upd_same
    obtain ⟨kG, hG⟩ := p
    rw [List.length_map, List.take_length] at hG
    obtain ⟨O, hO⟩ : ∃ O, (N.filter fun x => !decide (x = e)) = O := ⟨_, rfl⟩
    have lenO : O.length + 1 = N.length := by rw [← hO]; exact filter_lt heN ndN
    have upO : O.Pairwise (· < ·) := by rw [← hO]; exact upN.sublist List.filter_sublist
    rw [hO] at hG
    have S6 := S5.new kG
    have oaM := outN oa (Classical.byContradiction fun z => by
      cases y : H oa with
      | none => exact z y
      | some o =>
        exact absurd (k5.k oa o y (fun m => S5.out.2.2 oa hoa m)) (by rw [hoa]; simp))
    -- coming
    refine ⟨_, rfl, _, rfl, s.p, s.dx, _, rfl, S6.ob, sf_no _ _ _ (by decide +kernel) (by decide +kernel) (by decide +kernel), _, rfl, _, rfl, E, s, ns5, b + 4608 * i, c, e, true, rfl, S6, hc5, hE, by omega, fun H7 ns7 z1 k7 S7 p7 fx1 => ?_⟩
    refine ⟨_, rfl, E, s, ns7, b + 4608 * i + 256, z1, oa, O, rfl, S7, by omega, fx1.lt, nd, hE, k7.k _ _ hG oaM, upO, by omega, fun H8 ns8 co k8 S8 p8 hco => ?_⟩
    have coM := S8.out.2.1 _ _ hco
    have hc8 : c < ns8.length + 2 := by have := p7.len; have := p8.len; omega
    -- missing
    refine ⟨_, rfl, _, rfl, s.p, s.dx, _, rfl, S8.ob, sf_no _ _ _ (by decide +kernel) (by decide +kernel) (by decide +kernel), _, rfl, _, rfl, E, s, ns8, b + 4608 * i + 256 + 2048, c, e, false, rfl, S8, hc8, hE, by omega, fun H9 ns9 z2 k9 S9 p9 fx2 => ?_⟩
    have k79 := (k7.trans k8).trans k9
    refine ⟨_, rfl, E, s, ns9, b + 4608 * i + 256 + 2048 + 256, z2, oa, O, rfl, S9, by omega, fx2.lt, nd, hE, k79.k _ _ hG oaM, upO, by omega, fun HA nsA mi kA SA' pA hmi => ?_⟩
    have k7A := k79.trans kA
    have k8A := k9.trans kA
    have hG_A := k7A.k _ _ hG oaM
    have hco_A := k8A.k _ _ hco coM
    have k5A : Kp s.M H5 HA := (kG.wide fun b m => absurd m List.not_mem_nil).trans k7A
    have hnuA := k5A.k _ _ hnu5 nuM
    have hDA := k5A.k _ _ hD5 DM
    have bnd : ∀ (ns' : List Node) (z : Nat), ∀ x ∈ cnt O (hol ns' z), 0 ≤ x ∧ x ≤ 1000 := fun ns' z x hx => by
      have := cnt_bd O (hol ns' z) (hol_b ns' z) x hx
      have h2 : (2 : Int) ^ O.length ≤ 256 := by
        have : O.length = 0 ∨ O.length = 1 ∨ O.length = 2 ∨ O.length = 3 ∨ O.length = 4 ∨ O.length = 5 ∨ O.length = 6 ∨ O.length = 7 := by omega
        rcases this with h | h | h | h | h | h | h | h <;> rw [h] <;> decide
      omega
    have lcnt : ∀ (ns' : List Node) (z : Nat), (cnt O (hol ns' z)).length = O.length + 1 := fun ns' z => cnt_len _ _
    refine ⟨_, rfl, _, rfl, _, rfl, oa, _, rfl, .inl (SqL.of hG_A), co, nu, _, O.length, N.length, by rw [List.length_map]; rfl, SqL.of hco_A, SqL.of hnuA, lcnt _ _, by omega, by omega, bnd _ _, fun HB kB => ?_⟩
    refine ⟨_, rfl, _, rfl, _, rfl, oa, _, rfl, .inl (SqL.of (kB.k _ _ hG_A (by simp))), mi, nu, _, O.length, N.length, by rw [List.length_map]; rfl, SqL.of (kB.k _ _ hmi (by simp)), SqL.of (kB.k _ _ hnuA (by simp)), lcnt _ _, by omega, by omega, bnd _ _, fun HC kC => ?_⟩
    have kAC := kB.trans kC
    have eh1 : hol ns7 z1 = fun f => hol ns c (put1 e true f) := by
      funext f
      unfold hol
      rw [fx1.ev, p5.ev S.ok S5.ok _ c hc]
    have eh2 : hol ns9 z2 = fun f => hol ns c (put1 e false f) := by
      funext f
      unfold hol
      rw [fx2.ev, ((p5.trans p7).trans p8).ev S.ok S8.ok _ c hc]
    have ediff : wsum (fun k => nfac k * nfac (O.length - k)) (cnt O (hol ns7 z1)) - wsum (fun k => nfac k * nfac (O.length - k)) (cnt O (hol ns9 z2)) = shr ns c N e := by
      unfold shr
      rw [wsum_cnt, wsum_cnt, eh1, eh2, hO, show N.length - 1 = O.length by omega]
      rfl
    have wb : ∀ (ns' : List Node) (z : Nat), 0 ≤ wsum (fun k => nfac k * nfac (O.length - k)) (cnt O (hol ns' z)) ∧ wsum (fun k => nfac k * nfac (O.length - k)) (cnt O (hol ns' z)) ≤ 9 * (13168189440000 * 1000) := fun ns' z => by
      have h := wsum_bd (B := 13168189440000) (C := 1000) (by decide) (by decide) (cnt O (hol ns' z)) (fun k => nfac k * nfac (O.length - k)) (fun j hj => by
        rw [lcnt] at hj
        have b1 := nfac_bd j (by omega)
        have b2 := nfac_bd (O.length - j) (by omega)
        exact ⟨Int.mul_nonneg (by omega) (by omega), Int.le_trans (Int.mul_le_mul b1.2 b2.2 (by omega) (by decide)) (by decide)⟩) (bnd ns' z)
      rw [lcnt] at h
      refine ⟨h.1, Int.le_trans h.2 (Int.mul_le_mul_of_nonneg_right (by omega) (by decide))⟩
    have w1 := wb ns7 z1
    have w2 := wb ns9 z2
    refine ⟨_, _, rfl, rfl, ?_⟩
    have fb := nfac_bd N.length (by omega)
    have hDC := kAC.k _ _ hDA (by simp)
    have hnuC := kAC.k _ _ hnuA (by simp)
    refine ⟨_, rfl, _, rfl, _, rfl, D, _, rfl, .inl (SqL.of hDC), nu, _, _, _, rfl, rfl, SqL.of hnuC, at_of (j := N.length) (by rw [List.length_map]) (by rw [List.getElem?_map, facs_at (Nat.le_refl _)]; rfl), _, _, rfl, by omega, by omega, by omega, fun p8' hp8 => ?_⟩
    refine ⟨p8', _, rfl, SqT.of upd_same, rfl, _, _, rfl, _, _, rfl, rfl, ?_⟩
    rw [ediff]
    have kD : Kp [] HA (upd HC p8' (.tup (low (shr ns c N e) (nfac N.length)))) := kAC.newer hp8
    have k5D : Kp s.M H5 (upd HC p8' (.tup (low (shr ns c N e) (nfac N.length)))) := k5A.trans (kD.wide fun b m => absurd m List.not_mem_nil)
    have rows8 := rows5.kp k5D faM
    obtain ⟨as, hfa9, hal⟩ := rows8.len
    have hasl : as.length ≤ 8 := by rw [hal, List.length_take]; omega
    refine ⟨_, rfl, .inl ⟨rfl, _, SqL.of hfa9⟩, _, rfl, _, rfl, _, rfl, (by show 3 ≤ sizeLine; decide), fun t9 ht9 => ?_⟩
    have kE := Kp.new (M := []) (o := .tup (.int e :: low (shr ns c N e) (nfac N.length))) ht9
    have hfaA := kE.k _ _ hfa9 (by simp)
    have SE := SA'.new (kD.trans kE)
    refine ⟨fa, _, _, rfl, rfl, hfaA, by rw [List.length_map]; exact small1000 (by omega), ?_⟩
    have k0E := (k5.trans k5D).trans (kE.wide fun b m => absurd m List.not_mem_nil)
    refine ⟨_, _, _, _, _, _, _, _, nsA, rfl, k0E.mt hfaH, (SE.mono (by omega)).kp (M := [fa]) (.put (by simp) hfaA (fun xs e => by cases e)) ?_ ?_ ?_ ?_, (((p5.trans p7).trans p8).trans p9).trans pA, ?_, ?_, ?_⟩
    · intro m
      have e1 := List.mem_singleton.mp m
      have := SE.ob
      rw [e1, hfaA] at this
      cases this
    · exact fun m => faM (by rw [← List.mem_singleton.mp m]; simp)
    · exact fun m => faM (by rw [← List.mem_singleton.mp m]; simp)
    · exact fun m => faM (by rw [← List.mem_singleton.mp m]; simp)
    · rw [upd_ne nDf]
      exact kE.k _ _ (k5D.k _ _ hD5 DM) (by simp)
    · rw [upd_ne nnf]
      exact kE.k _ _ (k5D.k _ _ hnu5 nuM) (by simp)
    · rw [takeS he]
      refine (rows8.kp kE (by simp)).snoc hfaA ?_
      rw [upd_same]
  · rintro σ H5 ⟨v3, v7, v8, v9, v10, v11, v12, v13, ns5, rfl, k5, S5, p5, hD5, hnu5, rows5⟩
    rw [List.length_map] at S5 rows5
    rw [List.take_length] at rows5
    exact ⟨_, rfl, q H5 ns5 fa N k5 (S5.mono (by omega)) p5 upN lenN memN hfaH rows5⟩
end

/-! ### all shares together, in plain Lean -/
theorem SW_phi : ∀ (L : List Int) {φ ψ : Nat → Int} (g : (Int → Bool) → Int), (∀ k, k ≤ L.length → φ k = ψ k) → SW L φ g = SW L ψ g
  | [], φ, ψ, g, h => by
    show φ 0 * _ = ψ 0 * _
    rw [h 0 (Nat.le_refl _)]
  | e :: L, φ, ψ, g, h => by
    show SW L φ g + SW L _ _ = SW L ψ g + SW L _ _
    rw [SW_phi L g fun k hk => h k (Nat.le_succ_of_le hk), SW_phi L (φ := fun k => φ (k + 1)) (ψ := fun k => ψ (k + 1)) _ fun k hk => h (k + 1) (Nat.succ_le_succ hk)]
theorem SW_congr : ∀ (L : List Int) (φ : Nat → Int) {g h : (Int → Bool) → Int}, (∀ f, (∀ x, x ∉ L → f x = false) → g f = h f) → SW L φ g = SW L φ h
  | [], φ, g, h, q => by
    show φ 0 * g _ = φ 0 * h _
    rw [q _ fun _ _ => rfl]
  | e :: L, φ, g, h, q => by
    show SW L φ g + SW L _ _ = SW L φ h + SW L _ _
    rw [SW_congr L φ (g := g) (h := h) fun f hf => q f fun x hx => hf x fun m => hx (List.mem_cons_of_mem _ m),
      SW_congr L _ (g := fun f => g (set1 e f)) (h := fun f => h (set1 e f)) fun f hf => q _ fun x hx => by
        rw [set1_ne (fun z => hx (by rw [z]; exact List.mem_cons_self))]
        exact hf x fun m => hx (List.mem_cons_of_mem _ m)]
theorem SW_add : ∀ (L : List Int) (φ ψ : Nat → Int) (g : (Int → Bool) → Int), SW L (fun k => φ k + ψ k) g = SW L φ g + SW L ψ g
  | [], φ, ψ, g => by
    show (φ 0 + ψ 0) * _ = φ 0 * _ + ψ 0 * _
    rw [Int.add_mul]
  | e :: L, φ, ψ, g => by
    show SW L (fun k => φ k + ψ k) g + SW L (fun k => φ (k + 1) + ψ (k + 1)) _ = (SW L φ g + SW L _ _) + (SW L ψ g + SW L _ _)
    rw [SW_add L φ ψ g, SW_add L (fun k => φ (k + 1)) (fun k => ψ (k + 1))]
    omega
theorem SW_zero : ∀ (L : List Int) (g : (Int → Bool) → Int), SW L (fun _ => 0) g = 0
  | [], g => by
    show 0 * _ = (0 : Int)
    rw [Int.zero_mul]
  | e :: L, g => by
    show SW L (fun _ => 0) g + SW L (fun _ => 0) _ = 0
    rw [SW_zero L, SW_zero L]
    rfl
theorem SW_neg (L : List Int) (φ : Nat → Int) (g : (Int → Bool) → Int) : SW L (fun k => -φ k) g = -SW L φ g := by
  have h := SW_add L φ (fun k => -φ k) g
  rw [SW_phi L (φ := fun k => φ k + -φ k) (ψ := fun _ => 0) g fun k _ => by omega, SW_zero] at h
  omega
theorem SW_mono : ∀ (L : List Int) (φ : Nat → Int) {g h : (Int → Bool) → Int}, (∀ k, k ≤ L.length → 0 ≤ φ k) → (∀ f, g f ≤ h f) → SW L φ g ≤ SW L φ h
  | [], φ, g, h, p, q => Int.mul_le_mul_of_nonneg_left (q _) (p 0 (Nat.le_refl _))
  | e :: L, φ, g, h, p, q => by
    show SW L φ g + SW L _ _ ≤ SW L φ h + SW L _ _
    have h1 := SW_mono L φ (g := g) (h := h) (fun k hk => p k (Nat.le_succ_of_le hk)) q
    have h2 := SW_mono L (fun k => φ (k + 1)) (g := fun f => g (set1 e f)) (h := fun f => h (set1 e f)) (fun k hk => p (k + 1) (Nat.succ_le_succ hk)) fun f => q _
    omega
/-- the others -/
def oth (N : List Int) (e : Int) : List Int := N.filter fun x => !decide (x = e)
theorem oth_head {e : Int} {L : List Int} (h : e ∉ L) : oth (e :: L) e = L := by
  unfold oth
  rw [List.filter_cons, if_neg (by simp)]
  exact List.filter_eq_self.mpr fun y hy => by
    have : y ≠ e := fun z => h (z ▸ hy)
    simp [this]
theorem oth_tail {e i : Int} {L : List Int} (h : e ≠ i) : oth (e :: L) i = e :: oth L i := by
  unfold oth
  rw [List.filter_cons, if_pos (by simp [h])]
theorem sum_add2 (l : List Int) (f g : Int → Int) : (l.map fun x => f x + g x).sum = (l.map f).sum + (l.map g).sum := by
  induction l with
  | nil => rfl
  | cons x r ih =>
    rw [List.map_cons, List.map_cons, List.map_cons, List.sum_cons, List.sum_cons, List.sum_cons, ih]
    omega
theorem eff_with : ∀ (N : List Int), N.Nodup → ∀ (φ : Nat → Int) (g : (Int → Bool) → Int), (N.map fun i => SW (oth N i) φ fun f => g (set1 i f)).sum = SW N (fun k => (k : Int) * φ (k - 1)) g
  | [], _, φ, g => by
    show (0 : Int) = ((0 : Nat) : Int) * φ (0 - 1) * _
    rw [show ((0 : Nat) : Int) = 0 from rfl, Int.zero_mul, Int.zero_mul]
  | e :: L, nd, φ, g => by
    obtain ⟨n1, n2⟩ := List.nodup_cons.mp nd
    rw [List.map_cons, List.sum_cons, oth_head n1]
    rw [show (L.map fun i => SW (oth (e :: L) i) φ fun f => g (set1 i f)) = L.map fun i => SW (oth L i) φ (fun f => g (set1 i f)) + SW (oth L i) (fun k => φ (k + 1)) (fun f => (fun f => g (set1 e f)) (set1 i f)) from
      List.map_congr_left fun i hi => by
        rw [oth_tail fun z : e = i => n1 (by rw [z]; exact hi)]
        show SW (oth L i) φ _ + SW (oth L i) _ _ = _
        congr 2
        funext f
        show g (set1 i (set1 e f)) = g (set1 e (set1 i f))
        rw [set1_comm]]
    rw [sum_add2, eff_with L n2 φ g, eff_with L n2 (fun k => φ (k + 1)) fun f => g (set1 e f)]
    show _ = SW L (fun k => (k : Int) * φ (k - 1)) g + SW L (fun k => ((k + 1 : Nat) : Int) * φ (k + 1 - 1)) fun f => g (set1 e f)
    have h := SW_add L φ (fun k => (k : Int) * φ (k - 1 + 1)) fun f => g (set1 e f)
    rw [SW_phi L (φ := fun k => φ k + (k : Int) * φ (k - 1 + 1)) (ψ := fun k => ((k + 1 : Nat) : Int) * φ (k + 1 - 1)) _ fun k _ => ?_] at h
    · omega
    · show φ k + (k : Int) * φ (k - 1 + 1) = ((k + 1 : Nat) : Int) * φ (k + 1 - 1)
      rw [Nat.add_sub_cancel, Int.natCast_add, Int.add_mul]
      cases k with
      | zero => rw [show ((0 : Nat) : Int) = 0 from rfl, Int.zero_mul, Int.zero_mul]; omega
      | succ k => rw [show k + 1 - 1 + 1 = k + 1 by omega]; omega
theorem eff_without : ∀ (N : List Int), N.Nodup → ∀ (φ : Nat → Int) (g : (Int → Bool) → Int), (N.map fun i => SW (oth N i) φ g).sum = SW N (fun k => ((N.length : Int) - k) * φ k) g
  | [], _, φ, g => by
    show (0 : Int) = (((0 : Nat) : Int) - ((0 : Nat) : Int)) * φ 0 * _
    rw [Int.sub_self, Int.zero_mul, Int.zero_mul]
  | e :: L, nd, φ, g => by
    obtain ⟨n1, n2⟩ := List.nodup_cons.mp nd
    rw [List.map_cons, List.sum_cons, oth_head n1]
    rw [show (L.map fun i => SW (oth (e :: L) i) φ g) = L.map fun i => SW (oth L i) φ g + SW (oth L i) (fun k => φ (k + 1)) (fun f => g (set1 e f)) from
      List.map_congr_left fun i hi => by
        rw [oth_tail fun z : e = i => n1 (by rw [z]; exact hi)]
        rfl]
    rw [sum_add2, eff_without L n2 φ g, eff_without L n2 (fun k => φ (k + 1)) fun f => g (set1 e f)]
    show _ = SW L (fun k => (((L.length + 1 : Nat) : Int) - k) * φ k) g + SW L (fun k => (((L.length + 1 : Nat) : Int) - ((k + 1 : Nat) : Int)) * φ (k + 1)) fun f => g (set1 e f)
    have h := SW_add L φ (fun k => ((L.length : Int) - k) * φ k) g
    rw [SW_phi L (φ := fun k => φ k + ((L.length : Int) - k) * φ k) (ψ := fun k => (((L.length + 1 : Nat) : Int) - k) * φ k) _ fun k _ => ?_] at h
    · rw [SW_phi L (φ := fun k => (((L.length + 1 : Nat) : Int) - ((k + 1 : Nat) : Int)) * φ (k + 1)) (ψ := fun k => ((L.length : Int) - k) * φ (k + 1)) _ fun k _ => ?_]
      · omega
      · show (((L.length + 1 : Nat) : Int) - ((k + 1 : Nat) : Int)) * φ (k + 1) = ((L.length : Int) - k) * φ (k + 1)
        rw [show (((L.length + 1 : Nat) : Int) - ((k + 1 : Nat) : Int)) = (L.length : Int) - k by omega]
    · show φ k + ((L.length : Int) - k) * φ k = (((L.length + 1 : Nat) : Int) - k) * φ k
      rw [show (((L.length + 1 : Nat) : Int) - (k : Int)) = ((L.length : Int) - k) + 1 by omega, Int.add_mul]
      omega
def full (L : List Int) : Int → Bool := L.foldr set1 fun _ => false
theorem SW_top : ∀ (L : List Int) (F : Int) (g : (Int → Bool) → Int), SW L (fun k => if k = L.length then F else 0) g = F * g (full L)
  | [], F, g => rfl
  | e :: L, F, g => by
    show SW L (fun k => if k = L.length + 1 then F else 0) g + SW L (fun k => if k + 1 = L.length + 1 then F else 0) _ = F * g (set1 e (full L))
    rw [SW_phi L (φ := fun k => if k = L.length + 1 then F else 0) (ψ := fun _ => 0) g fun k hk => if_neg (by omega), SW_zero,
      SW_phi L (φ := fun k => if k + 1 = L.length + 1 then F else 0) (ψ := fun k => if k = L.length then F else 0) _ fun k hk => by
        by_cases h : k = L.length
        · rw [if_pos h, if_pos (by omega)]
        · rw [if_neg h, if_neg (by omega)], SW_top L F]
    omega
theorem SW_bot : ∀ (L : List Int) (F : Int) (g : (Int → Bool) → Int), SW L (fun k => if k = 0 then F else 0) g = F * g fun _ => false
  | [], F, g => rfl
  | e :: L, F, g => by
    show SW L (fun k => if k = 0 then F else 0) g + SW L (fun k => if k + 1 = 0 then F else 0) _ = _
    rw [SW_bot L F g, SW_phi L (φ := fun k => if k + 1 = 0 then F else 0) (ψ := fun _ => 0) _ fun k hk => if_neg (by omega), SW_zero]
    omega
theorem nfac_pos : ∀ n, 0 < nfac n
  | 0 => by decide
  | n + 1 => Int.mul_pos (nfac_pos n) (by omega)
theorem nfac_succ (n : Nat) : nfac (n + 1) = nfac n * ((n + 1 : Nat) : Int) := rfl
/-- all together -/
theorem eff_all {N : List Int} (nd : N.Nodup) (g : (Int → Bool) → Int) : (N.map fun i => SW (oth N i) (wgt (N.length - 1)) (fun f => g (set1 i f)) - SW (oth N i) (wgt (N.length - 1)) g).sum = nfac N.length * (g (full N) - g fun _ => false) := by
  rw [show (N.map fun i => SW (oth N i) (wgt (N.length - 1)) (fun f => g (set1 i f)) - SW (oth N i) (wgt (N.length - 1)) g) = N.map fun i => SW (oth N i) (wgt (N.length - 1)) (fun f => g (set1 i f)) + SW (oth N i) (fun k => -(wgt (N.length - 1) k)) g from
    List.map_congr_left fun i _ => by rw [SW_neg]; omega]
  rw [sum_add2, eff_with N nd, eff_without N nd, ← SW_add]
  rw [Int.mul_sub, ← SW_top N, ← SW_bot N]
  have h := SW_neg N (fun k => if k = 0 then nfac N.length else 0) g
  have h2 := SW_add N (fun k => if k = N.length then nfac N.length else 0) (fun k => -(if k = 0 then nfac N.length else 0)) g
  rw [h] at h2
  rw [show SW N (fun k => if k = N.length then nfac N.length else 0) g - SW N (fun k => if k = 0 then nfac N.length else 0) g = SW N (fun k => if k = N.length then nfac N.length else 0) g + -SW N (fun k => if k = 0 then nfac N.length else 0) g by omega, ← h2]
  refine SW_phi N g fun k hk => ?_
  generalize hn : N.length = n at hk
  unfold wgt
  cases n with
  | zero =>
    have : k = 0 := by omega
    subst this
    decide
  | succ m =>
    rw [show m + 1 - 1 = m by omega]
    cases k with
    | zero =>
      rw [if_neg (by omega), if_pos rfl, nfac_succ]
      show ((0 : Nat) : Int) * _ + (((m + 1 : Nat) : Int) - ((0 : Nat) : Int)) * -(1 * nfac m) = 0 + -(nfac m * ((m + 1 : Nat) : Int))
      grind
    | succ k =>
      by_cases e : k = m
      · subst e
        rw [if_pos rfl, if_neg (by omega), show k + 1 - 1 = k by omega, Nat.sub_self, nfac_succ]
        show ((k + 1 : Nat) : Int) * (nfac k * 1) + (((k + 1 : Nat) : Int) - ((k + 1 : Nat) : Int)) * _ = nfac k * ((k + 1 : Nat) : Int) + -0
        grind
      · rw [if_neg (by omega), if_neg (by omega), show k + 1 - 1 = k by omega, nfac_succ]
        obtain ⟨j, rfl⟩ : ∃ j, m = k + 1 + j := ⟨m - (k + 1), by omega⟩
        rw [show k + 1 + j - k = j + 1 by omega, show k + 1 + j - (k + 1) = j by omega, nfac_succ]
        grind
theorem SW_ones : ∀ (L : List Int) (a b : Nat), nfac (a + b + 1) * SW L (fun k => nfac (a + k) * nfac (b + L.length - k)) (fun _ => 1) = nfac a * nfac b * nfac (a + b + L.length + 1)
  | [], a, b => by
    show nfac (a + b + 1) * (nfac (a + 0) * nfac (b + 0 - 0) * 1) = nfac a * nfac b * nfac (a + b + 0 + 1)
    rw [Nat.add_zero, Nat.add_zero, Nat.sub_zero, Nat.add_zero]
    grind
  | e :: L, a, b => by
    have h1 := SW_ones L a (b + 1)
    have h2 := SW_ones L (a + 1) b
    have q : SW (e :: L) (fun k => nfac (a + k) * nfac (b + (e :: L).length - k)) (fun _ => 1) = SW L (fun k => nfac (a + k) * nfac (b + 1 + L.length - k)) (fun _ => 1) + SW L (fun k => nfac (a + 1 + k) * nfac (b + L.length - k)) (fun _ => 1) := by
      show SW L _ _ + SW L _ _ = _
      congr 1
      · refine SW_phi L _ fun k hk => ?_
        show nfac (a + k) * nfac (b + (L.length + 1) - k) = _
        rw [show b + (L.length + 1) - k = b + 1 + L.length - k by omega]
      · refine SW_phi L _ fun k hk => ?_
        show nfac (a + (k + 1)) * nfac (b + (L.length + 1) - (k + 1)) = _
        rw [show b + (L.length + 1) - (k + 1) = b + L.length - k by omega, show a + (k + 1) = a + 1 + k by omega]
    rw [q]
    show _ = nfac a * nfac b * nfac (a + b + (L.length + 1) + 1)
    rw [show a + (b + 1) + 1 = a + b + 1 + 1 by omega, show a + (b + 1) + L.length + 1 = a + b + (L.length + 1) + 1 by omega, nfac_succ (a + b + 1), nfac_succ b] at h1
    rw [show a + 1 + b + 1 = a + b + 1 + 1 by omega, show a + 1 + b + L.length + 1 = a + b + (L.length + 1) + 1 by omega, nfac_succ (a + b + 1), nfac_succ a] at h2
    generalize SW L (fun k => nfac (a + k) * nfac (b + 1 + L.length - k)) (fun _ => 1) = X at h1
    generalize SW L (fun k => nfac (a + 1 + k) * nfac (b + L.length - k)) (fun _ => 1) = Y at h2
    generalize nfac (a + b + (L.length + 1) + 1) = Z at h1 h2
    have c : ((a + b + 1 + 1 : Nat) : Int) ≠ 0 := by omega
    refine Int.eq_of_mul_eq_mul_left c ?_
    have e1 : ((a + b + 1 + 1 : Nat) : Int) = ((a + 1 : Nat) : Int) + ((b + 1 : Nat) : Int) := by omega
    grind
theorem shr_bd {ns : List Node} {c : Nat} {N : List Int} {e : Int} (he : e ∈ N) (nd : N.Nodup) : (shr ns c N e).natAbs ≤ (nfac N.length).natAbs := by
  have hl := filter_lt he nd
  obtain ⟨O, hO⟩ : ∃ O, (N.filter fun x => !decide (x = e)) = O := ⟨_, rfl⟩
  unfold shr
  rw [hO] at hl ⊢
  have h1 := SW_ones O 0 0
  have e1 : SW O (fun k => nfac (0 + k) * nfac (0 + O.length - k)) (fun _ => 1) = SW O (wgt (N.length - 1)) fun _ => 1 := SW_phi O _ fun k _ => by
    unfold wgt
    rw [Nat.zero_add, Nat.zero_add, show N.length - 1 = O.length by omega]
  have e2 : nfac (0 + 0 + O.length + 1) = nfac N.length := by rw [show 0 + 0 + O.length + 1 = N.length by omega]
  rw [e1, e2, show nfac (0 + 0 + 1) = 1 from rfl, show nfac 0 = 1 from rfl, Int.one_mul, Int.one_mul, Int.one_mul] at h1
  have pos : ∀ k, k ≤ O.length → 0 ≤ wgt (N.length - 1) k := fun k _ => Int.mul_nonneg (Int.le_of_lt (nfac_pos _)) (Int.le_of_lt (nfac_pos _))
  have up := fun (v : Bool) => SW_mono O (wgt (N.length - 1)) (g := fun f => hol ns c (put1 e v f)) (h := fun _ => 1) pos fun f => (hol_b ns c _).2
  have dn := fun (v : Bool) => SW_mono O (wgt (N.length - 1)) (g := fun _ => 0) (h := fun f => hol ns c (put1 e v f)) pos fun f => (hol_b ns c _).1
  have z : SW O (wgt (N.length - 1)) (fun _ => 0) = 0 := by
    have : ∀ (L : List Int) (φ : Nat → Int), SW L φ (fun _ => 0) = 0 := by
      intro L
      induction L with
      | nil => intro φ; exact Int.mul_zero _
      | cons x r ih =>
        intro φ
        show SW r φ (fun _ => 0) + SW r _ (fun _ => 0) = 0
        rw [ih, ih]
        rfl
    exact this _ _
  have u1 := up true
  have u2 := up false
  have d1 := dn true
  have d2 := dn false
  rw [h1] at u1 u2
  rw [z] at d1 d2
  have := nfac_pos N.length
  omega
/-- all shares together -/
theorem shr_all {E : List Int} {ns : List Node} {c : Nat} {N : List Int} (nd : N.Nodup) : (N.map fun e => shr ns c N e).sum = nfac N.length * (hol ns c (full N) - hol ns c fun _ => false) := by
  rw [← eff_all nd]
  refine congrArg List.sum (List.map_congr_left fun e he => ?_)
  unfold shr
  have ep : ∀ f, put1 e true f = set1 e f := fun f => by
    funext y
    unfold put1 set1
    by_cases h : y = e
    · rw [if_pos h, decide_eq_true h, Bool.or_true]
    · rw [if_neg h, decide_eq_false h, Bool.or_false]
  congr 1
  · show SW (oth N e) _ _ = SW (oth N e) _ _
    congr 1
    funext f
    rw [ep]
  · refine SW_congr _ _ fun f hf => ?_
    show hol ns c (put1 e false f) = hol ns c f
    congr 1
    funext y
    unfold put1
    split
    · rename_i h
      rw [h]
      exact (hf e fun m => by have := (List.mem_filter.mp m).2; simp at this).symm
    · rfl

/-! ### all orders, in plain Lean -/
def Su : Nat → (Nat → Int) → Int
  | 0, _ => 0
  | n + 1, f => Su n f + f n
theorem Su_congr : ∀ (n : Nat) {f g : Nat → Int}, (∀ k, k < n → f k = g k) → Su n f = Su n g
  | 0, _, _, _ => rfl
  | n + 1, f, g, h => by
    show Su n f + f n = Su n g + g n
    rw [Su_congr n fun k hk => h k (Nat.lt_succ_of_lt hk), h n (Nat.lt_succ_self n)]
theorem Su_add : ∀ (n : Nat) (f g : Nat → Int), Su n (fun k => f k + g k) = Su n f + Su n g
  | 0, _, _ => rfl
  | n + 1, f, g => by
    show Su n (fun k => f k + g k) + (f n + g n) = (Su n f + f n) + (Su n g + g n)
    rw [Su_add n f g]
    omega
theorem Su_tri : ∀ (n : Nat) (a : Nat → Int), Su n (fun j => Su (j + 1) a) = Su n fun k => ((n : Int) - k) * a k
  | 0, _ => rfl
  | n + 1, a => by
    show Su n (fun j => Su (j + 1) a) + Su (n + 1) a = Su n (fun k => (((n + 1 : Nat) : Int) - k) * a k) + (((n + 1 : Nat) : Int) - (n : Int)) * a n
    rw [Su_tri n a]
    have h := Su_add n (fun k => ((n : Int) - k) * a k) a
    rw [Su_congr n (f := fun k => (((n + 1 : Nat) : Int) - k) * a k) (g := fun k => ((n : Int) - k) * a k + a k) fun k _ => by
      rw [show (((n + 1 : Nat) : Int) - (k : Int)) = ((n : Int) - k) + 1 by omega, Int.add_mul]
      omega]
    rw [h, show (((n + 1 : Nat) : Int) - (n : Int)) = 1 by omega]
    show _ + (Su n a + a n) = _
    omega
theorem Su_const : ∀ (n : Nat) (c : Int), Su n (fun _ => c) = n * c
  | 0, c => by
    show (0 : Int) = ((0 : Nat) : Int) * c
    rw [show ((0 : Nat) : Int) = 0 from rfl, Int.zero_mul]
  | n + 1, c => by
    show Su n (fun _ => c) + c = ((n + 1 : Nat) : Int) * c
    rw [Su_const n c, Int.natCast_add, Int.add_mul]
    omega
theorem Su_neg : ∀ (n : Nat) (f : Nat → Int), Su n (fun k => -f k) = -Su n f
  | 0, _ => rfl
  | n + 1, f => by
    show Su n (fun k => -f k) + -f n = -(Su n f + f n)
    rw [Su_neg n f]
    omega
theorem Su_tri2 (n : Nat) (b : Nat → Int) : Su n (fun j => Su n b - Su j b) = Su n fun k => ((k : Int) + 1) * b k := by
  have h1 := Su_add n (fun _ => Su n b) (fun j => -Su j b)
  rw [Su_const, Su_neg] at h1
  have h2 : Su n (fun j => Su n b - Su j b) = Su n fun j => Su n b + -Su j b := Su_congr n fun k _ => by omega
  have h3 := Su_tri n b
  have h4 := Su_add n (fun j => Su j b) b
  have h5 : Su n (fun j => Su (j + 1) b) = Su n fun j => Su j b + b j := rfl
  have h6 := Su_add n (fun k => ((n : Int) - k) * b k) (fun k => ((k : Int) + 1) * b k)
  have h7 : Su n (fun k => ((n : Int) - k) * b k + ((k : Int) + 1) * b k) = Su n fun k => ((n : Int) * b k + b k) := Su_congr n fun k _ => by grind
  have h8 := Su_add n (fun k => (n : Int) * b k) b
  have h9 : ∀ (m : Nat) (c : Int), Su m (fun k => c * b k) = c * Su m b := by
    intro m c
    induction m with
    | zero => show (0 : Int) = c * 0; rw [Int.mul_zero]
    | succ m ih =>
      show Su m (fun k => c * b k) + c * b m = c * (Su m b + b m)
      rw [ih, Int.mul_add]
  rw [h9] at h8
  omega
theorem SW_snoc : ∀ (L : List Int) (m : Int) (φ : Nat → Int) (g : (Int → Bool) → Int), SW (L ++ [m]) φ g = SW L φ g + SW L (fun k => φ (k + 1)) fun f => g (set1 m f)
  | [], m, φ, g => rfl
  | e :: L, m, φ, g => by
    show SW (L ++ [m]) φ g + SW (L ++ [m]) _ _ = (SW L φ g + SW L _ _) + (SW L _ _ + SW L _ _)
    have h2 : SW (L ++ [m]) (fun k => φ (k + 1)) (fun f => g (set1 e f)) = SW L (fun k => φ (k + 1)) (fun f => g (set1 e f)) + SW L (fun k => φ (k + 1 + 1)) (fun f => g (set1 e (set1 m f))) := SW_snoc L m (fun k => φ (k + 1)) fun f => g (set1 e f)
    have e1 : (fun f => g (set1 e (set1 m f))) = fun f => g (set1 m (set1 e f)) := by funext f; rw [set1_comm]
    rw [SW_snoc L m φ g, h2, e1]
    show _ = _ + (_ + SW L (fun k => φ (k + 1 + 1)) fun f => g (set1 m (set1 e f)))
    omega
theorem Su_split {a b f : Nat → Int} {j : Nat} (h1 : ∀ k, k ≤ j → f k = a k) : ∀ n, j ≤ n → (∀ k, j ≤ k → k ≤ n → f (k + 1) = b k) → Su (n + 2) f = Su (j + 1) a + (Su (n + 1) b - Su j b) := by
  intro n hn
  obtain ⟨d, rfl⟩ : ∃ d, n = j + d := ⟨n - j, by omega⟩
  clear hn
  induction d with
  | zero =>
    intro h2
    show Su (j + 1) f + f (j + 1) = Su (j + 1) a + ((Su j b + b j) - Su j b)
    rw [h2 j (Nat.le_refl _) (by omega), Su_congr (j + 1) fun k hk => h1 k (by omega)]
    omega
  | succ d ih =>
    intro h2
    have := ih fun k x y => h2 k x (by omega)
    show Su (j + d + 2) f + f (j + d + 2) = Su (j + 1) a + ((Su (j + d + 1) b + b (j + d + 1)) - Su j b)
    rw [this, h2 (j + d + 1) (by omega) (by omega)]
    omega
def sm {α : Type} (l : List α) (F : α → Int) : Int := (l.map F).sum
theorem sm_flat {α β : Type} (g : α → List β) (F : β → Int) : ∀ l : List α, sm (l.flatMap g) F = sm l fun x => sm (g x) F
  | [] => rfl
  | x :: r => by
    unfold sm
    rw [List.flatMap_cons, List.map_append, List.sum_append, List.map_cons, List.sum_cons]
    have := sm_flat g F r
    unfold sm at this
    rw [this]
theorem sm_congr {α : Type} {l : List α} {F G : α → Int} (h : ∀ x ∈ l, F x = G x) : sm l F = sm l G := congrArg List.sum (List.map_congr_left h)
theorem sm_add {α : Type} (F G : α → Int) : ∀ l : List α, sm l (fun x => F x + G x) = sm l F + sm l G
  | [] => rfl
  | x :: r => by
    have := sm_add F G r
    unfold sm at this ⊢
    rw [List.map_cons, List.map_cons, List.map_cons, List.sum_cons, List.sum_cons, List.sum_cons, this]
    omega
theorem sm_range (f : Nat → Int) : ∀ n, sm (List.range n) f = Su n f
  | 0 => rfl
  | n + 1 => by
    have := sm_range f n
    unfold sm at this ⊢
    rw [List.range_succ, List.map_append, List.sum_append, this, List.map_singleton, List.sum_singleton]
    rfl
/-- the orders, as the law makes them -/
def insAt (m : Int) (o : List Int) (k : Nat) : List Int := o.take k ++ [m] ++ o.drop k
def ins (m : Int) (o : List Int) : List (List Int) := (List.range (o.length + 1)).map (insAt m o)
def ords (N : List Int) : List (List Int) := N.foldl (fun acc m => acc.flatMap (ins m)) [[]]
theorem ords_snoc (N : List Int) (m : Int) : ords (N ++ [m]) = (ords N).flatMap (ins m) := by
  unfold ords
  rw [List.foldl_append]
  rfl
theorem sm_ins (m : Int) (o : List Int) (F : List Int → Int) : sm (ins m o) F = Su (o.length + 1) fun j => F (insAt m o j) := by
  rw [← sm_range]
  unfold sm ins
  rw [List.map_map]
  rfl
theorem insAt_len (m : Int) (o : List Int) {k : Nat} (h : k ≤ o.length) : (insAt m o k).length = o.length + 1 := by
  unfold insAt
  rw [List.length_append, List.length_append, List.length_singleton, List.length_take, List.length_drop]
  omega
theorem insAt_mem (m : Int) (o : List Int) (k : Nat) (x : Int) : x ∈ insAt m o k ↔ x ∈ o ∨ x = m := by
  unfold insAt
  rw [List.mem_append, List.mem_append, List.mem_singleton]
  constructor
  · rintro ((h | h) | h)
    · exact .inl (List.mem_of_mem_take h)
    · exact .inr h
    · exact .inl (List.mem_of_mem_drop h)
  · rintro (h | h)
    · rw [← List.take_append_drop k o, List.mem_append] at h
      rcases h with h | h
      · exact .inl (.inl h)
      · exact .inr h
    · exact .inl (.inr h)
theorem ords_ok {N : List Int} : ∀ o ∈ ords N, o.length = N.length ∧ ∀ x, x ∈ o ↔ x ∈ N := by
  induction N using snoc_ind with
  | h0 =>
    intro o ho
    have : o = [] := by simpa [ords] using ho
    subst this
    exact ⟨rfl, fun x => Iff.rfl⟩
  | h1 N m ih =>
    intro o ho
    rw [ords_snoc, List.mem_flatMap] at ho
    obtain ⟨o', ho', hi⟩ := ho
    obtain ⟨k, hk, rfl⟩ := List.mem_map.mp hi
    have hk := List.mem_range.mp hk
    obtain ⟨l, q⟩ := ih o' ho'
    refine ⟨by rw [insAt_len m o' (by omega), l, List.length_append, List.length_singleton], fun x => ?_⟩
    rw [insAt_mem, q x, List.mem_append, List.mem_singleton]
theorem ords_len (N : List Int) : ((ords N).length : Int) = nfac N.length := by
  induction N using snoc_ind with
  | h0 => rfl
  | h1 N m ih =>
    have h : ∀ l : List (List Int), (∀ o ∈ l, o.length = N.length) → (l.flatMap (ins m)).length = l.length * (N.length + 1) := by
      intro l
      induction l with
      | nil => intro _; simp
      | cons o r ihr =>
        intro q
        rw [List.flatMap_cons, List.length_append, ihr fun x hx => q x (List.mem_cons_of_mem _ hx), List.length_cons, Nat.add_mul]
        unfold ins
        rw [List.length_map, List.length_range, q o List.mem_cons_self]
        omega
    rw [ords_snoc, h _ fun o ho => (ords_ok o ho).1, Int.natCast_mul, ih, List.length_append, List.length_singleton, nfac_succ]
theorem insAt_take1 (m : Int) (o : List Int) {j k : Nat} (hj : j ≤ o.length) (h : k ≤ j) : (insAt m o j).take k = o.take k := by
  unfold insAt
  rw [List.append_assoc, List.take_append_of_le_length (by rw [List.length_take]; omega), List.take_take, Nat.min_eq_left h]
theorem insAt_take2 (m : Int) (o : List Int) {j k : Nat} (hj : j ≤ o.length) (h : j ≤ k) : memf ((insAt m o j).take (k + 1)) = set1 m (memf (o.take k)) := by
  have e1 : (insAt m o j).take (k + 1) = o.take j ++ (m :: (o.drop j).take (k - j)) := by
    unfold insAt
    rw [List.append_assoc, List.take_append, List.take_of_length_le (by rw [List.length_take]; omega), List.length_take, Nat.min_eq_left hj, show k + 1 - j = (k - j) + 1 by omega]
    rfl
  have e2 : o.take k = o.take j ++ (o.drop j).take (k - j) := by
    have := List.take_append_drop j (o.take k)
    rw [List.take_take, Nat.min_eq_left h, List.drop_take] at this
    exact this.symm
  funext y
  unfold memf set1
  rw [e1, e2]
  by_cases q : y = m
  · simp [q]
  · simp [q]
/-- all prefixes of all orders -/
theorem ord_pre (N : List Int) : ∀ (ω : Nat → Int) (h : (Int → Bool) → Int), sm (ords N) (fun o => Su (N.length + 1) fun k => ω k * h (memf (o.take k))) = SW N (fun k => ω k * wgt N.length k) h := by
  induction N using snoc_ind with
  | h0 =>
    intro ω h
    show (0 + ω 0 * h (memf []) : Int) + 0 = ω 0 * (nfac 0 * nfac 0) * h fun _ => false
    have : memf [] = fun _ => false := by funext y; simp [memf]
    rw [this, show nfac 0 * nfac 0 = 1 from rfl, Int.mul_one]
    omega
  | h1 N m ih =>
    intro ω h
    rw [ords_snoc, sm_flat, List.length_append, List.length_singleton]
    rw [sm_congr (G := fun o => (Su (N.length + 1) fun k => ((((N.length + 1 : Nat) : Int) - k) * ω k) * h (memf (o.take k))) + Su (N.length + 1) fun k => (((k : Int) + 1) * ω (k + 1)) * (fun f => h (set1 m f)) (memf (o.take k))) fun o ho => ?_]
    · rw [sm_add, ih (fun k => (((N.length + 1 : Nat) : Int) - k) * ω k) h, ih (fun k => ((k : Int) + 1) * ω (k + 1)) (fun f => h (set1 m f)), SW_snoc]
      congr 1
      · refine SW_phi N h fun k hk => ?_
        unfold wgt
        rw [show N.length + 1 - k = (N.length - k) + 1 by omega, nfac_succ, show (((N.length + 1 : Nat) : Int) - (k : Int)) = ((N.length - k + 1 : Nat) : Int) by omega]
        grind
      · refine SW_phi N _ fun k hk => ?_
        show ((k : Int) + 1) * ω (k + 1) * wgt N.length k = ω (k + 1) * wgt (N.length + 1) (k + 1)
        unfold wgt
        rw [nfac_succ, show N.length + 1 - (k + 1) = N.length - k by omega, show ((k + 1 : Nat) : Int) = (k : Int) + 1 by omega]
        grind
    · obtain ⟨l, _⟩ := ords_ok o ho
      rw [sm_ins, l]
      rw [Su_congr (N.length + 1) (g := fun j => Su (j + 1) (fun k => ω k * h (memf (o.take k))) + (Su (N.length + 1) (fun k => ω (k + 1) * h (set1 m (memf (o.take k)))) - Su j (fun k => ω (k + 1) * h (set1 m (memf (o.take k)))))) fun j hj => ?_]
      · rw [Su_add, Su_tri, Su_tri2]
        congr 1
        · exact Su_congr _ fun k _ => by rw [Int.mul_assoc]
        · exact Su_congr _ fun k _ => by rw [Int.mul_assoc]
      · refine Su_split (fun k hk => ?_) N.length (by omega) fun k hk _ => ?_
        · rw [insAt_take1 m o (by omega) hk]
        · rw [insAt_take2 m o (by omega) hk]
theorem idxOf_lt_take {o : List Int} {e : Int} {j : Nat} : e ∈ o.take j → o.idxOf e < j := fun h => by
  have h1 : (o.take j ++ o.drop j).idxOf e = (o.take j).idxOf e := by rw [List.idxOf_append, if_pos h]
  rw [List.take_append_drop] at h1
  have := List.idxOf_lt_length_of_mem h
  rw [List.length_take] at this
  omega
theorem idxOf_ge_take {o : List Int} {e : Int} {j : Nat} (hj : j ≤ o.length) : e ∉ o.take j → o.idxOf e = (o.drop j).idxOf e + j := fun h => by
  have h1 : (o.take j ++ o.drop j).idxOf e = (o.drop j).idxOf e + (o.take j).length := by rw [List.idxOf_append, if_neg h]
  rw [List.take_append_drop, List.length_take, Nat.min_eq_left hj] at h1
  exact h1
/-- where e stands when m is put in -/
theorem insAt_idx {m e : Int} (ne : m ≠ e) (o : List Int) {j : Nat} (hj : j ≤ o.length) : (insAt m o j).idxOf e = if j ≤ o.idxOf e then o.idxOf e + 1 else o.idxOf e := by
  unfold insAt
  rw [List.append_assoc, List.idxOf_append]
  by_cases h : e ∈ o.take j
  · have lt := idxOf_lt_take h
    have h1 : (o.take j ++ o.drop j).idxOf e = (o.take j).idxOf e := by rw [List.idxOf_append, if_pos h]
    rw [List.take_append_drop] at h1
    rw [if_pos h, if_neg (by omega), h1]
  · have ge := idxOf_ge_take hj h
    rw [if_neg h, if_pos (by omega), List.length_take, Nat.min_eq_left hj, ge]
    show (m :: o.drop j).idxOf e + j = _
    rw [List.idxOf_cons, show (m == e) = false from beq_eq_false_iff_ne.mpr ne]
    show (o.drop j).idxOf e + 1 + j = _
    omega
theorem insAt_idx_new {m : Int} {o : List Int} (h : m ∉ o) {j : Nat} (hj : j ≤ o.length) : (insAt m o j).idxOf m = j := by
  unfold insAt
  rw [List.append_assoc, List.idxOf_append, if_neg fun z => h (List.mem_of_mem_take z), List.length_take, Nat.min_eq_left hj]
  show (m :: o.drop j).idxOf m + j = j
  rw [List.idxOf_cons, show (m == m) = true by simp]
  show 0 + j = j
  omega
theorem Su_two {a b : Int} {i : Nat} : ∀ n, i < n → Su (n + 1) (fun j => if j ≤ i then a else b) = ((i : Int) + 1) * a + ((n : Int) - i) * b := by
  have h0 : ∀ k, k ≤ i + 1 → Su k (fun j => if j ≤ i then a else b) = (k : Int) * a := by
    intro k
    induction k with
    | zero => intro _; show (0 : Int) = ((0 : Nat) : Int) * a; rw [show ((0 : Nat) : Int) = 0 from rfl, Int.zero_mul]
    | succ k ih =>
      intro hk
      show Su k _ + (if k ≤ i then a else b) = _
      rw [ih (by omega), if_pos (by omega), Int.natCast_add, Int.add_mul]
      omega
  intro n hn
  obtain ⟨d, rfl⟩ : ∃ d, n = i + d := ⟨n - i, by omega⟩
  clear hn
  induction d with
  | zero =>
    rw [show i + 0 + 1 = i + 1 by omega, h0 _ (Nat.le_refl _), show ((i + 0 : Nat) : Int) - (i : Int) = 0 by omega, Int.zero_mul]
    rw [show ((i + 1 : Nat) : Int) = (i : Int) + 1 by omega]
    omega
  | succ d ih =>
    show Su (i + d + 1) _ + (if i + d + 1 ≤ i then a else b) = _
    rw [ih, if_neg (by omega), show ((i + (d + 1) : Nat) : Int) - (i : Int) = ((i + d : Nat) : Int) - (i : Int) + 1 by omega, Int.add_mul (_ - _) 1 b]
    omega
/-- what stands before e, over all orders -/
theorem ord_at {e : Int} (N : List Int) : e ∈ N → N.Nodup → ∀ (ω : Nat → Int) (h : (Int → Bool) → Int), sm (ords N) (fun o => ω (o.idxOf e) * h (memf (o.take (o.idxOf e)))) = SW (oth N e) (fun k => ω k * wgt (N.length - 1) k) h := by
  induction N using snoc_ind with
  | h0 => intro he; cases he
  | h1 N m ih =>
    intro he nd ω h
    have hm : m ∉ N := fun z => by
      have := (List.nodup_append.mp nd).2.2 m z m (by simp)
      exact this rfl
    have ndN : N.Nodup := (List.nodup_append.mp nd).1
    rw [ords_snoc, sm_flat, List.length_append, List.length_singleton]
    by_cases hme : m = e
    · subst hme
      have eo : oth (N ++ [m]) m = N := by
        unfold oth
        rw [List.filter_append, List.filter_cons, if_neg (by simp)]
        show _ ++ [] = N
        rw [List.append_nil]
        exact List.filter_eq_self.mpr fun y hy => by
          have : y ≠ m := fun z => hm (z ▸ hy)
          simp [this]
      rw [eo, show N.length + 1 - 1 = N.length by omega, ← ord_pre]
      refine sm_congr fun o ho => ?_
      obtain ⟨l, q⟩ := ords_ok o ho
      rw [sm_ins, l]
      refine Su_congr _ fun j hj => ?_
      rw [insAt_idx_new (fun z => hm ((q m).mp z)) (by omega), insAt_take1 m o (by omega) (Nat.le_refl _)]
    · have heN : e ∈ N := by
        rcases List.mem_append.mp he with z | z
        · exact z
        · exact absurd (List.mem_singleton.mp z).symm hme
      have eo : oth (N ++ [m]) e = oth N e ++ [m] := by
        unfold oth
        rw [List.filter_append, List.filter_cons, if_pos (by simp [hme])]
        rfl
      have lo : (oth N e).length + 1 = N.length := filter_lt heN ndN
      rw [eo, SW_snoc, show N.length + 1 - 1 = N.length by omega]
      rw [sm_congr (G := fun o => ((((o.idxOf e : Nat) : Int) + 1) * ω (o.idxOf e + 1)) * (fun f => h (set1 m f)) (memf (o.take (o.idxOf e))) + (((N.length : Int) - ((o.idxOf e : Nat) : Int)) * ω (o.idxOf e)) * h (memf (o.take (o.idxOf e)))) fun o ho => ?_]
      · rw [sm_add, ih heN ndN (fun k => ((k : Int) + 1) * ω (k + 1)) (fun f => h (set1 m f)), ih heN ndN (fun k => ((N.length : Int) - k) * ω k) h, Int.add_comm]
        congr 1
        · refine SW_phi _ h fun k hk => ?_
          unfold wgt
          rw [show N.length - k = (N.length - 1 - k) + 1 by omega, nfac_succ, show ((N.length : Int) - (k : Int)) = ((N.length - 1 - k + 1 : Nat) : Int) by omega]
          grind
        · refine SW_phi _ _ fun k hk => ?_
          show ((k : Int) + 1) * ω (k + 1) * wgt (N.length - 1) k = ω (k + 1) * wgt N.length (k + 1)
          unfold wgt
          rw [nfac_succ, show N.length - (k + 1) = N.length - 1 - k by omega, show ((k + 1 : Nat) : Int) = (k : Int) + 1 by omega]
          grind
      · obtain ⟨l, q⟩ := ords_ok o ho
        have hi : o.idxOf e < N.length := by rw [← l]; exact List.idxOf_lt_length_of_mem ((q e).mpr heN)
        rw [sm_ins, l]
        rw [Su_congr (N.length + 1) (g := fun j => if j ≤ o.idxOf e then ω (o.idxOf e + 1) * h (set1 m (memf (o.take (o.idxOf e)))) else ω (o.idxOf e) * h (memf (o.take (o.idxOf e)))) fun j hj => ?_]
        · rw [Su_two N.length hi, Int.mul_assoc, Int.mul_assoc]
        · rw [insAt_idx hme o (by omega)]
          by_cases c : j ≤ o.idxOf e
          · rw [if_pos c, if_pos c, insAt_take2 m o (by omega) c]
          · rw [if_neg c, if_neg c, insAt_take1 m o (by omega) (by omega)]

/-! ### the law's own way: what a tree depends on, all orders -/
/-- the tree's truth changes with e for some set of the others -/
def tdep (t : Tr) (E : List Int) (e : Int) : Bool := (subs (oth E e)).any fun p => t.ev (memf p) != t.ev (memf (p ++ [e]))
theorem filter_subs (f : Int → Bool) (E : List Int) : E.filter f ∈ subs E := by
  induction E using snoc_ind with
  | h0 => simp [subs]
  | h1 E x ih =>
    rw [subs_snoc, List.filter_append, List.mem_append]
    by_cases h : f x = true
    · rw [List.filter_cons, if_pos h]
      exact .inr (List.mem_map.mpr ⟨_, ih, rfl⟩)
    · rw [List.filter_cons, if_neg h]
      refine .inl ?_
      show E.filter f ++ [] ∈ _
      rw [List.append_nil]
      exact ih
theorem memf_put1 {p : List Int} {e : Int} (h : e ∉ p) : memf (p ++ [e]) = put1 e true (memf p) ∧ memf p = put1 e false (memf p) := by
  constructor
  · funext y
    unfold memf put1
    by_cases q : y = e
    · simp [q]
    · simp [q]
  · funext y
    unfold put1
    by_cases q : y = e
    · rw [if_pos q, q]; unfold memf; simp [h]
    · rw [if_neg q]
theorem tdep_iff {E : List Int} {ns : List Node} {c : Nat} {t : Tr} {e : Int} (ok : NOk E ns) (hc : c < ns.length + 2) (hev : ∀ f, ev ns f c = t.ev f) (he : e ∈ E) : tdep t E e = true ↔ Dep ns c e := by
  have eo : ∀ p ∈ subs (oth E e), e ∉ p := fun p hp z => by
    have := subs_mem hp e z
    unfold oth at this
    have := (List.mem_filter.mp this).2
    simp at this
  unfold tdep
  rw [List.any_eq_true]
  constructor
  · rintro ⟨p, hp, h⟩
    obtain ⟨e1, e2⟩ := memf_put1 (eo p hp)
    refine ⟨memf p, ?_⟩
    rw [← e1, ← e2, hev, hev]
    intro z
    rw [z] at h
    simp at h
  · rintro ⟨f, hf⟩
    have hp := filter_subs f (oth E e)
    refine ⟨_, hp, ?_⟩
    obtain ⟨e1, e2⟩ := memf_put1 (eo _ hp)
    have same : ∀ v : Bool, ev ns (put1 e v (memf ((oth E e).filter f))) c = ev ns (put1 e v f) c := fun v => ev_congr ok c hc fun y _ n hn => by
      unfold put1
      by_cases q : n.1 = e
      · rw [if_pos q, if_pos q]
      · rw [if_neg q, if_neg q]
        unfold memf
        have hE := ok.en y n hn
        have hO : n.1 ∈ oth E e := List.mem_filter.mpr ⟨hE, by simp [q]⟩
        cases hfn : f n.1 with
        | true => exact decide_eq_true (List.mem_filter.mpr ⟨hO, hfn⟩)
        | false => exact decide_eq_false fun z => by rw [(List.mem_filter.mp z).2] at hfn; cases hfn
    rw [← same true, ← same false, ← e1, ← e2, hev, hev] at hf
    exact bne_iff_ne.mpr fun z => hf z.symm
def spLdep (K : PySem.W.Frag) : Sp := fun vs H Q _ => ∃ (rt ea : Addr) (t : Tr) (E : List Int) (e : Int), vs = [.ref rt, .ref ea, .int e] ∧ TreeAt H t rt ∧ t.depth ≤ 4 ∧ H ea = some (.lst (E.map V.int)) ∧ E.length ≤ 8 ∧ ∀ H', Kp [] H H' → Q (.bl (tdep t E e)) H'
section
variable {P : Program} {w : World} {K : PySem.W.Frag} {mg : Str → Option Value} {base : Heap}
theorem ok_ldep (D : GD K mg "_law_depends" sD_Ldepends ["tree", "entries", "entry"]) (c_Lsubsets : Cal P w K mg base 1 "_law_subsets" (spSubsets K) []) (c_Ltrue : Cal P w K mg base 5 "_law_true" (spTrue K 5) []) : Cal P w K mg base 6 "_law_depends" (spLdep K) [] := by
  refine D.cal sc_Ldepends (fun vs H Q E h => ?_) (fun f cdv A outer s0 H vs Q E hr h => ?_)
  · obtain ⟨rt, ea, t, E, e, rfl, _⟩ := h
    rfl
  obtain ⟨rt, ea, t, E, e, rfl, ta, td, he, hE, q⟩ := h
  refine ⟨_, (pss_cons (ps_for PassesOwn.never rfl (pi_list (pe_c c_Lsubsets hr (by omega) rfl (pa_cons (pe_lc (own := [("one", 4)]) (g := gName 4) rfl sc_Ldepends.nd (pi_list (pv 1)) (blkOk_by (own := [("one", 4)]) (N := ["tree", "entries", "entry", "part", "one"]) (sc := defScope sD_Ldepends) (by decide +kernel)) (fun _ _ _ _ _ => (pg_name (i := 4) sc_Ldepends.nd rfl (Or.inl rfl))) (fun _ _ _ _ _ => (pts_one (pt_cmpR op_ne (pv 4) (pv 2) (nomark _)))) (fun _ _ _ _ _ => (pv 4))) pa_nil))) (pg_name (i := 3) sc_Ldepends.nd rfl (Or.inl rfl)) (pss_one (ps_if (pt_cmpR op_ne (pe_c c_Ltrue hr (by omega) rfl (pa_cons (pv 0) (pa_cons (pv 3) pa_nil))) (pe_c c_Ltrue hr (by omega) rfl (pa_cons (pv 0) (pa_cons (pe_op op_cat (pv 3) (pe_lst (pa_cons (pv 2) pa_nil))) pa_nil))) (nomark _)) (pss_one (ps_ret pe_bl)) pss_nil)))
    (pss_one (ps_ret pe_bl))), ?_⟩
  refine ⟨_, rfl, ea, rfl, ⟨_, SqL.of he⟩, fun D hD => lc_list (K := K) (a := ea) (xs := E.map V.int) (fun j G => Kp [] H G ∧ G D = some (.lst (((E.take j).filter fun x => !decide (x = e)).map V.int))) ⟨.new hD, upd_same⟩ (fun j G _ p => SqL.of (p.1.k _ _ he (by simp))) (fun j x G hj p => ?_) (fun G p => ?_)⟩
  · obtain ⟨o, ho, rfl⟩ := mapAt hj
    obtain ⟨kG, hG⟩ := p
    refine ⟨rfl, _, rfl, _, rfl, rfl, _, rfl, ?_⟩
    by_cases m : o = e
    · refine iteF_of (by rw [m, decide_eq_true rfl]; rfl) ⟨kG, ?_⟩
      rw [ft_no ho (by simp [m])]
      exact hG
    · refine iteT_of (by rw [decide_eq_false fun z => m (V.int.inj z)]; rfl) ⟨_, rfl, _, hG, small1000 ?_, kG.mt hD, ?_⟩
      · rw [List.length_map]
        exact Nat.le_trans (List.length_filter_le _ _) (Nat.le_trans (List.length_take_le' _ _) (by omega))
      · rw [ft_yes ho (by simp [m])]
        exact upd_same
  obtain ⟨kG, hG⟩ := p
  rw [List.length_map, List.take_length] at hG
  have hG : G D = some (.lst ((oth E e).map V.int)) := hG
  have lo : (oth E e).length ≤ 8 := Nat.le_trans (List.length_filter_le _ _) hE
  refine ⟨D, oth E e, rfl, SqL.of hG, lo, fun sr H2 hsr k2 L2 => ?_⟩
  obtain ⟨as, hs2, hal, hls⟩ := L2
  have k02 := kG.trans k2
  refine ⟨sr, rfl, ⟨_, SqL.of hs2⟩, for_list (K := K) (a := sr) (xs := as.map V.ref) (fun i σ H' => ∃ (v3 v4 : Option V), σ = [some (.ref rt), some (.ref ea), some (.int e), v3, v4] ∧ Kp [] H2 H' ∧ ((subs (oth E e)).take i).any (fun p => t.ev (memf p) != t.ev (memf (p ++ [e]))) = false) ⟨_, _, rfl, .refl, rfl⟩ (fun i σ H' _ p => ?_) ?_ ?_⟩
  · obtain ⟨v3, v4, rfl, k, _⟩ := p
    exact SqL.of (k.k _ _ hs2 (by simp))
  · rintro i x σ H3 hi ⟨v3, v4, rfl, k3, hno⟩
    obtain ⟨c', hc', rfl⟩ := mapAt hi
    have his : i < (subs (oth E e)).length := by have := (List.getElem?_eq_some_iff.mp hc').1; omega
    have hl : (subs (oth E e))[i]? = some (subs (oth E e))[i] := List.getElem?_eq_getElem his
    generalize (subs (oth E e))[i] = l at hl
    have hcl : H3 c' = some (.lst (l.map V.int)) := k3.k _ _ (hls i c' l hc' hl) (by simp)
    have ll : l.length ≤ 8 := Nat.le_trans (subs_short (List.mem_of_getElem? hl)) lo
    have ta3 := TreeAt.kp k3 t rt (TreeAt.kp k02 t rt ta)
    refine ⟨_, rfl, _, rfl, t, rt, c', l, rfl, ta3, SqL.of hcl, by omega, ?_⟩
    refine ⟨_, rfl, _, rfl, _, rfl, (by show 1 ≤ sizeLine; decide), fun t1 ht1 => ?_⟩
    have k4 : Kp [] H3 (upd H3 t1 (.lst [.int e])) := .new ht1
    refine ⟨c', t1, _, _, rfl, rfl, k4.k _ _ hcl (by simp), upd_same, small (by rw [List.length_map]; simp only [List.length_singleton]; omega), fun t2 ht2 => ?_⟩
    have k5 := k4.newer (o := .lst (l.map V.int ++ [.int e])) ht2
    refine ⟨t, rt, t2, l ++ [e], rfl, TreeAt.kp k5 t rt ta3, SqL.of (by rw [upd_same, List.map_append]; rfl), by omega, rfl, _, rfl, ?_⟩
    by_cases m : t.ev (memf l) = t.ev (memf (l ++ [e]))
    · refine iteF_of (by
        show (!decide (V.bl (t.ev (memf l)) = V.bl (t.ev (memf (l ++ [e]))))) = false
        rw [m, decide_eq_true rfl]; rfl) ⟨_, _, rfl, k3.trans k5, ?_⟩
      rw [takeS hl, List.any_append, hno]
      simp [m]
    · refine iteT_of (by
        show (!decide (V.bl (t.ev (memf l)) = V.bl (t.ev (memf (l ++ [e]))))) = true
        rw [decide_eq_false fun z => m (V.bl.inj z)]; rfl) ?_
      have : tdep t E e = true := List.any_eq_true.mpr ⟨l, List.mem_of_getElem? hl, bne_iff_ne.mpr m⟩
      rw [this] at q
      exact q _ (k02.trans (k3.trans k5))
  · rintro σ H3 ⟨v3, v4, rfl, k3, hno⟩
    rw [List.length_map, hal, List.take_length] at hno
    have : tdep t E e = false := hno
    rw [this] at q
    exact q _ (k02.trans k3)
end
/-- new lists of ints in a new list -/
def LstsN (H : Hp) (r : Addr) (LL : List (List Int)) : Prop :=
  ∃ as : List Addr, H r = some (.lst (as.map V.ref)) ∧ as.length = LL.length ∧ (∀ a ∈ as, a ≠ r) ∧ ∀ (i : Nat) (a : Addr) (l : List Int), as[i]? = some a → LL[i]? = some l → H a = some (.lst (l.map V.int))
theorem LstsN.kp {M : List Addr} {H H' : Hp} {r : Addr} {LL : List (List Int)} (h : LstsN H r LL) (k : Kp [] H H') : LstsN H' r LL := by
  obtain ⟨as, h1, h2, h3, h4⟩ := h
  exact ⟨as, k.k _ _ h1 (by simp), h2, h3, fun i a l x y => k.k _ _ (h4 i a l x y) (by simp)⟩
theorem LstsN.snoc {H : Hp} {r t : Addr} {as : List Addr} {LL : List (List Int)} {l : List Int} (h : LstsN H r LL) (hr : H r = some (.lst (as.map V.ref))) (ht : H t = some (.lst (l.map V.int))) (ne : t ≠ r) : LstsN (upd H r (.lst (as.map V.ref ++ [.ref t]))) r (LL ++ [l]) := by
  obtain ⟨bs, h1, h2, h3, h4⟩ := h
  rw [hr] at h1
  have eab : as.map V.ref = bs.map V.ref := HO.lst.inj (Option.some.inj h1)
  refine ⟨bs ++ [t], by rw [upd_same, eab, List.map_append]; rfl, by simp [h2], fun a ha => ?_, fun i a x p q => ?_⟩
  · rcases List.mem_append.mp ha with m | m
    · exact h3 a m
    · rw [List.mem_singleton.mp m]; exact ne
  · by_cases hi : i < bs.length
    · rw [List.getElem?_append_left hi] at p
      rw [List.getElem?_append_left (by omega)] at q
      rw [upd_ne (h3 a (List.mem_of_getElem? p))]
      exact h4 i a x p q
    · have hl := (List.getElem?_eq_some_iff.mp p).1
      rw [List.length_append, List.length_singleton] at hl
      have ei : i = bs.length := by omega
      subst ei
      rw [List.getElem?_append_right (Nat.le_refl _), Nat.sub_self] at p
      rw [h2, List.getElem?_append_right (Nat.le_refl _), Nat.sub_self] at q
      cases p
      cases q
      rw [upd_ne ne]
      exact ht
def spLorders : Sp := fun vs H Q _ => ∃ (ma : Addr) (N : List Int), vs = [.ref ma] ∧ H ma = some (.lst (N.map V.int)) ∧ N.length ≤ 5 ∧ ∀ (r : Addr) (H' : Hp), H r = none → Kp [] H H' → LstsN H' r (ords N) → Q (.ref r) H'
theorem ords_few {N : List Int} (h : N.length ≤ 5) : (ords N).length ≤ 120 := by
  have := ords_len N
  have h2 : nfac N.length ≤ 120 := by
    have : N.length = 0 ∨ N.length = 1 ∨ N.length = 2 ∨ N.length = 3 ∨ N.length = 4 ∨ N.length = 5 := by omega
    rcases this with z | z | z | z | z | z <;> rw [z] <;> decide
  omega
theorem cut_lo (xs : List V) {k : Nat} (h : k ≤ xs.length) : cutV xs none (some (k : Int)) = xs.take k := by
  unfold cutV
  rw [HT.sIx_none, HT.sIx_nat, Nat.min_eq_left h, Nat.sub_zero]
  rfl
theorem cut_hi (xs : List V) {k : Nat} (h : k ≤ xs.length) : cutV xs (some (k : Int)) none = xs.drop k := by
  unfold cutV
  rw [HT.sIx_none, HT.sIx_nat, Nat.min_eq_left h, List.take_of_length_le (by rw [List.length_drop]; omega)]
section
variable {P : Program} {w : World} {K : PySem.W.Frag} {mg : Str → Option Value} {base : Heap}
theorem ok_lorders (D : GD K mg "_law_orders" sD_Lorders ["members"]) (T : TPoly mg) : Cal P w K mg base 1 "_law_orders" spLorders [] := by
  refine D.cal sc_Lorders (fun vs H Q E h => ?_) (fun f cdv A outer s0 H vs Q E hr h => ?_)
  · obtain ⟨ma, N, rfl, _⟩ := h
    rfl
  obtain ⟨ma, N, rfl, hma, hN, q⟩ := h
  refine ⟨_, (pss_cons (ps_set (i := 1) sc_Lorders.nd rfl (Or.inl rfl) (pe_lst (pa_cons (pe_lst pa_nil) pa_nil)))
    (pss_cons (ps_for PassesOwn.never rfl (pi_list (pv 0)) (pg_name (i := 2) sc_Lorders.nd rfl (Or.inl rfl)) (pss_cons (ps_set (i := 3) sc_Lorders.nd rfl (Or.inl rfl) (pe_lst pa_nil))
    (pss_cons (ps_for PassesOwn.never rfl (pi_list (pv 1)) (pg_name (i := 4) sc_Lorders.nd rfl (Or.inl rfl)) (pss_one (ps_for PassesOwn.never rfl (pi_range1 (by rfl) T.n_range (pa_cons (pe_op op_add (pe_callB call_len_seq (by rfl) T.n_len (by decide +kernel) (pa_cons (pv 4) pa_nil)) pe_int) pa_nil)) (pg_name (i := 5) sc_Lorders.nd rfl (Or.inl rfl)) (pss_one (ps_expr (pe_bm PySem.F.plainAttrs_list PySem.F.slot_list_append PySem.F.type_list_append mt_append (pv 3) (pa_cons (pe_op op_cat (pe_op op_cat (pe_slice sl_list (pv 4) po_none (po_some (pv 5))) (pe_lst (pa_cons (pv 2) pa_nil))) (pe_slice sl_list (pv 4) (po_some (pv 5)) po_none)) pa_nil)))))))
    (pss_one (ps_set (i := 1) sc_Lorders.nd rfl (Or.inl rfl) (pv 3))))))
    (pss_one (ps_ret (pv 1))))), ?_⟩
  refine ⟨(by show 0 ≤ sizeLine; decide), fun e0 he0 => ⟨(by show 1 ≤ sizeLine; decide), fun f0 hf0 => ?_⟩⟩
  have n0 : e0 ≠ f0 := ne_of_none upd_same hf0
  have k0 : Kp [] H (upd (upd H e0 (.lst [])) f0 (.lst [.ref e0])) := (Kp.new he0).newer hf0
  have hf0H : H f0 = none := (Kp.new (M := []) he0).free hf0 (by simp)
  refine ⟨_, rfl, ma, rfl, ⟨_, SqL.of (k0.k _ _ hma (by simp))⟩, for_list (K := K) (a := ma) (xs := N.map V.int) (fun i σ H' => ∃ (fo : Addr) (v2 v3 v4 v5 : Option V), σ = [some (.ref ma), some (.ref fo), v2, v3, v4, v5] ∧ Kp [] H H' ∧ H fo = none ∧ LstsN H' fo (ords (N.take i)))
    ⟨f0, none, none, none, none, rfl, k0, hf0H, [e0], upd_same, rfl, fun a ha => by rw [List.mem_singleton.mp ha]; exact n0, fun i a l x y => ?_⟩ (fun i σ H' _ p => ?_) ?_ ?_⟩
  · cases i with
    | zero =>
      cases x
      cases y
      rw [upd_ne n0, upd_same]
      rfl
    | succ i => simp at x
  · obtain ⟨fo, v2, v3, v4, v5, rfl, k, _⟩ := p
    exact SqL.of (k.k _ _ hma (by simp))
  · rintro i x σ H1 hi ⟨fo, v2, v3, v4, v5, rfl, k1, hfoH, hL⟩
    obtain ⟨m, hm, rfl⟩ := mapAt hi
    have hiN := (List.getElem?_eq_some_iff.mp hm).1
    refine ⟨(by show 0 ≤ sizeLine; decide), fun lo hlo => ?_⟩
    have hloH := k1.free hlo (by simp)
    have k2 : Kp [] H1 (upd H1 lo (.lst [])) := .new hlo
    obtain ⟨as, hfo, hal, hane, hls⟩ := hL
    have hol : (ords (N.take (i + 1))).length ≤ 120 := ords_few (by rw [List.length_take]; omega)
    rw [takeS hm, ords_snoc] at hol
    refine ⟨_, rfl, fo, rfl, ⟨_, SqL.of (k2.k _ _ hfo (by simp))⟩, for_list (K := K) (a := fo) (xs := as.map V.ref) (fun j σ H' => ∃ (v4 v5 : Option V), σ = [some (.ref ma), some (.ref fo), some (.int m), some (.ref lo), v4, v5] ∧ Kp [] H1 H' ∧ LstsN H' lo (((ords (N.take i)).take j).flatMap (ins m)))
      ⟨_, _, rfl, k2, [], upd_same, rfl, fun a ha => (by cases ha), fun i a l x => (by simp at x)⟩ (fun j σ H' _ p => ?_) ?_ ?_⟩
    · obtain ⟨v4, v5, rfl, k, _⟩ := p
      exact SqL.of (k.k _ _ hfo (by simp))
    · rintro j x σ H2 hj ⟨v4, v5, rfl, k3, hL2⟩
      obtain ⟨oa, hoa, rfl⟩ := mapAt hj
      have hjl : j < (ords (N.take i)).length := by have := (List.getElem?_eq_some_iff.mp hoa).1; omega
      have ho : (ords (N.take i))[j]? = some (ords (N.take i))[j] := List.getElem?_eq_getElem hjl
      generalize (ords (N.take i))[j] = o at ho
      have lo' := (ords_ok o (List.mem_of_getElem? ho)).1
      rw [List.length_take] at lo'
      have hsplit : ∀ k, k ≤ o.length + 1 → (((ords (N.take i)).take j).flatMap (ins m) ++ (List.range k).map (insAt m o)).length ≤ 120 := fun k hk => by
        have h1 : ((ords (N.take i)).take j).flatMap (ins m) ++ (List.range (o.length + 1)).map (insAt m o) = ((ords (N.take i)).take (j + 1)).flatMap (ins m) := by
          rw [takeS ho, List.flatMap_append, List.flatMap_cons]
          show _ = _ ++ (ins m o ++ [])
          rw [List.append_nil]
          rfl
        have h2 : (((ords (N.take i)).take (j + 1)).flatMap (ins m)).length ≤ ((ords (N.take i)).flatMap (ins m)).length := by
          conv => rhs; rw [← List.take_append_drop (j + 1) (ords (N.take i)), List.flatMap_append, List.length_append]
          omega
        have h3 : (((ords (N.take i)).take j).flatMap (ins m) ++ (List.range (o.length + 1)).map (insAt m o)).length ≤ 120 := by rw [h1]; omega
        rw [List.length_append, List.length_map, List.length_range] at h3 ⊢
        omega
      have hoH : H1 oa = some (.lst (o.map V.int)) := hls j oa o hoa ho
      have hon : oa ≠ lo := ne_of_none hoH hlo
      refine ⟨_, rfl, oa, _, rfl, .inl (SqL.of (k3.k _ _ hoH (by simp))), _, _, rfl, rfl, ((o.length + 1 : Nat) : Int), by rw [List.length_map]; rfl, by omega, by omega, ?_⟩
      rw [show (((o.length + 1 : Nat) : Int)).toNat = o.length + 1 by omega]
      refine for_range (lo := 0) (n := o.length + 1) (fun k σ H' => ∃ (v5 : Option V), σ = [some (.ref ma), some (.ref fo), some (.int m), some (.ref lo), some (.ref oa), v5] ∧ Kp [] H1 H' ∧ LstsN H' lo (((ords (N.take i)).take j).flatMap (ins m) ++ (List.range k).map (insAt m o)))
        ⟨_, rfl, k3, by rw [List.range_zero, List.map_nil, List.append_nil]; exact hL2⟩ (fun k σ H' hk p => ?_) (fun σ H' p => ?_)
      · obtain ⟨v5, rfl, k4, hL4⟩ := p
        obtain ⟨bs, hlo4, hbl, _, _⟩ := id hL4
        have ho4 := k4.k _ _ hoH (by simp)
        have ek : (0 : Int) + (k : Int) = ((k : Nat) : Int) := by omega
        refine ⟨_, rfl, .inl ⟨rfl, _, SqL.of hlo4⟩, ?_⟩
        refine ⟨_, rfl, _, rfl, _, rfl, oa, _, rfl, SqL.of ho4, fun p1 hp1 => ?_⟩
        rw [ek, cut_lo _ (by rw [List.length_map]; omega)]
        have kA := Kp.new (M := []) (o := .lst ((o.map V.int).take k)) hp1
        refine ⟨_, rfl, (by show 1 ≤ sizeLine; decide), fun p2 hp2 => ?_⟩
        have kB := kA.newer (o := .lst [.int m]) hp2
        refine ⟨p1, p2, _, _, rfl, rfl, (Kp.new (M := []) hp2).k _ _ upd_same (by simp), upd_same, small (by rw [List.length_take, List.length_map]; simp only [List.length_singleton]; omega), fun p3 hp3 => ?_⟩
        have kC := kB.newer (o := .lst ((o.map V.int).take k ++ [.int m])) hp3
        refine ⟨_, rfl, _, rfl, _, rfl, oa, _, rfl, SqL.of (kC.k _ _ ho4 (by simp)), fun p4 hp4 => ?_⟩
        rw [cut_hi _ (by rw [List.length_map]; omega)]
        have kD := kC.newer (o := .lst ((o.map V.int).drop k)) hp4
        refine ⟨p3, p4, _, _, rfl, rfl, (Kp.new (M := []) hp4).k _ _ upd_same (by simp), upd_same, small (by rw [List.length_append, List.length_take, List.length_drop, List.length_map, List.length_singleton]; omega), fun p5 hp5 => ?_⟩
        have kE := kD.newer (o := .lst ((o.map V.int).take k ++ [.int m] ++ (o.map V.int).drop k)) hp5
        have hlo5 := kE.k _ _ hlo4 (by simp)
        have n5 : p5 ≠ lo := fun z => by rw [z, kD.k _ _ hlo4 (by simp)] at hp5; cases hp5
        have hb := hsplit k (by omega)
        refine ⟨lo, _, _, rfl, rfl, hlo5, small1000 (by rw [List.length_map, hbl]; omega), ?_⟩
        refine ⟨_, rfl, (k4.trans kE).mt hlo, ?_⟩
        rw [List.range_succ, List.map_append, ← List.append_assoc]
        refine (hL4.kp (M := []) kE).snoc hlo5 ?_ n5
        rw [upd_same]
        unfold insAt
        rw [List.map_append, List.map_append, List.map_take, List.map_drop]
        rfl
      · obtain ⟨v5, rfl, k4, hL4⟩ := p
        refine ⟨_, _, rfl, k4, ?_⟩
        rw [takeS ho, List.flatMap_append, List.flatMap_cons]
        show LstsN _ _ (_ ++ (ins m o ++ []))
        rw [List.append_nil]
        exact hL4
    · rintro σ H2 ⟨v4, v5, rfl, k3, hL2⟩
      rw [List.length_map, hal, List.take_length] at hL2
      refine ⟨_, rfl, lo, _, _, _, _, rfl, k1.trans k3, hloH, ?_⟩
      rw [takeS hm, ords_snoc]
      exact hL2
  · rintro σ H1 ⟨fo, v2, v3, v4, v5, rfl, k1, hfoH, hL⟩
    rw [List.length_map, List.take_length] at hL
    exact ⟨_, rfl, q fo H1 hfoH k1 hL⟩
end

/-! ### rows as data -/
theorem rows_all {H : Hp} {nd : Int → List V} {x y : Int → Int} (e : ∀ i, nd i = [.int (x i), .int (y i)]) : ∀ {as : List Addr} {LL : List Int}, as.length = LL.length → (∀ (i : Nat) (a : Addr) (k : Int), as[i]? = some a → LL[i]? = some k → H a = some (.tup (V.int k :: nd k))) →
    HasAll H (as.map V.ref) (LL.map fun k => .tuple [.int k, .int (x k), .int (y k)])
  | [], [], _, _ => .nil
  | a :: as, k :: LL, hl, f => by
    have h := f 0 a k rfl rfl
    rw [e k] at h
    exact .cons (.tup h (.cons (.int _) (.cons (.int _) (.cons (.int _) .nil)))) (rows_all e (Nat.succ.inj hl) fun i a' k' p q => f (i + 1) a' k' p q)
theorem Rows.has {H : Hp} {r : Addr} {LL : List Int} {nd : Int → List V} {x y : Int → Int} (h : Rows H r LL nd) (e : ∀ i, nd i = [.int (x i), .int (y i)]) : Has H (.ref r) (.list (LL.map fun k => .tuple [.int k, .int (x k), .int (y k)])) := by
  obtain ⟨as, h1, h2, h3⟩ := h
  exact .lst h1 (rows_all e h2 h3)
theorem rows_fit (x y : Int → Int) {LL : List Int} (h : LL.length ≤ 1000) : fitsD 2 (.list (LL.map fun k => .tuple [.int k, .int (x k), .int (y k)])) := by
  have q : ∀ LL : List Int, fitsAll 1 (LL.map fun k => PyData.tuple [.int k, .int (x k), .int (y k)]) := by
    intro LL
    induction LL with
    | nil => trivial
    | cons k r ih => exact ⟨⟨by show 3 ≤ 1000; decide, trivial, trivial, trivial, trivial⟩, ih⟩
  exact ⟨by rw [List.length_map]; exact h, q LL⟩

/-! ### the end: the law's def is run where no repr is under way -/
/-- the law's body, run on the script, answers True -/
def LawAt (P : Program) (w : World) (K : PySem.W.Frag) (mg : Str → Option Value) (base : Heap) (most : Nat) (N : List Str) (st : Stmt) (f : Addr) : Prop :=
  ∀ (cdv : Value) (s : Shared) (H : Hp) (a : Addr) (ns : List Int), ns.length ≤ most → SqL K H a (ns.map V.int) →
    ∃ t, PSs (cxOf CX0 P w K mg base N "law" (defScope st) f cdv callerA [] s H E0).nox (defBody st) t ∧ t { nx := fun _ _ => False, rt := fun v _ => v = V.bl true } (start N [V.ref a]) H
section
variable {P : Program} {w : World} {K : PySem.W.Frag} {mg : Str → Option Value} {base : Heap}
theorem LawAt.run {most : Nat} {N : List Str} {st : Stmt} {f a : Addr} {fd : FuncData} {s : Shared} {H : Hp} {ns : List Int} (L : LawAt P w K mg base most N st f) (D : Fun K "law" "law" st f fd) (S : FnScope N ["script"] (defScope st))
    (e0 : Env0 P w K mg base callerA [] s H) (hb : ∀ (s : Shared) (u : Value), BindsTo s fd ⟨[u], []⟩ [("script", u)]) (hl : ns.length ≤ most) (hS : SqL K H a (ns.map V.int)) :
    codeAny (model P w) callerA (.call (.ref f) ⟨[.ref a], []⟩) (CR CX0 [] P w H s (fun v _ => v = V.bl true) E0) s := by
  obtain ⟨oc, od, kV, doc, pm, an, cdv, ct, osl, rfl, at_f, rec_f⟩ := D.ex
  have inK : K.In s.heap := e0.mod.kin.keeps fun b o z => (e0.bs b o z).1
  have noL : s.heap.NoLimit := e0.mod.nolimit.keeps fun b o z => (e0.bs b o z).1
  have kinds : ∀ y ∈ ([("script", Value.ref a)] : List (Str × Value)), (defScope st).names.lookup y.1 = some .local ∨ ((defScope st).names.lookup y.1 = some .cell ∧ ((cellsFrom (s.heap.objs.size + 1) (defScope st).names []).lookup y.1).isSome = true) := by
    rintro ⟨x, v⟩ hy
    rcases S.par x (by rw [(Prod.mk.inj (List.mem_singleton.mp hy)).1]; exact List.mem_cons_self) with c | c
    · exact Or.inl c
    · exact Or.inr ⟨c, PySem.W.cellsFrom_some _ _ _ (Or.inl c)⟩
  refine codeAny_call_function (show (callerA).depth < recursionLimit by decide) (inK _ _ at_f) rfl S.co S.gen rfl (PySem.W.codeRec_of inK rec_f) (hb s (.ref a) _ _ _ _ ?_)
  refine wpAny_newFunctionEnv_cells S.kind kinds fun env hE s1 x => ?_
  subst hE
  refine ⟨noL.keeps x.toInCall.keep, codeAny_func ?_⟩
  obtain ⟨t, ht, q⟩ := L cdv s H a ns hl hS
  have J : Inv (cxOf CX0 P w K mg base N "law" (defScope st) f cdv callerA [] s H E0) [] (start N [V.ref a]) H s1 := inv_start S rfl e0 rfl (show Vals [V.ref a] [Value.ref a] from .cons rfl .nil) x
  refine wpAny_mono (ht.nox.run [] s1 _ H _ J q) (fun fl s2 z => ?_) fun e s2 z => z
  cases fl with
  | ret u =>
    obtain ⟨v, τ, H2, J2, rv, q2⟩ := z
    exact ⟨v, H2, J2.os, J2.bare, J2.base, J2.hok, rv, q2⟩
  | next => obtain ⟨_, _, _, no⟩ := z; exact no.elim
  | brk => obtain ⟨_, _, _, no⟩ := z; exact no.elim
  | cont => obtain ⟨_, _, _, no⟩ := z; exact no.elim
/-- the script, where it is no object of the module -/
def scr (K : PySem.W.Frag) (a : Addr) (vs : List Value) (ns : List Int) : Hp := fun b => if b = a ∧ (K.lookup a).isNone = true then some (.frz { cls := .type "list", data := .seq vs.toArray } (.lst (ns.map V.int))) else none
theorem scr_some {a b : Addr} {vs : List Value} {ns : List Int} {o : HO} (h : scr K a vs ns b = some o) : b = a ∧ K.lookup a = none ∧ o = .frz { cls := .type "list", data := .seq vs.toArray } (.lst (ns.map V.int)) := by
  unfold scr at h
  split at h
  · rename_i c
    exact ⟨c.1, Option.isNone_iff_eq_none.mp c.2, (Option.some.inj h).symm⟩
  · cases h
end
theorem walk_at {l : PySem.W.OpenLaw} {n : Nat} {q : Program} {loose : List Str} {XP : (Str → Option Value) → Heap → Prop} {YP : World → Heap → Prop} {d : DefRec} {K : Params → PySem.W.Frag} {N : List Str} {st : Stmt}
    (hn : l.most = some n) (hn2 : n ≤ sizeLine) (hdf : d.params.defaults = []) (S : FnScope N ["script"] (defScope st)) (hY : ∀ (w : World) (h : Heap), YP w h → (K w.params).In h)
    (F : ∀ (w : World) (mg : Str → Option Value) (fa : Addr) (h : Heap), (K w.params).In h → h.Ns mainGlobals mg → mg d.name = some (.ref fa) →
      ∃ fd : FuncData, Fun (K w.params) "law" "law" st fa fd ∧ (∀ (s : Shared) (u : Value), BindsTo s fd ⟨[u], []⟩ [("script", u)]) ∧ ∀ base : Heap, (K w.params).In base → base.Ns mainGlobals mg → LawAt l.prog w (K w.params) mg base n N st fa) :
    PySem.W.WalkO q loose XP YP l.row.toRowW d [] (fun f vs => PySem.call f vs) := by
  refine Att.attach_call hn hdf fun w s₀ s mg mb fa o pm cd doc a vs ns G Y ho hod hcd hmg ha hi hlen hgens => ?_
  have inK := hY w _ Y
  obtain ⟨fd, D, hb, hL⟩ := F w mg fa _ inK G.T.g hmg
  have rv := vals_ints hi
  have ok : HOk l.prog w (scr (K w.params) a vs ns) s.heap := fun b u z => by
    obtain ⟨rfl, _, rfl⟩ := scr_some z
    exact ⟨ha, by rw [List.length_map]; exact Nat.le_trans hlen hn2, vs, _, rv, ha⟩
  have hide : ∀ {b : Addr} {u : Obj}, s.heap.get? b = some u → (∀ z, scr (K w.params) a vs ns b = some z → False) → (hidT s.heap (scr (K w.params) a vs ns)).get? b = some u := fun {b u} e no => hidT_get e (by
    cases z : scr (K w.params) a vs ns b with
    | none => rfl
    | some v => exact (no v z).elim)
  have names : ∀ {b : Addr} {m : Str → Option Value}, s.heap.Ns b m → (hidT s.heap (scr (K w.params) a vs ns)).Ns b m := by
    rintro b m ⟨u, es, ep, e, dt, r⟩
    refine ⟨u, es, ep, hide e fun v z => ?_, dt, r⟩
    obtain ⟨rfl, _, _⟩ := scr_some z
    rw [ha] at e
    cases e
    have no : Data.seq vs.toArray _ = Data.dict es ep := dt
    cases no
  have inB : (K w.params).In (hidT s.heap (scr (K w.params) a vs ns)) := fun b u e => hide (inK b u e) fun v z => by
    obtain ⟨rfl, no, _⟩ := scr_some z
    rw [no] at e
    cases e
  have md : Mod (K w.params) mg (hidT s.heap (scr (K w.params) a vs ns)) := ⟨inB, names G.T.g, ⟨mb, names G.T.b, G.T.builtins⟩, by obtain ⟨mc, m1, m2⟩ := G.T.nolimit; exact ⟨mc, names m1, m2⟩⟩
  have sq : SqL (K w.params) (scr (K w.params) a vs ns) a (ns.map V.int) := by
    cases hk : (K w.params).lookup a with
    | some u =>
      have e := inK a u hk
      rw [ha] at e
      cases e
      exact Or.inr ⟨_, vs.toArray, _, hk, rfl, rfl, rfl, by rw [List.size_toArray, hi.length]; omega, by simpa using rv⟩
    | none => exact Or.inl (Or.inr ⟨_, if_pos ⟨rfl, by rw [hk]; rfl⟩⟩)
  have e0 : Env0 l.prog w (K w.params) mg (hidT s.heap (scr (K w.params) a vs ns)) callerA [] s (scr (K w.params) a vs ns) :=
    ⟨rfl, md, fun b u z => of_hidT z, Nat.le_of_eq (hidT_size _ _), trivial, fun b z => absurd (show b ∈ ([] : List Addr) from z) List.not_mem_nil, ok, AllBare.of_eq hgens⟩
  refine codeAny_mono ((hL _ inB (names G.T.g)).run D S e0 hb hlen sq) fun r s2 z => ?_
  cases r with
  | error e => exact False.elim z
  | ok fl =>
    cases fl with
    | next => exact False.elim z
    | brk => exact False.elim z
    | cont => exact False.elim z
    | ret u =>
      obtain ⟨v, H2, os2, bare2, un, ok2, ru, isT⟩ := z
      have isT : v = V.bl true := isT
      subst isT
      obtain rfl : u = Value.bool true := ru
      refine ⟨rfl, OldK.of_keep fun b u e => ?_, os2, bare2⟩
      cases hz : scr (K w.params) a vs ns b with
      | none => exact un.keep b u e hz (fun m => absurd (show b ∈ ([] : List Addr) from m) List.not_mem_nil) List.not_mem_nil
      | some v =>
        obtain ⟨rfl, _, rfl⟩ := scr_some hz
        obtain ⟨e2, _⟩ := ok2 _ _ (un.frzs _ _ _ hz)
        rw [ha] at e
        cases e
        exact e2

/-! ### the law -/
structure TAll (mg : Str → Option Value) (K : PySem.W.Frag) (C fI : Addr) (fdI : FuncData) : Prop where
  n_len : mg "len" = none
  n_list : mg "list" = none
  n_int : mg "int" = none
  g_Diagrams : mg "Diagrams" = some (.ref C)
  M_Diagrams : Mk K C fI
  b_Diagrams_init : Binds K fdI ["self"] []
theorem full_memf : ∀ (L : List Int) (y : Int), full L y = decide (y ∈ L)
  | [], y => by simp [full]
  | e :: L, y => by
    show (full L y || decide (y = e)) = _
    rw [full_memf L y]
    by_cases h : y = e <;> simp [h]
theorem paired_self {α : Type} {F : α → α → Prop} : ∀ l : List α, (∀ x ∈ l, F x x) → Paired F l l
  | [], _ => .nil
  | x :: l, h => .cons (h x List.mem_cons_self) (paired_self l fun y hy => h y (List.mem_cons_of_mem _ hy))
theorem idx_lt_ne {e : Int} : ∀ {o : List Int} {m : Nat} {x : Int}, o[m]? = some x → m < o.idxOf e → x ≠ e
  | [], m, x, h, _ => by simp at h
  | y :: o, m, x, h, hm => by
    rw [List.idxOf_cons] at hm
    by_cases q : y = e
    · rw [show (y == e) = true from by simp [q]] at hm
      exact absurd hm (Nat.not_lt_zero _)
    · rw [show (y == e) = false from by simp [q]] at hm
      cases m with
      | zero => cases h; exact q
      | succ m => exact idx_lt_ne (o := o) (m := m) (by simpa using h) (Nat.lt_of_succ_lt_succ hm)
theorem not_take_idx (o : List Int) (e : Int) : e ∉ o.take (o.idxOf e) := fun h => by
  obtain ⟨m, hm⟩ := List.mem_iff_getElem?.mp h
  have hl := (List.getElem?_eq_some_iff.mp hm).1
  rw [List.length_take] at hl
  rw [List.getElem?_take, if_pos (by omega)] at hm
  exact idx_lt_ne hm (by omega) rfl
theorem sm_snoc {α : Type} (l : List α) (x : α) (F : α → Int) : sm (l ++ [x]) F = sm l F + F x := by
  unfold sm
  rw [List.map_append, List.sum_append, List.map_singleton, List.sum_singleton]
/-- in lowest terms -/
theorem low_is {S F : Int} (hF : 0 < F) (hb : S.natAbs ≤ F.natAbs) : ∃ num den : Int, low S F = [.int num, .int den] ∧ 0 < den ∧ den ≤ F ∧ num.natAbs ≤ den.natAbs ∧ Int.gcd num den = 1 ∧ num * F = S * den := by
  have g0 : Int.gcd S F ≠ 0 := fun e => by
    have := (Int.gcd_eq_zero_iff.mp e).2
    omega
  have gp : (0 : Int) < (Int.gcd S F : Int) := by omega
  have d1 : S / (Int.gcd S F : Int) * (Int.gcd S F : Int) = S := Int.ediv_mul_cancel (Int.gcd_dvd_left ..)
  have d2 : F / (Int.gcd S F : Int) * (Int.gcd S F : Int) = F := Int.ediv_mul_cancel (Int.gcd_dvd_right ..)
  refine ⟨_, _, rfl, ?_, Int.ediv_le_self _ (by omega), ?_, Int.gcd_ediv_gcd_ediv_gcd (by omega), ?_⟩
  · exact Int.ediv_pos_of_pos_of_dvd hF (by omega) (Int.gcd_dvd_right ..)
  · rw [Int.natAbs_ediv_of_dvd (Int.gcd_dvd_left ..), Int.natAbs_ediv_of_dvd (Int.gcd_dvd_right ..)]
    exact Nat.div_le_div_right hb
  · generalize S / (Int.gcd S F : Int) = x at d1
    generalize F / (Int.gcd S F : Int) = y at d2
    generalize (Int.gcd S F : Int) = g at *
    grind
section
variable {P : Program} {w : World} {K : PySem.W.Frag} {mg : Str → Option Value} {base : Heap} {C : Addr}
theorem ok_law {f fI : Addr} {fdI : FuncData} (T : TAll mg K C fI fdI) (G_Diagrams_init : FnOk P w K mg base CX0 1 fI fdI ["self"] (spDinit C))
    (c_Ldraw : Cal P w K mg base 1 "_law_draw" (spDraw K) []) (c_Lnext : Cal P w K mg base 1 "_law_next" spNext []) (c_Lentries : Cal P w K mg base 2 "_law_entries" spEntries []) (c_Ltree : Cal P w K mg base 6 "_law_tree" (spTree 6) [])
    (c_Lbuild : Cal P w K mg base 37 "_law_build" (spBuild C 37) []) (c_Ltrue : Cal P w K mg base 5 "_law_true" (spTrue K 5) []) (c_Ldepends : Cal P w K mg base 6 "_law_depends" (spLdep K) []) (c_Lorders : Cal P w K mg base 1 "_law_orders" spLorders [])
    (c_Llowest : Cal P w K mg base 2 "_law_lowest" spLowest []) (c_Lsame : Cal P w K mg base 3 "_law_same" (spSame 3) []) (c_shares : Cal P w K mg base 5 "shares" (spShares C) []) :
    LawAt P w K mg base 63 ["script", "draw", "entries", "tree", "entry", "present", "store", "condition", "coming", "orders_v", "due", "total", "order", "before", "numerator", "denominator", "handed"] sD_law f := by
  intro cdv s0 H a ns hlen hS
  have hr : Room 39 (callerA.deeper (envOfC "law" (defScope sD_law) s0.heap.objs.size f cdv)) := (⟨rfl, by decide, by decide⟩ : Room 40 callerA).deeper _
  have hu := hu_of hr
  refine ⟨_, (pss_cons (ps_set (i := 1) sc_law.nd rfl (Or.inr rfl) (pe_c c_Ldraw hr (by omega) rfl (pa_cons (pv 0) pa_nil)))
    (pss_cons (ps_set (i := 2) sc_law.nd rfl (Or.inr rfl) (pe_c c_Lentries hr (by omega) rfl (pa_cons (pv 1) (pa_cons pe_int pa_nil))))
    (pss_cons (ps_set (i := 3) sc_law.nd rfl (Or.inr rfl) (pe_c c_Ltree hr (by omega) rfl (pa_cons (pv 1) (pa_cons (pv 2) (pa_cons (pe_op op_add pe_int (pe_c c_Lnext hr (by omega) rfl (pa_cons (pv 1) (pa_cons pe_int pa_nil)))) pa_nil)))))
    (pss_cons (ps_setLc (i := 5) (own := [("entry", 4)]) (g := gName 4) rfl sc_law.nd rfl rfl (sw_true rfl rfl rfl (by decide +kernel)) (pi_list (pv 2)) (blkOk_by (own := [("entry", 4)]) (N := ["script", "draw", "entries", "tree", "entry", "present", "store", "condition", "coming", "orders_v", "due", "total", "order", "before", "numerator", "denominator", "handed"]) (sc := defScope sD_law) (by decide +kernel)) (fun _ _ _ _ _ => (pg_name (i := 4) sc_law.nd rfl (Or.inl rfl))) (fun _ _ _ _ _ => (pts_one (bt_truth (K := K) rfl (pe_c c_Lnext hr (by omega) rfl (pa_cons (pv 1) (pa_cons pe_int pa_nil))) (by intro _; rfl)))) (fun _ _ _ _ _ => (pv 4)))
    (pss_cons (ps_set (i := 6) sc_law.nd rfl (Or.inl rfl) (pe_make0 T.M_Diagrams G_Diagrams_init (hr.mono (by omega)) rfl T.g_Diagrams T.b_Diagrams_init .nil pass0))
    (pss_cons (ps_set (i := 7) sc_law.nd rfl (Or.inl rfl) (pe_c c_Lbuild hr (by omega) rfl (pa_cons (pv 6) (pa_cons (pv 3) pa_nil))))
    (pss_cons (ps_setLc (i := 8) (own := [("entry", 4)]) (g := gName 4) rfl sc_law.nd rfl rfl (sw_true rfl rfl rfl (by decide +kernel)) (pi_list (pv 5)) (blkOk_by (own := [("entry", 4)]) (N := ["script", "draw", "entries", "tree", "entry", "present", "store", "condition", "coming", "orders_v", "due", "total", "order", "before", "numerator", "denominator", "handed"]) (sc := defScope sD_law) (by decide +kernel)) (fun _ _ _ _ _ => (pg_name (i := 4) sc_law.nd rfl (Or.inl rfl))) (fun _ _ _ _ _ => (pts_one (pt_val (pe_c c_Ldepends hr (by omega) rfl (pa_cons (pv 3) (pa_cons (pv 2) (pa_cons (pv 4) pa_nil))))))) (fun _ _ _ _ _ => (pv 4)))
    (pss_cons (ps_set (i := 9) sc_law.nd rfl (Or.inl rfl) (pe_c c_Lorders hr (by omega) rfl (pa_cons (pv 8) pa_nil)))
    (pss_cons (ps_set (i := 10) sc_law.nd rfl (Or.inl rfl) (pe_lst pa_nil))
    (pss_cons (ps_for PassesOwn.never rfl (pi_list (pv 8)) (pg_name (i := 4) sc_law.nd rfl (Or.inl rfl)) (pss_cons (ps_set (i := 11) sc_law.nd rfl (Or.inl rfl) pe_int)
    (pss_cons (ps_for PassesOwn.never rfl (pi_list (pv 9)) (pg_name (i := 12) sc_law.nd rfl (Or.inl rfl)) (pss_cons (ps_set (i := 13) sc_law.nd rfl (Or.inl rfl) (pe_slice sl_list (pv 12) po_none (po_some (pe_bm PySem.F.plainAttrs_list PySem.F.slot_list_index PySem.F.type_list_index mt_index (pv 12) (pa_cons (pv 4) pa_nil)))))
    (pss_one (ps_set (i := 11) sc_law.nd rfl (Or.inl rfl) (pe_op op_sub (pe_op op_add (pv 11) (pe_callTy call_int1 (by rfl) T.n_int (by decide +kernel) (pa_cons (pe_c c_Ltrue hr (by omega) rfl (pa_cons (pv 3) (pa_cons (pe_op op_cat (pv 13) (pe_lst (pa_cons (pv 4) pa_nil))) pa_nil))) pa_nil))) (pe_callTy call_int1 (by rfl) T.n_int (by decide +kernel) (pa_cons (pe_c c_Ltrue hr (by omega) rfl (pa_cons (pv 3) (pa_cons (pv 13) pa_nil))) pa_nil)))))))
    (pss_cons (ps_asg (pe_c c_Llowest hr (by omega) rfl (pa_cons (pv 11) (pa_cons (pe_callB call_len_seq (by rfl) T.n_len (by decide +kernel) (pa_cons (pv 9) pa_nil)) pa_nil))) (pg_tup rfl (pgs_cons (pg_name (i := 14) sc_law.nd rfl (Or.inl rfl)) (pgs_cons (pg_name (i := 15) sc_law.nd rfl (Or.inl rfl)) pgs_nil))))
    (pss_one (ps_expr (pe_bm PySem.F.plainAttrs_list PySem.F.slot_list_append PySem.F.type_list_append mt_append (pv 10) (pa_cons (pe_tup (pa_cons (pv 4) (pa_cons (pv 14) (pa_cons (pv 15) pa_nil)))) pa_nil))))))))
    (pss_cons (ps_set (i := 16) sc_law.nd rfl (Or.inl rfl) (pe_callTy call_list_of (by rfl) T.n_list (by decide +kernel) (pa_cons (pv 5) pa_nil)))
    (pss_one (ps_ret (pe_and (pe_c c_Lsame hr (by omega) rfl (pa_cons (pe_c c_shares hr (by omega) rfl (pa_cons (pv 6) (pa_cons (pv 7) (pa_cons (pv 16) pa_nil)))) (pa_cons (pv 10) pa_nil))) (pe_one (pe_cmpR (op_eqV hr.units) (pv 16) (pv 5) (nomark _))))))))))))))))), ?_⟩
  refine ⟨_, rfl, a, ns, rfl, hS, fun d sc H1 same _ _ dr1 => ?_⟩
  refine ⟨_, rfl, d, sc, 5, rfl, by decide, by decide, dr1, fun E ea H2 en hea k2 dr2 he2 => ?_⟩
  have ned : ea ≠ d := by
    obtain ⟨_, _, _, _, z, _⟩ := dr1
    intro e
    rw [e, z] at hea
    cases hea
  refine ⟨_, rfl, _, rfl, _, rfl, d, sc, 4, rfl, by decide, by decide, dr2, fun r o r0 r4 no dr3 => ?_⟩
  obtain ⟨dp, hdp⟩ : ∃ dp : Nat, 1 + r = dp := ⟨(1 + r).toNat, by omega⟩
  obtain ⟨H3, hH3⟩ : ∃ H3, upd H2 d o = H3 := ⟨_, rfl⟩
  have he3 : H3 ea = some (.lst (E.map V.int)) := by rw [← hH3, upd_ne ned]; exact he2
  rw [hH3] at dr3 ⊢
  refine ⟨_, _, rfl, rfl, d, sc, ea, E, dp, by rw [← hdp]; rfl, by omega, dr3, he3, en.ne, by have := en.len; omega, ned, fun t rt H4 td ti ta k4 dr4 => ?_⟩
  have he4 : H4 ea = some (.lst (E.map V.int)) := k4.k _ _ he3 (by simpa using ned)
  have hE8 := en.len
  -- present
  refine ⟨_, rfl, ea, rfl, ⟨_, SqL.of he4⟩, fun pa hpa => lc_list (K := K) (a := ea) (xs := E.map V.int) (fun j HL => Drw d sc HL ∧ Kp [d] H4 HL ∧ ∃ PP : List Int, HL pa = some (.lst (PP.map V.int)) ∧ PP.length ≤ j ∧ PP.Sublist (E.take j))
    ⟨dr4.put (dr4.ne_new hpa).1 (dr4.ne_new hpa).2, .new hpa, [], upd_same, Nat.le_refl _, List.nil_sublist _⟩ (fun j HL _ q => SqL.of (q.2.1.k _ _ he4 (by simpa using ned))) (fun j y HL hj q => ?_) (fun HL q => ?_)⟩
  · obtain ⟨e, he, rfl⟩ := mapAt hj
    have hjE := (List.getElem?_eq_some_iff.mp he).1
    obtain ⟨drL, kL, PP, hPP, hPn, hPE⟩ := q
    have nd3 : pa ≠ d := fun z => by obtain ⟨_, _, _, _, y, _⟩ := dr4; rw [← z, hpa] at y; cases y
    refine ⟨rfl, _, rfl, d, sc, 5, rfl, by decide, by decide, drL, fun z o z0 z5 no drM => ⟨_, rfl, ?_⟩⟩
    have kM : Kp [d] HL (upd HL d o) := drL.step
    have hLM : (upd HL d o) pa = some (.lst (PP.map V.int)) := by rw [upd_ne nd3]; exact hPP
    refine ite2 (fun cz => ?_) (fun cz => ?_)
    · refine ⟨_, rfl, _, hLM, small1000 (by rw [List.length_map]; omega), drM.put (dr4.ne_new hpa).1 (dr4.ne_new hpa).2, (kL.trans kM).mt hpa, PP ++ [e], by rw [upd_same, List.map_append]; rfl, by rw [List.length_append, List.length_singleton]; omega, ?_⟩
      rw [takeS he]
      exact List.Sublist.append hPE (List.Sublist.refl _)
    · exact ⟨drM, kL.trans kM, PP, hLM, by omega, by rw [takeS he]; exact hPE.trans (List.sublist_append_left _ _)⟩
  obtain ⟨drL, kL, PP, hPP, hPn, hPE⟩ := q
  rw [List.length_map] at hPn
  rw [List.length_map, List.take_length] at hPE
  have taL := TreeAt.kp kL t rt ta
  refine fun p dx hp hdx ne => ⟨p, dx, rfl, upd_same, fun s H5 es hl h1 h2 St keep => ⟨rfl, ?_⟩⟩
  subst es
  have hn : ∀ {b : Addr}, (upd (upd HL dx (.own s.p)) s.p (.ins C dx [])) b = none → HL b = none := fun {b} h => by
    have n1 : b ≠ s.p := fun e => by rw [e, upd_same] at h; cases h
    rw [upd_ne n1] at h
    have n2 : b ≠ dx := fun e => by rw [e, upd_same] at h; cases h
    rwa [upd_ne n2] at h
  have k5 : Kp [] HL H5 := by
    have kb : ∀ b o, HL b = some o → H5 b = some o := fun b o e => by
      have n1 : b ≠ s.p := fun z => by rw [z, hp] at e; cases e
      have n2 : b ≠ dx := fun z => by rw [z, hdx] at e; cases e
      exact keep b o (by rw [upd_ne n1, upd_ne n2]; exact e) n1
    exact ⟨fun b o e _ => kb b o e, fun b xs e => kb b _ e⟩
  have hPP5 := k5.k _ _ hPP (by simp)
  have hsz := t.size_le
  have hpw : 2 ^ (t.depth + 1) ≤ 2 ^ 5 := Nat.pow_le_pow_right (by decide) (by omega)
  have p64 : (2 : Nat) ^ 5 = 32 := by decide
  refine ⟨_, rfl, _, rfl, E, s, [], 0, t, rt, rfl, St E, TreeAt.kp k5 t rt taL, ti, by omega, by omega, by omega, fun H6 ns' c k6 S6 _ hc hev => ?_⟩
  have hPP6 : H6 pa = some (.lst (PP.map V.int)) := k6.k _ _ hPP5 ((St E).out.2.1 _ _ hPP5)
  have ta6 : TreeAt H6 t rt := TreeAt.kp k6 t rt (TreeAt.kp k5 t rt taL)
  have he6 : H6 ea = some (.lst (E.map V.int)) := k6.k _ _ (k5.k _ _ (kL.k _ _ he4 (by simpa using ned)) (by simp)) ((St E).out.2.1 _ _ (k5.k _ _ (kL.k _ _ he4 (by simpa using ned)) (by simp)))
  have upP : PP.Pairwise (· < ·) := en.up.sublist hPE
  have inE : ∀ e ∈ PP, e ∈ E := fun e h => hPE.subset h
  -- coming
  refine ⟨_, rfl, pa, rfl, ⟨_, SqL.of hPP6⟩, fun D hD => lc_list (K := K) (a := pa) (xs := PP.map V.int) (fun j G => Kp [] H6 G ∧ G D = some (.lst (((PP.take j).filter fun x => tdep t E x).map V.int))) ⟨.new hD, upd_same⟩ (fun j G _ p => SqL.of (p.1.k _ _ hPP6 (by simp))) (fun j x G hj p => ?_) (fun G p => ?_)⟩
  · obtain ⟨e, he, rfl⟩ := mapAt hj
    obtain ⟨kG, hG⟩ := p
    refine ⟨rfl, _, rfl, _, rfl, _, rfl, rt, ea, t, E, e, rfl, TreeAt.kp kG t rt ta6, by omega, kG.k _ _ he6 (by simp), by omega, fun G2 k2 => ⟨_, rfl, ?_⟩⟩
    have hG2 := k2.k _ _ hG (by simp)
    by_cases m : tdep t E e = true
    · refine iteT_of m ⟨_, rfl, _, hG2, small1000 ?_, (kG.trans k2).mt hD, ?_⟩
      · rw [List.length_map]
        exact Nat.le_trans (List.length_filter_le _ _) (Nat.le_trans (List.length_take_le' _ _) (by omega))
      · rw [ft_yes he m]
        exact upd_same
    · have m' : tdep t E e = false := by simpa using m
      refine iteF_of m' ⟨kG.trans k2, ?_⟩
      rw [ft_no he m']
      exact hG2
  obtain ⟨kG, hG⟩ := p
  rw [List.length_map, List.take_length] at hG
  obtain ⟨M, hM⟩ : ∃ M, (PP.filter fun x => tdep t E x) = M := ⟨_, rfl⟩
  have upM : M.Pairwise (· < ·) := by rw [← hM]; exact upP.sublist List.filter_sublist
  have lenM : M.length ≤ 5 := by rw [← hM]; exact Nat.le_trans (List.length_filter_le _ _) (by omega)
  have memM : ∀ k, k ∈ M ↔ Dep ns' c k ∧ k ∈ PP := fun k => by
    rw [← hM, List.mem_filter]
    constructor
    · rintro ⟨h1, h2⟩
      exact ⟨(tdep_iff S6.ok hc hev (inE k h1)).mp h2, h1⟩
    · rintro ⟨h1, h2⟩
      exact ⟨h2, (tdep_iff S6.ok hc hev (inE k h2)).mpr h1⟩
  have ndM : M.Nodup := upM.imp fun h e => by omega
  rw [hM] at hG
  -- orders
  refine ⟨_, rfl, D, M, rfl, hG, lenM, fun ov H8 hov k8 LN => ?_⟩
  obtain ⟨as, hov8, hal, _, hls⟩ := LN
  have hon := ords_few lenM
  refine ⟨(by show 0 ≤ sizeLine; decide), fun ua hua => ?_⟩
  have k9 : Kp [] H8 (upd H8 ua (.lst [])) := .new hua
  have hD8 := k8.k _ _ hG (by simp)
  have ta8 : TreeAt H8 t rt := TreeAt.kp (kG.trans k8) t rt ta6
  have S8 := S6.new (kG.trans k8)
  refine ⟨_, rfl, D, rfl, ⟨_, SqL.of (k9.k _ _ hD8 (by simp))⟩, for_list (K := K) (a := D) (xs := M.map V.int) (fun i σ H' => ∃ (v4 v11 v12 v13 v14 v15 : Option V), σ = [some (.ref a), some (.ref d), some (.ref ea), some (.ref rt), v4, some (.ref pa), some (.ref s.p), some (.int c), some (.ref D), some (.ref ov), some (.ref ua), v11, v12, v13, v14, v15, none] ∧
    Kp [] H8 H' ∧ Rows H' ua (M.take i) (fun e => low (shr ns' c M e) (nfac M.length))) ⟨_, none, none, none, none, none, rfl, k9, .nil upd_same⟩ (fun i σ H' _ p => ?_) ?_ ?_⟩
  · obtain ⟨v4, v11, v12, v13, v14, v15, rfl, k, _⟩ := p
    exact SqL.of (k.k _ _ hD8 (by simp))
  · rintro i x σ H9 hi ⟨v4, v11, v12, v13, v14, v15, rfl, kA, rows⟩
    obtain ⟨e, he, rfl⟩ := mapAt hi
    have heM := List.mem_of_getElem? he
    have hiM := (List.getElem?_eq_some_iff.mp he).1
    obtain ⟨F, hF⟩ : ∃ F : List Int → Int, (fun o => (if t.ev (memf (o.take (o.idxOf e) ++ [e])) then (1 : Int) else 0) - if t.ev (memf (o.take (o.idxOf e))) then (1 : Int) else 0) = F := ⟨_, rfl⟩
    refine ⟨_, rfl, ov, rfl, ⟨_, SqL.of (kA.k _ _ hov8 (by simp))⟩, for_list (K := K) (a := ov) (xs := as.map V.ref) (fun j σ H' => ∃ (v12 v13 : Option V), σ = [some (.ref a), some (.ref d), some (.ref ea), some (.ref rt), some (.int e), some (.ref pa), some (.ref s.p), some (.int c), some (.ref D), some (.ref ov), some (.ref ua), some (.int (sm ((ords M).take j) F)), v12, v13, v14, v15, none] ∧ Kp [] H9 H')
      ⟨_, _, rfl, .refl⟩ (fun j σ H' _ p => ?_) ?_ ?_⟩
    · obtain ⟨v12, v13, rfl, k⟩ := p
      exact SqL.of ((kA.trans k).k _ _ hov8 (by simp))
    · rintro j x σ HA hj ⟨v12, v13, rfl, kB⟩
      obtain ⟨oa, hoa, rfl⟩ := mapAt hj
      have hjl : j < (ords M).length := by have := (List.getElem?_eq_some_iff.mp hoa).1; omega
      have ho : (ords M)[j]? = some (ords M)[j] := List.getElem?_eq_getElem hjl
      generalize (ords M)[j] = o at ho
      obtain ⟨lo, mo⟩ := ords_ok o (List.mem_of_getElem? ho)
      have k8A := kA.trans kB
      have hoA : HA oa = some (.lst (o.map V.int)) := k8A.k _ _ (hls j oa o hoa ho) (by simp)
      have heo : e ∈ o := (mo e).mpr heM
      have hx := List.idxOf_lt_length_of_mem heo
      have hat : o[o.idxOf e]? = some e := by rw [List.getElem?_eq_getElem hx, List.getElem_idxOf hx]
      refine ⟨_, rfl, _, rfl, .inl ⟨rfl, _, SqL.of hoA⟩, _, rfl, oa, o.map V.int, .int e, o.idxOf e, .int e, rfl, rfl, SqL.of hoA, rfl, flat_ints o, by rw [List.getElem?_map, hat]; rfl, by simp [eqV], fun m z hm hz => ?_, ?_⟩
      · obtain ⟨x, hx', rfl⟩ := mapAt hz
        have hne := idx_lt_ne hx' hm
        exact decide_eq_false hne
      refine ⟨_, rfl, oa, _, rfl, SqL.of hoA, fun p1 hp1 => ?_⟩
      rw [cut_lo _ (by rw [List.length_map]; omega)]
      have kC := Kp.new (M := []) (o := .lst ((o.map V.int).take (o.idxOf e))) hp1
      have taB : TreeAt _ t rt := TreeAt.kp k8A t rt ta8
      refine ⟨_, rfl, _, rfl, _, rfl, _, rfl, (by show 1 ≤ sizeLine; decide), fun p2 hp2 => ?_⟩
      have kD := kC.newer (o := .lst [.int e]) hp2
      refine ⟨p1, p2, _, _, rfl, rfl, (Kp.new (M := []) hp2).k _ _ upd_same (by simp), upd_same, small (by rw [List.length_take, List.length_map]; simp only [List.length_singleton]; omega), fun p3 hp3 => ?_⟩
      have kE := kD.newer (o := .lst ((o.map V.int).take (o.idxOf e) ++ [.int e])) hp3
      have lt := List.length_take_le (o.idxOf e) o
      refine ⟨t, rt, p3, o.take (o.idxOf e) ++ [e], rfl, TreeAt.kp kE t rt taB, SqL.of (by rw [upd_same, List.map_append, List.map_take]; rfl), by omega, .inr ⟨_, rfl, _, _, rfl, rfl, ?_⟩⟩
      have hp1E := ((Kp.new (M := []) (o := .lst [.int e]) hp2).newer (o := .lst ((o.map V.int).take (o.idxOf e) ++ [.int e])) hp3).k _ _ (upd_same (H := HA) (a := p1) (o := .lst ((o.map V.int).take (o.idxOf e)))) (by simp)
      refine ⟨_, rfl, _, rfl, t, rt, p1, o.take (o.idxOf e), rfl, TreeAt.kp kE t rt taB, SqL.of (by rw [hp1E, List.map_take]), by omega, .inr ⟨_, rfl, _, _, rfl, rfl, ?_⟩⟩
      have eT : sm ((ords M).take (j + 1)) F = sm ((ords M).take j) F + (if t.ev (memf (o.take (o.idxOf e) ++ [e])) then (1 : Int) else 0) - (if t.ev (memf (o.take (o.idxOf e))) then (1 : Int) else 0) := by
        rw [takeS ho, sm_snoc, ← congrFun hF o, Int.add_sub_assoc]
      rw [eT]
      exact ⟨_, _, rfl, kB.trans kE⟩
    · rintro σ HA ⟨v12, v13, rfl, kB⟩
      rw [List.length_map, hal, List.take_length]
      have hsh : sm (ords M) F = shr ns' c M e := by
        have G := fun b => ord_at M heM ndM (fun _ => 1) (fun f => hol ns' c (put1 e b f))
        have s1 := sm_add F (fun o => 1 * (fun f => hol ns' c (put1 e false f)) (memf (o.take (o.idxOf e)))) (ords M)
        rw [G false, sm_congr (G := fun o => 1 * (fun f => hol ns' c (put1 e true f)) (memf (o.take (o.idxOf e)))) fun o ho => ?_, G true] at s1
        · have eo : (fun k => 1 * wgt (M.length - 1) k) = wgt (M.length - 1) := by funext k; rw [Int.one_mul]
          rw [eo] at s1
          unfold shr
          unfold oth at s1
          omega
        · obtain ⟨m1, m2⟩ := memf_put1 (p := o.take (o.idxOf e)) (e := e) (not_take_idx o e)
          rw [← hF]
          unfold hol
          show (if t.ev (memf (o.take (o.idxOf e) ++ [e])) then (1 : Int) else 0) - (if t.ev (memf (o.take (o.idxOf e))) then (1 : Int) else 0) + 1 * (if ev ns' (put1 e false (memf (o.take (o.idxOf e)))) c = true then (1 : Int) else 0) = 1 * (if ev ns' (put1 e true (memf (o.take (o.idxOf e)))) c = true then (1 : Int) else 0)
          rw [← m1, ← m2, hev, hev]
          omega
      have bd := shr_bd (ns := ns') (c := c) heM ndM
      have hl := ords_len M
      have hF0 := nfac_pos M.length
      have k8A := kA.trans kB
      refine ⟨_, rfl, _, rfl, ov, _, rfl, .inl (SqL.of (k8A.k _ _ hov8 (by simp))), ?_⟩
      rw [List.length_map, hal, hl, hsh]
      refine ⟨_, _, rfl, by omega, by omega, by omega, fun p8 hp8 => ⟨p8, _, rfl, SqT.of upd_same, rfl, _, _, rfl, _, _, rfl, rfl, ?_⟩⟩
      obtain ⟨tl, htl⟩ : ∃ tl, low (shr ns' c M e) (nfac M.length) = tl := ⟨_, rfl⟩
      have k8' := k8A.newer (o := .tup (low (shr ns' c M e) (nfac M.length))) hp8
      have rows8 := (rows.kp kB (by simp)).kp (Kp.new (M := []) (o := .tup (low (shr ns' c M e) (nfac M.length))) hp8) (by simp)
      obtain ⟨as9, hua9, hal9⟩ := rows8.len
      refine ⟨_, rfl, .inl ⟨rfl, _, SqL.of hua9⟩, _, rfl, _, rfl, _, rfl, (by show 3 ≤ sizeLine; decide), fun t9 ht9 => ?_⟩
      have kT := Kp.new (M := []) (o := .tup (.int e :: low (shr ns' c M e) (nfac M.length))) ht9
      have rows9 := rows8.kp kT (by simp)
      have hua10 := kT.k _ _ hua9 (by simp)
      refine ⟨ua, _, _, rfl, rfl, hua10, by rw [List.length_map, hal9, List.length_take]; exact small1000 (by omega), ?_⟩
      refine ⟨_, _, _, _, _, _, rfl, (k8'.trans kT).mt hua, ?_⟩
      rw [takeS he]
      exact rows9.snoc hua10 upd_same
  · rintro σ H9 ⟨v4, v11, v12, v13, v14, v15, rfl, kA, rows⟩
    rw [List.length_map, List.take_length] at rows
    have hpa9 := kA.k _ _ (k8.k _ _ (kG.k _ _ hPP6 (by simp)) (by simp)) (by simp)
    refine ⟨_, rfl, pa, _, rfl, .inl (SqL.of hpa9), fun ha hha => ?_⟩
    have kH := kA.newer (o := .lst (PP.map V.int)) hha
    have SH := S8.new kH
    have hl5 : PP.length ≤ 5 := by omega
    refine ⟨_, rfl, _, rfl, _, rfl, E, s, ns', _, c, ha, PP, rfl, SH, by omega, hc, en.up, by omega, upd_same, fun HI ns2 r N kI SI _ upN lenN memN hr rowsN => ?_⟩
    have eN : N = M := asc_unique upN upM fun k => (memN k).trans (memM k).symm
    subst eN
    have e0 : ∀ i, low (shr ns' c N i) (nfac N.length) = [.int (shr ns' c N i / (Int.gcd (shr ns' c N i) (nfac N.length) : Int)), .int (nfac N.length / (Int.gcd (shr ns' c N i) (nfac N.length) : Int))] := fun i => rfl
    have uaM : ua ∉ s.M := by
      obtain ⟨as', h, _⟩ := (rows.kp (Kp.new (M := []) (o := .lst (PP.map V.int)) hha) (by simp)).len
      exact SH.out_ref h
    have rowsD := (rows.kp (Kp.new (M := []) (o := .lst (PP.map V.int)) hha) (by simp)).kp kI uaM
    refine ⟨_, rfl, _, _, _, 2, rfl, rowsN.has e0, rowsD.has e0, rows_fit _ _ (by omega), by decide, fun HJ kJ => ?_⟩
    have haM := SH.out.2.1 _ _ (upd_same (H := H9) (a := ha) (o := .lst (PP.map V.int)))
    have paH : (upd H9 ha (.lst (PP.map V.int))) pa = some (.lst (PP.map V.int)) := (Kp.new (M := []) hha).k _ _ hpa9 (by simp)
    have haJ := kJ.k _ _ (kI.k _ _ upd_same haM) (by simp)
    have paJ := kJ.k _ _ (kI.k _ _ paH (SH.out.2.1 _ _ paH)) (by simp)
    refine ⟨_, rfl, iteT (B := True) ?_⟩
    refine ⟨_, rfl, _, rfl, 1, by decide, .inl ⟨ha, pa, PP.map V.int, PP.map V.int, rfl, rfl, SqL.of haJ, SqL.of paJ, ?_⟩, ?_⟩
    · exact paired_self (PP.map V.int) fun x hx => by
        obtain ⟨i, _, rfl⟩ := List.mem_map.mp hx
        exact .inl ⟨rfl, rfl⟩
    · rfl
end

/-! ### what the top has written -/
theorem all_mk {P : Program} {w : World} {K : PySem.W.Frag} {h : Heap} {mg : Str → Option Value} {fa C f_Ldraw f_Lnext f_Lentries f_Ltree f_Lbuild f_Ltrue f_Lsubsets f_Ldepends f_Lorders f_Lcommon f_Llowest f_Lsame f_lowest f_added f_widened f_sizes f_orders f_weighed f_shares f_law f_Dinit f_Dmake f_Dthere f_Dnode f_Dcombined f_Dsplit f_Dconjunction f_Ddisjunction f_Ddiffers f_Dnegation f_Dreached f_Dparts f_Ddepends f_Drestrict aL f_and_leaf f_or_leaf f_differ_leaf : Addr}
    {od_Ldraw an_Ldraw : Option Addr} {sl_Ldraw : Array (Option Value)} {oc_Ldraw dc_Ldraw pm_Ldraw cd_Ldraw ct_Ldraw : Value}
    {kV_Ldraw : Value}
    {od_Lnext an_Lnext : Option Addr} {sl_Lnext : Array (Option Value)} {oc_Lnext dc_Lnext pm_Lnext cd_Lnext ct_Lnext : Value}
    {kV_Lnext : Value}
    {od_Lentries an_Lentries : Option Addr} {sl_Lentries : Array (Option Value)} {oc_Lentries dc_Lentries pm_Lentries cd_Lentries ct_Lentries : Value}
    {kV_Lentries : Value}
    {od_Ltree an_Ltree : Option Addr} {sl_Ltree : Array (Option Value)} {oc_Ltree dc_Ltree pm_Ltree cd_Ltree ct_Ltree : Value}
    {kV_Ltree : Value}
    {od_Lbuild an_Lbuild : Option Addr} {sl_Lbuild : Array (Option Value)} {oc_Lbuild dc_Lbuild pm_Lbuild cd_Lbuild ct_Lbuild : Value}
    {kV_Lbuild : Value}
    {od_Ltrue an_Ltrue : Option Addr} {sl_Ltrue : Array (Option Value)} {oc_Ltrue dc_Ltrue pm_Ltrue cd_Ltrue ct_Ltrue : Value}
    {kV_Ltrue : Value}
    {od_Lsubsets an_Lsubsets : Option Addr} {sl_Lsubsets : Array (Option Value)} {oc_Lsubsets dc_Lsubsets pm_Lsubsets cd_Lsubsets ct_Lsubsets : Value}
    {kV_Lsubsets : Value}
    {od_Ldepends an_Ldepends : Option Addr} {sl_Ldepends : Array (Option Value)} {oc_Ldepends dc_Ldepends pm_Ldepends cd_Ldepends ct_Ldepends : Value}
    {kV_Ldepends : Value}
    {od_Lorders an_Lorders : Option Addr} {sl_Lorders : Array (Option Value)} {oc_Lorders dc_Lorders pm_Lorders cd_Lorders ct_Lorders : Value}
    {kV_Lorders : Value}
    {od_Lcommon an_Lcommon : Option Addr} {sl_Lcommon : Array (Option Value)} {oc_Lcommon dc_Lcommon pm_Lcommon cd_Lcommon ct_Lcommon : Value}
    {kV_Lcommon : Value}
    {od_Llowest an_Llowest : Option Addr} {sl_Llowest : Array (Option Value)} {oc_Llowest dc_Llowest pm_Llowest cd_Llowest ct_Llowest : Value}
    {kV_Llowest : Value}
    {od_Lsame an_Lsame : Option Addr} {sl_Lsame : Array (Option Value)} {oc_Lsame dc_Lsame pm_Lsame cd_Lsame ct_Lsame : Value}
    {kV_Lsame : Value}
    {od_lowest an_lowest : Option Addr} {sl_lowest : Array (Option Value)} {oc_lowest dc_lowest pm_lowest cd_lowest ct_lowest : Value}
    {kV_lowest : Value}
    {od_added an_added : Option Addr} {sl_added : Array (Option Value)} {oc_added dc_added pm_added cd_added ct_added : Value}
    {kV_added : Value}
    {od_widened an_widened : Option Addr} {sl_widened : Array (Option Value)} {oc_widened dc_widened pm_widened cd_widened ct_widened : Value}
    {kV_widened : Value}
    {od_sizes an_sizes : Option Addr} {sl_sizes : Array (Option Value)} {oc_sizes dc_sizes pm_sizes cd_sizes ct_sizes : Value}
    {kV_sizes : Value}
    {od_orders an_orders : Option Addr} {sl_orders : Array (Option Value)} {oc_orders dc_orders pm_orders cd_orders ct_orders : Value}
    {kV_orders : Value}
    {od_weighed an_weighed : Option Addr} {sl_weighed : Array (Option Value)} {oc_weighed dc_weighed pm_weighed cd_weighed ct_weighed : Value}
    {kV_weighed : Value}
    {od_shares an_shares : Option Addr} {sl_shares : Array (Option Value)} {oc_shares dc_shares pm_shares cd_shares ct_shares : Value}
    {kV_shares : Value}
    {od_law an_law : Option Addr} {sl_law : Array (Option Value)} {oc_law dc_law pm_law cd_law ct_law : Value}
    {kV_law : Value}
    {od_Dinit an_Dinit : Option Addr} {sl_Dinit : Array (Option Value)} {oc_Dinit dc_Dinit pm_Dinit cd_Dinit ct_Dinit : Value}
    {kV_Dinit : Value}
    {od_Dmake an_Dmake : Option Addr} {sl_Dmake : Array (Option Value)} {oc_Dmake dc_Dmake pm_Dmake cd_Dmake ct_Dmake : Value}
    {kV_Dmake : Value}
    {od_Dthere an_Dthere : Option Addr} {sl_Dthere : Array (Option Value)} {oc_Dthere dc_Dthere pm_Dthere cd_Dthere ct_Dthere : Value}
    {kV_Dthere : Value}
    {od_Dnode an_Dnode : Option Addr} {sl_Dnode : Array (Option Value)} {oc_Dnode dc_Dnode pm_Dnode cd_Dnode ct_Dnode : Value}
    {kV_Dnode : Value}
    {od_Dcombined an_Dcombined : Option Addr} {sl_Dcombined : Array (Option Value)} {oc_Dcombined dc_Dcombined pm_Dcombined cd_Dcombined ct_Dcombined : Value}
    {kV_Dcombined : Value}
    {od_Dsplit an_Dsplit : Option Addr} {sl_Dsplit : Array (Option Value)} {oc_Dsplit dc_Dsplit pm_Dsplit cd_Dsplit ct_Dsplit : Value}
    {kV_Dsplit : Value}
    {od_Dconjunction an_Dconjunction : Option Addr} {sl_Dconjunction : Array (Option Value)} {oc_Dconjunction dc_Dconjunction pm_Dconjunction cd_Dconjunction ct_Dconjunction : Value}
    {kV_Dconjunction : Value}
    {od_Ddisjunction an_Ddisjunction : Option Addr} {sl_Ddisjunction : Array (Option Value)} {oc_Ddisjunction dc_Ddisjunction pm_Ddisjunction cd_Ddisjunction ct_Ddisjunction : Value}
    {kV_Ddisjunction : Value}
    {od_Ddiffers an_Ddiffers : Option Addr} {sl_Ddiffers : Array (Option Value)} {oc_Ddiffers dc_Ddiffers pm_Ddiffers cd_Ddiffers ct_Ddiffers : Value}
    {kV_Ddiffers : Value}
    {od_Dnegation an_Dnegation : Option Addr} {sl_Dnegation : Array (Option Value)} {oc_Dnegation dc_Dnegation pm_Dnegation cd_Dnegation ct_Dnegation : Value}
    {kV_Dnegation : Value}
    {od_Dreached an_Dreached : Option Addr} {sl_Dreached : Array (Option Value)} {oc_Dreached dc_Dreached pm_Dreached cd_Dreached ct_Dreached : Value}
    {kV_Dreached : Value}
    {od_Dparts an_Dparts : Option Addr} {sl_Dparts : Array (Option Value)} {oc_Dparts dc_Dparts pm_Dparts cd_Dparts ct_Dparts : Value}
    {kV_Dparts : Value}
    {od_Ddepends an_Ddepends : Option Addr} {sl_Ddepends : Array (Option Value)} {oc_Ddepends dc_Ddepends pm_Ddepends cd_Ddepends ct_Ddepends : Value}
    {kV_Ddepends : Value}
    {od_Drestrict an_Drestrict : Option Addr} {sl_Drestrict : Array (Option Value)} {oc_Drestrict dc_Drestrict pm_Drestrict cd_Drestrict ct_Drestrict : Value}
    {kV_Drestrict : Value}
    {esL : Array DictEntry} {nL : Nat}
    {od_and_leaf an_and_leaf : Option Addr} {sl_and_leaf : Array (Option Value)} {oc_and_leaf dc_and_leaf pm_and_leaf cd_and_leaf ct_and_leaf : Value}
    {kV_and_leaf : Value}
    {od_or_leaf an_or_leaf : Option Addr} {sl_or_leaf : Array (Option Value)} {oc_or_leaf dc_or_leaf pm_or_leaf cd_or_leaf ct_or_leaf : Value}
    {kV_or_leaf : Value}
    {od_differ_leaf an_differ_leaf : Option Addr} {sl_differ_leaf : Array (Option Value)} {oc_differ_leaf dc_differ_leaf pm_differ_leaf cd_differ_leaf ct_differ_leaf : Value}
    {kV_differ_leaf : Value}
    {w_NEVER : Value}
    {w_ALWAYS : Value}
    (X : K.In h) (G : h.Ns mainGlobals mg) (hfa : mg "law" = some (.ref fa))
    (aC : PySem.W.nsIn K mainGlobals "Diagrams" = some (some (.ref C)))
    (a_Ldraw : PySem.W.nsIn K mainGlobals "_law_draw" = some (some (.ref f_Ldraw)))
    (l_Ldraw : K.lookup f_Ldraw = some ⟨oc_Ldraw, od_Ldraw, .func (PySem.W.fnOf "_law_draw" "_law_draw" (defArgs sD_Ldraw) (defBody sD_Ldraw) (defScope sD_Ldraw) .none kV_Ldraw dc_Ldraw pm_Ldraw an_Ldraw cd_Ldraw ct_Ldraw), sl_Ldraw⟩)
    (c_Ldraw : PySem.W.codeIn K cd_Ldraw "_law_draw" = true)
    (k_Ldraw : PySem.W.keepIn K (.ref f_Ldraw) = true)
    (a_Lnext : PySem.W.nsIn K mainGlobals "_law_next" = some (some (.ref f_Lnext)))
    (l_Lnext : K.lookup f_Lnext = some ⟨oc_Lnext, od_Lnext, .func (PySem.W.fnOf "_law_next" "_law_next" (defArgs sD_Lnext) (defBody sD_Lnext) (defScope sD_Lnext) .none kV_Lnext dc_Lnext pm_Lnext an_Lnext cd_Lnext ct_Lnext), sl_Lnext⟩)
    (c_Lnext : PySem.W.codeIn K cd_Lnext "_law_next" = true)
    (k_Lnext : PySem.W.keepIn K (.ref f_Lnext) = true)
    (a_Lentries : PySem.W.nsIn K mainGlobals "_law_entries" = some (some (.ref f_Lentries)))
    (l_Lentries : K.lookup f_Lentries = some ⟨oc_Lentries, od_Lentries, .func (PySem.W.fnOf "_law_entries" "_law_entries" (defArgs sD_Lentries) (defBody sD_Lentries) (defScope sD_Lentries) .none kV_Lentries dc_Lentries pm_Lentries an_Lentries cd_Lentries ct_Lentries), sl_Lentries⟩)
    (c_Lentries : PySem.W.codeIn K cd_Lentries "_law_entries" = true)
    (k_Lentries : PySem.W.keepIn K (.ref f_Lentries) = true)
    (a_Ltree : PySem.W.nsIn K mainGlobals "_law_tree" = some (some (.ref f_Ltree)))
    (l_Ltree : K.lookup f_Ltree = some ⟨oc_Ltree, od_Ltree, .func (PySem.W.fnOf "_law_tree" "_law_tree" (defArgs sD_Ltree) (defBody sD_Ltree) (defScope sD_Ltree) .none kV_Ltree dc_Ltree pm_Ltree an_Ltree cd_Ltree ct_Ltree), sl_Ltree⟩)
    (c_Ltree : PySem.W.codeIn K cd_Ltree "_law_tree" = true)
    (k_Ltree : PySem.W.keepIn K (.ref f_Ltree) = true)
    (a_Lbuild : PySem.W.nsIn K mainGlobals "_law_build" = some (some (.ref f_Lbuild)))
    (l_Lbuild : K.lookup f_Lbuild = some ⟨oc_Lbuild, od_Lbuild, .func (PySem.W.fnOf "_law_build" "_law_build" (defArgs sD_Lbuild) (defBody sD_Lbuild) (defScope sD_Lbuild) .none kV_Lbuild dc_Lbuild pm_Lbuild an_Lbuild cd_Lbuild ct_Lbuild), sl_Lbuild⟩)
    (c_Lbuild : PySem.W.codeIn K cd_Lbuild "_law_build" = true)
    (k_Lbuild : PySem.W.keepIn K (.ref f_Lbuild) = true)
    (a_Ltrue : PySem.W.nsIn K mainGlobals "_law_true" = some (some (.ref f_Ltrue)))
    (l_Ltrue : K.lookup f_Ltrue = some ⟨oc_Ltrue, od_Ltrue, .func (PySem.W.fnOf "_law_true" "_law_true" (defArgs sD_Ltrue) (defBody sD_Ltrue) (defScope sD_Ltrue) .none kV_Ltrue dc_Ltrue pm_Ltrue an_Ltrue cd_Ltrue ct_Ltrue), sl_Ltrue⟩)
    (c_Ltrue : PySem.W.codeIn K cd_Ltrue "_law_true" = true)
    (k_Ltrue : PySem.W.keepIn K (.ref f_Ltrue) = true)
    (a_Lsubsets : PySem.W.nsIn K mainGlobals "_law_subsets" = some (some (.ref f_Lsubsets)))
    (l_Lsubsets : K.lookup f_Lsubsets = some ⟨oc_Lsubsets, od_Lsubsets, .func (PySem.W.fnOf "_law_subsets" "_law_subsets" (defArgs sD_Lsubsets) (defBody sD_Lsubsets) (defScope sD_Lsubsets) .none kV_Lsubsets dc_Lsubsets pm_Lsubsets an_Lsubsets cd_Lsubsets ct_Lsubsets), sl_Lsubsets⟩)
    (c_Lsubsets : PySem.W.codeIn K cd_Lsubsets "_law_subsets" = true)
    (k_Lsubsets : PySem.W.keepIn K (.ref f_Lsubsets) = true)
    (a_Ldepends : PySem.W.nsIn K mainGlobals "_law_depends" = some (some (.ref f_Ldepends)))
    (l_Ldepends : K.lookup f_Ldepends = some ⟨oc_Ldepends, od_Ldepends, .func (PySem.W.fnOf "_law_depends" "_law_depends" (defArgs sD_Ldepends) (defBody sD_Ldepends) (defScope sD_Ldepends) .none kV_Ldepends dc_Ldepends pm_Ldepends an_Ldepends cd_Ldepends ct_Ldepends), sl_Ldepends⟩)
    (c_Ldepends : PySem.W.codeIn K cd_Ldepends "_law_depends" = true)
    (k_Ldepends : PySem.W.keepIn K (.ref f_Ldepends) = true)
    (a_Lorders : PySem.W.nsIn K mainGlobals "_law_orders" = some (some (.ref f_Lorders)))
    (l_Lorders : K.lookup f_Lorders = some ⟨oc_Lorders, od_Lorders, .func (PySem.W.fnOf "_law_orders" "_law_orders" (defArgs sD_Lorders) (defBody sD_Lorders) (defScope sD_Lorders) .none kV_Lorders dc_Lorders pm_Lorders an_Lorders cd_Lorders ct_Lorders), sl_Lorders⟩)
    (c_Lorders : PySem.W.codeIn K cd_Lorders "_law_orders" = true)
    (k_Lorders : PySem.W.keepIn K (.ref f_Lorders) = true)
    (a_Lcommon : PySem.W.nsIn K mainGlobals "_law_common" = some (some (.ref f_Lcommon)))
    (l_Lcommon : K.lookup f_Lcommon = some ⟨oc_Lcommon, od_Lcommon, .func (PySem.W.fnOf "_law_common" "_law_common" (defArgs sD_Lcommon) (defBody sD_Lcommon) (defScope sD_Lcommon) .none kV_Lcommon dc_Lcommon pm_Lcommon an_Lcommon cd_Lcommon ct_Lcommon), sl_Lcommon⟩)
    (c_Lcommon : PySem.W.codeIn K cd_Lcommon "_law_common" = true)
    (k_Lcommon : PySem.W.keepIn K (.ref f_Lcommon) = true)
    (a_Llowest : PySem.W.nsIn K mainGlobals "_law_lowest" = some (some (.ref f_Llowest)))
    (l_Llowest : K.lookup f_Llowest = some ⟨oc_Llowest, od_Llowest, .func (PySem.W.fnOf "_law_lowest" "_law_lowest" (defArgs sD_Llowest) (defBody sD_Llowest) (defScope sD_Llowest) .none kV_Llowest dc_Llowest pm_Llowest an_Llowest cd_Llowest ct_Llowest), sl_Llowest⟩)
    (c_Llowest : PySem.W.codeIn K cd_Llowest "_law_lowest" = true)
    (k_Llowest : PySem.W.keepIn K (.ref f_Llowest) = true)
    (a_Lsame : PySem.W.nsIn K mainGlobals "_law_same" = some (some (.ref f_Lsame)))
    (l_Lsame : K.lookup f_Lsame = some ⟨oc_Lsame, od_Lsame, .func (PySem.W.fnOf "_law_same" "_law_same" (defArgs sD_Lsame) (defBody sD_Lsame) (defScope sD_Lsame) .none kV_Lsame dc_Lsame pm_Lsame an_Lsame cd_Lsame ct_Lsame), sl_Lsame⟩)
    (c_Lsame : PySem.W.codeIn K cd_Lsame "_law_same" = true)
    (k_Lsame : PySem.W.keepIn K (.ref f_Lsame) = true)
    (a_lowest : PySem.W.nsIn K mainGlobals "lowest" = some (some (.ref f_lowest)))
    (l_lowest : K.lookup f_lowest = some ⟨oc_lowest, od_lowest, .func (PySem.W.fnOf "lowest" "lowest" (defArgs sD_lowest) (defBody sD_lowest) (defScope sD_lowest) .none kV_lowest dc_lowest pm_lowest an_lowest cd_lowest ct_lowest), sl_lowest⟩)
    (c_lowest : PySem.W.codeIn K cd_lowest "lowest" = true)
    (k_lowest : PySem.W.keepIn K (.ref f_lowest) = true)
    (a_added : PySem.W.nsIn K mainGlobals "added" = some (some (.ref f_added)))
    (l_added : K.lookup f_added = some ⟨oc_added, od_added, .func (PySem.W.fnOf "added" "added" (defArgs sD_added) (defBody sD_added) (defScope sD_added) .none kV_added dc_added pm_added an_added cd_added ct_added), sl_added⟩)
    (c_added : PySem.W.codeIn K cd_added "added" = true)
    (k_added : PySem.W.keepIn K (.ref f_added) = true)
    (a_widened : PySem.W.nsIn K mainGlobals "widened" = some (some (.ref f_widened)))
    (l_widened : K.lookup f_widened = some ⟨oc_widened, od_widened, .func (PySem.W.fnOf "widened" "widened" (defArgs sD_widened) (defBody sD_widened) (defScope sD_widened) .none kV_widened dc_widened pm_widened an_widened cd_widened ct_widened), sl_widened⟩)
    (c_widened : PySem.W.codeIn K cd_widened "widened" = true)
    (k_widened : PySem.W.keepIn K (.ref f_widened) = true)
    (a_sizes : PySem.W.nsIn K mainGlobals "sizes" = some (some (.ref f_sizes)))
    (l_sizes : K.lookup f_sizes = some ⟨oc_sizes, od_sizes, .func (PySem.W.fnOf "sizes" "sizes" (defArgs sD_sizes) (defBody sD_sizes) (defScope sD_sizes) .none kV_sizes dc_sizes pm_sizes an_sizes cd_sizes ct_sizes), sl_sizes⟩)
    (c_sizes : PySem.W.codeIn K cd_sizes "sizes" = true)
    (k_sizes : PySem.W.keepIn K (.ref f_sizes) = true)
    (a_orders : PySem.W.nsIn K mainGlobals "orders" = some (some (.ref f_orders)))
    (l_orders : K.lookup f_orders = some ⟨oc_orders, od_orders, .func (PySem.W.fnOf "orders" "orders" (defArgs sD_orders) (defBody sD_orders) (defScope sD_orders) .none kV_orders dc_orders pm_orders an_orders cd_orders ct_orders), sl_orders⟩)
    (c_orders : PySem.W.codeIn K cd_orders "orders" = true)
    (k_orders : PySem.W.keepIn K (.ref f_orders) = true)
    (a_weighed : PySem.W.nsIn K mainGlobals "weighed" = some (some (.ref f_weighed)))
    (l_weighed : K.lookup f_weighed = some ⟨oc_weighed, od_weighed, .func (PySem.W.fnOf "weighed" "weighed" (defArgs sD_weighed) (defBody sD_weighed) (defScope sD_weighed) .none kV_weighed dc_weighed pm_weighed an_weighed cd_weighed ct_weighed), sl_weighed⟩)
    (c_weighed : PySem.W.codeIn K cd_weighed "weighed" = true)
    (k_weighed : PySem.W.keepIn K (.ref f_weighed) = true)
    (a_shares : PySem.W.nsIn K mainGlobals "shares" = some (some (.ref f_shares)))
    (l_shares : K.lookup f_shares = some ⟨oc_shares, od_shares, .func (PySem.W.fnOf "shares" "shares" (defArgs sD_shares) (defBody sD_shares) (defScope sD_shares) .none kV_shares dc_shares pm_shares an_shares cd_shares ct_shares), sl_shares⟩)
    (c_shares : PySem.W.codeIn K cd_shares "shares" = true)
    (k_shares : PySem.W.keepIn K (.ref f_shares) = true)
    (a_law : PySem.W.nsIn K mainGlobals "law" = some (some (.ref f_law)))
    (l_law : K.lookup f_law = some ⟨oc_law, od_law, .func (PySem.W.fnOf "law" "law" (defArgs sD_law) (defBody sD_law) (defScope sD_law) .none kV_law dc_law pm_law an_law cd_law ct_law), sl_law⟩)
    (c_law : PySem.W.codeIn K cd_law "law" = true)
    (k_law : PySem.W.keepIn K (.ref f_law) = true)
    (a_Dinit : PySem.W.findIn K (.ref C) "__init__" = some (some (.ref f_Dinit)))
    (i_Dinit : PySem.W.isFn K (.ref f_Dinit) = true)
    (l_Dinit : K.lookup f_Dinit = some ⟨oc_Dinit, od_Dinit, .func (PySem.W.fnOf "__init__" "Diagrams.__init__" (defArgs sD_Dinit) (defBody sD_Dinit) (defScope sD_Dinit) .none kV_Dinit dc_Dinit pm_Dinit an_Dinit cd_Dinit ct_Dinit), sl_Dinit⟩)
    (c_Dinit : PySem.W.codeIn K cd_Dinit "Diagrams.__init__" = true)
    (k_Dinit : PySem.W.keepIn K (.ref f_Dinit) = true)
    (a_Dmake : PySem.W.findIn K (.ref C) "make" = some (some (.ref f_Dmake)))
    (i_Dmake : PySem.W.isFn K (.ref f_Dmake) = true)
    (l_Dmake : K.lookup f_Dmake = some ⟨oc_Dmake, od_Dmake, .func (PySem.W.fnOf "make" "Diagrams.make" (defArgs sD_Dmake) (defBody sD_Dmake) (defScope sD_Dmake) .none kV_Dmake dc_Dmake pm_Dmake an_Dmake cd_Dmake ct_Dmake), sl_Dmake⟩)
    (c_Dmake : PySem.W.codeIn K cd_Dmake "Diagrams.make" = true)
    (k_Dmake : PySem.W.keepIn K (.ref f_Dmake) = true)
    (a_Dthere : PySem.W.findIn K (.ref C) "there" = some (some (.ref f_Dthere)))
    (i_Dthere : PySem.W.isFn K (.ref f_Dthere) = true)
    (l_Dthere : K.lookup f_Dthere = some ⟨oc_Dthere, od_Dthere, .func (PySem.W.fnOf "there" "Diagrams.there" (defArgs sD_Dthere) (defBody sD_Dthere) (defScope sD_Dthere) .none kV_Dthere dc_Dthere pm_Dthere an_Dthere cd_Dthere ct_Dthere), sl_Dthere⟩)
    (c_Dthere : PySem.W.codeIn K cd_Dthere "Diagrams.there" = true)
    (k_Dthere : PySem.W.keepIn K (.ref f_Dthere) = true)
    (a_Dnode : PySem.W.findIn K (.ref C) "node" = some (some (.ref f_Dnode)))
    (i_Dnode : PySem.W.isFn K (.ref f_Dnode) = true)
    (l_Dnode : K.lookup f_Dnode = some ⟨oc_Dnode, od_Dnode, .func (PySem.W.fnOf "node" "Diagrams.node" (defArgs sD_Dnode) (defBody sD_Dnode) (defScope sD_Dnode) .none kV_Dnode dc_Dnode pm_Dnode an_Dnode cd_Dnode ct_Dnode), sl_Dnode⟩)
    (c_Dnode : PySem.W.codeIn K cd_Dnode "Diagrams.node" = true)
    (k_Dnode : PySem.W.keepIn K (.ref f_Dnode) = true)
    (a_Dcombined : PySem.W.findIn K (.ref C) "_combined" = some (some (.ref f_Dcombined)))
    (i_Dcombined : PySem.W.isFn K (.ref f_Dcombined) = true)
    (l_Dcombined : K.lookup f_Dcombined = some ⟨oc_Dcombined, od_Dcombined, .func (PySem.W.fnOf "_combined" "Diagrams._combined" (defArgs sD_Dcombined) (defBody sD_Dcombined) (defScope sD_Dcombined) .none kV_Dcombined dc_Dcombined pm_Dcombined an_Dcombined cd_Dcombined ct_Dcombined), sl_Dcombined⟩)
    (c_Dcombined : PySem.W.codeIn K cd_Dcombined "Diagrams._combined" = true)
    (k_Dcombined : PySem.W.keepIn K (.ref f_Dcombined) = true)
    (a_Dsplit : PySem.W.findIn K (.ref C) "_split" = some (some (.ref f_Dsplit)))
    (i_Dsplit : PySem.W.isFn K (.ref f_Dsplit) = true)
    (l_Dsplit : K.lookup f_Dsplit = some ⟨oc_Dsplit, od_Dsplit, .func (PySem.W.fnOf "_split" "Diagrams._split" (defArgs sD_Dsplit) (defBody sD_Dsplit) (defScope sD_Dsplit) .none kV_Dsplit dc_Dsplit pm_Dsplit an_Dsplit cd_Dsplit ct_Dsplit), sl_Dsplit⟩)
    (c_Dsplit : PySem.W.codeIn K cd_Dsplit "Diagrams._split" = true)
    (k_Dsplit : PySem.W.keepIn K (.ref f_Dsplit) = true)
    (a_Dconjunction : PySem.W.findIn K (.ref C) "conjunction" = some (some (.ref f_Dconjunction)))
    (i_Dconjunction : PySem.W.isFn K (.ref f_Dconjunction) = true)
    (l_Dconjunction : K.lookup f_Dconjunction = some ⟨oc_Dconjunction, od_Dconjunction, .func (PySem.W.fnOf "conjunction" "Diagrams.conjunction" (defArgs sD_Dconjunction) (defBody sD_Dconjunction) (defScope sD_Dconjunction) .none kV_Dconjunction dc_Dconjunction pm_Dconjunction an_Dconjunction cd_Dconjunction ct_Dconjunction), sl_Dconjunction⟩)
    (c_Dconjunction : PySem.W.codeIn K cd_Dconjunction "Diagrams.conjunction" = true)
    (k_Dconjunction : PySem.W.keepIn K (.ref f_Dconjunction) = true)
    (a_Ddisjunction : PySem.W.findIn K (.ref C) "disjunction" = some (some (.ref f_Ddisjunction)))
    (i_Ddisjunction : PySem.W.isFn K (.ref f_Ddisjunction) = true)
    (l_Ddisjunction : K.lookup f_Ddisjunction = some ⟨oc_Ddisjunction, od_Ddisjunction, .func (PySem.W.fnOf "disjunction" "Diagrams.disjunction" (defArgs sD_Ddisjunction) (defBody sD_Ddisjunction) (defScope sD_Ddisjunction) .none kV_Ddisjunction dc_Ddisjunction pm_Ddisjunction an_Ddisjunction cd_Ddisjunction ct_Ddisjunction), sl_Ddisjunction⟩)
    (c_Ddisjunction : PySem.W.codeIn K cd_Ddisjunction "Diagrams.disjunction" = true)
    (k_Ddisjunction : PySem.W.keepIn K (.ref f_Ddisjunction) = true)
    (a_Ddiffers : PySem.W.findIn K (.ref C) "differs" = some (some (.ref f_Ddiffers)))
    (i_Ddiffers : PySem.W.isFn K (.ref f_Ddiffers) = true)
    (l_Ddiffers : K.lookup f_Ddiffers = some ⟨oc_Ddiffers, od_Ddiffers, .func (PySem.W.fnOf "differs" "Diagrams.differs" (defArgs sD_Ddiffers) (defBody sD_Ddiffers) (defScope sD_Ddiffers) .none kV_Ddiffers dc_Ddiffers pm_Ddiffers an_Ddiffers cd_Ddiffers ct_Ddiffers), sl_Ddiffers⟩)
    (c_Ddiffers : PySem.W.codeIn K cd_Ddiffers "Diagrams.differs" = true)
    (k_Ddiffers : PySem.W.keepIn K (.ref f_Ddiffers) = true)
    (a_Dnegation : PySem.W.findIn K (.ref C) "negation" = some (some (.ref f_Dnegation)))
    (i_Dnegation : PySem.W.isFn K (.ref f_Dnegation) = true)
    (l_Dnegation : K.lookup f_Dnegation = some ⟨oc_Dnegation, od_Dnegation, .func (PySem.W.fnOf "negation" "Diagrams.negation" (defArgs sD_Dnegation) (defBody sD_Dnegation) (defScope sD_Dnegation) .none kV_Dnegation dc_Dnegation pm_Dnegation an_Dnegation cd_Dnegation ct_Dnegation), sl_Dnegation⟩)
    (c_Dnegation : PySem.W.codeIn K cd_Dnegation "Diagrams.negation" = true)
    (k_Dnegation : PySem.W.keepIn K (.ref f_Dnegation) = true)
    (a_Dreached : PySem.W.findIn K (.ref C) "reached" = some (some (.ref f_Dreached)))
    (i_Dreached : PySem.W.isFn K (.ref f_Dreached) = true)
    (l_Dreached : K.lookup f_Dreached = some ⟨oc_Dreached, od_Dreached, .func (PySem.W.fnOf "reached" "Diagrams.reached" (defArgs sD_Dreached) (defBody sD_Dreached) (defScope sD_Dreached) .none kV_Dreached dc_Dreached pm_Dreached an_Dreached cd_Dreached ct_Dreached), sl_Dreached⟩)
    (c_Dreached : PySem.W.codeIn K cd_Dreached "Diagrams.reached" = true)
    (k_Dreached : PySem.W.keepIn K (.ref f_Dreached) = true)
    (a_Dparts : PySem.W.findIn K (.ref C) "_parts" = some (some (.ref f_Dparts)))
    (i_Dparts : PySem.W.isFn K (.ref f_Dparts) = true)
    (l_Dparts : K.lookup f_Dparts = some ⟨oc_Dparts, od_Dparts, .func (PySem.W.fnOf "_parts" "Diagrams._parts" (defArgs sD_Dparts) (defBody sD_Dparts) (defScope sD_Dparts) .none kV_Dparts dc_Dparts pm_Dparts an_Dparts cd_Dparts ct_Dparts), sl_Dparts⟩)
    (c_Dparts : PySem.W.codeIn K cd_Dparts "Diagrams._parts" = true)
    (k_Dparts : PySem.W.keepIn K (.ref f_Dparts) = true)
    (a_Ddepends : PySem.W.findIn K (.ref C) "depends" = some (some (.ref f_Ddepends)))
    (i_Ddepends : PySem.W.isFn K (.ref f_Ddepends) = true)
    (l_Ddepends : K.lookup f_Ddepends = some ⟨oc_Ddepends, od_Ddepends, .func (PySem.W.fnOf "depends" "Diagrams.depends" (defArgs sD_Ddepends) (defBody sD_Ddepends) (defScope sD_Ddepends) .none kV_Ddepends dc_Ddepends pm_Ddepends an_Ddepends cd_Ddepends ct_Ddepends), sl_Ddepends⟩)
    (c_Ddepends : PySem.W.codeIn K cd_Ddepends "Diagrams.depends" = true)
    (k_Ddepends : PySem.W.keepIn K (.ref f_Ddepends) = true)
    (a_Drestrict : PySem.W.findIn K (.ref C) "restrict" = some (some (.ref f_Drestrict)))
    (i_Drestrict : PySem.W.isFn K (.ref f_Drestrict) = true)
    (l_Drestrict : K.lookup f_Drestrict = some ⟨oc_Drestrict, od_Drestrict, .func (PySem.W.fnOf "restrict" "Diagrams.restrict" (defArgs sD_Drestrict) (defBody sD_Drestrict) (defScope sD_Drestrict) .none kV_Drestrict dc_Drestrict pm_Drestrict an_Drestrict cd_Drestrict ct_Drestrict), sl_Drestrict⟩)
    (c_Drestrict : PySem.W.codeIn K cd_Drestrict "Diagrams.restrict" = true)
    (k_Drestrict : PySem.W.keepIn K (.ref f_Drestrict) = true)
    (aLv : PySem.W.nsIn K mainGlobals "LEAVES" = some (some (.ref aL)))
    (lD : K.lookup aL = some ⟨.type "dict", none, .dict esL nL, #[]⟩)
    (kL : PySem.W.KeysLit w.params esL.toList)
    (v_and_leaf : PySem.W.nsIn K aL "and" = some (some (.ref f_and_leaf)))
    (l_and_leaf : K.lookup f_and_leaf = some ⟨oc_and_leaf, od_and_leaf, .func (PySem.W.fnOf "and_leaf" "and_leaf" (defArgs sD_and_leaf) (defBody sD_and_leaf) (defScope sD_and_leaf) .none kV_and_leaf dc_and_leaf pm_and_leaf an_and_leaf cd_and_leaf ct_and_leaf), sl_and_leaf⟩)
    (c_and_leaf : PySem.W.codeIn K cd_and_leaf "and_leaf" = true)
    (k_and_leaf : PySem.W.keepIn K (.ref f_and_leaf) = true)
    (v_or_leaf : PySem.W.nsIn K aL "or" = some (some (.ref f_or_leaf)))
    (l_or_leaf : K.lookup f_or_leaf = some ⟨oc_or_leaf, od_or_leaf, .func (PySem.W.fnOf "or_leaf" "or_leaf" (defArgs sD_or_leaf) (defBody sD_or_leaf) (defScope sD_or_leaf) .none kV_or_leaf dc_or_leaf pm_or_leaf an_or_leaf cd_or_leaf ct_or_leaf), sl_or_leaf⟩)
    (c_or_leaf : PySem.W.codeIn K cd_or_leaf "or_leaf" = true)
    (k_or_leaf : PySem.W.keepIn K (.ref f_or_leaf) = true)
    (v_differ_leaf : PySem.W.nsIn K aL "differ" = some (some (.ref f_differ_leaf)))
    (l_differ_leaf : K.lookup f_differ_leaf = some ⟨oc_differ_leaf, od_differ_leaf, .func (PySem.W.fnOf "differ_leaf" "differ_leaf" (defArgs sD_differ_leaf) (defBody sD_differ_leaf) (defScope sD_differ_leaf) .none kV_differ_leaf dc_differ_leaf pm_differ_leaf an_differ_leaf cd_differ_leaf ct_differ_leaf), sl_differ_leaf⟩)
    (c_differ_leaf : PySem.W.codeIn K cd_differ_leaf "differ_leaf" = true)
    (k_differ_leaf : PySem.W.keepIn K (.ref f_differ_leaf) = true)
    (pg : PySem.W.plainGet K C Str.empty = true)
    (hd : PySem.W.hasDictIn K C = true)
    (po : PySem.W.plainOver K C = true)
    (sa : PySem.W.findIn K (.ref C) "__setattr__" = some (some (.builtin "object.__setattr__")))
    (mk : PySem.W.makesIn K C = true)
    (kc : PySem.W.keepIn K (.ref C) = true)
    (t__nodes : PySem.W.findIn K (.ref C) "_nodes" = some none)
    (t__numbers : PySem.W.findIn K (.ref C) "_numbers" = some none)
    (t__results : PySem.W.findIn K (.ref C) "_results" = some none)
    (z_NEVER : PySem.W.nsIn K mainGlobals "NEVER" = some (some w_NEVER))
    (y_NEVER : RelV (.int 0) w_NEVER)
    (z_ALWAYS : PySem.W.nsIn K mainGlobals "ALWAYS" = some (some w_ALWAYS))
    (y_ALWAYS : RelV (.int 1) w_ALWAYS)
    (n_len : PySem.W.nsIn K mainGlobals "len" = some none)
    (n_min : PySem.W.nsIn K mainGlobals "min" = some none)
    (n_max : PySem.W.nsIn K mainGlobals "max" = some none)
    (n_abs : PySem.W.nsIn K mainGlobals "abs" = some none)
    (n_int : PySem.W.nsIn K mainGlobals "int" = some none)
    (n_list : PySem.W.nsIn K mainGlobals "list" = some none)
    (n_range : PySem.W.nsIn K mainGlobals "range" = some none)
    (n_isinstance : PySem.W.nsIn K mainGlobals "isinstance" = some none)
    (n_tuple : PySem.W.nsIn K mainGlobals "tuple" = some none)
    (n_bool : PySem.W.nsIn K mainGlobals "bool" = some none)
    (n_str : PySem.W.nsIn K mainGlobals "str" = some none)
    (n_all : PySem.W.nsIn K mainGlobals "all" = some none)
    (n_sorted : PySem.W.nsIn K mainGlobals "sorted" = some none)
    (n_sum : PySem.W.nsIn K mainGlobals "sum" = some none)
    (n_enumerate : PySem.W.nsIn K mainGlobals "enumerate" = some none)
    (s_gcd : PySem.W.nsIn K mainGlobals "gcd" = some (some (.builtin "math.gcd")))
    : ∃ fd : FuncData, Fun K "law" "law" sD_law fa fd ∧ (∀ (s : Shared) (u : Value), BindsTo s fd ⟨[u], []⟩ [("script", u)]) ∧ ∀ base : Heap, K.In base → base.Ns mainGlobals mg → LawAt P w K mg base 63 ["script", "draw", "entries", "tree", "entry", "present", "store", "condition", "coming", "orders_v", "due", "total", "order", "before", "numerator", "denominator", "handed"] sD_law fa := by
  have e := hfa.symm.trans (PySem.W.mg_of X G a_law)
  cases e
  have g_Ldraw : GD K mg "_law_draw" sD_Ldraw ["script"] := ⟨_, _, fun_mk (st := sD_Ldraw) l_Ldraw c_Ldraw k_Ldraw, PySem.W.mg_of X G a_Ldraw, (fun_mk (st := sD_Ldraw) l_Ldraw c_Ldraw k_Ldraw).binds (fun _ _ _ _ _ _ us hl => match us, hl with | [_], _ => rfl)⟩
  have g_Lnext : GD K mg "_law_next" sD_Lnext ["draw", "many"] := ⟨_, _, fun_mk (st := sD_Lnext) l_Lnext c_Lnext k_Lnext, PySem.W.mg_of X G a_Lnext, (fun_mk (st := sD_Lnext) l_Lnext c_Lnext k_Lnext).binds (fun _ _ _ _ _ _ us hl => match us, hl with | [_, _], _ => rfl)⟩
  have g_Lentries : GD K mg "_law_entries" sD_Lentries ["draw", "most"] := ⟨_, _, fun_mk (st := sD_Lentries) l_Lentries c_Lentries k_Lentries, PySem.W.mg_of X G a_Lentries, (fun_mk (st := sD_Lentries) l_Lentries c_Lentries k_Lentries).binds (fun _ _ _ _ _ _ us hl => match us, hl with | [_, _], _ => rfl)⟩
  have g_Ltree : GD K mg "_law_tree" sD_Ltree ["draw", "entries", "depth"] := ⟨_, _, fun_mk (st := sD_Ltree) l_Ltree c_Ltree k_Ltree, PySem.W.mg_of X G a_Ltree, (fun_mk (st := sD_Ltree) l_Ltree c_Ltree k_Ltree).binds (fun _ _ _ _ _ _ us hl => match us, hl with | [_, _, _], _ => rfl)⟩
  have g_Lbuild : GD K mg "_law_build" sD_Lbuild ["store", "tree"] := ⟨_, _, fun_mk (st := sD_Lbuild) l_Lbuild c_Lbuild k_Lbuild, PySem.W.mg_of X G a_Lbuild, (fun_mk (st := sD_Lbuild) l_Lbuild c_Lbuild k_Lbuild).binds (fun _ _ _ _ _ _ us hl => match us, hl with | [_, _], _ => rfl)⟩
  have g_Ltrue : GD K mg "_law_true" sD_Ltrue ["tree", "present"] := ⟨_, _, fun_mk (st := sD_Ltrue) l_Ltrue c_Ltrue k_Ltrue, PySem.W.mg_of X G a_Ltrue, (fun_mk (st := sD_Ltrue) l_Ltrue c_Ltrue k_Ltrue).binds (fun _ _ _ _ _ _ us hl => match us, hl with | [_, _], _ => rfl)⟩
  have g_Lsubsets : GD K mg "_law_subsets" sD_Lsubsets ["entries"] := ⟨_, _, fun_mk (st := sD_Lsubsets) l_Lsubsets c_Lsubsets k_Lsubsets, PySem.W.mg_of X G a_Lsubsets, (fun_mk (st := sD_Lsubsets) l_Lsubsets c_Lsubsets k_Lsubsets).binds (fun _ _ _ _ _ _ us hl => match us, hl with | [_], _ => rfl)⟩
  have g_Ldepends : GD K mg "_law_depends" sD_Ldepends ["tree", "entries", "entry"] := ⟨_, _, fun_mk (st := sD_Ldepends) l_Ldepends c_Ldepends k_Ldepends, PySem.W.mg_of X G a_Ldepends, (fun_mk (st := sD_Ldepends) l_Ldepends c_Ldepends k_Ldepends).binds (fun _ _ _ _ _ _ us hl => match us, hl with | [_, _, _], _ => rfl)⟩
  have g_Lorders : GD K mg "_law_orders" sD_Lorders ["members"] := ⟨_, _, fun_mk (st := sD_Lorders) l_Lorders c_Lorders k_Lorders, PySem.W.mg_of X G a_Lorders, (fun_mk (st := sD_Lorders) l_Lorders c_Lorders k_Lorders).binds (fun _ _ _ _ _ _ us hl => match us, hl with | [_], _ => rfl)⟩
  have g_Lcommon : GD K mg "_law_common" sD_Lcommon ["first", "second"] := ⟨_, _, fun_mk (st := sD_Lcommon) l_Lcommon c_Lcommon k_Lcommon, PySem.W.mg_of X G a_Lcommon, (fun_mk (st := sD_Lcommon) l_Lcommon c_Lcommon k_Lcommon).binds (fun _ _ _ _ _ _ us hl => match us, hl with | [_, _], _ => rfl)⟩
  have g_Llowest : GD K mg "_law_lowest" sD_Llowest ["numerator", "denominator"] := ⟨_, _, fun_mk (st := sD_Llowest) l_Llowest c_Llowest k_Llowest, PySem.W.mg_of X G a_Llowest, (fun_mk (st := sD_Llowest) l_Llowest c_Llowest k_Llowest).binds (fun _ _ _ _ _ _ us hl => match us, hl with | [_, _], _ => rfl)⟩
  have g_Lsame : GD K mg "_law_same" sD_Lsame ["actual", "due"] := ⟨_, _, fun_mk (st := sD_Lsame) l_Lsame c_Lsame k_Lsame, PySem.W.mg_of X G a_Lsame, (fun_mk (st := sD_Lsame) l_Lsame c_Lsame k_Lsame).binds (fun _ _ _ _ _ _ us hl => match us, hl with | [_, _], _ => rfl)⟩
  have g_lowest : GD K mg "lowest" sD_lowest ["numerator", "denominator"] := ⟨_, _, fun_mk (st := sD_lowest) l_lowest c_lowest k_lowest, PySem.W.mg_of X G a_lowest, (fun_mk (st := sD_lowest) l_lowest c_lowest k_lowest).binds (fun _ _ _ _ _ _ us hl => match us, hl with | [_, _], _ => rfl)⟩
  have g_added : GD K mg "added" sD_added ["first", "second"] := ⟨_, _, fun_mk (st := sD_added) l_added c_added k_added, PySem.W.mg_of X G a_added, (fun_mk (st := sD_added) l_added c_added k_added).binds (fun _ _ _ _ _ _ us hl => match us, hl with | [_, _], _ => rfl)⟩
  have g_widened : GD K mg "widened" sD_widened ["counts", "times"] := ⟨_, _, fun_mk (st := sD_widened) l_widened c_widened k_widened, PySem.W.mg_of X G a_widened, (fun_mk (st := sD_widened) l_widened c_widened k_widened).binds (fun _ _ _ _ _ _ us hl => match us, hl with | [_, _], _ => rfl)⟩
  have g_sizes : GD K mg "sizes" sD_sizes ["store", "condition", "entries"] := ⟨_, _, fun_mk (st := sD_sizes) l_sizes c_sizes k_sizes, PySem.W.mg_of X G a_sizes, (fun_mk (st := sD_sizes) l_sizes c_sizes k_sizes).binds (fun _ _ _ _ _ _ us hl => match us, hl with | [_, _, _], _ => rfl)⟩
  have g_orders : GD K mg "orders" sD_orders ["most"] := ⟨_, _, fun_mk (st := sD_orders) l_orders c_orders k_orders, PySem.W.mg_of X G a_orders, (fun_mk (st := sD_orders) l_orders c_orders k_orders).binds (fun _ _ _ _ _ _ us hl => match us, hl with | [_], _ => rfl)⟩
  have g_weighed : GD K mg "weighed" sD_weighed ["counts", "numbers", "others"] := ⟨_, _, fun_mk (st := sD_weighed) l_weighed c_weighed k_weighed, PySem.W.mg_of X G a_weighed, (fun_mk (st := sD_weighed) l_weighed c_weighed k_weighed).binds (fun _ _ _ _ _ _ us hl => match us, hl with | [_, _, _], _ => rfl)⟩
  have g_shares : GD K mg "shares" sD_shares ["store", "condition", "present"] := ⟨_, _, fun_mk (st := sD_shares) l_shares c_shares k_shares, PySem.W.mg_of X G a_shares, (fun_mk (st := sD_shares) l_shares c_shares k_shares).binds (fun _ _ _ _ _ _ us hl => match us, hl with | [_, _, _], _ => rfl)⟩
  have g_Dinit : GM K C "__init__" "Diagrams.__init__" sD_Dinit ["self"] := ⟨_, _, fun_mk (st := sD_Dinit) l_Dinit c_Dinit k_Dinit, ⟨a_Dinit, i_Dinit, k_Dinit⟩, (fun_mk (st := sD_Dinit) l_Dinit c_Dinit k_Dinit).binds (fun _ _ _ _ _ _ us hl => match us, hl with | [_], _ => rfl)⟩
  have g_Dmake : GM K C "make" "Diagrams.make" sD_Dmake ["self", "entry", "without", "there"] := ⟨_, _, fun_mk (st := sD_Dmake) l_Dmake c_Dmake k_Dmake, ⟨a_Dmake, i_Dmake, k_Dmake⟩, (fun_mk (st := sD_Dmake) l_Dmake c_Dmake k_Dmake).binds (fun _ _ _ _ _ _ us hl => match us, hl with | [_, _, _, _], _ => rfl)⟩
  have g_Dthere : GM K C "there" "Diagrams.there" sD_Dthere ["self", "entry"] := ⟨_, _, fun_mk (st := sD_Dthere) l_Dthere c_Dthere k_Dthere, ⟨a_Dthere, i_Dthere, k_Dthere⟩, (fun_mk (st := sD_Dthere) l_Dthere c_Dthere k_Dthere).binds (fun _ _ _ _ _ _ us hl => match us, hl with | [_, _], _ => rfl)⟩
  have g_Dnode : GM K C "node" "Diagrams.node" sD_Dnode ["self", "condition"] := ⟨_, _, fun_mk (st := sD_Dnode) l_Dnode c_Dnode k_Dnode, ⟨a_Dnode, i_Dnode, k_Dnode⟩, (fun_mk (st := sD_Dnode) l_Dnode c_Dnode k_Dnode).binds (fun _ _ _ _ _ _ us hl => match us, hl with | [_, _], _ => rfl)⟩
  have g_Dcombined : GM K C "_combined" "Diagrams._combined" sD_Dcombined ["self", "form", "first", "second"] := ⟨_, _, fun_mk (st := sD_Dcombined) l_Dcombined c_Dcombined k_Dcombined, ⟨a_Dcombined, i_Dcombined, k_Dcombined⟩, (fun_mk (st := sD_Dcombined) l_Dcombined c_Dcombined k_Dcombined).binds (fun _ _ _ _ _ _ us hl => match us, hl with | [_, _, _, _], _ => rfl)⟩
  have g_Dsplit : GM K C "_split" "Diagrams._split" sD_Dsplit ["self", "form", "first", "second"] := ⟨_, _, fun_mk (st := sD_Dsplit) l_Dsplit c_Dsplit k_Dsplit, ⟨a_Dsplit, i_Dsplit, k_Dsplit⟩, (fun_mk (st := sD_Dsplit) l_Dsplit c_Dsplit k_Dsplit).binds (fun _ _ _ _ _ _ us hl => match us, hl with | [_, _, _, _], _ => rfl)⟩
  have g_Dconjunction : GM K C "conjunction" "Diagrams.conjunction" sD_Dconjunction ["self", "first", "second"] := ⟨_, _, fun_mk (st := sD_Dconjunction) l_Dconjunction c_Dconjunction k_Dconjunction, ⟨a_Dconjunction, i_Dconjunction, k_Dconjunction⟩, (fun_mk (st := sD_Dconjunction) l_Dconjunction c_Dconjunction k_Dconjunction).binds (fun _ _ _ _ _ _ us hl => match us, hl with | [_, _, _], _ => rfl)⟩
  have g_Ddisjunction : GM K C "disjunction" "Diagrams.disjunction" sD_Ddisjunction ["self", "first", "second"] := ⟨_, _, fun_mk (st := sD_Ddisjunction) l_Ddisjunction c_Ddisjunction k_Ddisjunction, ⟨a_Ddisjunction, i_Ddisjunction, k_Ddisjunction⟩, (fun_mk (st := sD_Ddisjunction) l_Ddisjunction c_Ddisjunction k_Ddisjunction).binds (fun _ _ _ _ _ _ us hl => match us, hl with | [_, _, _], _ => rfl)⟩
  have g_Ddiffers : GM K C "differs" "Diagrams.differs" sD_Ddiffers ["self", "first", "second"] := ⟨_, _, fun_mk (st := sD_Ddiffers) l_Ddiffers c_Ddiffers k_Ddiffers, ⟨a_Ddiffers, i_Ddiffers, k_Ddiffers⟩, (fun_mk (st := sD_Ddiffers) l_Ddiffers c_Ddiffers k_Ddiffers).binds (fun _ _ _ _ _ _ us hl => match us, hl with | [_, _, _], _ => rfl)⟩
  have g_Dnegation : GM K C "negation" "Diagrams.negation" sD_Dnegation ["self", "condition"] := ⟨_, _, fun_mk (st := sD_Dnegation) l_Dnegation c_Dnegation k_Dnegation, ⟨a_Dnegation, i_Dnegation, k_Dnegation⟩, (fun_mk (st := sD_Dnegation) l_Dnegation c_Dnegation k_Dnegation).binds (fun _ _ _ _ _ _ us hl => match us, hl with | [_, _], _ => rfl)⟩
  have g_Dreached : GM K C "reached" "Diagrams.reached" sD_Dreached ["self", "conditions"] := ⟨_, _, fun_mk (st := sD_Dreached) l_Dreached c_Dreached k_Dreached, ⟨a_Dreached, i_Dreached, k_Dreached⟩, (fun_mk (st := sD_Dreached) l_Dreached c_Dreached k_Dreached).binds (fun _ _ _ _ _ _ us hl => match us, hl with | [_, _], _ => rfl)⟩
  have g_Dparts : GM K C "_parts" "Diagrams._parts" sD_Dparts ["self", "condition"] := ⟨_, _, fun_mk (st := sD_Dparts) l_Dparts c_Dparts k_Dparts, ⟨a_Dparts, i_Dparts, k_Dparts⟩, (fun_mk (st := sD_Dparts) l_Dparts c_Dparts k_Dparts).binds (fun _ _ _ _ _ _ us hl => match us, hl with | [_, _], _ => rfl)⟩
  have g_Ddepends : GM K C "depends" "Diagrams.depends" sD_Ddepends ["self", "condition"] := ⟨_, _, fun_mk (st := sD_Ddepends) l_Ddepends c_Ddepends k_Ddepends, ⟨a_Ddepends, i_Ddepends, k_Ddepends⟩, (fun_mk (st := sD_Ddepends) l_Ddepends c_Ddepends k_Ddepends).binds (fun _ _ _ _ _ _ us hl => match us, hl with | [_, _], _ => rfl)⟩
  have g_Drestrict : GM K C "restrict" "Diagrams.restrict" sD_Drestrict ["self", "condition", "entry", "is_there"] := ⟨_, _, fun_mk (st := sD_Drestrict) l_Drestrict c_Drestrict k_Drestrict, ⟨a_Drestrict, i_Drestrict, k_Drestrict⟩, (fun_mk (st := sD_Drestrict) l_Drestrict c_Drestrict k_Drestrict).binds (fun _ _ _ _ _ _ us hl => match us, hl with | [_, _, _, _], _ => rfl)⟩
  have g_and_leaf : GA K "and_leaf" sD_and_leaf f_and_leaf ["first", "second"] := ⟨_, fun_mk (st := sD_and_leaf) l_and_leaf c_and_leaf k_and_leaf, (fun_mk (st := sD_and_leaf) l_and_leaf c_and_leaf k_and_leaf).binds (fun _ _ _ _ _ _ us hl => match us, hl with | [_, _], _ => rfl)⟩
  have g_or_leaf : GA K "or_leaf" sD_or_leaf f_or_leaf ["first", "second"] := ⟨_, fun_mk (st := sD_or_leaf) l_or_leaf c_or_leaf k_or_leaf, (fun_mk (st := sD_or_leaf) l_or_leaf c_or_leaf k_or_leaf).binds (fun _ _ _ _ _ _ us hl => match us, hl with | [_, _], _ => rfl)⟩
  have g_differ_leaf : GA K "differ_leaf" sD_differ_leaf f_differ_leaf ["first", "second"] := ⟨_, fun_mk (st := sD_differ_leaf) l_differ_leaf c_differ_leaf k_differ_leaf, (fun_mk (st := sD_differ_leaf) l_differ_leaf c_differ_leaf k_differ_leaf).binds (fun _ _ _ _ _ _ us hl => match us, hl with | [_, _], _ => rfl)⟩
  have cl : Cls K C := ⟨pg, hd, po, sa⟩
  have n_len := PySem.W.mg_none_of X G n_len
  have n_min := PySem.W.mg_none_of X G n_min
  have n_max := PySem.W.mg_none_of X G n_max
  have n_abs := PySem.W.mg_none_of X G n_abs
  have n_int := PySem.W.mg_none_of X G n_int
  have n_list := PySem.W.mg_none_of X G n_list
  have n_range := PySem.W.mg_none_of X G n_range
  have n_isinstance := PySem.W.mg_none_of X G n_isinstance
  have n_tuple := PySem.W.mg_none_of X G n_tuple
  have n_bool := PySem.W.mg_none_of X G n_bool
  have n_str := PySem.W.mg_none_of X G n_str
  have n_all := PySem.W.mg_none_of X G n_all
  have n_sorted := PySem.W.mg_none_of X G n_sorted
  have n_sum := PySem.W.mg_none_of X G n_sum
  have n_enumerate := PySem.W.mg_none_of X G n_enumerate
  have s_gcd := PySem.W.mg_of X G s_gcd
  have z_NEVER := PySem.W.mg_of X G z_NEVER
  have z_ALWAYS := PySem.W.mg_of X G z_ALWAYS
  refine ⟨_, fun_mk (st := sD_law) l_law c_law k_law, fun s v => .of_eq rfl, fun base _ _ => ?_⟩
  have TD : TDraw mg := ⟨n_int, n_len, n_abs, n_list⟩
  have TS : TSto K w mg C := ⟨cl, t__nodes, t__numbers, t__results, n_len, n_min, n_max, n_list, ⟨_, z_NEVER, y_NEVER⟩, ⟨_, z_ALWAYS, y_ALWAYS⟩⟩
  have TL : TLeaf mg := ⟨⟨_, z_NEVER, y_NEVER⟩, ⟨_, z_ALWAYS, y_ALWAYS⟩⟩
  have TW : TLaw mg := ⟨n_len, n_range, n_abs⟩
  have TF : TFrac mg := ⟨n_range, n_abs, n_len, s_gcd⟩
  have TM : TSame mg := ⟨n_isinstance, n_list, n_tuple, n_bool, n_str, n_int, n_len, n_all, n_range⟩
  have o_draw := ok_draw (P := P) (w := w) (base := base) g_Ldraw TD
  have o_next := ok_next (P := P) (w := w) (base := base) g_Lnext TD
  have o_make := ok_make (P := P) (w := w) (mg := mg) (base := base) g_Dmake TS
  have o_there := ok_there (P := P) (w := w) (mg := mg) (base := base) g_Dthere TS o_make
  have tab : TTab P K w mg base aL (fun fm => match fm with | .and => f_and_leaf | .or => f_or_leaf | .differ => f_differ_leaf) := ⟨⟨_, PySem.W.mg_of X G aLv, rfl⟩, fun fm => match fm with
      | .and => ⟨_, _, _, lD, kL, v_and_leaf, rfl⟩
      | .or => ⟨_, _, _, lD, kL, v_or_leaf, rfl⟩
      | .differ => ⟨_, _, _, lD, kL, v_differ_leaf, rfl⟩, fun fm => match fm with
      | .and => ok_and_leaf g_and_leaf TL
      | .or => ok_or_leaf g_or_leaf TL
      | .differ => ok_differ_leaf g_differ_leaf TL⟩
  have both := (ok_both g_Dcombined g_Dsplit TS tab o_make 30).1
  have o_con := ok_conjunction (P := P) (w := w) (mg := mg) (base := base) TS both g_Dconjunction
  have o_dis := ok_disjunction (P := P) (w := w) (mg := mg) (base := base) TS both g_Ddisjunction
  have o_dif := ok_differs (P := P) (w := w) (mg := mg) (base := base) TS both g_Ddiffers
  have o_neg := ok_negation (P := P) (w := w) (mg := mg) (base := base) TS g_Dnegation o_dif
  have o_parts := ok_parts (P := P) (w := w) (mg := mg) (base := base) g_Dparts TS
  have o_reached := ok_reached g_Dreached TS o_parts
  have o_entries := ok_entries g_Lentries TW o_next
  have o_tree := ok_tree g_Ltree TW o_next 6
  have o_build := ok_build g_Lbuild o_there o_neg o_con o_dis o_dif 37
  have o_init : FnOk P w K mg base CX0 1 f_Dinit _ ["self"] (spDinit C) := ok_Dinit (fun_mk (st := sD_Dinit) l_Dinit c_Dinit k_Dinit) TS
  have o_binds := (fun_mk (st := sD_Dinit) l_Dinit c_Dinit k_Dinit).binds (ps := ["self"]) fun _ _ _ _ _ _ us hl => match us, hl with | [_], _ => rfl
  have o_mk : Mk K C f_Dinit := ⟨mk, a_Dinit, i_Dinit, kc⟩

  have o_node := ok_node (P := P) (w := w) (mg := mg) (base := base) g_Dnode TS
  have o_dep := ok_depends g_Ddepends TS n_sorted o_reached
  have o_res := ok_restrict g_Drestrict TS o_reached o_make
  have o_lowest := ok_lowest (P := P) (w := w) (base := base) g_lowest TF
  have TP : TPoly mg := ⟨n_len, n_range, n_sum, n_enumerate⟩
  have TZ : TSizes mg := ⟨TL, n_len, n_enumerate⟩
  have o_added := ok_added (P := P) (w := w) (base := base) g_added TP
  have o_sizes := ok_sizes g_sizes TZ o_added (ok_widened g_widened TP o_added) o_dep o_res o_reached o_node
  have o_shares := ok_shares g_shares TZ (ok_orders g_orders TP) (ok_weighed g_weighed TP) o_lowest o_sizes o_dep o_res
  exact ok_law ⟨n_len, n_list, n_int, PySem.W.mg_of X G aC, o_mk, o_binds⟩ o_init o_draw o_next o_entries o_tree o_build (ok_true g_Ltrue 5) (ok_ldep g_Ldepends (ok_subsets g_Lsubsets) (ok_true g_Ltrue 5)) (ok_lorders g_Lorders TP) (ok_llowest g_Llowest TF (ok_common g_Lcommon TF)) (ok_same g_Lsame TM 3) o_shares

end Lw

open PySem PySem.W PyProof.Rows in
set_option maxRecDepth 100000 in
set_option maxHeartbeats 0 in
theorem PySem.Challenge.cw_lineworks_k73_shares_are_averages_holds : PySem.Challenge.rw_lineworks_k73_shares_are_averages.Holds := by
  w_on; o_law; k_head; (case hw => w_witness2)
  k_fill
  refine Lw.walk_at (l := PySem.Challenge.rw_lineworks_k73_shares_are_averages) (n := 63) rfl (by decide) rfl Lw.sc_law (fun w h Y => PySem.W.kIn_of Y) ?F
  case F =>
    intro w mg fa h KX G hmg
    refine' Lw.all_mk KX G hmg ?aC ?a_Ldraw ?l_Ldraw ?c_Ldraw ?k_Ldraw ?a_Lnext ?l_Lnext ?c_Lnext ?k_Lnext ?a_Lentries ?l_Lentries ?c_Lentries ?k_Lentries ?a_Ltree ?l_Ltree ?c_Ltree ?k_Ltree ?a_Lbuild ?l_Lbuild ?c_Lbuild ?k_Lbuild ?a_Ltrue ?l_Ltrue ?c_Ltrue ?k_Ltrue ?a_Lsubsets ?l_Lsubsets ?c_Lsubsets ?k_Lsubsets ?a_Ldepends ?l_Ldepends ?c_Ldepends ?k_Ldepends ?a_Lorders ?l_Lorders ?c_Lorders ?k_Lorders ?a_Lcommon ?l_Lcommon ?c_Lcommon ?k_Lcommon ?a_Llowest ?l_Llowest ?c_Llowest ?k_Llowest ?a_Lsame ?l_Lsame ?c_Lsame ?k_Lsame ?a_lowest ?l_lowest ?c_lowest ?k_lowest ?a_added ?l_added ?c_added ?k_added ?a_widened ?l_widened ?c_widened ?k_widened ?a_sizes ?l_sizes ?c_sizes ?k_sizes ?a_orders ?l_orders ?c_orders ?k_orders ?a_weighed ?l_weighed ?c_weighed ?k_weighed ?a_shares ?l_shares ?c_shares ?k_shares ?a_law ?l_law ?c_law ?k_law ?a_Dinit ?i_Dinit ?l_Dinit ?c_Dinit ?k_Dinit ?a_Dmake ?i_Dmake ?l_Dmake ?c_Dmake ?k_Dmake ?a_Dthere ?i_Dthere ?l_Dthere ?c_Dthere ?k_Dthere ?a_Dnode ?i_Dnode ?l_Dnode ?c_Dnode ?k_Dnode ?a_Dcombined ?i_Dcombined ?l_Dcombined ?c_Dcombined ?k_Dcombined ?a_Dsplit ?i_Dsplit ?l_Dsplit ?c_Dsplit ?k_Dsplit ?a_Dconjunction ?i_Dconjunction ?l_Dconjunction ?c_Dconjunction ?k_Dconjunction ?a_Ddisjunction ?i_Ddisjunction ?l_Ddisjunction ?c_Ddisjunction ?k_Ddisjunction ?a_Ddiffers ?i_Ddiffers ?l_Ddiffers ?c_Ddiffers ?k_Ddiffers ?a_Dnegation ?i_Dnegation ?l_Dnegation ?c_Dnegation ?k_Dnegation ?a_Dreached ?i_Dreached ?l_Dreached ?c_Dreached ?k_Dreached ?a_Dparts ?i_Dparts ?l_Dparts ?c_Dparts ?k_Dparts ?a_Ddepends ?i_Ddepends ?l_Ddepends ?c_Ddepends ?k_Ddepends ?a_Drestrict ?i_Drestrict ?l_Drestrict ?c_Drestrict ?k_Drestrict ?aLv ?lD ?kL ?v_and_leaf ?l_and_leaf ?c_and_leaf ?k_and_leaf ?v_or_leaf ?l_or_leaf ?c_or_leaf ?k_or_leaf ?v_differ_leaf ?l_differ_leaf ?c_differ_leaf ?k_differ_leaf ?pg ?hd ?po ?sa ?mk ?kc ?t__nodes ?t__numbers ?t__results ?z_NEVER ?y_NEVER ?z_ALWAYS ?y_ALWAYS ?n_len ?n_min ?n_max ?n_abs ?n_int ?n_list ?n_range ?n_isinstance ?n_tuple ?n_bool ?n_str ?n_all ?n_sorted ?n_sum ?n_enumerate ?s_gcd
    (case aC => k_is)
    (case a_Ldraw => k_is)
    (case l_Ldraw => k_is)
    (case c_Ldraw => k_is)
    (case k_Ldraw => k_is)
    (case a_Lnext => k_is)
    (case l_Lnext => k_is)
    (case c_Lnext => k_is)
    (case k_Lnext => k_is)
    (case a_Lentries => k_is)
    (case l_Lentries => k_is)
    (case c_Lentries => k_is)
    (case k_Lentries => k_is)
    (case a_Ltree => k_is)
    (case l_Ltree => k_is)
    (case c_Ltree => k_is)
    (case k_Ltree => k_is)
    (case a_Lbuild => k_is)
    (case l_Lbuild => k_is)
    (case c_Lbuild => k_is)
    (case k_Lbuild => k_is)
    (case a_Ltrue => k_is)
    (case l_Ltrue => k_is)
    (case c_Ltrue => k_is)
    (case k_Ltrue => k_is)
    (case a_Lsubsets => k_is)
    (case l_Lsubsets => k_is)
    (case c_Lsubsets => k_is)
    (case k_Lsubsets => k_is)
    (case a_Ldepends => k_is)
    (case l_Ldepends => k_is)
    (case c_Ldepends => k_is)
    (case k_Ldepends => k_is)
    (case a_Lorders => k_is)
    (case l_Lorders => k_is)
    (case c_Lorders => k_is)
    (case k_Lorders => k_is)
    (case a_Lcommon => k_is)
    (case l_Lcommon => k_is)
    (case c_Lcommon => k_is)
    (case k_Lcommon => k_is)
    (case a_Llowest => k_is)
    (case l_Llowest => k_is)
    (case c_Llowest => k_is)
    (case k_Llowest => k_is)
    (case a_Lsame => k_is)
    (case l_Lsame => k_is)
    (case c_Lsame => k_is)
    (case k_Lsame => k_is)
    (case a_lowest => k_is)
    (case l_lowest => k_is)
    (case c_lowest => k_is)
    (case k_lowest => k_is)
    (case a_added => k_is)
    (case l_added => k_is)
    (case c_added => k_is)
    (case k_added => k_is)
    (case a_widened => k_is)
    (case l_widened => k_is)
    (case c_widened => k_is)
    (case k_widened => k_is)
    (case a_sizes => k_is)
    (case l_sizes => k_is)
    (case c_sizes => k_is)
    (case k_sizes => k_is)
    (case a_orders => k_is)
    (case l_orders => k_is)
    (case c_orders => k_is)
    (case k_orders => k_is)
    (case a_weighed => k_is)
    (case l_weighed => k_is)
    (case c_weighed => k_is)
    (case k_weighed => k_is)
    (case a_shares => k_is)
    (case l_shares => k_is)
    (case c_shares => k_is)
    (case k_shares => k_is)
    (case a_law => k_is)
    (case l_law => k_is)
    (case c_law => k_is)
    (case k_law => k_is)
    (case a_Dinit => k_is)
    (case i_Dinit => k_is)
    (case l_Dinit => k_is)
    (case c_Dinit => k_is)
    (case k_Dinit => k_is)
    (case a_Dmake => k_is)
    (case i_Dmake => k_is)
    (case l_Dmake => k_is)
    (case c_Dmake => k_is)
    (case k_Dmake => k_is)
    (case a_Dthere => k_is)
    (case i_Dthere => k_is)
    (case l_Dthere => k_is)
    (case c_Dthere => k_is)
    (case k_Dthere => k_is)
    (case a_Dnode => k_is)
    (case i_Dnode => k_is)
    (case l_Dnode => k_is)
    (case c_Dnode => k_is)
    (case k_Dnode => k_is)
    (case a_Dcombined => k_is)
    (case i_Dcombined => k_is)
    (case l_Dcombined => k_is)
    (case c_Dcombined => k_is)
    (case k_Dcombined => k_is)
    (case a_Dsplit => k_is)
    (case i_Dsplit => k_is)
    (case l_Dsplit => k_is)
    (case c_Dsplit => k_is)
    (case k_Dsplit => k_is)
    (case a_Dconjunction => k_is)
    (case i_Dconjunction => k_is)
    (case l_Dconjunction => k_is)
    (case c_Dconjunction => k_is)
    (case k_Dconjunction => k_is)
    (case a_Ddisjunction => k_is)
    (case i_Ddisjunction => k_is)
    (case l_Ddisjunction => k_is)
    (case c_Ddisjunction => k_is)
    (case k_Ddisjunction => k_is)
    (case a_Ddiffers => k_is)
    (case i_Ddiffers => k_is)
    (case l_Ddiffers => k_is)
    (case c_Ddiffers => k_is)
    (case k_Ddiffers => k_is)
    (case a_Dnegation => k_is)
    (case i_Dnegation => k_is)
    (case l_Dnegation => k_is)
    (case c_Dnegation => k_is)
    (case k_Dnegation => k_is)
    (case a_Dreached => k_is)
    (case i_Dreached => k_is)
    (case l_Dreached => k_is)
    (case c_Dreached => k_is)
    (case k_Dreached => k_is)
    (case a_Dparts => k_is)
    (case i_Dparts => k_is)
    (case l_Dparts => k_is)
    (case c_Dparts => k_is)
    (case k_Dparts => k_is)
    (case a_Ddepends => k_is)
    (case i_Ddepends => k_is)
    (case l_Ddepends => k_is)
    (case c_Ddepends => k_is)
    (case k_Ddepends => k_is)
    (case a_Drestrict => k_is)
    (case i_Drestrict => k_is)
    (case l_Drestrict => k_is)
    (case c_Drestrict => k_is)
    (case k_Drestrict => k_is)
    (case aLv => k_is)
    (case lD => k_is)
    (case kL => exact ⟨⟨_, _, rfl, rfl⟩, ⟨_, _, rfl, rfl⟩, ⟨_, _, rfl, rfl⟩, trivial⟩)
    (case v_and_leaf => k_is)
    (case l_and_leaf => k_is)
    (case c_and_leaf => k_is)
    (case k_and_leaf => k_is)
    (case v_or_leaf => k_is)
    (case l_or_leaf => k_is)
    (case c_or_leaf => k_is)
    (case k_or_leaf => k_is)
    (case v_differ_leaf => k_is)
    (case l_differ_leaf => k_is)
    (case c_differ_leaf => k_is)
    (case k_differ_leaf => k_is)
    (case pg => k_is)
    (case hd => k_is)
    (case po => k_is)
    (case sa => k_is)
    (case mk => k_is)
    (case kc => k_is)
    (case t__nodes => k_is)
    (case t__numbers => k_is)
    (case t__results => k_is)
    (case z_NEVER => k_is)
    (case y_NEVER => exact ⟨_, rfl⟩)
    (case z_ALWAYS => k_is)
    (case y_ALWAYS => exact ⟨_, rfl⟩)
    (case n_len => k_is)
    (case n_min => k_is)
    (case n_max => k_is)
    (case n_abs => k_is)
    (case n_int => k_is)
    (case n_list => k_is)
    (case n_range => k_is)
    (case n_isinstance => k_is)
    (case n_tuple => k_is)
    (case n_bool => k_is)
    (case n_str => k_is)
    (case n_all => k_is)
    (case n_sorted => k_is)
    (case n_sum => k_is)
    (case n_enumerate => k_is)
    (case s_gcd => k_is)
#print axioms PySem.Challenge.cw_lineworks_k73_shares_are_averages_holds

namespace Lw
end Lw
