import PyProof.Rows.All
import Wide.All
import OpenK.AllK
import Wide.FinOn
import HandS.ForMost
import HandS.Codes
import HandS.CallLocal
import HandS.DictComp
import HandS.Strs
import HandS.IsInst
import HandS.Defaults
import HandS.More
import HandS.Wide
import HandS.Gcd
import HandS.Flow
import HandS.SetBool
import HandS.Conv
import HandS.SetFor
import HandS.Walk
import HandS.DeepEq
import PySem.Challenge.RW_lineworks_k78_none_of_the_rows
import KE.SortKeyHeap
import HandS.SortKw
import HandS.Exc
import KE.DataMinKey
import HandS.Deep
import HandS.TupAny
import HandS.ExcOwn
import HandS.WordsExc
import HandS.ExcIs
import HandS.ExcCtx
import HandS.Rev
import KE.DataMinMax
import HandS.Hot
set_option Elab.async false
set_option maxRecDepth 100000
set_option maxHeartbeats 4000000
set_option linter.all false
/-! The defs of the text, one promise each. -/
namespace Lw
open PySem PySem.Spec PyProof.Rows L2
open C8 (Cal Met pe_c pe_mt pe_mt0 pe_gc pss_cut tCut)
/-! ### the text by places -/
def top (i : Nat) : Stmt := PySem.Challenge.pw_lineworks_k78_none_of_the_rows.main.body.getD i (.Pass ⟨0, 0, 0, 0⟩)
abbrev sD_and_leaf : Stmt := top 4
theorem sc_and_leaf : FnScope ["first", "second"] ["first", "second"] (defScope sD_and_leaf) :=
  ⟨rfl, rfl, rfl, by decide +kernel, rfl, by decide +kernel, by decide +kernel⟩
abbrev sD_or_leaf : Stmt := top 5
theorem sc_or_leaf : FnScope ["first", "second"] ["first", "second"] (defScope sD_or_leaf) :=
  ⟨rfl, rfl, rfl, by decide +kernel, rfl, by decide +kernel, by decide +kernel⟩
abbrev sD_differ_leaf : Stmt := top 6
theorem sc_differ_leaf : FnScope ["first", "second"] ["first", "second"] (defScope sD_differ_leaf) :=
  ⟨rfl, rfl, rfl, by decide +kernel, rfl, by decide +kernel, by decide +kernel⟩
abbrev sD_Dinit : Stmt := inClass (top 8) 0
theorem sc_Dinit : FnScope ["self"] ["self"] (defScope sD_Dinit) :=
  ⟨rfl, rfl, rfl, by decide +kernel, rfl, by decide +kernel, by decide +kernel⟩
abbrev sD_Dmake : Stmt := inClass (top 8) 1
theorem sc_Dmake : FnScope ["self", "entry", "without", "there", "key"] ["self", "entry", "without", "there"] (defScope sD_Dmake) :=
  ⟨rfl, rfl, rfl, by decide +kernel, rfl, by decide +kernel, by decide +kernel⟩
abbrev sD_Dthere : Stmt := inClass (top 8) 2
theorem sc_Dthere : FnScope ["self", "entry"] ["self", "entry"] (defScope sD_Dthere) :=
  ⟨rfl, rfl, rfl, by decide +kernel, rfl, by decide +kernel, by decide +kernel⟩
abbrev sD_Dnode : Stmt := inClass (top 8) 3
theorem sc_Dnode : FnScope ["self", "condition"] ["self", "condition"] (defScope sD_Dnode) :=
  ⟨rfl, rfl, rfl, by decide +kernel, rfl, by decide +kernel, by decide +kernel⟩
abbrev sD_Dcombined : Stmt := inClass (top 8) 4
theorem sc_Dcombined : FnScope ["self", "form", "first", "second", "action", "plain", "key"] ["self", "form", "first", "second"] (defScope sD_Dcombined) :=
  ⟨rfl, rfl, rfl, by decide +kernel, rfl, by decide +kernel, by decide +kernel⟩
abbrev sD_Dsplit : Stmt := inClass (top 8) 5
theorem sc_Dsplit : FnScope ["self", "form", "first", "second", "one", "two", "without"] ["self", "form", "first", "second"] (defScope sD_Dsplit) :=
  ⟨rfl, rfl, rfl, by decide +kernel, rfl, by decide +kernel, by decide +kernel⟩
abbrev sD_Dconjunction : Stmt := inClass (top 8) 6
theorem sc_Dconjunction : FnScope ["self", "first", "second"] ["self", "first", "second"] (defScope sD_Dconjunction) :=
  ⟨rfl, rfl, rfl, by decide +kernel, rfl, by decide +kernel, by decide +kernel⟩
abbrev sD_Ddisjunction : Stmt := inClass (top 8) 7
theorem sc_Ddisjunction : FnScope ["self", "first", "second"] ["self", "first", "second"] (defScope sD_Ddisjunction) :=
  ⟨rfl, rfl, rfl, by decide +kernel, rfl, by decide +kernel, by decide +kernel⟩
abbrev sD_Ddiffers : Stmt := inClass (top 8) 8
theorem sc_Ddiffers : FnScope ["self", "first", "second"] ["self", "first", "second"] (defScope sD_Ddiffers) :=
  ⟨rfl, rfl, rfl, by decide +kernel, rfl, by decide +kernel, by decide +kernel⟩
abbrev sD_Dnegation : Stmt := inClass (top 8) 9
theorem sc_Dnegation : FnScope ["self", "condition"] ["self", "condition"] (defScope sD_Dnegation) :=
  ⟨rfl, rfl, rfl, by decide +kernel, rfl, by decide +kernel, by decide +kernel⟩
abbrev sD_Dholds : Stmt := inClass (top 8) 12
theorem sc_Dholds : FnScope ["self", "condition", "present", "entry", "without", "there"] ["self", "condition", "present"] (defScope sD_Dholds) :=
  ⟨rfl, rfl, rfl, by decide +kernel, rfl, by decide +kernel, by decide +kernel⟩
abbrev sD_Dreached : Stmt := inClass (top 8) 13
theorem sc_Dreached : FnScope ["self", "conditions", "found", "condition", "pending", "last", "parts", "part"] ["self", "conditions"] (defScope sD_Dreached) :=
  ⟨rfl, rfl, rfl, by decide +kernel, rfl, by decide +kernel, by decide +kernel⟩
abbrev sD_Dparts : Stmt := inClass (top 8) 14
theorem sc_Dparts : FnScope ["self", "condition", "part"] ["self", "condition"] (defScope sD_Dparts) :=
  ⟨rfl, rfl, rfl, by decide +kernel, rfl, by decide +kernel, by decide +kernel⟩
abbrev sD_Dsize : Stmt := inClass (top 8) 15
theorem sc_Dsize : FnScope ["self", "conditions"] ["self", "conditions"] (defScope sD_Dsize) :=
  ⟨rfl, rfl, rfl, by decide +kernel, rfl, by decide +kernel, by decide +kernel⟩
abbrev sD_change_key : Stmt := top 10
theorem sc_change_key : FnScope ["change"] ["change"] (defScope sD_change_key) :=
  ⟨rfl, rfl, rfl, by decide +kernel, rfl, by decide +kernel, by decide +kernel⟩
abbrev sD_better : Stmt := top 11
theorem sc_better : FnScope ["first", "second"] ["first", "second"] (defScope sD_better) :=
  ⟨rfl, rfl, rfl, by decide +kernel, rfl, by decide +kernel, by decide +kernel⟩
abbrev sD_with_turned : Stmt := top 12
theorem sc_with_turned : FnScope ["entry", "change", "costs"] ["entry", "change", "costs"] (defScope sD_with_turned) :=
  ⟨rfl, rfl, rfl, by decide +kernel, rfl, by decide +kernel, by decide +kernel⟩
abbrev sD_cheapest : Stmt := top 13
theorem sc_cheapest : FnScope ["store", "condition", "present", "costs", "changes", "node", "entry", "without", "there", "best"] ["store", "condition", "present", "costs"] (defScope sD_cheapest) :=
  ⟨rfl, rfl, rfl, by decide +kernel, rfl, by decide +kernel, by decide +kernel⟩
abbrev sD_Way_init : Stmt := inClass (top 19) 0
theorem sc_Way_init : FnScope ["self", "store", "most_rows", "most_nodes"] ["self", "store", "most_rows", "most_nodes"] (defScope sD_Way_init) :=
  ⟨rfl, rfl, rfl, by decide +kernel, rfl, by decide +kernel, by decide +kernel⟩
abbrev sD_Way_meet : Stmt := inClass (top 19) 2
theorem sc_Way_meet : FnScope ["self", "condition"] ["self", "condition"] (defScope sD_Way_meet) :=
  ⟨rfl, rfl, rfl, by decide +kernel, rfl, by decide +kernel, by decide +kernel⟩
abbrev sD_Way_meet_any : Stmt := inClass (top 19) 3
theorem sc_Way_meet_any : FnScope ["self", "conditions", "result", "condition"] ["self", "conditions"] (defScope sD_Way_meet_any) :=
  ⟨rfl, rfl, rfl, by decide +kernel, rfl, by decide +kernel, by decide +kernel⟩
abbrev sD_beginning : Stmt := top 21
theorem sc_beginning : FnScope ["candidates", "prefix", "row", "condition"] ["candidates", "prefix"] (defScope sD_beginning) :=
  ⟨rfl, rfl, rfl, by decide +kernel, rfl, by decide +kernel, by decide +kernel⟩
abbrev sD_none_of : Stmt := top 22
theorem sc_none_of : FnScope ["store", "candidates", "prefix", "present", "costs", "most_nodes", "way", "condition", "row", "held"] ["store", "candidates", "prefix", "present", "costs", "most_nodes"] (defScope sD_none_of) :=
  ⟨rfl, rfl, rfl, by decide +kernel, rfl, by decide +kernel, by decide +kernel⟩
abbrev sD_Ldraw : Stmt := top 24
theorem sc_Ldraw : FnScope ["script"] ["script"] (defScope sD_Ldraw) :=
  ⟨rfl, rfl, rfl, by decide +kernel, rfl, by decide +kernel, by decide +kernel⟩
abbrev sD_Lnext : Stmt := top 25
theorem sc_Lnext : FnScope ["draw", "many", "found", "cell"] ["draw", "many"] (defScope sD_Lnext) :=
  ⟨rfl, rfl, rfl, by decide +kernel, rfl, by decide +kernel, by decide +kernel⟩
abbrev sD_Lsame : Stmt := top 26
theorem sc_Lsame : FnScope ["actual", "due", "k"] ["actual", "due"] (defScope sD_Lsame) :=
  ⟨rfl, rfl, rfl, by decide +kernel, rfl, by decide +kernel, by decide +kernel⟩
abbrev sD_Lentries : Stmt := top 27
theorem sc_Lentries : FnScope ["draw", "most", "entries", "last", "k"] ["draw", "most"] (defScope sD_Lentries) :=
  ⟨rfl, rfl, rfl, by decide +kernel, rfl, by decide +kernel, by decide +kernel⟩
abbrev sD_Ltree : Stmt := top 28
theorem sc_Ltree : FnScope ["draw", "entries", "depth", "form", "first"] ["draw", "entries", "depth"] (defScope sD_Ltree) :=
  ⟨rfl, rfl, rfl, by decide +kernel, rfl, by decide +kernel, by decide +kernel⟩
abbrev sD_Lbuild : Stmt := top 29
theorem sc_Lbuild : FnScope ["store", "tree", "first", "second"] ["store", "tree"] (defScope sD_Lbuild) :=
  ⟨rfl, rfl, rfl, by decide +kernel, rfl, by decide +kernel, by decide +kernel⟩
abbrev sD_Ltrue : Stmt := top 30
theorem sc_Ltrue : FnScope ["tree", "present", "first", "second"] ["tree", "present"] (defScope sD_Ltrue) :=
  ⟨rfl, rfl, rfl, by decide +kernel, rfl, by decide +kernel, by decide +kernel⟩
abbrev sD_Lsubsets : Stmt := top 31
theorem sc_Lsubsets : FnScope ["entries", "found", "entry", "part"] ["entries"] (defScope sD_Lsubsets) :=
  ⟨rfl, rfl, rfl, by decide +kernel, rfl, by decide +kernel, by decide +kernel⟩
abbrev sD_Ltruth : Stmt := top 32
theorem sc_Ltruth : FnScope ["tree", "entries", "part"] ["tree", "entries"] (defScope sD_Ltruth) :=
  ⟨rfl, rfl, rfl, by decide +kernel, rfl, by decide +kernel, by decide +kernel⟩
abbrev sD_Lfixed : Stmt := top 33
theorem sc_Lfixed : FnScope ["truth", "k", "there", "step", "j", "found", "at", "base"] ["truth", "k", "there"] (defScope sD_Lfixed) :=
  ⟨rfl, rfl, rfl, by decide +kernel, rfl, by decide +kernel, by decide +kernel⟩
abbrev sD_Ltop : Stmt := top 34
theorem sc_Ltop : FnScope ["truth", "count", "k"] ["truth", "count"] (defScope sD_Ltop) :=
  ⟨rfl, rfl, rfl, by decide +kernel, rfl, by decide +kernel, by decide +kernel⟩
abbrev sD_Ldiagrams : Stmt := top 35
theorem sc_Ldiagrams : FnScope ["truths", "count", "found", "waiting", "truth", "k"] ["truths", "count"] (defScope sD_Ldiagrams) :=
  ⟨rfl, rfl, rfl, by decide +kernel, rfl, by decide +kernel, by decide +kernel⟩
abbrev sD_Lset_key : Stmt := top 36
theorem sc_Lset_key : FnScope ["members"] ["members"] (defScope sD_Lset_key) :=
  ⟨rfl, rfl, rfl, by decide +kernel, rfl, by decide +kernel, by decide +kernel⟩
abbrev sD_Lwithin : Stmt := top 37
theorem sc_Lwithin : FnScope ["part", "whole", "member"] ["part", "whole"] (defScope sD_Lwithin) :=
  ⟨rfl, rfl, rfl, by decide +kernel, rfl, by decide +kernel, by decide +kernel⟩
abbrev sD_Lleast : Stmt := top 38
theorem sc_Lleast : FnScope ["sets", "ordered", "found", "members", "known"] ["sets"] (defScope sD_Lleast) :=
  ⟨rfl, rfl, rfl, by decide +kernel, rfl, by decide +kernel, by decide +kernel⟩
abbrev sD_Lturned : Stmt := top 39
theorem sc_Lturned : FnScope ["present", "part", "kept", "entry"] ["present", "part"] (defScope sD_Lturned) :=
  ⟨rfl, rfl, rfl, by decide +kernel, rfl, by decide +kernel, by decide +kernel⟩
abbrev sD_Lcosts : Stmt := top 40
theorem sc_Lcosts : FnScope ["draw", "entries", "costs", "entry"] ["draw", "entries"] (defScope sD_Lcosts) :=
  ⟨rfl, rfl, rfl, by decide +kernel, rfl, by decide +kernel, by decide +kernel⟩
abbrev sD_Lchange_key : Stmt := top 41
theorem sc_Lchange_key : FnScope ["change"] ["change"] (defScope sD_Lchange_key) :=
  ⟨rfl, rfl, rfl, by decide +kernel, rfl, by decide +kernel, by decide +kernel⟩
abbrev sD_Lbest : Stmt := top 42
theorem sc_Lbest : FnScope ["truth", "entries", "present", "costs", "subsets", "changes", "part", "entry"] ["truth", "entries", "present", "costs"] (defScope sD_Lbest) :=
  ⟨rfl, rfl, rfl, by decide +kernel, rfl, by decide +kernel, by decide +kernel⟩
abbrev sD_Lcandidates : Stmt := top 43
theorem sc_Lcandidates : FnScope ["draw", "store", "entries", "trees", "rows", "k", "row", "tree"] ["draw", "store", "entries"] (defScope sD_Lcandidates) :=
  ⟨rfl, rfl, rfl, by decide +kernel, rfl, by decide +kernel, by decide +kernel⟩
abbrev sD_law : Stmt := top 44
theorem sc_law : FnScope ["script", "draw", "entries", "store", "trees", "present", "costs", "prefix", "chosen", "some", "sizes", "k", "more", "due", "handed", "most", "kept", "found", "e", "entry", "row", "tree", "part", "one", "j"] ["script"] (defScope sD_law) :=
  ⟨rfl, rfl, rfl, by decide +kernel, rfl, by decide +kernel, by decide +kernel⟩

/-! ### what is kept -/
/-- all that was tracked is as it was, but for what stands at M; tuples stay in any case -/
structure Kp (M : List Addr) (H H' : Hp) : Prop where
  k : ∀ b o, H b = some o → b ∉ M → H' b = some o
  t : ∀ b xs, H b = some (.tup xs) → H' b = some (.tup xs)
namespace Kp
variable {M N : List Addr} {H H1 H2 : Hp} {p : Addr} {o u : HO}
theorem refl : Kp M H H := ⟨fun _ _ h _ => h, fun _ _ h => h⟩
theorem trans (a : Kp M H H1) (b : Kp M H1 H2) : Kp M H H2 := ⟨fun c o h n => b.k c o (a.k c o h n) n, fun c xs h => b.t c xs (a.t c xs h)⟩
theorem wide (a : Kp M H H1) (h : ∀ b ∈ M, b ∈ N) : Kp N H H1 := ⟨fun c o e n => a.k c o e fun z => n (h c z), a.t⟩
theorem new (h : H p = none) : Kp M H (upd H p o) :=
  ⟨fun c q e _ => by rw [upd_ne (ne_of_none e h)]; exact e, fun c q e => by rw [upd_ne (ne_of_none e h)]; exact e⟩
theorem put (hp : p ∈ M) (h : H p = some u) (hu : ∀ xs, u ≠ .tup xs) : Kp M H (upd H p o) :=
  ⟨fun c q e n => by rw [upd_ne fun z => n (by rw [z]; exact hp)]; exact e,
   fun c q e => by rw [upd_ne fun z => by rw [z, h] at e; exact hu _ (Option.some.inj e)]; exact e⟩
theorem same (a : Same H H1) : Kp M H H1 := ⟨fun c o h _ => a c o h, fun c xs h => a c _ h⟩
theorem toSame (a : Kp [] H H1) : Same H H1 := fun c o h => a.k c o h (by simp)
theorem free (a : Kp M H H1) (h : H1 p = none) (hp : p ∉ M) : H p = none := by
  cases e : H p with
  | none => rfl
  | some q => rw [a.k p q e hp] at h; cases h
/-- what H does not know may change -/
theorem mt (a : Kp M H H1) (h : H p = none) : Kp M H (upd H1 p o) :=
  ⟨fun c q e n => by rw [upd_ne (ne_of_none e h)]; exact a.k c q e n, fun c q e => by rw [upd_ne (ne_of_none e h)]; exact a.t c q e⟩
theorem newer (a : Kp M H H1) (h : H1 p = none) : Kp M H (upd H1 p o) := a.trans (new h)
end Kp

/-! ### the defs of the text as they stand behind the top -/
section
variable {P : Program} {w : World} {K : PySem.W.Frag} {mg : Str → Option Value} {base : Heap}
/-- a def of the module -/
def GD (K : PySem.W.Frag) (mg : Str → Option Value) (x : Str) (st : Stmt) (ps : List Str) : Prop :=
  ∃ (f : Addr) (fd : FuncData), Fun K x x st f fd ∧ mg x = some (.ref f) ∧ Binds K fd ps []
/-- a method of the class at C -/
def GM (K : PySem.W.Frag) (C : Addr) (m qual : Str) (st : Stmt) (ps : List Str) : Prop :=
  ∃ (f : Addr) (fd : FuncData), Fun K m qual st f fd ∧ Meth K C m f ∧ Binds K fd ps []
theorem GD.cal {x : Str} {st : Stmt} {N ps : List Str} {k : Nat} {sp : Sp} (D : GD K mg x st ps) (S : FnScope N ps (defScope st)) (len : ∀ vs H Q E, sp vs H Q E → vs.length = ps.length)
    (hbody : ∀ (f : Addr) (cdv : Value) (A : Around) (outer : List Env) (s : Shared) (H : Hp) (vs : List V) (Q : VK) (E : XK),
      Room k (A.deeper (envOfC x (defScope st) s.heap.objs.size f cdv)) → sp vs H Q E →
      ∃ t, PSs (cxOf CX0 P w K mg base N x (defScope st) f cdv A outer s H E).nox (defBody st) t ∧ t { nx := fun _ H' => Q .non H', rt := Q } (start N vs) H) :
    Cal P w K mg base (k + 1) x sp [] := by
  obtain ⟨f, fd, F, hm, hb⟩ := D
  exact ⟨f, fd, ps, [], F.ok S len (hbody f), hm, F.kp, hb, .nil⟩
theorem GM.met {C : Addr} {m qual : Str} {st : Stmt} {N ps : List Str} {k : Nat} {sp : Sp} (c : Cls K C) (D : GM K C m qual st ps) (S : FnScope N ps (defScope st)) (len : ∀ vs H Q E, sp vs H Q E → vs.length = ps.length)
    (hbody : ∀ (f : Addr) (cdv : Value) (A : Around) (outer : List Env) (s : Shared) (H : Hp) (vs : List V) (Q : VK) (E : XK),
      Room k (A.deeper (envOfC qual (defScope st) s.heap.objs.size f cdv)) → sp vs H Q E →
      ∃ t, PSs (cxOf CX0 P w K mg base N qual (defScope st) f cdv A outer s H E).nox (defBody st) t ∧ t { nx := fun _ H' => Q .non H', rt := Q } (start N vs) H) :
    Met P w K mg base (k + 1) C m sp [] := by
  obtain ⟨f, fd, F, hm, hb⟩ := D
  exact ⟨f, fd, ps, [], c, hm, F.ok S len (hbody f), hb, .nil⟩
theorem Cal.up {x : Str} {sp : Sp} {i j : Nat} (c : Cal P w K mg base i x sp []) (h : i ≤ j) : Cal P w K mg base j x sp [] := by
  obtain ⟨f, fd, ps, ds, F, r⟩ := c.ex
  exact ⟨f, fd, ps, ds, F.mono h, r⟩
end
theorem iteF_of {b : Bool} {A B : Prop} (h : b = false) (q : B) : if b = true then A else B := by rw [h]; exact iteF q
theorem iteT_of {b : Bool} {A B : Prop} (h : b = true) (q : A) : if b = true then A else B := by rw [h]; exact iteT q
theorem small {n : Nat} (h : n ≤ 1000) : n ≤ sizeLine := Nat.le_of_lt (small1000 h)
/-! ### rules within a comprehension's block: the written part is the def's own -/
section
variable {X : Cx} {K : PySem.W.Frag} {e a b : Expr} {ta tb : TE} {pos : Pos}
theorem bx_fld {f : Str} (hK : X.K = K) (he : PE X e ta) (hb : attributeBase e f X.env (eval e X.env) = eval e X.env) : PE X (.Attribute e f pos) (tFld K ta f) := hK ▸ pe_fld he hb
theorem bx_list (hK : X.K = K) (ha : PE X a ta) (hb : PE X b tb) (hs : PlainIx b) : PE X (.Subscript a b pos) (tOp (rIxL K) ta tb) := hK ▸ pe_ix ix_list ha hb hs
theorem bx_tup (hK : X.K = K) (ha : PE X a ta) (hb : PE X b tb) (hs : PlainIx b) : PE X (.Subscript a b pos) (tOp (rIxT K) ta tb) := hK ▸ pe_ix ix_tup ha hb hs
theorem bx_seq (hK : X.K = K) (ha : PE X a ta) (hb : PE X b tb) (hs : PlainIx b) : PE X (.Subscript a b pos) (tOp (fun x y H Q => rIxL K x y H Q ∨ rIxT K x y H Q) ta tb) := hK ▸ pe_ix (IxR.or ix_list ix_tup) ha hb hs
theorem bx_in {pos' : Pos} (hK : X.K = K) (ha : PE X a ta) (hb : PE X b tb) (hm : behindInMarks .In b = false := by first | rfl | exact nobehind _ (by decide) (by decide)) : PE X (.Compare a [.In] [b] pos') (tOp (rIn K false) ta tb) := hK ▸ pe_cmpR op_in_seq ha hb hm
theorem bx_notin {pos' : Pos} (hK : X.K = K) (ha : PE X a ta) (hb : PE X b tb) (hm : behindInMarks .NotIn b = false := by first | rfl | exact nobehind _ (by decide) (by decide)) : PE X (.Compare a [.NotIn] [b] pos') (tOp (rIn K true) ta tb) := hK ▸ pe_cmpR op_notIn_seq ha hb hm
theorem bt_in {pos' : Pos} (hK : X.K = K) (ha : PE X a ta) (hb : PE X b tb) (hm : behindInMarks .In b = false := by first | rfl | exact nobehind _ (by decide) (by decide)) : PT X (.Compare a [.In] [b] pos') (tTest (tOp (rIn K false) ta tb)) := hK ▸ pt_cmpR op_in_seq ha hb hm
theorem bt_notin {pos' : Pos} (hK : X.K = K) (ha : PE X a ta) (hb : PE X b tb) (hm : behindInMarks .NotIn b = false := by first | rfl | exact nobehind _ (by decide) (by decide)) : PT X (.Compare a [.NotIn] [b] pos') (tTest (tOp (rIn K true) ta tb)) := hK ▸ pt_cmpR op_notIn_seq ha hb hm
def tTr (K : PySem.W.Frag) (ta : TE) : TT := fun σ H Q => ta σ H fun x H' => ∃ k, TruV K x H' k ∧ Q k H'
theorem bt_truth (hK : X.K = K) (ha : PE X a ta) (he : ∀ whole, isTrue a X.env whole = (do let v ← whole; standAt a.pos; holding [v] (truthy v))) : PT X a (tTr K ta) := hK ▸ pt_truth ha he
def rLn (K : PySem.W.Frag) : List V → Hp → VK → Prop := fun xs H Q => ∃ p ys, xs = [.ref p] ∧ (SqL K H p ys ∨ SqT K H p ys) ∧ Q (.int ys.length) H
theorem bx_len {x : Str} {p : Pos} {t : TA} (hK : X.K = K) (hg : Gl X x) (hm : X.mg x = none) (hv : bootBuiltins x = some (.builtin "len")) (ha : PA X [e] t) (hn : x ≠ "__name__" := by decide) (hdb : (x == ("__debug__" : Str)) = false := by decide)
    (he : starEach [e] X.env = (false, eval e X.env) :: starEach [] X.env := by rfl) (hpl : (backTo pos (starEach [] X.env)).any (·.1) = false := by rfl) :
    PE X (.Call (.Name x p) [e] [] pos) (tCB (rLn K) t) := hK ▸ pe_callB call_len_seq hg hm hv ha hn hdb he hpl
theorem bx_ptup {es : List Expr} {k n : Nat} {t : TGs} (hK : X.K = K) (hc : X.calm = true) (h : PGs X es t) (hn : (assignEach es X.env).length = n := by rfl) (hst : (assignEach es X.env).findIdx? (·.1) = none := by rfl) :
    PG X (.Tuple es k pos) (gTup K n t) := hK ▸ pg_tup hc h hn hst
end

/-! ### the draws: a list of the script's ints, a place, what is left of a great number, a seed -/
def drawV (sc : Addr) (p b z : Int) : List V := [.ref sc, .int p, .int b, .int z]
/-- a draw's list stands at d, its ints at sc -/
def Drw (d sc : Addr) (H : Hp) : Prop :=
  ∃ (ns : List Int) (p b z : Int), H d = some (.lst (drawV sc p b z)) ∧ H sc = some (.lst (ns.map V.int)) ∧ 0 ≤ p ∧ 0 ≤ b ∧ 0 ≤ z ∧ d ≠ sc
theorem Drw.kp {d sc : Addr} {H H' : Hp} {M : List Addr} (D : Drw d sc H) (k : Kp M H H') (h1 : d ∉ M) (h2 : sc ∉ M) : Drw d sc H' := by
  obtain ⟨ns, p, b, z, e1, e2, r⟩ := D
  exact ⟨ns, p, b, z, k.k _ _ e1 h1, k.k _ _ e2 h2, r⟩
/-- the next number below m; nothing but the draw's own list changes -/
def spNext : Sp := fun vs H Q _ => ∃ (d sc : Addr) (m : Int), vs = [.ref d, .int m] ∧ 0 < m ∧ m < 1073741824 ∧ Drw d sc H ∧
  ∀ (r : Int) (o : HO), 0 ≤ r → r < m → (∀ xs, o ≠ .tup xs) → Drw d sc (upd H d o) → Q (.int r) (upd H d o)
def spDraw (K : PySem.W.Frag) : Sp := fun vs H Q _ => ∃ (a : Addr) (ns : List Int), vs = [.ref a] ∧ SqL K H a (ns.map V.int) ∧
  ∀ (d sc : Addr) (H' : Hp), Same H H' → H d = none → H sc = none → Drw d sc H' → Q (.ref d) H'
structure TDraw (mg : Str → Option Value) : Prop where
  n_int : mg "int" = none
  n_len : mg "len" = none
  n_abs : mg "abs" = none
  n_list : mg "list" = none
section
variable {P : Program} {w : World} {K : PySem.W.Frag} {mg : Str → Option Value} {base : Heap}
theorem ok_draw (D : GD K mg "_law_draw" sD_Ldraw ["script"]) (T : TDraw mg) : Cal P w K mg base 1 "_law_draw" (spDraw K) [] := by
  refine D.cal sc_Ldraw (fun vs H Q E h => ?_) (fun f cdv A outer s H vs Q E hr h => ?_)
  · obtain ⟨a, ns, rfl, _⟩ := h
    rfl
  obtain ⟨a, ns, rfl, hS, q⟩ := h
  refine ⟨_, (pss_one (ps_ret (pe_lst (pa_cons (pe_callTy call_list_of (by rfl) T.n_list (by decide +kernel) (pa_cons (pv 0) pa_nil)) (pa_cons pe_int (pa_cons pe_int (pa_cons pe_int pa_nil))))))), ?_⟩
  refine ⟨_, rfl, a, _, rfl, .inl hS, fun l hl => ?_⟩
  refine ⟨(by show 4 ≤ sizeLine; decide), fun d hd => ?_⟩
  have nld : l ≠ d := fun e => by rw [← e, upd_same] at hd; cases hd
  have hd0 : H d = Option.none := by rw [upd_ne nld.symm] at hd; exact hd
  refine q d l _ (fun b o e => ?_) hd0 hl ⟨ns, 0, 0, 17, upd_same, ?_, by decide, by decide, by decide, nld.symm⟩
  · rw [upd_ne (ne_of_none e hd0), upd_ne (ne_of_none e hl)]; exact e
  · rw [upd_ne nld, upd_same]
theorem ok_next (D : GD K mg "_law_next" sD_Lnext ["draw", "many"]) (T : TDraw mg) : Cal P w K mg base 1 "_law_next" spNext [] := by
  refine D.cal sc_Lnext (fun vs H Q E h => ?_) (fun f cdv A outer s H vs Q E hr h => ?_)
  · obtain ⟨d, sc, m, rfl, _⟩ := h
    rfl
  obtain ⟨d, sc, m, rfl, m0, m1, ⟨ns, p, b, z, hd, hs, p0, b0, z0, ne⟩, q⟩ := h
  refine ⟨_, (pss_cons (ps_if (pt_cmpR op_gt (pe_ix ix_list (pv 0) pe_int (fun _ _ => rfl)) pe_int (nomark _)) (pss_cons (ps_set (i := 2) sc_Lnext.nd rfl (Or.inl rfl) (pe_op op_mod (pe_callTy call_int1 (by rfl) T.n_int (by decide +kernel) (pa_cons (pe_ix ix_list (pv 0) pe_int (fun _ _ => rfl)) pa_nil)) (pv 1)))
    (pss_cons (ps_asg (pe_op op_fdiv (pe_ix ix_list (pv 0) pe_int (fun _ _ => rfl)) (pv 1)) (pg_sub (pv 0) pe_int set_list))
    (pss_one (ps_ret (pv 2))))) pss_nil)
    (pss_cons (ps_if (pt_cmpR op_lt (pe_ix ix_list (pv 0) pe_int (fun _ _ => rfl)) (pe_callB call_len_seq (by rfl) T.n_len (by decide +kernel) (pa_cons (pe_ix ix_list (pv 0) pe_int (fun _ _ => rfl)) pa_nil)) (nomark _)) (pss_cons (ps_set (i := 3) sc_Lnext.nd rfl (Or.inl rfl) (pe_callB call_abs (by rfl) T.n_abs (by decide +kernel) (pa_cons (pe_ix ix_list (pe_ix ix_list (pv 0) pe_int (fun _ _ => rfl)) (pe_ix ix_list (pv 0) pe_int (fun _ _ => rfl)) (fun _ _ => rfl)) pa_nil)))
    (pss_cons (ps_asg (pe_op op_add (pe_ix ix_list (pv 0) pe_int (fun _ _ => rfl)) pe_int) (pg_sub (pv 0) pe_int set_list))
    (pss_cons (ps_if (pt_cmpR op_ge (pv 3) (pe_op op_pow pe_int pe_int) (nomark _)) (pss_cons (ps_asg (pe_op op_fdiv (pv 3) (pv 1)) (pg_sub (pv 0) pe_int set_list))
    (pss_one (ps_ret (pe_op op_mod (pe_callTy call_int1 (by rfl) T.n_int (by decide +kernel) (pa_cons (pv 3) pa_nil)) (pv 1))))) pss_nil)
    (pss_one (ps_asg (pe_op op_mod (pe_callTy call_int1 (by rfl) T.n_int (by decide +kernel) (pa_cons (pe_op op_add (pe_op op_add (pe_op op_mul (pe_ix ix_list (pv 0) pe_int (fun _ _ => rfl)) pe_int) (pv 3)) pe_int) pa_nil)) pe_int) (pg_sub (pv 0) pe_int set_list)))))) (pss_one (ps_asg (pe_op op_mod (pe_callTy call_int1 (by rfl) T.n_int (by decide +kernel) (pa_cons (pe_op op_add (pe_op op_mul (pe_ix ix_list (pv 0) pe_int (fun _ _ => rfl)) pe_int) pe_int) pa_nil)) pe_int) (pg_sub (pv 0) pe_int set_list))))
    (pss_one (ps_ret (pe_op op_mod (pe_op op_fdiv (pe_callTy call_int1 (by rfl) T.n_int (by decide +kernel) (pa_cons (pe_op op_mod (pe_op op_mul (pe_ix ix_list (pv 0) pe_int (fun _ _ => rfl)) pe_int) pe_int) pa_nil)) pe_int) (pv 1)))))), ?_⟩
  -- draw[2] > 0
  refine ⟨_, rfl, d, _, _, _, rfl, rfl, SqL.of hd, rfl, _, _, rfl, rfl, _, rfl, ?_⟩
  have put : ∀ (u : HO) (xs : List V), H d = some u → upd H d (.lst xs) d = some (.lst xs) := fun _ _ _ => upd_same
  refine ite2 (fun c => ?_) (fun c => ?_)
  · refine ⟨_, rfl, d, _, _, _, rfl, rfl, SqL.of hd, rfl, .inl ⟨_, rfl, _, rfl, _, _, rfl, rfl, m0, ?_⟩⟩
    refine ⟨_, rfl, d, _, _, _, rfl, rfl, SqL.of hd, rfl, _, rfl, _, _, rfl, rfl, ⟨m0, m1⟩, _, rfl, d, _, 2, 2, rfl, rfl, hd, rfl, _, rfl, ?_⟩
    refine q _ _ (Int.emod_nonneg _ (by omega)) (Int.emod_lt_of_pos _ m0) (fun _ e => by cases e) ⟨ns, p, b / m, z, upd_same, by rw [upd_ne ne.symm]; exact hs, p0, Int.ediv_nonneg b0 (by omega), z0, ne⟩
  · -- draw[1] < len(draw[0])
    refine ⟨_, rfl, d, _, _, _, rfl, rfl, SqL.of hd, rfl, _, rfl, d, _, _, _, rfl, rfl, SqL.of hd, rfl, sc, _, rfl, .inl (SqL.of hs), _, _, rfl, rfl, _, rfl, ?_⟩
    refine ite2 (fun c1 => ?_) (fun c1 => ?_)
    · have c1' : p < (((ns.map V.int).length : Nat) : Int) := of_decide_eq_true c1
      have hp : p.toNat < ns.length := by rw [List.length_map] at c1'; omega
      have hat : atI (ns.map V.int) p = some (.int ns[p.toNat]) := by
        exact at_of (j := p.toNat) (by omega) (by rw [List.getElem?_map, List.getElem?_eq_getElem hp]; rfl)
      have keep : ∀ x o, (upd (upd H d o) d x) = upd H d x := fun x o => upd_upd
      generalize hv : ns[p.toNat] = v at hat
      have hcell : (0 : Int) ≤ (if v < 0 then -v else v) := by split <;> omega
      refine ⟨_, rfl, d, _, _, _, rfl, rfl, SqL.of hd, rfl, _, rfl, d, _, _, _, rfl, rfl, SqL.of hd, rfl, sc, _, _, _, rfl, rfl, SqL.of hs, hat, _, rfl, ?_⟩
      generalize (if v < 0 then -v else v) = u at hcell
      refine ⟨_, rfl, d, _, _, _, rfl, rfl, SqL.of hd, rfl, _, _, rfl, rfl, _, rfl, d, _, 1, 1, rfl, rfl, hd, rfl, ?_⟩
      have hd1 : (upd H d (.lst (drawV sc (p + 1) b z))) d = some (.lst (drawV sc (p + 1) b z)) := upd_same
      have hs1 : ∀ o, (upd H d o) sc = some (.lst (ns.map V.int)) := fun o => by rw [upd_ne ne.symm]; exact hs
      refine ⟨_, rfl, _, _, rfl, rfl, ⟨by decide, by decide, by decide⟩, _, _, rfl, rfl, _, rfl, ?_⟩
      refine ite2 (fun c2 => ?_) (fun c2 => ?_)
      · refine ⟨_, rfl, _, rfl, _, _, rfl, rfl, ⟨m0, m1⟩, _, rfl, d, _, 2, 2, rfl, rfl, hd1, rfl, ?_⟩
        refine ⟨_, rfl, .inl ⟨_, rfl, _, rfl, _, _, rfl, rfl, m0, ?_⟩⟩
        rw [keep]
        exact q _ _ (Int.emod_nonneg _ (by omega)) (Int.emod_lt_of_pos _ m0) (fun _ e => by cases e) ⟨ns, p + 1, u / m, z, upd_same, hs1 _, by omega, Int.ediv_nonneg hcell (by omega), z0, ne⟩
      · refine ⟨_, rfl, d, _, _, _, rfl, rfl, SqL.of hd1, rfl, _, _, rfl, rfl, .inr ⟨by decide, by decide⟩, _, rfl, _, _, rfl, rfl, _, _, rfl, rfl, .inl ⟨_, rfl, _, _, rfl, rfl, (by show (0 : Int) < 2147483647; decide), ?_⟩⟩
        refine ⟨_, rfl, d, _, 3, 3, rfl, rfl, hd1, rfl, ?_⟩
        rw [keep]
        have hz0 : 0 ≤ (z * 48271 + u + 11) % 2147483647 := Int.emod_nonneg _ (by decide)
        refine ⟨_, rfl, d, _, _, _, rfl, rfl, SqL.of upd_same, rfl, _, _, rfl, rfl, .inr ⟨by decide, by decide⟩, _, _, rfl, rfl, (by show (0 : Int) < 2147483629; decide), .inl ⟨_, rfl, _, _, rfl, rfl, ⟨by decide, by decide⟩, _, rfl, _, _, rfl, rfl, m0, ?_⟩⟩
        exact q _ _ (Int.emod_nonneg _ (by omega)) (Int.emod_lt_of_pos _ m0) (fun _ e => by cases e) ⟨ns, p + 1, b, _, upd_same, hs1 _, by omega, b0, hz0, ne⟩
    · refine ⟨_, rfl, d, _, _, _, rfl, rfl, SqL.of hd, rfl, _, _, rfl, rfl, .inr ⟨by decide, by decide⟩, _, _, rfl, rfl, .inl ⟨_, rfl, _, _, rfl, rfl, (by show (0 : Int) < 2147483647; decide), ?_⟩⟩
      refine ⟨_, rfl, d, _, 3, 3, rfl, rfl, hd, rfl, ?_⟩
      have hz0 : 0 ≤ (z * 48271 + 12345) % 2147483647 := Int.emod_nonneg _ (by decide)
      refine ⟨_, rfl, d, _, _, _, rfl, rfl, SqL.of upd_same, rfl, _, _, rfl, rfl, .inr ⟨by decide, by decide⟩, _, _, rfl, rfl, (by show (0 : Int) < 2147483629; decide), .inl ⟨_, rfl, _, _, rfl, rfl, ⟨by decide, by decide⟩, _, rfl, _, _, rfl, rfl, m0, ?_⟩⟩
      exact q _ _ (Int.emod_nonneg _ (by omega)) (Int.emod_lt_of_pos _ m0) (fun _ e => by cases e) ⟨ns, p, b, _, upd_same, by rw [upd_ne ne.symm]; exact hs, p0, b0, hz0, ne⟩
end

/-! ### diagrams, in plain Lean: a list of nodes (entry, without, there); the condition c + 2 is the node at c, 0 never, 1 always -/
abbrev Node := Int × Nat × Nat
def ev (ns : List Node) (f : Int → Bool) (c : Nat) : Bool :=
  if c = 0 then false else if c = 1 then true else
    match ns[c - 2]? with
    | none => false
    | some n => if h : n.2.1 < c ∧ n.2.2 < c then (if f n.1 then ev ns f n.2.2 else ev ns f n.2.1) else false
termination_by c
decreasing_by
  · exact h.2
  · exact h.1
theorem ev_zero (ns : List Node) (f : Int → Bool) : ev ns f 0 = false := by rw [ev]; rfl
theorem ev_one (ns : List Node) (f : Int → Bool) : ev ns f 1 = true := by rw [ev]; rfl
theorem ev_node {ns : List Node} {c : Nat} {n : Node} (f : Int → Bool) (h : ns[c]? = some n) (h1 : n.2.1 < c + 2) (h2 : n.2.2 < c + 2) :
    ev ns f (c + 2) = if f n.1 then ev ns f n.2.2 else ev ns f n.2.1 := by
  rw [ev, if_neg (by omega), if_neg (by omega)]
  have e : c + 2 - 2 = c := by omega
  rw [e, h]
  show (if _ : n.2.1 < c + 2 ∧ n.2.2 < c + 2 then _ else _) = _
  rw [dif_pos ⟨h1, h2⟩]
/-- the node of a condition -/
def nod (ns : List Node) (c : Nat) : Option Node := if c < 2 then none else ns[c - 2]?
theorem nod_add {ns : List Node} {c : Nat} : nod ns (c + 2) = ns[c]? := by
  unfold nod
  rw [if_neg (by omega)]
  rfl
theorem nod_of {ns : List Node} {c : Nat} {n : Node} (h : nod ns c = some n) : ∃ i, c = i + 2 ∧ ns[i]? = some n := by
  unfold nod at h
  split at h
  · cases h
  · exact ⟨c - 2, by omega, h⟩
theorem nod_lt {ns : List Node} {c : Nat} {n : Node} (h : nod ns c = some n) : 2 ≤ c ∧ c < ns.length + 2 := by
  obtain ⟨i, rfl, e⟩ := nod_of h
  have := (List.getElem?_eq_some_iff.mp e).1
  omega
theorem nod_some {ns : List Node} {c : Nat} (h : c < ns.length + 2) (h2 : 2 ≤ c) : ∃ n, nod ns c = some n := by
  unfold nod
  rw [if_neg (by omega)]
  exact ⟨ns[c - 2], List.getElem?_eq_getElem (by omega)⟩
/-- e stands above what c asks -/
def Up (ns : List Node) (e : Int) (c : Nat) : Prop := ∀ n, nod ns c = some n → e < n.1
structure NOk (E : List Int) (ns : List Node) : Prop where
  lt : ∀ c n, nod ns c = some n → n.2.1 < c ∧ n.2.2 < c ∧ n.2.1 ≠ n.2.2
  en : ∀ c n, nod ns c = some n → n.1 ∈ E
  ord : ∀ c n, nod ns c = some n → Up ns n.1 n.2.1 ∧ Up ns n.1 n.2.2
  inj : ∀ c d n, nod ns c = some n → nod ns d = some n → c = d
theorem NOk.nil (E : List Int) : NOk E [] := by
  have h : ∀ c n, ¬ nod [] c = some n := fun c n h => by
    have := nod_lt h
    simp at this
    omega
  exact ⟨fun c n e => absurd e (h c n), fun c n e => absurd e (h c n), fun c n e => absurd e (h c n), fun c d n e => absurd e (h c n)⟩
theorem NOk.ev {E : List Int} {ns : List Node} (ok : NOk E ns) {c : Nat} {n : Node} (h : nod ns c = some n) (f : Int → Bool) :
    Lw.ev ns f c = if f n.1 then Lw.ev ns f n.2.2 else Lw.ev ns f n.2.1 := by
  obtain ⟨l1, l2, _⟩ := ok.lt c n h
  obtain ⟨i, rfl, e⟩ := nod_of h
  exact ev_node f e l1 l2
/-- nodes are only ever added -/
def Pre (ns ns' : List Node) : Prop := ∃ more, ns' = ns ++ more
theorem Pre.refl (ns : List Node) : Pre ns ns := ⟨[], (List.append_nil _).symm⟩
theorem Pre.trans {a b c : List Node} (h : Pre a b) (k : Pre b c) : Pre a c := by
  obtain ⟨m, rfl⟩ := h
  obtain ⟨m', rfl⟩ := k
  exact ⟨m ++ m', List.append_assoc ..⟩
theorem Pre.len {a b : List Node} (h : Pre a b) : a.length ≤ b.length := by
  obtain ⟨m, rfl⟩ := h
  rw [List.length_append]
  omega
theorem Pre.nod {a b : List Node} (h : Pre a b) {c : Nat} (hc : c < a.length + 2) : Lw.nod b c = Lw.nod a c := by
  obtain ⟨m, rfl⟩ := h
  unfold Lw.nod
  split
  · rfl
  · exact List.getElem?_append_left (by omega)
theorem Pre.nod_some {a b : List Node} (h : Pre a b) {c : Nat} {n : Node} (hc : Lw.nod a c = some n) : Lw.nod b c = some n := by
  rw [h.nod (nod_lt hc).2, hc]
theorem Pre.ev {E : List Int} {a b : List Node} (h : Pre a b) (oa : NOk E a) (ob : NOk E b) (f : Int → Bool) : ∀ c, c < a.length + 2 → Lw.ev b f c = Lw.ev a f c := by
  intro c
  induction c using Nat.strongRecOn with
  | ind c ih =>
    intro hc
    by_cases h2 : 2 ≤ c
    · obtain ⟨n, hn⟩ := Lw.nod_some hc h2
      obtain ⟨l1, l2, _⟩ := oa.lt c n hn
      rw [oa.ev hn, ob.ev (h.nod_some hn), ih _ l1 (by omega), ih _ l2 (by omega)]
    · have : c = 0 ∨ c = 1 := by omega
      rcases this with rfl | rfl
      · rw [ev_zero, ev_zero]
      · rw [ev_one, ev_one]
theorem Pre.up {a b : List Node} (h : Pre a b) {e : Int} {c : Nat} (hc : c < a.length + 2) (u : Up a e c) : Up b e c := fun n hn => u n (by rw [← h.nod hc]; exact hn)
/-- how many of E come from e on -/
def lev (E : List Int) (e : Int) : Nat := (E.filter fun x => decide (e ≤ x)).length
theorem lev_le (E : List Int) {e e' : Int} (h : e ≤ e') : lev E e' ≤ lev E e := by
  unfold lev
  induction E with
  | nil => exact Nat.le_refl _
  | cons x r ih =>
    rw [List.filter_cons, List.filter_cons]
    by_cases h1 : e' ≤ x
    · rw [if_pos (decide_eq_true h1), if_pos (decide_eq_true (by omega))]
      simp only [List.length_cons]
      omega
    · rw [if_neg (by simpa using h1)]
      split
      · simp only [List.length_cons]; omega
      · exact ih
theorem lev_lt {E : List Int} {e e' : Int} (h : e < e') (he : e ∈ E) : lev E e' < lev E e := by
  unfold lev
  induction E with
  | nil => cases he
  | cons x r ih =>
    rw [List.filter_cons, List.filter_cons]
    rcases List.mem_cons.mp he with rfl | hm
    · rw [if_neg (by simpa using h), if_pos (by simp)]
      have := lev_le r (Int.le_of_lt h)
      unfold lev at this
      simp only [List.length_cons]
      omega
    · have := ih hm
      by_cases h1 : e' ≤ x
      · rw [if_pos (decide_eq_true h1), if_pos (decide_eq_true (by omega))]
        simp only [List.length_cons]
        omega
      · rw [if_neg (by simpa using h1)]
        split
        · simp only [List.length_cons]; omega
        · exact this
theorem lev_pos {E : List Int} {e : Int} (he : e ∈ E) : 0 < lev E e := List.length_pos_iff.mpr (by
  intro z
  have : e ∈ E.filter fun x => decide (e ≤ x) := List.mem_filter.mpr ⟨he, by simp⟩
  rw [z] at this
  cases this)
theorem lev_all (E : List Int) (e : Int) : lev E e ≤ E.length := List.length_filter_le _ _
/-- c is a condition that asks at most d of E -/
def Bd (E : List Int) (ns : List Node) (d c : Nat) : Prop := c < ns.length + 2 ∧ ∀ n, nod ns c = some n → lev E n.1 ≤ d
theorem Bd.mono {E : List Int} {ns : List Node} {d d' c : Nat} (b : Bd E ns d c) (h : d ≤ d') : Bd E ns d' c := ⟨b.1, fun n e => Nat.le_trans (b.2 n e) h⟩
theorem Bd.pre {E : List Int} {a b : List Node} {d c : Nat} (h : Bd E a d c) (p : Pre a b) : Bd E b d c :=
  ⟨by have := p.len; have := h.1; omega, fun n e => h.2 n (by rw [← p.nod h.1]; exact e)⟩
theorem Bd.back {E : List Int} {a b : List Node} {d c : Nat} (h : Bd E b d c) (p : Pre a b) (hc : c < a.length + 2) : Bd E a d c :=
  ⟨hc, fun n e => h.2 n (p.nod_some e)⟩
theorem Bd.leaf {E : List Int} {ns : List Node} {d c : Nat} (h : c < 2) : Bd E ns d c := ⟨by omega, fun n e => by have := nod_lt e; omega⟩
theorem Bd.all {E : List Int} {ns : List Node} {c : Nat} (h : c < ns.length + 2) : Bd E ns E.length c := ⟨h, fun _ _ => lev_all _ _⟩
theorem Bd.up {E : List Int} {ns : List Node} {d c : Nat} {e : Int} (h : Bd E ns d c) (hd : d < lev E e) : Up ns e c := fun n hn => by
  by_cases q : e < n.1
  · exact q
  · have := lev_le E (e := n.1) (e' := e) (by omega)
    have := h.2 n hn
    omega
theorem Bd.of_up {E : List Int} {ns : List Node} {d c : Nat} {e : Int} (hc : c < ns.length + 2) (u : Up ns e c) (he : e ∈ E) (hd : lev E e ≤ d + 1) : Bd E ns d c :=
  ⟨hc, fun n hn => by have := lev_lt (u n hn) he; omega⟩
/-- the parts of a node -/
theorem Bd.kid {E : List Int} {ns : List Node} {d c : Nat} {n : Node} (ok : NOk E ns) (h : Bd E ns (d + 1) c) (hn : nod ns c = some n) : Bd E ns d n.2.1 ∧ Bd E ns d n.2.2 := by
  obtain ⟨l1, l2, _⟩ := ok.lt c n hn
  obtain ⟨u1, u2⟩ := ok.ord c n hn
  have hl := h.2 n hn
  have := h.1
  exact ⟨.of_up (by omega) u1 (ok.en c n hn) hl, .of_up (by omega) u2 (ok.en c n hn) hl⟩
/-- a node is added -/
theorem nod_snoc {ns : List Node} {m : Node} : nod (ns ++ [m]) (ns.length + 2) = some m := by
  rw [nod_add, List.getElem?_append_right (Nat.le_refl _), Nat.sub_self]
  rfl
theorem Pre.snoc (ns : List Node) (m : Node) : Pre ns (ns ++ [m]) := ⟨[m], rfl⟩
theorem nod_snoc_of {ns : List Node} {m n : Node} {c : Nat} (h : nod (ns ++ [m]) c = some n) : nod ns c = some n ∨ (c = ns.length + 2 ∧ n = m) := by
  have hl := nod_lt h
  rw [List.length_append, List.length_singleton] at hl
  by_cases hc : c < ns.length + 2
  · exact .inl (by rw [← (Pre.snoc ns m).nod hc]; exact h)
  · have e : c = ns.length + 2 := by omega
    subst e
    rw [nod_snoc] at h
    exact .inr ⟨rfl, (Option.some.inj h).symm⟩
theorem NOk.snoc {E : List Int} {ns : List Node} (ok : NOk E ns) {e : Int} {a b : Nat} (he : e ∈ E) (ha : a < ns.length + 2) (hb : b < ns.length + 2) (hab : a ≠ b) (ua : Up ns e a) (ub : Up ns e b)
    (hn : ∀ c, nod ns c ≠ some (e, a, b)) : NOk E (ns ++ [(e, a, b)]) where
  lt := fun c n h => by
    rcases nod_snoc_of h with h | ⟨rfl, rfl⟩
    · exact ok.lt c n h
    · exact ⟨ha, hb, hab⟩
  en := fun c n h => by
    rcases nod_snoc_of h with h | ⟨rfl, rfl⟩
    · exact ok.en c n h
    · exact he
  ord := fun c n h => by
    rcases nod_snoc_of h with h | ⟨rfl, rfl⟩
    · obtain ⟨l1, l2, _⟩ := ok.lt c n h
      have := nod_lt h
      obtain ⟨u1, u2⟩ := ok.ord c n h
      exact ⟨(Pre.snoc ns _).up (by omega) u1, (Pre.snoc ns _).up (by omega) u2⟩
    · exact ⟨(Pre.snoc ns _).up ha ua, (Pre.snoc ns _).up hb ub⟩
  inj := fun c d n h k => by
    rcases nod_snoc_of h with h | ⟨rfl, rfl⟩
    · rcases nod_snoc_of k with k | ⟨rfl, rfl⟩
      · exact ok.inj c d n h k
      · exact absurd h (hn c)
    · rcases nod_snoc_of k with k | ⟨rfl, _⟩
      · exact absurd k (hn d)
      · rfl
/-! forms -/
inductive Form where
  | and | or | differ
  deriving DecidableEq
def Form.str : Form → Str
  | .and => "and"
  | .or => "or"
  | .differ => "differ"
def Form.op : Form → Bool → Bool → Bool
  | .and, a, b => a && b
  | .or, a, b => a || b
  | .differ, a, b => a != b
theorem Form.comm (fm : Form) (a b : Bool) : fm.op a b = fm.op b a := by cases fm <;> cases a <;> cases b <;> rfl
theorem Form.str_inj {a b : Form} (h : a.str = b.str) : a = b := by
  cases a <;> cases b <;> first | rfl | exact absurd h (by decide +kernel)
/-- the plain cases -/
def Form.leaf : Form → Nat → Nat → Option Nat
  | .and, a, b => if a = 0 ∨ b = 0 then some 0 else if a = 1 then some b else if b = 1 ∨ a = b then some a else none
  | .or, a, b => if a = 1 ∨ b = 1 then some 1 else if a = 0 then some b else if b = 0 ∨ a = b then some a else none
  | .differ, a, b => if a = b then some 0 else if a = 0 then some b else if b = 0 then some a else none
theorem Form.leaf_ev {fm : Form} {a b r : Nat} (h : fm.leaf a b = some r) (ns : List Node) (f : Int → Bool) : ev ns f r = fm.op (ev ns f a) (ev ns f b) := by
  cases fm <;> (unfold Form.leaf at h; dsimp only at h; repeat' split at h) <;> cases h <;> dsimp only [Form.op]
  · rename_i c; rcases c with rfl | rfl <;> simp [ev_zero]
  · subst_vars; simp [ev_one]
  · rename_i c; rcases c with rfl | rfl <;> simp [ev_one]
  · rename_i c; rcases c with rfl | rfl <;> simp [ev_one]
  · subst_vars; simp [ev_zero]
  · rename_i c; rcases c with rfl | rfl <;> simp [ev_zero]
  · subst_vars; simp [ev_zero]
  · subst_vars; simp [ev_zero]
  · subst_vars; simp [ev_zero]
theorem Form.leaf_bd {fm : Form} {E : List Int} {ns : List Node} {a b r d : Nat} (h : fm.leaf a b = some r) (ha : Bd E ns d a) (hb : Bd E ns d b) : Bd E ns d r := by
  cases fm <;> (unfold Form.leaf at h; dsimp only at h; repeat' split at h) <;> cases h <;> first | assumption | exact Bd.leaf (by decide)
/-- what is left: not two leaves, and not the same -/
theorem Form.leaf_none {fm : Form} {a b : Nat} (h : fm.leaf a b = none) : a ≠ b ∧ a ≠ 0 ∧ b ≠ 0 ∧ (2 ≤ a ∨ 2 ≤ b) := by
  cases fm <;> (unfold Form.leaf at h; dsimp only at h; repeat' split at h) <;> first | omega | cases h
/-- what is kept of results -/
def Good (E : List Int) (ns : List Node) (fm : Form) (a b r : Nat) : Prop :=
  a < ns.length + 2 ∧ b < ns.length + 2 ∧ (∀ d, Bd E ns d a → Bd E ns d b → Bd E ns d r) ∧ ∀ f, ev ns f r = fm.op (ev ns f a) (ev ns f b)
theorem Good.pre {E : List Int} {ns ns' : List Node} {fm : Form} {a b r : Nat} (g : Good E ns fm a b r) (oa : NOk E ns) (ob : NOk E ns') (p : Pre ns ns') : Good E ns' fm a b r := by
  obtain ⟨h1, h2, h3, h4⟩ := g
  have hl := p.len
  have hr : r < ns.length + 2 := (h3 E.length (.all h1) (.all h2)).1
  refine ⟨by omega, by omega, fun d x y => (h3 d (x.back p h1) (y.back p h2)).pre p, fun f => ?_⟩
  rw [p.ev oa ob f _ hr, p.ev oa ob f _ h1, p.ev oa ob f _ h2]
  exact h4 f
theorem Good.swap {E : List Int} {ns : List Node} {fm : Form} {a b r : Nat} (g : Good E ns fm a b r) : Good E ns fm b a r := by
  obtain ⟨h1, h2, h3, h4⟩ := g
  exact ⟨h2, h1, fun d x y => h3 d y x, fun f => by rw [h4 f, fm.comm]⟩

/-! ### the store as it stands in the heap -/
structure SA where
  p : Addr
  dx : Addr
  l : Addr
  d1 : Addr
  d2 : Addr
abbrev SA.M (s : SA) : List Addr := [s.l, s.d1, s.d2]
theorem nN_nu : ¬ (("_nodes" : Str) = "_numbers") := by decide +kernel
theorem nN_re : ¬ (("_nodes" : Str) = "_results") := by decide +kernel
theorem nu_re : ¬ (("_numbers" : Str) = "_results") := by decide +kernel
def sf (l d1 d2 : Addr) : List (Str × V) := putF "_results" (.ref d2) (putF "_numbers" (.ref d1) (putF "_nodes" (.ref l) []))
theorem sf_eq (l d1 d2 : Addr) : sf l d1 d2 = ([("_nodes", V.ref l), ("_numbers", V.ref d1), ("_results", V.ref d2)] : List (Str × V)) := by
  have e1 : putF "_numbers" (V.ref d1) (putF "_nodes" (V.ref l) []) = ([("_nodes", V.ref l), ("_numbers", V.ref d1)] : List (Str × V)) := by
    show (if ("_nodes" : Str) = "_numbers" then [(("_nodes" : Str), V.ref d1)] else (("_nodes" : Str), V.ref l) :: putF "_numbers" (V.ref d1) []) = _
    rw [if_neg nN_nu]
    rfl
  unfold sf
  rw [e1]
  show (if ("_nodes" : Str) = "_results" then _ else (("_nodes" : Str), V.ref l) :: (if ("_numbers" : Str) = "_results" then _ else (("_numbers" : Str), V.ref d1) :: putF "_results" (V.ref d2) [])) = _
  rw [if_neg nN_re, if_neg nu_re]
  rfl
theorem sf_nodes (l d1 d2 : Addr) : (sf l d1 d2).lookup ("_nodes" : Str) = some (.ref l) := by
  unfold sf
  rw [lookup_putF, if_neg nN_re, lookup_putF, if_neg nN_nu, lookup_putF, if_pos rfl]
theorem sf_numbers (l d1 d2 : Addr) : (sf l d1 d2).lookup ("_numbers" : Str) = some (.ref d1) := by
  unfold sf
  rw [lookup_putF, if_neg nu_re, lookup_putF, if_pos rfl]
theorem sf_results (l d1 d2 : Addr) : (sf l d1 d2).lookup ("_results" : Str) = some (.ref d2) := by
  unfold sf
  rw [lookup_putF, if_pos rfl]
theorem sf_no (l d1 d2 : Addr) {m : Str} (h1 : ¬ m = "_results") (h2 : ¬ m = "_numbers") (h3 : ¬ m = "_nodes") : (sf l d1 d2).lookup m = none := by
  unfold sf
  rw [lookup_putF, if_neg h1, lookup_putF, if_neg h2, lookup_putF, if_neg h3]
  rfl
def tupV (n : Node) : List V := [.int n.1, .int (n.2.1 : Int), .int (n.2.2 : Int)]
def nk (n : Node) : List Key := [.inl n.1, .inl (n.2.1 : Int), .inl (n.2.2 : Int)]
def rk (fm : Form) (a b : Nat) : List Key := [.inr fm.str, .inl (a : Int), .inl (b : Int)]
theorem nk_inj {n m : Node} (h : nk n = nk m) : n = m := by
  obtain ⟨a, b, c⟩ := n
  obtain ⟨a', b', c'⟩ := m
  unfold nk at h
  simp only [List.cons.injEq, Sum.inl.injEq, and_true] at h
  obtain ⟨h1, h2, h3⟩ := h
  have h2' : b = b' := Int.ofNat.inj h2
  have h3' : c = c' := Int.ofNat.inj h3
  rw [h1, h2', h3']
theorem rk_inj {fm fm' : Form} {a b a' b' : Nat} (h : rk fm a b = rk fm' a' b') : fm = fm' ∧ a = a' ∧ b = b' := by
  unfold rk at h
  simp only [List.cons.injEq, Sum.inl.injEq, Sum.inr.injEq, and_true] at h
  obtain ⟨h1, h2, h3⟩ := h
  exact ⟨Form.str_inj h1, Int.ofNat.inj h2, Int.ofNat.inj h3⟩
def nodesV (as : List Addr) : List V := .non :: .non :: as.map V.ref
structure StoAt (C : Addr) (E : List Int) (s : SA) (H : Hp) (ns : List Node) (b : Nat) : Prop where
  ob : H s.p = some (.ins C s.dx (sf s.l s.d1 s.d2))
  ls : ∃ as : List Addr, H s.l = some (.lst (nodesV as)) ∧ as.length = ns.length ∧ ∀ (i : Nat) (a : Addr) (n : Node), as[i]? = some a → ns[i]? = some n → H a = some (.tup (tupV n))
  nu : ∃ kvs, H s.d1 = some (.dT kvs) ∧ kvs.length = ns.length ∧ (∀ c n, nod ns c = some n → valV kvs (nk n) = some (.int c)) ∧ ∀ n v, valV kvs (nk n) = some v → ∃ c : Nat, nod ns c = some n ∧ v = .int c
  re : ∃ kvs, H s.d2 = some (.dT kvs) ∧ kvs.length ≤ b ∧ ∀ fm x y v, valV kvs (rk fm x y) = some v → ∃ r : Nat, v = .int r ∧ Good E ns fm x y r
  ok : NOk E ns
  le : ns.length ≤ b
  ne : s.d1 ≠ s.d2
theorem StoAt.mono {C : Addr} {E : List Int} {s : SA} {H : Hp} {ns : List Node} {b b' : Nat} (S : StoAt C E s H ns b) (h : b ≤ b') : StoAt C E s H ns b' := by
  obtain ⟨kvs, h1, h2, h3⟩ := S.re
  exact ⟨S.ob, S.ls, S.nu, ⟨kvs, h1, Nat.le_trans h2 h, h3⟩, S.ok, Nat.le_trans S.le h, S.ne⟩
theorem StoAt.kp {C : Addr} {E : List Int} {s : SA} {H H' : Hp} {ns : List Node} {b : Nat} {M : List Addr} (S : StoAt C E s H ns b) (k : Kp M H H') (hp : s.p ∉ M) (hl : s.l ∉ M) (h1 : s.d1 ∉ M) (h2 : s.d2 ∉ M) : StoAt C E s H' ns b := by
  obtain ⟨as, a1, a2, a3⟩ := S.ls
  obtain ⟨kvs, b1, b2⟩ := S.nu
  obtain ⟨kvs', c1, c2⟩ := S.re
  exact ⟨k.k _ _ S.ob hp, ⟨as, k.k _ _ a1 hl, a2, fun i a n x y => k.t _ _ (a3 i a n x y)⟩, ⟨kvs, k.k _ _ b1 h1, b2⟩, ⟨kvs', k.k _ _ c1 h2, c2⟩, S.ok, S.le, S.ne⟩
theorem StoAt.p_ne {C : Addr} {E : List Int} {s : SA} {H : Hp} {ns : List Node} {b : Nat} (S : StoAt C E s H ns b) : s.p ∉ s.M := by
  obtain ⟨as, a1, _⟩ := S.ls
  obtain ⟨kvs, b1, _⟩ := S.nu
  obtain ⟨kvs', c1, _⟩ := S.re
  have o := S.ob
  intro h
  simp only [SA.M, List.mem_cons, List.not_mem_nil, or_false] at h
  rcases h with e | e | e
  · rw [e, a1] at o; cases o
  · rw [e, b1] at o; cases o
  · rw [e, c1] at o; cases o
/-- nothing but new objects -/
theorem StoAt.new {C : Addr} {E : List Int} {s : SA} {H H' : Hp} {ns : List Node} {b : Nat} (S : StoAt C E s H ns b) (k : Kp [] H H') : StoAt C E s H' ns b :=
  S.kp k (by simp) (by simp) (by simp) (by simp)
/-- a condition's node, read off the list -/
theorem StoAt.at {C : Addr} {E : List Int} {s : SA} {H : Hp} {ns : List Node} {b : Nat} (S : StoAt C E s H ns b) {c : Nat} {n : Node} (h : nod ns c = some n) :
    ∃ (as : List Addr) (a : Addr), H s.l = some (.lst (nodesV as)) ∧ atI (nodesV as) (c : Int) = some (.ref a) ∧ H a = some (.tup (tupV n)) := by
  obtain ⟨as, a1, a2, a3⟩ := S.ls
  obtain ⟨i, rfl, e⟩ := nod_of h
  have hi : i < as.length := by
    have := (List.getElem?_eq_some_iff.mp e).1
    omega
  refine ⟨as, as[i], a1, atI_nat ?_, a3 i _ n (List.getElem?_eq_getElem hi) e⟩
  show (as.map V.ref)[i]? = _
  rw [List.getElem?_map, List.getElem?_eq_getElem hi]
  rfl
theorem StoAt.at1 {C : Addr} {E : List Int} {s : SA} {H : Hp} {ns : List Node} {b : Nat} (S : StoAt C E s H ns b) : ∃ (as : List Addr), H s.l = some (.lst (nodesV as)) ∧ atI (nodesV as) ((1 : Nat) : Int) = some .non := by
  obtain ⟨as, a1, _⟩ := S.ls
  exact ⟨as, a1, atI_nat rfl⟩
/-- what make gives -/
def Made (ns : List Node) (e : Int) (u v c : Nat) : Prop := (u = v ∧ c = u) ∨ (u ≠ v ∧ nod ns c = some (e, u, v))
theorem Made.ev {E : List Int} {ns : List Node} {e : Int} {u v c : Nat} (m : Made ns e u v c) (ok : NOk E ns) (f : Int → Bool) : Lw.ev ns f c = if f e then Lw.ev ns f v else Lw.ev ns f u := by
  rcases m with ⟨rfl, rfl⟩ | ⟨_, h⟩
  · split <;> rfl
  · exact ok.ev h f
theorem Made.bd {E : List Int} {ns : List Node} {e : Int} {u v c d : Nat} (m : Made ns e u v c) (hu : u < ns.length + 2) (u1 : Up ns e u) (he : e ∈ E) (hd : lev E e ≤ d) : Bd E ns d c := by
  rcases m with ⟨rfl, rfl⟩ | ⟨_, h⟩
  · exact .of_up hu u1 he (by omega)
  · exact ⟨(nod_lt h).2, fun n hn => by rw [h] at hn; cases hn; exact hd⟩
theorem Made.pre {ns ns' : List Node} {e : Int} {u v c : Nat} (m : Made ns e u v c) (p : Pre ns ns') : Made ns' e u v c := by
  rcases m with h | ⟨h1, h2⟩
  · exact .inl h
  · exact .inr ⟨h1, p.nod_some h2⟩

/-! ### the promises -/
def spDinit (C : Addr) : Sp := fun vs H Q _ => ∃ (p dx : Addr), vs = [.ref p] ∧ H p = some (.ins C dx []) ∧
  ∀ (s : SA) (H' : Hp), s.p = p → H s.l = none → H s.d1 = none → H s.d2 = none → (∀ E, StoAt C E s H' [] 0) → (∀ b o, H b = some o → b ≠ p → H' b = some o) → Q .non H'
def spMake (C : Addr) : Sp := fun vs H Q _ => ∃ (E : List Int) (s : SA) (ns : List Node) (b : Nat) (e : Int) (u v : Nat), vs = [.ref s.p, .int e, .int u, .int v] ∧ StoAt C E s H ns b ∧
  e ∈ E ∧ u < ns.length + 2 ∧ v < ns.length + 2 ∧ Up ns e u ∧ Up ns e v ∧ b < 1000000 ∧
  ∀ (H' : Hp) (ns' : List Node) (c : Nat), Kp s.M H H' → StoAt C E s H' ns' (b + 1) → Pre ns ns' → Made ns' e u v c → Q (.int c) H'
def spThere (C : Addr) : Sp := fun vs H Q _ => ∃ (E : List Int) (s : SA) (ns : List Node) (b : Nat) (e : Int), vs = [.ref s.p, .int e] ∧ StoAt C E s H ns b ∧ e ∈ E ∧ b < 1000000 ∧
  ∀ (H' : Hp) (ns' : List Node) (c : Nat), Kp s.M H H' → StoAt C E s H' ns' (b + 1) → Pre ns ns' → c < ns'.length + 2 → (∀ f, ev ns' f c = f e) → Q (.int c) H'
def spNode (C : Addr) : Sp := fun vs H Q _ => ∃ (E : List Int) (s : SA) (ns : List Node) (b c : Nat) (n : Node), vs = [.ref s.p, .int c] ∧ StoAt C E s H ns b ∧ nod ns c = some n ∧
  ∀ (a : Addr), H a = some (.tup (tupV n)) → Q (.ref a) H
def spLeaf (fm : Form) : Sp := fun vs H Q _ => ∃ (a b : Nat), vs = [.int a, .int b] ∧ Q (match fm.leaf a b with | some r => .int r | none => .non) H
def spComb (C : Addr) (n : Nat) : Sp := fun vs H Q _ => ∃ (E : List Int) (s : SA) (ns : List Node) (b d : Nat) (fm : Form) (x y : Nat), vs = [.ref s.p, .str fm.str, .int x, .int y] ∧ StoAt C E s H ns b ∧
  Bd E ns d x ∧ Bd E ns d y ∧ 3 * d + 3 ≤ n ∧ b + 2 ^ (d + 1) ≤ 1000000 ∧
  ∀ (H' : Hp) (ns' : List Node) (r : Nat), Kp s.M H H' → StoAt C E s H' ns' (b + 2 ^ (d + 1) - 2) → Pre ns ns' → Good E ns' fm x y r → Q (.int r) H'
/-- the first one is a node whose entry comes first -/
def Lead (ns : List Node) (x y : Nat) : Prop := ∃ n, nod ns x = some n ∧ ∀ m, nod ns y = some m → n.1 ≤ m.1
def spSplit (C : Addr) (n : Nat) : Sp := fun vs H Q _ => ∃ (E : List Int) (s : SA) (ns : List Node) (b d : Nat) (fm : Form) (x y : Nat), vs = [.ref s.p, .str fm.str, .int x, .int y] ∧ StoAt C E s H ns b ∧
  Bd E ns d x ∧ Bd E ns d y ∧ x ≠ 0 ∧ y ≠ 0 ∧ ((Lead ns x y ∧ 3 * d + 1 ≤ n) ∨ (Lead ns y x ∧ 3 * d + 2 ≤ n)) ∧ b + 2 ^ (d + 1) ≤ 1000000 ∧
  ∀ (H' : Hp) (ns' : List Node) (r : Nat), Kp s.M H H' → StoAt C E s H' ns' (b + 2 ^ (d + 1) - 3) → Pre ns ns' → Good E ns' fm x y r → Q (.int r) H'
structure TSto (K : PySem.W.Frag) (w : World) (mg : Str → Option Value) (C : Addr) : Prop where
  cl : Cls K C
  a_nodes : NoAttr K C "_nodes"
  a_numbers : NoAttr K C "_numbers"
  a_results : NoAttr K C "_results"
  n_len : mg "len" = none
  n_min : mg "min" = none
  n_max : mg "max" = none
  n_list : mg "list" = none
  g_NEVER : ∃ u, mg "NEVER" = some u ∧ RelV (.int 0) u
  g_ALWAYS : ∃ u, mg "ALWAYS" = some u ∧ RelV (.int 1) u
theorem dI {i j : Int} (h : decide (V.int i = V.int j) = true) : i = j := V.int.inj (of_decide_eq_true h)
theorem nI {i j : Int} (h : ¬ decide (V.int i = V.int j) = true) : i ≠ j := fun e => h (decide_eq_true (congrArg V.int e))
theorem dN {i j : Nat} (h : decide (V.int (i : Int) = V.int (j : Int)) = true) : i = j := Int.ofNat.inj (dI h)
theorem nN {i j : Nat} (h : ¬ decide (V.int (i : Int) = V.int (j : Int)) = true) : i ≠ j := fun e => nI h (by rw [e])
section
variable {P : Program} {w : World} {K : PySem.W.Frag} {mg : Str → Option Value} {base : Heap} {C : Addr}
/-! ### plain cases -/
/-- the three defs of the table, as they stand -/
def GA (K : PySem.W.Frag) (x : Str) (st : Stmt) (f : Addr) (ps : List Str) : Prop := ∃ (fd : FuncData), Fun K x x st f fd ∧ Binds K fd ps []
theorem GA.held {x : Str} {st : Stmt} {f : Addr} {N ps : List Str} {k : Nat} {sp : Sp} (D : GA K x st f ps) (S : FnScope N ps (defScope st)) (len : ∀ vs H Q E, sp vs H Q E → vs.length = ps.length)
    (hbody : ∀ (cdv : Value) (A : Around) (outer : List Env) (s : Shared) (H : Hp) (vs : List V) (Q : VK) (E : XK),
      Room k (A.deeper (envOfC x (defScope st) s.heap.objs.size f cdv)) → sp vs H Q E →
      ∃ t, PSs (cxOf CX0 P w K mg base N x (defScope st) f cdv A outer s H E).nox (defBody st) t ∧ t { nx := fun _ H' => Q .non H', rt := Q } (start N vs) H) :
    Held P w K mg base (k + 1) f sp := by
  obtain ⟨fd, F, hb⟩ := D
  exact ⟨fd, ps, F.ok S len hbody, F.kp, hb⟩
structure TLeaf (mg : Str → Option Value) : Prop where
  g_NEVER : ∃ u, mg "NEVER" = some u ∧ RelV (.int 0) u
  g_ALWAYS : ∃ u, mg "ALWAYS" = some u ∧ RelV (.int 1) u
theorem ok_and_leaf {f : Addr} (D : GA K "and_leaf" sD_and_leaf f ["first", "second"]) (T : TLeaf mg) : Held P w K mg base 1 f (spLeaf .and) := by
  refine D.held sc_and_leaf (fun vs H Q E h => ?_) (fun cdv A outer s H vs Q E hr h => ?_)
  · obtain ⟨a, b, rfl, _⟩ := h
    rfl
  obtain ⟨a, b, rfl, q⟩ := h
  refine ⟨_, (pss_cons (ps_if (PW.pt (pw_or (pt_cmpR op_eq (pv 0) (pe_gc rfl T.g_NEVER) (nomark _)) (pw_or1 (pt_cmpR op_eq (pv 1) (pe_gc rfl T.g_NEVER) (nomark _))))) (pss_one (ps_ret (pe_gc rfl T.g_NEVER))) pss_nil)
    (pss_cons (ps_if (pt_cmpR op_eq (pv 0) (pe_gc rfl T.g_ALWAYS) (nomark _)) (pss_one (ps_ret (pv 1))) pss_nil)
    (pss_one (ps_ret (pe_ifExp (PW.pt (pw_or (pt_cmpR op_eq (pv 1) (pe_gc rfl T.g_ALWAYS) (nomark _)) (pw_or1 (pt_cmpR op_eq (pv 0) (pv 1) (nomark _))))) (pv 0) pe_non))))), ?_⟩
  unfold Form.leaf at q
  dsimp only at q
  refine ⟨_, rfl, rfl, _, rfl, ?_⟩
  refine ite2 (fun c => ?_) (fun c => ?_)
  · rw [if_pos (.inl (dN (j := 0) c))] at q
    exact iteT q
  refine ⟨_, rfl, rfl, _, rfl, ?_⟩
  refine ite2 (fun c2 => ?_) (fun c2 => ?_)
  · rw [if_pos (.inr (dN (j := 0) c2))] at q
    exact q
  rw [if_neg (fun z => z.elim (nN (j := 0) c) (nN (j := 0) c2))] at q
  refine ⟨_, rfl, rfl, _, rfl, ?_⟩
  refine ite2 (fun c3 => ?_) (fun c3 => ?_)
  · rw [if_pos (dN (j := 1) c3)] at q
    exact ⟨_, rfl, q⟩
  rw [if_neg (nN (j := 1) c3)] at q
  refine ⟨_, rfl, rfl, _, rfl, ?_⟩
  refine ite2 (fun c4 => ?_) (fun c4 => ?_)
  · rw [if_pos (.inl (dN (j := 1) c4))] at q
    exact iteT ⟨_, rfl, q⟩
  refine ⟨_, rfl, _, rfl, rfl, _, rfl, ?_⟩
  refine ite2 (fun c5 => ?_) (fun c5 => ?_)
  · rw [if_pos (.inr (dN c5))] at q
    exact ⟨_, rfl, q⟩
  · rw [if_neg (fun z => z.elim (nN (j := 1) c4) (nN c5))] at q
    exact q
theorem ok_or_leaf {f : Addr} (D : GA K "or_leaf" sD_or_leaf f ["first", "second"]) (T : TLeaf mg) : Held P w K mg base 1 f (spLeaf .or) := by
  refine D.held sc_or_leaf (fun vs H Q E h => ?_) (fun cdv A outer s H vs Q E hr h => ?_)
  · obtain ⟨a, b, rfl, _⟩ := h
    rfl
  obtain ⟨a, b, rfl, q⟩ := h
  refine ⟨_, (pss_cons (ps_if (PW.pt (pw_or (pt_cmpR op_eq (pv 0) (pe_gc rfl T.g_ALWAYS) (nomark _)) (pw_or1 (pt_cmpR op_eq (pv 1) (pe_gc rfl T.g_ALWAYS) (nomark _))))) (pss_one (ps_ret (pe_gc rfl T.g_ALWAYS))) pss_nil)
    (pss_cons (ps_if (pt_cmpR op_eq (pv 0) (pe_gc rfl T.g_NEVER) (nomark _)) (pss_one (ps_ret (pv 1))) pss_nil)
    (pss_one (ps_ret (pe_ifExp (PW.pt (pw_or (pt_cmpR op_eq (pv 1) (pe_gc rfl T.g_NEVER) (nomark _)) (pw_or1 (pt_cmpR op_eq (pv 0) (pv 1) (nomark _))))) (pv 0) pe_non))))), ?_⟩
  unfold Form.leaf at q
  dsimp only at q
  refine ⟨_, rfl, rfl, _, rfl, ?_⟩
  refine ite2 (fun c => ?_) (fun c => ?_)
  · rw [if_pos (.inl (dN (j := 1) c))] at q
    exact iteT q
  refine ⟨_, rfl, rfl, _, rfl, ?_⟩
  refine ite2 (fun c2 => ?_) (fun c2 => ?_)
  · rw [if_pos (.inr (dN (j := 1) c2))] at q
    exact q
  rw [if_neg (fun z => z.elim (nN (j := 1) c) (nN (j := 1) c2))] at q
  refine ⟨_, rfl, rfl, _, rfl, ?_⟩
  refine ite2 (fun c3 => ?_) (fun c3 => ?_)
  · rw [if_pos (dN (j := 0) c3)] at q
    exact ⟨_, rfl, q⟩
  rw [if_neg (nN (j := 0) c3)] at q
  refine ⟨_, rfl, rfl, _, rfl, ?_⟩
  refine ite2 (fun c4 => ?_) (fun c4 => ?_)
  · rw [if_pos (.inl (dN (j := 0) c4))] at q
    exact iteT ⟨_, rfl, q⟩
  refine ⟨_, rfl, _, rfl, rfl, _, rfl, ?_⟩
  refine ite2 (fun c5 => ?_) (fun c5 => ?_)
  · rw [if_pos (.inr (dN c5))] at q
    exact ⟨_, rfl, q⟩
  · rw [if_neg (fun z => z.elim (nN (j := 0) c4) (nN c5))] at q
    exact q
theorem ok_differ_leaf {f : Addr} (D : GA K "differ_leaf" sD_differ_leaf f ["first", "second"]) (T : TLeaf mg) : Held P w K mg base 1 f (spLeaf .differ) := by
  refine D.held sc_differ_leaf (fun vs H Q E h => ?_) (fun cdv A outer s H vs Q E hr h => ?_)
  · obtain ⟨a, b, rfl, _⟩ := h
    rfl
  obtain ⟨a, b, rfl, q⟩ := h
  refine ⟨_, (pss_cons (ps_if (pt_cmpR op_eq (pv 0) (pv 1) (nomark _)) (pss_one (ps_ret (pe_gc rfl T.g_NEVER))) pss_nil)
    (pss_cons (ps_if (pt_cmpR op_eq (pv 0) (pe_gc rfl T.g_NEVER) (nomark _)) (pss_one (ps_ret (pv 1))) pss_nil)
    (pss_one (ps_ret (pe_ifExp (pt_cmpR op_eq (pv 1) (pe_gc rfl T.g_NEVER) (nomark _)) (pv 0) pe_non))))), ?_⟩
  unfold Form.leaf at q
  dsimp only at q
  refine ⟨_, rfl, _, rfl, rfl, _, rfl, ?_⟩
  refine ite2 (fun c => ?_) (fun c => ?_)
  · rw [if_pos (dN c)] at q
    exact q
  rw [if_neg (nN c)] at q
  refine ⟨_, rfl, rfl, _, rfl, ?_⟩
  refine ite2 (fun c2 => ?_) (fun c2 => ?_)
  · rw [if_pos (dN (j := 0) c2)] at q
    exact ⟨_, rfl, q⟩
  rw [if_neg (nN (j := 0) c2)] at q
  refine ⟨_, rfl, rfl, _, rfl, ?_⟩
  refine ite2 (fun c3 => ?_) (fun c3 => ?_)
  · rw [if_pos (dN (j := 0) c3)] at q
    exact ⟨_, rfl, q⟩
  · rw [if_neg (nN (j := 0) c3)] at q
    exact q
/-! ### the store is made -/
theorem ok_Dinit {f : Addr} {fd : FuncData} (F : Fun K "__init__" "Diagrams.__init__" sD_Dinit f fd) (T : TSto K w mg C) : FnOk P w K mg base CX0 1 f fd ["self"] (spDinit C) := by
  refine F.ok sc_Dinit (fun vs H Q E h => ?_) (fun cdv A outer s H vs Q E hr h => ?_)
  · obtain ⟨p, dx, rfl, _⟩ := h
    rfl
  obtain ⟨p, dx, rfl, hp, q⟩ := h
  refine ⟨_, (pss_cons (ps_fld (pv 0) (pe_lst (pa_cons pe_non (pa_cons pe_non pa_nil))) rfl)
    (pss_cons (ps_fld (pv 0) pe_dnewT rfl)
    (pss_one (ps_fld (pv 0) pe_dnewT rfl)))), ?_⟩
  refine ⟨(by show 2 ≤ sizeLine; decide), fun l hl => ?_⟩
  have npl : p ≠ l := ne_of_none hp hl
  refine ⟨_, rfl, p, C, dx, [], rfl, (by rw [upd_ne npl]; exact hp), T.cl, T.a_nodes, (by show 0 < 1000; decide), fun d1 h1 => ?_⟩
  have np1 : p ≠ d1 := ne_of_none upd_same h1
  have nl1 : l ≠ d1 := fun e => by rw [← e, upd_ne npl.symm, upd_same] at h1; cases h1
  have h1' : H d1 = Option.none := by rw [upd_ne np1.symm, upd_ne nl1.symm] at h1; exact h1
  refine ⟨_, rfl, p, C, dx, _, rfl, (by rw [upd_ne np1]; exact upd_same), T.cl, T.a_numbers, (by show 1 < 1000; decide), fun d2 h2 => ?_⟩
  have np2 : p ≠ d2 := ne_of_none upd_same h2
  have n12 : d1 ≠ d2 := fun e => by rw [← e, upd_ne np1.symm, upd_same] at h2; cases h2
  have nl2 : l ≠ d2 := fun e => by rw [← e, upd_ne npl.symm, upd_ne nl1, upd_ne npl.symm, upd_same] at h2; cases h2
  have h2' : H d2 = Option.none := by rw [upd_ne np2.symm, upd_ne n12.symm, upd_ne np2.symm, upd_ne nl2.symm] at h2; exact h2
  refine ⟨_, rfl, p, C, dx, _, rfl, (by rw [upd_ne np2]; exact upd_same), T.cl, T.a_results, (by show 2 < 1000; decide), ?_⟩
  refine q ⟨p, dx, l, d1, d2⟩ _ rfl hl h1' h2' (fun E => ⟨upd_same, ⟨[], ?_, rfl, fun i a n h => by simp at h⟩, ⟨[], ?_, rfl, fun c n h => ?_, fun n v h => ?_⟩, ⟨[], ?_, Nat.le_refl _, fun fm x y v h => ?_⟩, .nil E, Nat.le_refl _, n12⟩) (fun b o e hb => ?_)
  · show upd _ p _ l = _
    rw [upd_ne npl.symm, upd_ne nl2, upd_ne npl.symm, upd_ne nl1, upd_ne npl.symm, upd_same]
    rfl
  · show upd _ p _ d1 = _
    rw [upd_ne np1.symm, upd_ne n12, upd_ne np1.symm, upd_same]
  · have := nod_lt h
    simp at this
    omega
  · cases h
  · show upd _ p _ d2 = _
    rw [upd_ne np2.symm, upd_same]
  · cases h
  · rw [upd_ne hb, upd_ne (ne_of_none e h2'), upd_ne hb, upd_ne (ne_of_none e h1'), upd_ne hb, upd_ne (ne_of_none e hl)]
    exact e
/-! ### make, there, node -/
theorem ok_make (D : GM K C "make" "Diagrams.make" sD_Dmake ["self", "entry", "without", "there"]) (T : TSto K w mg C) : Met P w K mg base 1 C "make" (spMake C) [] := by
  refine D.met T.cl sc_Dmake (fun vs H Q E h => ?_) (fun f cdv A outer s0 H vs Q E hr h => ?_)
  · obtain ⟨E, s, ns, b, e, u, v, rfl, _⟩ := h
    rfl
  obtain ⟨E, s, ns, b, e, u, v, rfl, S, he, hu0, hv0, u1, u2, hb, q⟩ := h
  have hu := hu_of hr
  refine ⟨_, (pss_cons (ps_if (pt_cmpR op_eq (pv 2) (pv 3) (nomark _)) (pss_one (ps_ret (pv 2))) pss_nil)
    (pss_cons (ps_set (i := 4) sc_Dmake.nd rfl (Or.inl rfl) (pe_tup (pa_cons (pv 1) (pa_cons (pv 2) (pa_cons (pv 3) pa_nil)))))
    (pss_cons (ps_if (pt_cmp (pc_dnotin hu (pv 4) (pe_fld (pv 0) rfl))) (pss_cons (ps_dput hu (pe_fld (pv 0) rfl) (pv 4) (pe_callB call_len_seq (by rfl) T.n_len (by decide +kernel) (pa_cons (pe_fld (pv 0) rfl) pa_nil)) rfl)
    (pss_one (ps_expr (pe_bm PySem.F.plainAttrs_list PySem.F.slot_list_append PySem.F.type_list_append mt_append (pe_fld (pv 0) rfl) (pa_cons (pv 4) pa_nil))))) pss_nil)
    (pss_one (ps_ret (pe_dget hu (pe_fld (pv 0) rfl) (pv 4) (fun _ _ => rfl))))))), ?_⟩
  refine ⟨_, rfl, _, rfl, rfl, _, rfl, ?_⟩
  refine ite2 (fun c => ?_) (fun c => ?_)
  · exact ⟨_, rfl, q H ns u .refl (S.mono (Nat.le_succ _)) (.refl _) (.inl ⟨dN c, rfl⟩)⟩
  have huv : u ≠ v := nN c
  refine ⟨_, rfl, _, rfl, _, rfl, (by show 3 ≤ sizeLine; decide), fun k hk => ?_⟩
  obtain ⟨as, a1, a2, a3⟩ := S.ls
  obtain ⟨kvs, b1, b2, b3, b4⟩ := S.nu
  obtain ⟨kvs', c1, c2, c3⟩ := S.re
  have nkp : s.p ≠ k := ne_of_none S.ob hk
  have nkl : s.l ≠ k := ne_of_none a1 hk
  have nk1 : s.d1 ≠ k := ne_of_none b1 hk
  have nk2 : s.d2 ≠ k := ne_of_none c1 hk
  have nl1 : s.l ≠ s.d1 := ne_of a1 b1 (by intro z; cases z)
  have nl2 : s.l ≠ s.d2 := ne_of a1 c1 (by intro z; cases z)
  have np1 : s.p ≠ s.d1 := ne_of S.ob b1 (by intro z; cases z)
  have npl : s.p ≠ s.l := ne_of S.ob a1 (by intro z; cases z)
  generalize hH1 : upd H k (.tup [.int e, .int (u : Int), .int (v : Int)]) = H1
  have k1 : Kp s.M H H1 := by rw [← hH1]; exact .new hk
  have hk1 : H1 k = some (.tup ((nk (e, u, v)).map kV)) := by rw [← hH1]; exact upd_same
  have ob1 : H1 s.p = some (.ins C s.dx (sf s.l s.d1 s.d2)) := by rw [← hH1, upd_ne nkp]; exact S.ob
  have a11 : H1 s.l = some (.lst (nodesV as)) := by rw [← hH1, upd_ne nkl]; exact a1
  have b11 : H1 s.d1 = some (.dT kvs) := by rw [← hH1, upd_ne nk1]; exact b1
  refine ⟨_, rfl, _, rfl, s.p, C, s.dx, _, _, rfl, ob1, T.cl, T.a_numbers, sf_numbers _ _ _, s.d1, _, rfl, DGet.t b11 hk1, _, rfl, ?_⟩
  cases ek : valV kvs (nk (e, u, v)) with
  | some z =>
    refine iteF ?_
    obtain ⟨c0, hc0, rfl⟩ := b4 _ _ ek
    refine ⟨_, rfl, s.p, C, s.dx, _, _, rfl, ob1, T.cl, T.a_numbers, sf_numbers _ _ _, _, rfl, s.d1, _, rfl, by rw [← ek]; exact DGet.t b11 hk1, ?_⟩
    exact q H1 ns c0 k1 ((S.kp (M := []) (by rw [← hH1]; exact .new hk) (by simp) (by simp) (by simp) (by simp)).mono (Nat.le_succ _)) (.refl _) (.inr ⟨huv, hc0⟩)
  | none =>
    refine iteT ?_
    have hkl : kvs.length < sizeLine := Nat.lt_of_le_of_lt (show kvs.length ≤ 1000000 by rw [b2]; exact Nat.le_trans S.le (Nat.le_of_lt hb)) (by decide)
    refine ⟨_, rfl, s.p, C, s.dx, _, _, rfl, ob1, T.cl, T.a_nodes, sf_nodes _ _ _, s.l, _, rfl, .inl (SqL.of a11), _, rfl, s.p, C, s.dx, _, _, rfl, ob1, T.cl, T.a_numbers, sf_numbers _ _ _, _, rfl, s.d1, _, rfl, DPut.t b11 hk1 hkl, ?_⟩
    have el : ((nodesV as).length : Int) = ((ns.length + 2 : Nat) : Int) := by
      unfold nodesV
      simp only [List.length_cons, List.length_map]
      omega
    rw [el]
    generalize hH2 : upd H1 s.d1 (.dT (putK kvs (nk (e, u, v)) (V.int ((ns.length + 2 : Nat) : Int)))) = H2
    have ob2 : H2 s.p = some (.ins C s.dx (sf s.l s.d1 s.d2)) := by rw [← hH2, upd_ne np1]; exact ob1
    have a12 : H2 s.l = some (.lst (nodesV as)) := by rw [← hH2, upd_ne nl1]; exact a11
    have hln : (nodesV as).length < sizeLine := Nat.lt_of_le_of_lt (show (nodesV as).length ≤ 1000002 by
      unfold nodesV
      simp only [List.length_cons, List.length_map]
      have := S.le
      omega) (by decide)
    refine ⟨_, rfl, s.p, C, s.dx, _, _, rfl, ob2, T.cl, T.a_nodes, sf_nodes _ _ _, .inl ⟨rfl, _, SqL.of a12⟩, _, rfl, s.l, _, _, rfl, rfl, a12, hln, ?_⟩
    have ez : nodesV as ++ [V.ref k] = nodesV (as ++ [k]) := by unfold nodesV; rw [List.map_append]; rfl
    rw [ez]
    generalize hH3 : upd H2 s.l (.lst (nodesV (as ++ [k]))) = H3
    have ob3 : H3 s.p = some (.ins C s.dx (sf s.l s.d1 s.d2)) := by rw [← hH3, upd_ne npl]; exact ob2
    have b13 : H3 s.d1 = some (.dT (putK kvs (nk (e, u, v)) (V.int ((ns.length + 2 : Nat) : Int)))) := by rw [← hH3, upd_ne nl1.symm, ← hH2, upd_same]
    have hk3 : H3 k = some (.tup ((nk (e, u, v)).map kV)) := by rw [← hH3, upd_ne nkl.symm, ← hH2, upd_ne nk1.symm]; exact hk1
    have k12 : Kp s.M H1 H2 := by rw [← hH2]; exact .put (by simp) b11 (fun xs z => by cases z)
    have k23 : Kp s.M H2 H3 := by rw [← hH3]; exact .put (by simp) a12 (fun xs z => by cases z)
    have kk := (k1.trans k12).trans k23
    have ev1 : valV (putK kvs (nk (e, u, v)) (V.int ((ns.length + 2 : Nat) : Int))) (nk (e, u, v)) = some (V.int ((ns.length + 2 : Nat) : Int)) := by rw [valV_put, if_pos rfl]
    refine ⟨_, rfl, s.p, C, s.dx, _, _, rfl, ob3, T.cl, T.a_numbers, sf_numbers _ _ _, _, rfl, s.d1, _, rfl, by rw [← ev1]; exact DGet.t b13 hk3, ?_⟩
    have ok' : NOk E (ns ++ [(e, u, v)]) := S.ok.snoc he hu0 hv0 huv u1 u2 fun c0 h0 => by rw [b3 c0 _ h0] at ek; cases ek
    refine q H3 (ns ++ [(e, u, v)]) (ns.length + 2) kk ⟨ob3, ⟨as ++ [k], by rw [← hH3]; exact upd_same, by rw [List.length_append, List.length_append, a2]; rfl, fun i a n x y => ?_⟩, ⟨_, b13, ?_, fun c0 n h0 => ?_, fun n z h0 => ?_⟩, ⟨kvs', ?_, by omega, fun fm x y z h0 => ?_⟩, ok', ?_, S.ne⟩ (.snoc ns _) (.inr ⟨huv, nod_snoc⟩)
    · by_cases hi : i < as.length
      · rw [List.getElem?_append_left hi] at x
        rw [List.getElem?_append_left (by omega)] at y
        exact kk.t _ _ (a3 i a n x y)
      · have hi2 := (List.getElem?_eq_some_iff.mp x).1
        rw [List.length_append, List.length_singleton] at hi2
        have ei : i = as.length := by omega
        subst ei
        rw [List.getElem?_append_right (Nat.le_refl _), Nat.sub_self] at x
        rw [a2, List.getElem?_append_right (Nat.le_refl _), Nat.sub_self] at y
        cases x
        cases y
        exact hk3
    · rw [putK_new _ ek, List.length_append, List.length_append, b2]
      rfl
    · rw [valV_put]
      rcases nod_snoc_of h0 with h0 | ⟨rfl, rfl⟩
      · rw [if_neg fun z => ?_]
        · exact b3 c0 n h0
        · rw [nk_inj z] at h0
          rw [b3 c0 _ h0] at ek
          cases ek
      · rw [if_pos rfl]
    · rw [valV_put] at h0
      split at h0
      · rename_i z1
        cases h0
        rw [nk_inj z1]
        exact ⟨_, nod_snoc, rfl⟩
      · obtain ⟨c1, x1, x2⟩ := b4 n z h0
        exact ⟨c1, (Pre.snoc ns _).nod_some x1, x2⟩
    · rw [← hH3, upd_ne nl2.symm, ← hH2, upd_ne S.ne.symm, ← hH1, upd_ne nk2]
      exact c1
    · obtain ⟨r, x1, x2⟩ := c3 fm x y z h0
      exact ⟨r, x1, x2.pre S.ok ok' (.snoc ns _)⟩
    · rw [List.length_append, List.length_singleton]
      have := S.le
      omega
theorem ok_there (D : GM K C "there" "Diagrams.there" sD_Dthere ["self", "entry"]) (T : TSto K w mg C) (m_make : Met P w K mg base 1 C "make" (spMake C) []) : Met P w K mg base 2 C "there" (spThere C) [] := by
  refine D.met T.cl sc_Dthere (fun vs H Q E h => ?_) (fun f cdv A outer s0 H vs Q E hr h => ?_)
  · obtain ⟨E, s, ns, b, e, rfl, _⟩ := h
    rfl
  obtain ⟨E, s, ns, b, e, rfl, S, he, hb, q⟩ := h
  refine ⟨_, (pss_one (ps_ret (pe_mt m_make hr (by omega) (pv 0) (pa_cons (pv 1) (pa_cons (pe_gc rfl T.g_NEVER) (pa_cons (pe_gc rfl T.g_ALWAYS) pa_nil)))))), ?_⟩
  have no : ∀ c : Nat, c < 2 → Up ns e c := fun c hc n hn => by have := nod_lt hn; omega
  refine ⟨_, rfl, s.p, s.dx, _, rfl, S.ob, sf_no _ _ _ (by decide +kernel) (by decide +kernel) (by decide +kernel), _, rfl, E, s, ns, b, e, 0, 1, rfl, S, he, by omega, by omega, no 0 (by omega), no 1 (by omega), hb, fun H' ns' c k S' p m => ?_⟩
  refine q H' ns' c k S' p ?_ fun f => ?_
  · rcases m with ⟨h, _⟩ | ⟨_, h⟩
    · cases h
    · exact (nod_lt h).2
  · rw [m.ev S'.ok, ev_one, ev_zero]
    cases f e <;> rfl
theorem ok_node (D : GM K C "node" "Diagrams.node" sD_Dnode ["self", "condition"]) (T : TSto K w mg C) : Met P w K mg base 1 C "node" (spNode C) [] := by
  refine D.met T.cl sc_Dnode (fun vs H Q E h => ?_) (fun f cdv A outer s0 H vs Q E hr h => ?_)
  · obtain ⟨E, s, ns, b, c, n, rfl, _⟩ := h
    rfl
  obtain ⟨E, s, ns, b, c, n, rfl, S, hn, q⟩ := h
  refine ⟨_, (pss_one (ps_ret (pe_ix ix_list (pe_fld (pv 0) rfl) (pv 1) (fun _ _ => rfl)))), ?_⟩
  obtain ⟨as, a, h1, h2, h3⟩ := S.at hn
  exact ⟨_, rfl, s.p, C, s.dx, _, _, rfl, S.ob, T.cl, T.a_nodes, sf_nodes _ _ _, _, rfl, s.l, _, _, _, rfl, rfl, SqL.of h1, h2, q a h3⟩
end

/-! ### combining -/
/-- what the table of the plain cases is: its address, its three defs -/
structure TTab (P : Program) (K : PySem.W.Frag) (w : World) (mg : Str → Option Value) (base : Heap) (aL : Addr) (fa : Form → Addr) : Prop where
  g_LEAVES : ∃ u, mg "LEAVES" = some u ∧ RelV (.ref aL) u
  kd : ∀ fm : Form, KDct K w aL fm.str (.ref (fa fm))
  held : ∀ fm : Form, Held P w K mg base 1 (fa fm) (spLeaf fm)
theorem Lead.or {ns : List Node} {x y : Nat} (hx : x < ns.length + 2) (hy : y < ns.length + 2) (h : 2 ≤ x ∨ 2 ≤ y) : Lead ns x y ∨ Lead ns y x := by
  by_cases x2 : 2 ≤ x
  · obtain ⟨n, hn⟩ := nod_some hx x2
    by_cases y2 : 2 ≤ y
    · obtain ⟨m, hm⟩ := nod_some hy y2
      by_cases q : n.1 ≤ m.1
      · exact .inl ⟨n, hn, fun k hk => by rw [hm] at hk; cases hk; exact q⟩
      · exact .inr ⟨m, hm, fun k hk => by rw [hn] at hk; cases hk; omega⟩
    · exact .inl ⟨n, hn, fun k hk => by have := nod_lt hk; omega⟩
  · obtain ⟨m, hm⟩ := nod_some hy (by omega)
    exact .inr ⟨m, hm, fun k hk => by have := nod_lt hk; omega⟩
theorem pow2_pos (d : Nat) : 2 ≤ 2 ^ (d + 1) := by
  have : 0 < 2 ^ d := Nat.pos_of_ne_zero (by simp)
  rw [Nat.pow_succ]
  omega
theorem Held.up {P : Program} {w : World} {K : PySem.W.Frag} {mg : Str → Option Value} {base : Heap} {i j : Nat} {f : Addr} {sp : Sp} (h : Held P w K mg base i f sp) (hij : i ≤ j) : Held P w K mg base j f sp := by
  obtain ⟨fd, ps, F, r⟩ := h.ex
  exact ⟨fd, ps, F.mono hij, r⟩
section
variable {P : Program} {w : World} {K : PySem.W.Frag} {mg : Str → Option Value} {base : Heap} {C aL : Addr} {fa : Form → Addr}
theorem ok_combined {n : Nat} (D : GM K C "_combined" "Diagrams._combined" sD_Dcombined ["self", "form", "first", "second"]) (T1 : TSto K w mg C) (T2 : TTab P K w mg base aL fa)
    (m_split : Met P w K mg base n C "_split" (spSplit C n) []) : Met P w K mg base (n + 1) C "_combined" (spComb C (n + 1)) [] := by
  refine D.met T1.cl sc_Dcombined (fun vs H Q E h => ?_) (fun f cdv A outer s0 H vs Q E hr h => ?_)
  · obtain ⟨E, s, ns, b, d, fm, x, y, rfl, _⟩ := h
    rfl
  obtain ⟨E, s, ns, b, d, fm, x, y, rfl, S, bx, byy, hn, hb, q⟩ := h
  have hu := hu_of hr
  have T := T1
  have A_action : ∀ f sp, (fun g => if g = fa fm then some (spLeaf fm) else none) f = some sp → Held P w K mg base n f sp := fun f sp h => by
    dsimp only at h
    split at h
    · rename_i e
      cases h
      rw [e]
      exact Held.up (T2.held fm) (by omega)
    · cases h
  refine ⟨_, (pss_cons (ps_set (i := 4) sc_Dcombined.nd rfl (Or.inl rfl) (pe_ix ix_kdict (pe_gc rfl T2.g_LEAVES) (pv 1) (fun _ _ => rfl)))
    (pss_cons (ps_set (i := 5) sc_Dcombined.nd rfl (Or.inl rfl) (pe_callA (i := 4) A_action hr rfl (Or.inl rfl) (pa_cons (pv 2) (pa_cons (pv 3) pa_nil))))
    (pss_cons (ps_if (pt_cmp (pc_notN (pv 5))) (pss_one (ps_ret (pv 5))) pss_nil)
    (pss_cons (ps_set (i := 6) sc_Dcombined.nd rfl (Or.inl rfl) (pe_tup (pa_cons (pv 1) (pa_cons (pe_callB (call_min2 rfl) (by rfl) T.n_min (by decide +kernel) (pa_cons (pv 2) (pa_cons (pv 3) pa_nil))) (pa_cons (pe_callB (call_max2 rfl) (by rfl) T.n_max (by decide +kernel) (pa_cons (pv 2) (pa_cons (pv 3) pa_nil))) pa_nil)))))
    (pss_cons (ps_if (pt_cmp (pc_dnotin hu (pv 6) (pe_fld (pv 0) rfl))) (pss_one (ps_dput hu (pe_fld (pv 0) rfl) (pv 6) (pe_mt m_split hr (by omega) (pv 0) (pa_cons (pv 1) (pa_cons (pv 2) (pa_cons (pv 3) pa_nil)))) rfl)) pss_nil)
    (pss_one (ps_ret (pe_dget hu (pe_fld (pv 0) rfl) (pv 6) (fun _ _ => rfl))))))))), ?_⟩
  refine ⟨_, rfl, aL, _, _, rfl, rfl, T2.kd fm, ?_⟩
  refine ⟨fa fm, spLeaf fm, rfl, if_pos rfl, _, rfl, _, rfl, x, y, rfl, ?_⟩
  have hp2 := pow2_pos d
  cases el : fm.leaf x y with
  | some r =>
    refine ⟨_, rfl, _, rfl, ?_⟩
    refine iteT ⟨_, rfl, ?_⟩
    exact q H ns r .refl (S.mono (by omega)) (.refl _) ⟨bx.1, byy.1, fun d' h1 h2 => Form.leaf_bd el h1 h2, fun f => Form.leaf_ev el ns f⟩
  | none =>
    refine ⟨_, rfl, _, rfl, ?_⟩
    refine iteF ?_
    obtain ⟨hxy, x0, y0, h2⟩ := Form.leaf_none el
    have hd1 : 1 ≤ d := by
      rcases Lead.or bx.1 byy.1 h2 with ⟨m, hm, _⟩ | ⟨m, hm, _⟩
      · have := bx.2 m hm; have := lev_pos (S.ok.en x m hm); omega
      · have := byy.2 m hm; have := lev_pos (S.ok.en y m hm); omega
    have hp4 : 4 ≤ 2 ^ (d + 1) := by
      rw [show d + 1 = (d - 1 + 1) + 1 by omega, Nat.pow_succ]
      have := pow2_pos (d - 1)
      omega
    obtain ⟨lo, hi, e1, e2, hh⟩ : ∃ lo hi : Nat, (if (y : Int) < (x : Int) then (y : Int) else (x : Int)) = lo ∧ (if (y : Int) > (x : Int) then (y : Int) else (x : Int)) = hi ∧ ((lo = x ∧ hi = y) ∨ (lo = y ∧ hi = x)) := by
      by_cases hlt : y < x
      · exact ⟨y, x, by rw [if_pos (by omega)], by rw [if_neg (by omega)], .inr ⟨rfl, rfl⟩⟩
      · exact ⟨x, y, by rw [if_neg (by omega)], by rw [if_pos (by omega)], .inl ⟨rfl, rfl⟩⟩
    refine ⟨_, rfl, _, rfl, _, rfl, _, _, rfl, _, rfl, _, rfl, _, _, rfl, (by show 3 ≤ sizeLine; decide), fun k hk => ?_⟩
    rw [e1, e2]
    obtain ⟨kvs', c1, c2, c3⟩ := S.re
    have nk2 : s.d2 ≠ k := ne_of_none c1 hk
    generalize hH1 : upd H k _ = H1
    have k1 : Kp [] H H1 := by rw [← hH1]; exact .new hk
    have hk1 : H1 k = some (.tup ((rk fm lo hi).map kV)) := by rw [← hH1]; exact upd_same
    have S1 := S.new k1
    have c11 : H1 s.d2 = some (.dT kvs') := k1.k _ _ c1 (by simp)
    have kM : Kp s.M H H1 := k1.wide (by simp)
    refine ⟨_, rfl, _, rfl, s.p, C, s.dx, _, _, rfl, S1.ob, T.cl, T.a_results, sf_results _ _ _, s.d2, _, rfl, DGet.t c11 hk1, _, rfl, ?_⟩
    have good : ∀ {ns' r}, Good E ns' fm lo hi r → Good E ns' fm x y r := fun g => by
      rcases hh with ⟨rfl, rfl⟩ | ⟨rfl, rfl⟩
      · exact g
      · exact g.swap
    have good' : ∀ {ns' r}, Good E ns' fm x y r → Good E ns' fm lo hi r := fun g => by
      rcases hh with ⟨rfl, rfl⟩ | ⟨rfl, rfl⟩
      · exact g
      · exact g.swap
    cases ek : valV kvs' (rk fm lo hi) with
    | some z =>
      refine iteF ?_
      obtain ⟨r, rfl, g⟩ := c3 _ _ _ _ ek
      refine ⟨_, rfl, s.p, C, s.dx, _, _, rfl, S1.ob, T.cl, T.a_results, sf_results _ _ _, _, rfl, s.d2, _, rfl, by rw [← ek]; exact DGet.t c11 hk1, ?_⟩
      exact q H1 ns r kM (S1.mono (by omega)) (.refl _) (good g)
    | none =>
      refine iteT ?_
      refine ⟨_, rfl, s.p, s.dx, _, rfl, S1.ob, sf_no _ _ _ (by decide +kernel) (by decide +kernel) (by decide +kernel), _, rfl, _, rfl, _, rfl, E, s, ns, b, d, fm, x, y, rfl, S1, bx, byy, x0, y0, ?_, hb, fun H2 ns2 r k2 S2 p2 g => ?_⟩
      · rcases Lead.or bx.1 byy.1 h2 with l | l
        · exact .inl ⟨l, by omega⟩
        · exact .inr ⟨l, by omega⟩
      obtain ⟨kvs2, c21, c22, c23⟩ := S2.re
      have hk2 : H2 k = some (.tup ((rk fm lo hi).map kV)) := k2.t _ _ hk1
      have hsz : kvs2.length < sizeLine := Nat.lt_of_le_of_lt (show kvs2.length ≤ 1000000 by omega) (by decide)
      refine ⟨_, rfl, s.p, C, s.dx, _, _, rfl, S2.ob, T.cl, T.a_results, sf_results _ _ _, _, rfl, s.d2, _, rfl, DPut.t c21 hk2 hsz, ?_⟩
      generalize hH3 : upd H2 s.d2 _ = H3
      have k3 : Kp [s.d2] H2 H3 := by rw [← hH3]; exact .put (by simp) c21 (fun xs z => by cases z)
      have hk3 : H3 k = some (.tup ((rk fm lo hi).map kV)) := k3.t _ _ hk2
      have c31 : H3 s.d2 = some (.dT (putK kvs2 (rk fm lo hi) (V.int r))) := by rw [← hH3]; exact upd_same
      have ev1 : valV (putK kvs2 (rk fm lo hi) (V.int r)) (rk fm lo hi) = some (V.int r) := by rw [valV_put, if_pos rfl]
      obtain ⟨as, a1, a2, a3⟩ := S2.ls
      obtain ⟨kvs3, b1, b2⟩ := S2.nu
      have nl2 : s.l ≠ s.d2 := ne_of a1 c21 (by intro z; cases z)
      have np2 : s.p ≠ s.d2 := ne_of S2.ob c21 (by intro z; cases z)
      have ob3 : H3 s.p = some (.ins C s.dx (sf s.l s.d1 s.d2)) := k3.k _ _ S2.ob (by simpa using np2)
      refine ⟨_, rfl, s.p, C, s.dx, _, _, rfl, ob3, T.cl, T.a_results, sf_results _ _ _, _, rfl, s.d2, _, rfl, by rw [← ev1]; exact DGet.t c31 hk3, ?_⟩
      have hl := length_putK kvs2 (rk fm lo hi) (V.int r)
      refine q H3 ns2 r ((kM.trans k2).trans (k3.wide (by simp))) ⟨ob3, ⟨as, k3.k _ _ a1 (by simpa using nl2), a2, fun i a n x y => k3.t _ _ (a3 i a n x y)⟩, ⟨kvs3, k3.k _ _ b1 (by simpa using S.ne), b2⟩, ⟨_, c31, by omega, fun fm' x' y' z h0 => ?_⟩, S2.ok, by have := S2.le; omega, S.ne⟩ p2 g
      rw [valV_put] at h0
      split at h0
      · rename_i z1
        cases h0
        obtain ⟨rfl, rfl, rfl⟩ := rk_inj z1
        exact ⟨r, rfl, good' g⟩
      · exact c23 fm' x' y' z h0
/-- two nodes of one entry, or the later one below it: the parts -/
structure Kids (E : List Int) (ns : List Node) (e : Int) (d y y1 y2 : Nat) : Prop where
  b1 : Bd E ns d y1
  b2 : Bd E ns d y2
  ev : ∀ f, Lw.ev ns f y = if f e then Lw.ev ns f y2 else Lw.ev ns f y1
  up1 : Up ns e y1
  up2 : Up ns e y2
  bd : ∀ d', lev E e ≤ d' + 1 → Bd E ns d' y1 ∧ Bd E ns d' y2
theorem Kids.of {E : List Int} {ns : List Node} {d y : Nat} {n : Node} (ok : NOk E ns) (h : nod ns y = some n) (hd : lev E n.1 ≤ d + 1) : Kids E ns n.1 d y n.2.1 n.2.2 := by
  obtain ⟨l1, l2, _⟩ := ok.lt y n h
  obtain ⟨u1, u2⟩ := ok.ord y n h
  have := nod_lt h
  have hh : ∀ d', lev E n.1 ≤ d' + 1 → Bd E ns d' n.2.1 ∧ Bd E ns d' n.2.2 := fun d' h' => ⟨.of_up (by omega) u1 (ok.en y n h) h', .of_up (by omega) u2 (ok.en y n h) h'⟩
  exact ⟨(hh d hd).1, (hh d hd).2, fun f => ok.ev h f, u1, u2, hh⟩
theorem Kids.dup {E : List Int} {ns : List Node} {e : Int} {d y : Nat} (hy : y < ns.length + 2) (u : Up ns e y) (he : e ∈ E) (hd : lev E e ≤ d + 1) : Kids E ns e d y y y :=
  have hh : ∀ d', lev E e ≤ d' + 1 → Bd E ns d' y ∧ Bd E ns d' y := fun d' h' => ⟨.of_up hy u he h', .of_up hy u he h'⟩
  ⟨(hh d hd).1, (hh d hd).2, fun f => by split <;> rfl, u, u, hh⟩
theorem ok_split {n : Nat} (D : GM K C "_split" "Diagrams._split" sD_Dsplit ["self", "form", "first", "second"]) (T : TSto K w mg C) (m_make : Met P w K mg base 1 C "make" (spMake C) [])
    (m_split : Met P w K mg base n C "_split" (spSplit C n) []) (m_combined : Met P w K mg base n C "_combined" (spComb C n) []) : Met P w K mg base (n + 1) C "_split" (spSplit C (n + 1)) [] := by
  refine D.met T.cl sc_Dsplit (fun vs H Q E h => ?_) (fun f cdv A outer s0 H vs Q E hr h => ?_)
  · obtain ⟨E, s, ns, b, d, fm, x, y, rfl, _⟩ := h
    rfl
  obtain ⟨E, s, ns, b, d, fm, x, y, rfl, S, bx, byy, x0, y0, hlead, hb, q⟩ := h
  have hd1 : 1 ≤ d := by
    rcases hlead with ⟨⟨m, hm, _⟩, _⟩ | ⟨⟨m, hm, _⟩, _⟩
    · have := bx.2 m hm; have := lev_pos (S.ok.en x m hm); omega
    · have := byy.2 m hm; have := lev_pos (S.ok.en y m hm); omega
  have hn1 : 1 ≤ n := by omega
  refine ⟨_, (pss_cons (ps_set (i := 4) sc_Dsplit.nd rfl (Or.inl rfl) (pe_ix ix_list (pe_fld (pv 0) rfl) (pv 2) (fun _ _ => rfl)))
    (pss_cut (ps_set (i := 5) sc_Dsplit.nd rfl (Or.inl rfl) (pe_ifExp (pt_cmpR op_gt (pv 3) pe_int (nomark _)) (pe_ix ix_list (pe_fld (pv 0) rfl) (pv 3) (fun _ _ => rfl)) pe_non))
    (pss_cut (ps_if (PW.pt (pw_or (pt_cmp (pc_isN (pv 4))) (pw_or1 (PW.pt (pw_and (pt_cmp (pc_notN (pv 5))) (pw_and1 (pt_cmpR op_lt (pe_ix ix_tup (pv 5) pe_int (fun _ _ => rfl)) (pe_ix ix_tup (pv 4) pe_int (fun _ _ => rfl)) (nomark _)))))))) (pss_one (ps_ret (pe_mt m_split hr (by omega) (pv 0) (pa_cons (pv 1) (pa_cons (pv 3) (pa_cons (pv 2) pa_nil)))))) pss_nil)
    (pss_cut (ps_if (PW.pt (pw_or (pt_cmp (pc_isN (pv 5))) (pw_or1 (pt_cmpR op_lt (pe_ix ix_tup (pv 4) pe_int (fun _ _ => rfl)) (pe_ix ix_tup (pv 5) pe_int (fun _ _ => rfl)) (nomark _))))) (pss_one (ps_set (i := 5) sc_Dsplit.nd rfl (Or.inl rfl) (pe_tup (pa_cons (pe_ix ix_tup (pv 4) pe_int (fun _ _ => rfl)) (pa_cons (pv 3) (pa_cons (pv 3) pa_nil)))))) pss_nil)
    (pss_cons (ps_set (i := 6) sc_Dsplit.nd rfl (Or.inl rfl) (pe_mt m_combined hr (by omega) (pv 0) (pa_cons (pv 1) (pa_cons (pe_ix ix_tup (pv 4) pe_int (fun _ _ => rfl)) (pa_cons (pe_ix ix_tup (pv 5) pe_int (fun _ _ => rfl)) pa_nil)))))
    (pss_one (ps_ret (pe_mt m_make hr (by omega) (pv 0) (pa_cons (pe_ix ix_tup (pv 4) pe_int (fun _ _ => rfl)) (pa_cons (pv 6) (pa_cons (pe_mt m_combined hr (by omega) (pv 0) (pa_cons (pv 1) (pa_cons (pe_ix ix_tup (pv 4) pe_int (fun _ _ => rfl)) (pa_cons (pe_ix ix_tup (pv 5) pe_int (fun _ _ => rfl)) pa_nil)))) pa_nil))))))))))), ?_⟩
  have mth : ∀ {m : Str}, ¬ m = "_results" → ¬ m = "_numbers" → ¬ m = "_nodes" → (sf s.l s.d1 s.d2).lookup m = none := fun h1 h2 h3 => sf_no _ _ _ h1 h2 h3
  -- the value of a condition's place
  have val : ∀ c : Nat, c < ns.length + 2 → c ≠ 0 → ∃ (as : List Addr) (v : V), H s.l = some (.lst (nodesV as)) ∧ atI (nodesV as) (c : Int) = some v ∧ ((c = 1 ∧ v = .non) ∨ ∃ a m, v = .ref a ∧ nod ns c = some m ∧ H a = some (.tup (tupV m))) := fun c hc h0 => by
    by_cases hc2 : 2 ≤ c
    · obtain ⟨m, hm⟩ := nod_some hc hc2
      obtain ⟨as, a, h1, h2, h3⟩ := S.at hm
      exact ⟨as, _, h1, h2, .inr ⟨a, m, rfl, hm, h3⟩⟩
    · obtain ⟨as, h1, h2⟩ := S.at1
      have : c = 1 := by omega
      subst this
      exact ⟨as, _, h1, h2, .inl ⟨rfl, rfl⟩⟩
  obtain ⟨as, v1, hl, hv1, cv1⟩ := val x bx.1 x0
  obtain ⟨as', v2, hl', hv2, cv2⟩ := val y byy.1 y0
  have fl := fun {H' : Hp} (ob : H' s.p = some (.ins C s.dx (sf s.l s.d1 s.d2))) => ob
  refine ⟨_, rfl, s.p, C, s.dx, _, _, rfl, S.ob, T.cl, T.a_nodes, sf_nodes _ _ _, _, rfl, s.l, _, _, _, rfl, rfl, SqL.of hl, hv1, ?_⟩
  -- two
  refine ⟨fun σ' H' => σ' = [some (.ref s.p), some (.str fm.str), some (.int x), some (.int y), some v1, some v2, none] ∧ H' = H, ?_, ?_⟩
  · refine ⟨_, rfl, _, _, rfl, rfl, _, rfl, ?_⟩
    refine ite2 (fun c => ?_) (fun c => ?_)
    · exact ⟨_, rfl, s.p, C, s.dx, _, _, rfl, S.ob, T.cl, T.a_nodes, sf_nodes _ _ _, _, rfl, s.l, _, _, _, rfl, rfl, SqL.of hl', hv2, rfl, rfl⟩
    · have c' : ¬ (y : Int) > 1 := fun z => c (decide_eq_true z)
      rcases cv2 with ⟨_, rfl⟩ | ⟨a, m, rfl, hm, _⟩
      · exact ⟨rfl, rfl⟩
      · have := nod_lt hm
        omega
  rintro σ' H' ⟨rfl, rfl⟩
  -- the first one comes first
  refine ⟨fun σ' H1 => σ' = [some (.ref s.p), some (.str fm.str), some (.int x), some (.int y), some v1, some v2, none] ∧ H1 = H' ∧ Lead ns x y ∧ 3 * d ≤ n, ?_, ?_⟩
  · rcases cv1 with ⟨rfl, rfl⟩ | ⟨a1, m1, rfl, hm1, ha1⟩
    · -- one is None
      refine ⟨_, rfl, _, rfl, ?_⟩
      refine iteT ?_
      refine iteT ?_
      rcases hlead with ⟨⟨m, hm, _⟩, _⟩ | ⟨l, hl3⟩
      · have := nod_lt hm
        omega
      · exact ⟨_, rfl, s.p, s.dx, _, rfl, S.ob, mth (by decide +kernel) (by decide +kernel) (by decide +kernel), _, rfl, _, rfl, _, rfl, E, s, ns, b, d, fm, y, 1, rfl, S, byy, bx, y0, x0, .inl ⟨l, by omega⟩, hb, fun H2 ns2 r k2 S2 p2 g => q H2 ns2 r k2 S2 p2 g.swap⟩
    · refine ⟨_, rfl, _, rfl, ?_⟩
      refine iteF ?_
      rcases cv2 with ⟨rfl, rfl⟩ | ⟨a2, m2, rfl, hm2, ha2⟩
      · -- two is None
        refine ⟨_, rfl, _, rfl, ?_⟩
        refine iteF ?_
        refine iteF ?_
        refine ⟨rfl, rfl, ⟨m1, hm1, fun k hk => by have := nod_lt hk; omega⟩, ?_⟩
        rcases hlead with ⟨_, h⟩ | ⟨⟨m, hm, _⟩, _⟩
        · omega
        · have := nod_lt hm
          omega
      · refine ⟨_, rfl, _, rfl, ?_⟩
        refine iteT ?_
        refine ⟨_, rfl, a2, _, _, _, rfl, rfl, SqT.of ha2, rfl, _, rfl, a1, _, _, _, rfl, rfl, SqT.of ha1, rfl, _, _, rfl, rfl, _, rfl, ?_⟩
        refine ite2 (fun c => ?_) (fun c => ?_)
        · have c' : m2.1 < m1.1 := of_decide_eq_true c
          rcases hlead with ⟨⟨m, hm, hle⟩, _⟩ | ⟨l, hl3⟩
          · rw [hm1] at hm
            cases hm
            have := hle m2 hm2
            omega
          · exact ⟨_, rfl, s.p, s.dx, _, rfl, S.ob, mth (by decide +kernel) (by decide +kernel) (by decide +kernel), _, rfl, _, rfl, _, rfl, E, s, ns, b, d, fm, y, x, rfl, S, byy, bx, y0, x0, .inl ⟨l, by omega⟩, hb, fun H2 ns2 r k2 S2 p2 g => q H2 ns2 r k2 S2 p2 g.swap⟩
        · have c' : ¬ m2.1 < m1.1 := fun z => c (decide_eq_true z)
          refine ⟨rfl, rfl, ⟨m1, hm1, fun k hk => by rw [hm2] at hk; cases hk; omega⟩, ?_⟩
          rcases hlead with ⟨_, h⟩ | ⟨_, h⟩ <;> omega
  rintro σ' H1 ⟨rfl, rfl, ⟨m1, hm1, hle⟩, h3⟩
  rcases cv1 with ⟨rfl, rfl⟩ | ⟨a1, m1', rfl, hm1', ha1⟩
  · have := nod_lt hm1
    omega
  rw [hm1] at hm1'
  cases hm1'
  have he := S.ok.en x m1 hm1
  have hlev := bx.2 m1 hm1
  -- the parts of both
  refine ⟨fun σ' H2 => ∃ (a2 : Addr) (y1 y2 : Nat) (z : V), σ' = [some (.ref s.p), some (.str fm.str), some (.int x), some (.int y), some (.ref a1), some (.ref a2), none] ∧ Kp [] H1 H2 ∧ H2 a2 = some (.tup [z, .int y1, .int y2]) ∧ Kids E ns m1.1 (d - 1) y y1 y2, ?_, ?_⟩
  · have dup : ∀ u : Up ns m1.1 y, Kids E ns m1.1 (d - 1) y y y := fun u => .dup byy.1 u he (by omega)
    rcases cv2 with ⟨rfl, rfl⟩ | ⟨a2, m2, rfl, hm2, ha2⟩
    · refine ⟨_, rfl, _, rfl, ?_⟩
      refine iteT ?_
      refine iteT ?_
      refine ⟨_, rfl, a1, _, _, _, rfl, rfl, SqT.of ha1, rfl, _, rfl, _, rfl, (by show 3 ≤ sizeLine; decide), fun k hk => ?_⟩
      exact ⟨k, 1, 1, _, rfl, .new hk, upd_same, dup fun k hk => by have := nod_lt hk; omega⟩
    · refine ⟨_, rfl, _, rfl, ?_⟩
      refine iteF ?_
      refine ⟨_, rfl, a1, _, _, _, rfl, rfl, SqT.of ha1, rfl, _, rfl, a2, _, _, _, rfl, rfl, SqT.of ha2, rfl, _, _, rfl, rfl, _, rfl, ?_⟩
      refine ite2 (fun c => ?_) (fun c => ?_)
      · have c' : m1.1 < m2.1 := of_decide_eq_true c
        refine ⟨_, rfl, a1, _, _, _, rfl, rfl, SqT.of ha1, rfl, _, rfl, _, rfl, (by show 3 ≤ sizeLine; decide), fun k hk => ?_⟩
        exact ⟨k, y, y, _, rfl, .new hk, upd_same, dup fun k hk => by rw [hm2] at hk; cases hk; exact c'⟩
      · have c' : ¬ m1.1 < m2.1 := fun z => c (decide_eq_true z)
        have e : m1.1 = m2.1 := by have := hle m2 hm2; omega
        exact ⟨a2, m2.2.1, m2.2.2, _, rfl, .refl, ha2, by rw [e]; exact .of S.ok hm2 (by have := byy.2 m2 hm2; omega)⟩
  rintro σ' H2 ⟨a2, y1, y2, z, rfl, k12, ha2, kid⟩
  have S2 := S.new k12
  have kx := Kids.of (d := d - 1) S.ok hm1 (by omega)
  have ha1' : H2 a1 = some (.tup (tupV m1)) := k12.t _ _ ha1
  have hpd : 2 ^ (d + 1) = 2 * 2 ^ (d - 1 + 1) := by
    rw [show d + 1 = (d - 1 + 1) + 1 by omega, Nat.pow_succ]
    omega
  have hpp := pow2_pos (d - 1)
  generalize hpw : 2 ^ (d - 1 + 1) = pw at hpd hpp
  rw [hpd] at hb q
  have hd3 : 3 * (d - 1) + 3 ≤ n := by omega
  refine ⟨_, rfl, s.p, s.dx, _, rfl, S2.ob, mth (by decide +kernel) (by decide +kernel) (by decide +kernel), _, rfl, _, rfl, a1, _, _, _, rfl, rfl, SqT.of ha1', rfl, _, rfl, a2, _, _, _, rfl, rfl, SqT.of ha2, rfl, ?_⟩
  refine ⟨E, s, ns, b, d - 1, fm, m1.2.1, y1, rfl, S2, kx.b1, kid.b1, hd3, by rw [hpw]; omega, fun H3 ns3 r1 k3 S3 p3 g3 => ?_⟩
  have ha13 : H3 a1 = some (.tup (tupV m1)) := k3.t _ _ ha1'
  have ha23 : H3 a2 = some (.tup [z, .int y1, .int y2]) := k3.t _ _ ha2
  rw [hpw] at S3
  refine ⟨_, rfl, s.p, s.dx, _, rfl, S3.ob, mth (by decide +kernel) (by decide +kernel) (by decide +kernel), _, rfl, a1, _, _, _, rfl, rfl, SqT.of ha13, rfl, _, rfl, ?_⟩
  refine ⟨_, rfl, s.p, s.dx, _, rfl, S3.ob, mth (by decide +kernel) (by decide +kernel) (by decide +kernel), _, rfl, _, rfl, a1, _, _, _, rfl, rfl, SqT.of ha13, rfl, _, rfl, a2, _, _, _, rfl, rfl, SqT.of ha23, rfl, ?_⟩
  refine ⟨E, s, ns3, b + pw - 2, d - 1, fm, m1.2.2, y2, rfl, S3, kx.b2.pre p3, kid.b2.pre p3, hd3, by rw [hpw]; omega, fun H4 ns4 r2 k4 S4 p4 g4 => ?_⟩
  rw [hpw] at S4
  have p34 := p3.trans p4
  have g3' : Good E ns4 fm m1.2.1 y1 r1 := g3.pre S3.ok S4.ok p4
  -- both parts stand below the entry
  obtain ⟨D, hD⟩ : ∃ D, lev E m1.1 = D + 1 := ⟨lev E m1.1 - 1, by have := lev_pos he; omega⟩
  have r1b : Bd E ns4 D r1 := g3'.2.2.1 D ((kx.bd D (by omega)).1.pre p34) ((kid.bd D (by omega)).1.pre p34)
  have r2b : Bd E ns4 D r2 := g4.2.2.1 D ((kx.bd D (by omega)).2.pre p34) ((kid.bd D (by omega)).2.pre p34)
  refine ⟨E, s, ns4, _, m1.1, r1, r2, rfl, S4, he, r1b.1, r2b.1, r1b.up (by omega), r2b.up (by omega), by omega, fun H5 ns5 c k5 S5 p5 md => ?_⟩
  have p45 := p34.trans p5
  have kk : Kp s.M H1 H5 := (((k12.wide (by simp)).trans k3).trans k4).trans k5
  refine q H5 ns5 c kk (S5.mono (by omega)) p45 ⟨(bx.pre p45).1, (byy.pre p45).1, fun d' h1 h2 => ?_, fun f => ?_⟩
  · have hle' : lev E m1.1 ≤ d' := h1.2 m1 (p45.nod_some hm1)
    exact md.bd (r1b.pre p5).1 ((r1b.pre p5).up (by omega)) he hle'
  · have e1 := g3'.2.2.2 f
    have e2 := g4.2.2.2 f
    have l1 := r1b.1
    have l2 := r2b.1
    have kxe := kx.ev f
    have kie := kid.ev f
    have t1 := p45.ev S.ok S5.ok f x bx.1
    have t2 := p45.ev S.ok S5.ok f y byy.1
    have t3 := p34.ev S.ok S4.ok f _ kx.b1.1
    have t4 := p34.ev S.ok S4.ok f _ kx.b2.1
    have t5 := p34.ev S.ok S4.ok f _ kid.b1.1
    have t6 := p34.ev S.ok S4.ok f _ kid.b2.1
    rw [md.ev S5.ok f, p5.ev S4.ok S5.ok f _ l1, p5.ev S4.ok S5.ok f _ l2, e1, e2, t1, t2, kxe, kie, t3, t4, t5, t6]
    cases f m1.1 <;> rfl
theorem ok_both (Dc : GM K C "_combined" "Diagrams._combined" sD_Dcombined ["self", "form", "first", "second"]) (Ds : GM K C "_split" "Diagrams._split" sD_Dsplit ["self", "form", "first", "second"])
    (T1 : TSto K w mg C) (T2 : TTab P K w mg base aL fa) (m_make : Met P w K mg base 1 C "make" (spMake C) []) :
    ∀ n, Met P w K mg base n C "_combined" (spComb C n) [] ∧ Met P w K mg base n C "_split" (spSplit C n) []
  | 0 => by
    have n1 : ∀ vs H Q E, ¬ spComb C 0 vs H Q E := fun vs H Q E h => by
      obtain ⟨E, s, ns, b, d, fm, x, y, _, _, _, _, h, _⟩ := h
      omega
    have n2 : ∀ vs H Q E, ¬ spSplit C 0 vs H Q E := fun vs H Q E h => by
      obtain ⟨E, s, ns, b, d, fm, x, y, _, _, _, _, _, _, h, _⟩ := h
      rcases h with ⟨_, h⟩ | ⟨_, h⟩ <;> omega
    obtain ⟨f, fd, F, hm, hb⟩ := Dc
    obtain ⟨f', fd', F', hm', hb'⟩ := Ds
    exact ⟨⟨f, fd, _, [], T1.cl, hm, ⟨fun vs H Q E h => absurd h (n1 vs H Q E), fun A outer s H args us vs Q E _ _ _ _ h => absurd h (n1 vs H Q E)⟩, hb, .nil⟩,
      ⟨f', fd', _, [], T1.cl, hm', ⟨fun vs H Q E h => absurd h (n2 vs H Q E), fun A outer s H args us vs Q E _ _ _ _ h => absurd h (n2 vs H Q E)⟩, hb', .nil⟩⟩
  | n + 1 => by
    obtain ⟨i1, i2⟩ := ok_both Dc Ds T1 T2 m_make n
    exact ⟨ok_combined Dc T1 T2 i2, ok_split Ds T1 m_make i2 i1⟩
/-! ### the four that are called -/
def spOp (C : Addr) (fm : Form) : Sp := fun vs H Q _ => ∃ (E : List Int) (s : SA) (ns : List Node) (b x y : Nat), vs = [.ref s.p, .int x, .int y] ∧ StoAt C E s H ns b ∧
  x < ns.length + 2 ∧ y < ns.length + 2 ∧ E.length ≤ 8 ∧ b + 512 ≤ 1000000 ∧
  ∀ (H' : Hp) (ns' : List Node) (r : Nat), Kp s.M H H' → StoAt C E s H' ns' (b + 512) → Pre ns ns' → Good E ns' fm x y r → Q (.int r) H'
def spNeg (C : Addr) : Sp := fun vs H Q _ => ∃ (E : List Int) (s : SA) (ns : List Node) (b x : Nat), vs = [.ref s.p, .int x] ∧ StoAt C E s H ns b ∧
  x < ns.length + 2 ∧ E.length ≤ 8 ∧ b + 512 ≤ 1000000 ∧
  ∀ (H' : Hp) (ns' : List Node) (r : Nat), Kp s.M H H' → StoAt C E s H' ns' (b + 512) → Pre ns ns' → Good E ns' .differ x 1 r → (∀ f, ev ns' f r = !ev ns' f x) → Q (.int r) H'
theorem pow_8 {n : Nat} (h : n ≤ 8) : 2 ^ (n + 1) ≤ 512 := by
  have := Nat.pow_le_pow_right (n := 2) (by omega) (show n + 1 ≤ 9 by omega)
  have e : (2 : Nat) ^ 9 = 512 := by decide
  omega
section
variable (T : TSto K w mg C) (m_combined : Met P w K mg base 30 C "_combined" (spComb C 30) [])
include T m_combined
theorem ok_conjunction (D : GM K C "conjunction" "Diagrams.conjunction" sD_Dconjunction ["self", "first", "second"]) : Met P w K mg base 31 C "conjunction" (spOp C .and) [] := by
  refine D.met T.cl sc_Dconjunction (fun vs H Q E h => ?_) (fun f cdv A outer s0 H vs Q E hr h => ?_)
  · obtain ⟨E, s, ns, b, x, y, rfl, _⟩ := h
    rfl
  obtain ⟨E, s, ns, b, x, y, rfl, S, hx, hy, hE, hb, q⟩ := h
  refine ⟨_, (pss_one (ps_ret (pe_mt m_combined hr (by omega) (pv 0) (pa_cons pe_str (pa_cons (pv 1) (pa_cons (pv 2) pa_nil)))))), ?_⟩
  have hp := pow_8 hE
  have hp2 := pow2_pos E.length
  exact ⟨_, rfl, s.p, s.dx, _, rfl, S.ob, sf_no _ _ _ (by decide +kernel) (by decide +kernel) (by decide +kernel), _, rfl, _, rfl, E, s, ns, b, E.length, .and, x, y, rfl, S, .all hx, .all hy, by omega, by omega, fun H' ns' r k S' p g => q H' ns' r k (S'.mono (by omega)) p g⟩
theorem ok_disjunction (D : GM K C "disjunction" "Diagrams.disjunction" sD_Ddisjunction ["self", "first", "second"]) : Met P w K mg base 31 C "disjunction" (spOp C .or) [] := by
  refine D.met T.cl sc_Ddisjunction (fun vs H Q E h => ?_) (fun f cdv A outer s0 H vs Q E hr h => ?_)
  · obtain ⟨E, s, ns, b, x, y, rfl, _⟩ := h
    rfl
  obtain ⟨E, s, ns, b, x, y, rfl, S, hx, hy, hE, hb, q⟩ := h
  refine ⟨_, (pss_one (ps_ret (pe_mt m_combined hr (by omega) (pv 0) (pa_cons pe_str (pa_cons (pv 1) (pa_cons (pv 2) pa_nil)))))), ?_⟩
  have hp := pow_8 hE
  have hp2 := pow2_pos E.length
  exact ⟨_, rfl, s.p, s.dx, _, rfl, S.ob, sf_no _ _ _ (by decide +kernel) (by decide +kernel) (by decide +kernel), _, rfl, _, rfl, E, s, ns, b, E.length, .or, x, y, rfl, S, .all hx, .all hy, by omega, by omega, fun H' ns' r k S' p g => q H' ns' r k (S'.mono (by omega)) p g⟩
theorem ok_differs (D : GM K C "differs" "Diagrams.differs" sD_Ddiffers ["self", "first", "second"]) : Met P w K mg base 31 C "differs" (spOp C .differ) [] := by
  refine D.met T.cl sc_Ddiffers (fun vs H Q E h => ?_) (fun f cdv A outer s0 H vs Q E hr h => ?_)
  · obtain ⟨E, s, ns, b, x, y, rfl, _⟩ := h
    rfl
  obtain ⟨E, s, ns, b, x, y, rfl, S, hx, hy, hE, hb, q⟩ := h
  refine ⟨_, (pss_one (ps_ret (pe_mt m_combined hr (by omega) (pv 0) (pa_cons pe_str (pa_cons (pv 1) (pa_cons (pv 2) pa_nil)))))), ?_⟩
  have hp := pow_8 hE
  have hp2 := pow2_pos E.length
  exact ⟨_, rfl, s.p, s.dx, _, rfl, S.ob, sf_no _ _ _ (by decide +kernel) (by decide +kernel) (by decide +kernel), _, rfl, _, rfl, E, s, ns, b, E.length, .differ, x, y, rfl, S, .all hx, .all hy, by omega, by omega, fun H' ns' r k S' p g => q H' ns' r k (S'.mono (by omega)) p g⟩
omit m_combined in
theorem ok_negation (D : GM K C "negation" "Diagrams.negation" sD_Dnegation ["self", "condition"]) (m_differs : Met P w K mg base 31 C "differs" (spOp C .differ) []) : Met P w K mg base 32 C "negation" (spNeg C) [] := by
  refine D.met T.cl sc_Dnegation (fun vs H Q E h => ?_) (fun f cdv A outer s0 H vs Q E hr h => ?_)
  · obtain ⟨E, s, ns, b, x, rfl, _⟩ := h
    rfl
  obtain ⟨E, s, ns, b, x, rfl, S, hx, hE, hb, q⟩ := h
  refine ⟨_, (pss_one (ps_ret (pe_mt m_differs hr (by omega) (pv 0) (pa_cons (pv 1) (pa_cons (pe_gc rfl T.g_ALWAYS) pa_nil))))), ?_⟩
  refine ⟨_, rfl, s.p, s.dx, _, rfl, S.ob, sf_no _ _ _ (by decide +kernel) (by decide +kernel) (by decide +kernel), _, rfl, E, s, ns, b, x, 1, rfl, S, hx, by omega, hE, hb, fun H' ns' r k S' p g => q H' ns' r k S' p g fun f => ?_⟩
  rw [g.2.2.2 f, ev_one]
  cases ev ns' f x <;> rfl
end
end

/-! ### a set of ints, written {e for x in ..}, as a value; {k: v for ..} given to a name -/
section
variable {X : Cx}
def tSci (w : World) (wi : TI) (g : TG) (te : TE) (vs : List Nat) : TE := fun τ G Q => wi τ G fun J G1 => ∀ D, G1 D = none →
  ∃ W : Nat → Nat → Hp → Prop, (∃ m, W 0 m (upd G1 D (SetO w D (fun _ => false) 0))) ∧
    ∀ i m G', W i m G' → (J.stop i G' ∧ Q (.ref D) G') ∨
      (J.go i G' ∧ ∃ N : Hp → Prop, (∀ G2, N G2 → ∃ m', m' < m ∧ W (i + 1) m' G2) ∧
        ∀ x G2, J.yld i G' x G2 → g x (wipe τ vs) G2 fun τ2 G3 => wipe τ2 vs = wipe τ vs ∧ te τ2 G3 fun y G4 =>
          ∃ (k : Int) (S : Int → Bool) (n : Nat), y = .int k ∧ G4 D = some (SetO w D S n) ∧ n + 1 < scanBound ∧ N (upd G4 D (SetO w D (fun j => S j || decide (j = k)) (if S k = true then n else n + 1))))
/-- the members of a block's comprehension, as they are laid -/
def cenvAt (scope : Scope) (X : Cx) (L : Addr) : Env := compEnvC scope (cellsFrom (L + 1) scope.names (cloFrom X.env.cells scope.names [])) L X.env
theorem pe_sci {elt tg iter : Expr} {scope : Scope} {own : List (Str × Nat)} {pos : Pos} {wi : TI} {g : TG} {te : TE} (calm : X.calm = true) (nd : X.N.Nodup) (hi : PI X tg iter wi) (bk : BlkOk X.N X.env.scope scope own)
    (hg : ∀ (z : Shared) (G : Hp) (L : Addr) (cl : List (Str × Addr)) (fp : List Addr), PG (X.blk z G scope (compEnvC scope cl L X.env) fp) tg g)
    (he : ∀ (z : Shared) (G : Hp) (L : Addr) (cl : List (Str × Addr)) (fp : List Addr), PE (X.blk z G scope (compEnvC scope cl L X.env) fp) elt te)
    (hf : ∀ x, foldedSetIterable iter X.env x = pure x := by intro _; rfl) : PE X (.SetComp elt [⟨tg, iter, [], 0⟩] scope pos) (tSci X.w wi g te (own.map (·.2))) := by
  refine ⟨fun pins z τ G Q I0 hw => ?_⟩
  rw [PpSet.eval_SetComp]
  have cells : ∀ y ∈ scope.names, y.2 = .free → ∃ c, X.env.cells.lookup y.1 = some c := fun y my ye => I0.ok.has _ (bk.free y my ye)
  refine wpAny_comprehension_free (use := none) rfl hf (closure_ok cells) bk.kind (fun y my ye => (bk.uniq y my).trans (congrArg some ye)) (thn (hi.run pins z τ G _ I0 hw) fun _ z1 h1 => thn h1 fun _ z2 h2 => ?_)
  obtain ⟨it, fp, tn, J, G2, rfl, I2, T, t2, p2, q⟩ := h2
  refine PpSet.newSet_ok (newEnv_comp ?_)
  obtain ⟨D, hD⟩ : ∃ D, z2.heap.objs.size = D := ⟨_, rfl⟩
  have free2 : G2 D = none := I2.hok.fresh (Nat.le_of_eq hD)
  obtain ⟨W, ⟨m0, w0⟩, turn⟩ := q D free2
  obtain ⟨O, hO⟩ : ∃ O : HO, SetO X.w D (fun _ => false) 0 = O := ⟨_, rfl⟩
  obtain ⟨z3, hz3⟩ : ∃ z3 : Shared, ({ z2 with heap := z2.heap.push { cls := .type "set", dict := none, data := .set #[] 0 (.fresh 0 0 (!X.w.params.followText "set-order")) } } : Shared) = z3 := ⟨_, rfl⟩
  obtain ⟨G3, hG3⟩ : ∃ G3 : Hp, upd G2 D O = G3 := ⟨_, rfl⟩
  have keep3 : ∀ b o, z2.heap.get? b = some o → z3.heap.get? b = some o := fun b o e => by rw [← hz3]; exact Heap.get?_push_of_some _ e
  have size3 : z3.heap.objs.size = z2.heap.objs.size + 1 := by rw [← hz3]; exact Heap.size_push ..
  have I3 : Inv X pins τ G3 z3 := by
    rw [← hz3, ← hG3, ← hO]
    refine I2.laid (t' := z2.toks) (fun b o e => Heap.get?_push_of_some _ e) (Nat.le_of_eq hD) ?_
    rw [← hD]
    exact setO_new (setR_fresh X.w)
  have fps : ∀ b ∈ fp, b < z2.heap.objs.size := fun b mb => let ⟨_, e, _⟩ := T.obj _ _ t2 b mb; Heap.lt_size e
  have p3 : ∀ b ∈ fp, FpOk X pins G3 b ∧ b < z3.heap.objs.size := fun b mb => by
    have lt := fps b mb
    refine ⟨⟨?_, (p2 b mb).2⟩, by rw [size3]; exact Nat.lt_succ_of_lt lt⟩
    rw [← hG3, upd_ne (by rw [← hD]; exact Nat.ne_of_lt lt)]
    exact (p2 b mb).1
  have I4 := block_start I3 bk nd p3
  obtain ⟨L, hL⟩ : ∃ L, z3.heap.objs.size = L := ⟨_, rfl⟩
  rw [hL] at I4
  rw [hO, hG3] at w0
  have pg := hg z3 G3 L (cellsFrom (L + 1) scope.names (cloFrom X.env.cells scope.names [])) fp
  have pe := he z3 G3 L (cellsFrom (L + 1) scope.names (cloFrom X.env.cells scope.names [])) fp
  rw [hz3, hL]
  show codeAny _ _ (.compStart (.SetComp elt [⟨tg, iter, [], 0⟩] scope pos) 0 (.ref it) (.ref z2.heap.objs.size) (cenvAt scope X L)) (compPost (model X.prog X.w) X.A X.xe none _ (.ref z2.heap.objs.size) L) { z3 with heap := pushCells (z3.heap.push { cls := .type "dict", data := .dict #[] }) scope.names }
  rw [hD]
  obtain ⟨ce, hce⟩ : ∃ ce, cenvAt scope X L = ce := ⟨_, rfl⟩
  have hloc : ce.locals = L := by rw [← hce]; rfl
  have hce' : compEnvC scope (cellsFrom (L + 1) scope.names (cloFrom X.env.cells scope.names [])) L X.env = ce := hce
  rw [hce'] at I4 pg pe
  rw [hce]
  obtain ⟨z4, hz4⟩ : ∃ z4 : Shared, ({ z3 with heap := pushCells (z3.heap.push { cls := .type "dict", data := .dict #[] }) scope.names } : Shared) = z4 := ⟨_, rfl⟩
  rw [hz4] at I4 ⊢
  have t4 : tn 0 z4.heap := T.keep _ _ _ t2 fun b _ o e => by rw [← hz4]; exact pushCells_keeps _ _ _ _ (Heap.get?_push_of_some _ (keep3 b o e))
  have still : ∀ {τ' : L2.St} {G' : Hp} {z' : Shared}, Inv (X.blk z3 G3 scope ce fp) [] τ' G' z' → (∀ b ∈ fp, G' b = none) → ∀ b ∈ fp, FpOk (X.blk z3 G3 scope ce fp) [] G' b := fun J' no b mb =>
    ⟨no b mb, (J'.ok.exf b mb).1, J'.ok.exfs b mb, .inl mb, fun x c e => (J'.ok.exf b mb).2 x c e, fun p mp => by cases (show p ∈ ([] : List (Addr × Obj)) ++ [] from mp)⟩
  have loop : codeAny (model X.prog X.w) X.A (.compLoop (.SetComp elt [⟨tg, iter, [], 0⟩] scope pos) 0 (.ref it) (.ref D) ce) (compPost (model X.prog X.w) X.A X.xe none (EP X pins τ Q) (.ref D) L) z4 := by
    refine PpSet.compLoopS_any (fun n z' => ∃ i G', Inv (X.blk z3 G3 scope ce fp) [] (wipe τ (own.map (·.2))) G' z' ∧ tn i z'.heap ∧ (∀ b ∈ fp, G' b = none) ∧ W i n G') ?_ m0 ⟨0, G3, I4, t4, fun b mb => (p3 b mb).1.1, w0⟩
    rintro n z5 ⟨i, G5, I5, t5, n5, w5⟩
    rcases turn i n G5 w5 with ⟨stop, done⟩ | ⟨go, N, hN, step⟩
    · refine thnF (T.done (X.blk z3 G3 scope ce fp) rfl rfl rfl calm i [] z5 _ G5 (fun _ _ => False) I5 (still I5 n5) t5 stop) fun r z6 ⟨hr, I6⟩ => ?_
      subst hr
      have I7 : Inv X pins τ G5 z6 := I3.call' (ch := fp) I6.os I6.base I6.hok I6.bare fun b mb => let f := (p3 b mb).1; ⟨f.2.2.2.1, f.2.1, f.2.2.2.2.1, f.2.2.2.2.2⟩
      obtain ⟨m, hm, _⟩ := I6.loc
      have hm' : z6.heap.Ns L m := hloc ▸ (show z6.heap.Ns ce.locals m from hm)
      have noL : G5 L = none := hloc ▸ (show G5 ce.locals = none from I6.free)
      obtain ⟨f0, f1, f2, f3, f4, f5⟩ := I3.fpOk (Nat.le_of_eq hL) noL
      exact ⟨m, hm', fun _ sb => ⟨.ref D, G5, I7.turned (t' := z6.toks) (fun b o mb e => (sb.2 b mb).trans e) f0 f1 f3 f4 f5, rfl, done⟩⟩
    · refine thnF (T.item (X.blk z3 G3 scope ce fp) rfl rfl rfl calm i [] z5 _ G5 (fun _ _ => False) I5 (still I5 n5) t5 go) fun r z6 ⟨u, hr, h6⟩ => ?_
      subst hr
      refine thnF h6 fun _ z7 ⟨x, G7, I7, r7, y7, t7, n7⟩ => ?_
      have J7 := I7.pinned (still I7 n7) (T.obj _ _ t7)
      refine thnF (pg.run _ z7 _ G7 x u _ J7 r7 (step x G7 y7)) fun _ z8 ⟨τ8, G8, I8, hw8, q8⟩ => ?_
      refine wpAny_pure ?_
      rw [if_pos rfl]
      refine thnF (pe.run _ z8 τ8 G8 _ I8 q8) fun v z9 ⟨y, G9, I9, r9, k, S, c, ey, hD9, room, nx⟩ => ?_
      subst ey
      obtain ⟨tk, rfl⟩ := (show ∃ tk, v = Value.int k tk from r9)
      have R9 := setO_get I9 hD9
      refine setR_add R9 room fun h' sb new => ?_
      have some9 : ∃ u, h'.get? D = some u := let ⟨o, _, _, _, e, _⟩ := new; ⟨o, e⟩
      have I10 := I9.write (e := D) (t' := z9.toks + 1) (by rw [hD9]; trivial) (.inl rfl) (fun b u mb e => (sb.2 b mb).trans e) some9 (setO_new (P := X.prog) (H := upd G9 D (SetO X.w D (fun j => S j || decide (j = k)) (if S k = true then c else c + 1))) new)
      obtain ⟨m', lt, w'⟩ := hN _ nx
      have pin : ∀ b ∈ fp, ∀ o, z7.heap.get? b = some o → h'.get? b = some o ∧ (upd G9 D (SetO X.w D (fun j => S j || decide (j = k)) (if S k = true then c else c + 1))) b = none := fun b mb o e =>
        let a := I10.pin (b, o) (List.mem_append_right _ (List.mem_append_right _ (mem_pinsAt mb e)))
        ⟨a.1, a.2.1⟩
      refine ⟨m', lt, i + 1, _, (I10.unpinned (pins := [])).weak (by rw [← hw8, wipe_length]) (fun j v e => (wipe_some (by rw [hw8]; exact e)).1), T.keep _ _ _ t7 fun b mb o e => (pin b mb o e).1, fun b mb => ?_, w'⟩
      obtain ⟨o, e, _⟩ := T.obj _ _ t7 b mb
      exact (pin b mb o e).2
  exact PpSet.codeAny_compStart_set loop (T.self X.A 0 _ _ _ t4 loop)
/-- over a list that the block leaves as it is -/
theorem sci_list {w : World} {K : PySem.W.Frag} {a : Addr} {xs : List V} {g : TG} {te : TE} {vs : List Nat} {τ : L2.St} {G1 : Hp} {D : Addr} {Z : Hp → Prop} (Pv : Nat → Hp → Prop) (h0 : Pv 0 (upd G1 D (SetO w D (fun _ => false) 0)))
    (hl : ∀ i G, i ≤ xs.length → Pv i G → SqL K G a xs)
    (hs : ∀ i x G, xs[i]? = some x → Pv i G → g x (wipe τ vs) G fun τ2 G3 => wipe τ2 vs = wipe τ vs ∧ te τ2 G3 fun y G4 =>
      ∃ (k : Int) (S : Int → Bool) (n : Nat), y = .int k ∧ G4 D = some (SetO w D S n) ∧ n + 1 < scanBound ∧ Pv (i + 1) (upd G4 D (SetO w D (fun j => S j || decide (j = k)) (if S k = true then n else n + 1))))
    (hd : ∀ G, Pv xs.length G → Z G) :
    ∃ W : Nat → Nat → Hp → Prop, (∃ m, W 0 m (upd G1 D (SetO w D (fun _ => false) 0))) ∧
    ∀ i m G', W i m G' → ((Itl K a).stop i G' ∧ Z G') ∨
      ((Itl K a).go i G' ∧ ∃ N : Hp → Prop, (∀ G2, N G2 → ∃ m', m' < m ∧ W (i + 1) m' G2) ∧
        ∀ x G2, (Itl K a).yld i G' x G2 → g x (wipe τ vs) G2 fun τ2 G3 => wipe τ2 vs = wipe τ vs ∧ te τ2 G3 fun y G4 =>
          ∃ (k : Int) (S : Int → Bool) (n : Nat), y = .int k ∧ G4 D = some (SetO w D S n) ∧ n + 1 < scanBound ∧ N (upd G4 D (SetO w D (fun j => S j || decide (j = k)) (if S k = true then n else n + 1)))) := by
  refine ⟨fun i m G => m + i = xs.length ∧ Pv i G, ⟨xs.length, rfl, h0⟩, fun i m G ⟨e, p⟩ => ?_⟩
  have q := hl i G (by omega) p
  cases m with
  | zero => exact .inl ⟨⟨xs, q, by omega⟩, hd G (by rw [← e, Nat.zero_add]; exact p)⟩
  | succ m =>
    have lt : i < xs.length := by omega
    refine .inr ⟨⟨xs, xs[i], q, List.getElem?_eq_getElem lt⟩, Pv (i + 1), fun G2 p' => ⟨m, Nat.lt_succ_self m, by omega, p'⟩, fun x G2 y => ?_⟩
    obtain ⟨rfl, y⟩ := y
    exact hs i x _ (y xs q) p
end
section
variable {X : Cx}
theorem sw_dict {kx vx : Expr} {gs : List Comprehension} {scope : Scope} {pos py : Pos} {y : Str} {l : Nat} {env : Env} (hk : env.scope.kind = .function) (hy : env.scope.names.lookup y = some .local) (same : (py.line == pos.line) = true)
    (no : (scope.names.any fun (n, k) => n == y && (k == .local || k == .cell)) = false) : swapsWith (.DictComp kx vx gs scope pos) (some (.Name y py)) l env = pure true := by
  have k1 : env.kindOf y = some .local := hy
  have k2 : env.blockKind = .function := by
    show (match env.scope.kind with | _ => _) = _
    rw [hk]
    rfl
  unfold swapsWith
  simp only [k2, k1, no, Expr.pos, same]
  rfl
/-- name = {k: v for ..} on one line, the name a local one -/
theorem ps_setDc {i : Nat} {y : Str} {py : Pos} {kx vx tg iter : Expr} {ifs : List Expr} {scope : Scope} {own : List (Str × Nat)} {pos spos : Pos} {wi : TI} {g : TG} {tt : TT} {tk tv : TE}
    (calm : X.calm = true) (nd : X.N.Nodup) (hy : X.N[i]? = some y) (loc : X.env.scope.names.lookup y = some .local)
    (sw : swapsWith (.DictComp kx vx [⟨tg, iter, ifs, 0⟩] scope pos) (some (.Name y py)) spos.line X.env = pure true) (hi : PI X tg iter wi) (bk : BlkOk X.N X.env.scope scope own)
    (hg : ∀ (z : Shared) (G : Hp) (L : Addr) (cl : List (Str × Addr)) (fp : List Addr), PG (X.blk z G scope (compEnvC scope cl L X.env) fp) tg g)
    (ht : ∀ (z : Shared) (G : Hp) (L : Addr) (cl : List (Str × Addr)) (fp : List Addr), PTs (X.blk z G scope (compEnvC scope cl L X.env) fp) ifs tt)
    (hk : ∀ (z : Shared) (G : Hp) (L : Addr) (cl : List (Str × Addr)) (fp : List Addr), PE (X.blk z G scope (compEnvC scope cl L X.env) fp) kx tk)
    (hv : ∀ (z : Shared) (G : Hp) (L : Addr) (cl : List (Str × Addr)) (fp : List Addr), PE (X.blk z G scope (compEnvC scope cl L X.env) fp) vx tv)
    (hf : ∀ x, foldedSetIterable iter X.env x = pure x := by intro _; rfl) :
    PS X (.Assign [.Name y py] (.DictComp kx vx [⟨tg, iter, ifs, 0⟩] scope pos) spos) (tAsg (tDc wi g tt tk tv (own.map (·.2))) (gName i)) := by
  refine ⟨fun pins z τ G D I0 hw => ?_⟩
  rw [exec_Assign_Name_used _ _ _ _ sw]
  refine wpAny_bind (wpAny_standAt (wpAny_bind ?_))
  show wpAny _ X.A (do let _ ← comprehension (.DictComp kx vx [⟨tg, iter, ifs, 0⟩] scope pos) scope X.env (firstIterPos [⟨tg, iter, ifs, 0⟩] pos) newDict false (eval iter X.env) (some (assign (.Name y py) X.env))) _ _ z
  refine wpAny_bind (thn (dc_core (Qf := fun _ z' => SP X pins D .next z') calm nd I0 hi bk hg ht hk hv hf (show tDc wi g tt tk tv (own.map (·.2)) τ G (fun x G1 => gName i x τ G1 D.nx) from hw) fun L E z1 m G1 I1 q hn f => ?_) fun _ _ hq => wpAny_pure (wpAny_pure hq))
  refine wpAny_assign_Name (store_ok2 (v := V.ref L) I1 nd hy (.inl loc) rfl (fun z2 I2 ⟨a, sb, ha⟩ => ?_) (.inr loc))
  obtain ⟨f0, f1, f2, f3, f4, f5⟩ := f
  refine ⟨m, hn.sameBut sb (ha.elim (fun e => by rw [e]; exact f1) fun e e' => f4 y a e e'.symm), fun h3 sb3 => ?_⟩
  exact ⟨_, G1, I2.turned (t' := z2.toks) (fun b o hb e => (sb3.2 b hb).trans e) f0 f1 f3 f4 f5, q⟩
/-- over anything that is walked, by a word -/
theorem dc_walk {J : It} {g : TG} {tt : TT} {tk tv : TE} {vs : List Nat} {τ : L2.St} {G1 : Hp} {D : Addr} {Z : Hp → Prop} (n : Nat) (Pv : Nat → Hp → Prop) (h0 : Pv 0 (upd G1 D (.dK [])))
    (hgo : ∀ i G, i < n → Pv i G → J.go i G) (hst : ∀ G, Pv n G → J.stop n G)
    (hs : ∀ i x G G2, i < n → Pv i G → J.yld i G x G2 → g x (wipe τ vs) G2 fun τ2 G3 => wipe τ2 vs = wipe τ vs ∧ tt τ2 G3 fun b G4 =>
      if b = true then tk τ2 G4 fun y G5 => tv τ2 G5 fun v G6 => ∃ kvs k, y = kV k ∧ G6 D = some (.dK kvs) ∧ kvs.length < sizeLine ∧ Pv (i + 1) (upd G6 D (.dK (putK kvs k v))) else Pv (i + 1) G4)
    (hd : ∀ G, Pv n G → Z G) :
    ∃ W : Nat → Nat → Hp → Prop, (∃ m, W 0 m (upd G1 D (.dK []))) ∧ ∀ i m G, W i m G →
      (J.stop i G ∧ Z G) ∨ (J.go i G ∧ ∃ Nx : Hp → Prop, (∀ G', Nx G' → ∃ m', m' < m ∧ W (i + 1) m' G') ∧ ∀ x G', J.yld i G x G' → g x (wipe τ vs) G' fun τ2 G2 => wipe τ2 vs = wipe τ vs ∧ tt τ2 G2 fun b G3 =>
        if b = true then tk τ2 G3 fun y G4 => tv τ2 G4 fun v G5 => ∃ kvs k, y = kV k ∧ G5 D = some (.dK kvs) ∧ kvs.length < sizeLine ∧ Nx (upd G5 D (.dK (putK kvs k v))) else Nx G3) := by
  refine ⟨fun i m G => m + i = n ∧ Pv i G, ⟨n, rfl, h0⟩, fun i m G ⟨e, p⟩ => ?_⟩
  cases m with
  | zero =>
    have e' : i = n := by omega
    subst e'
    exact .inl ⟨hst G p, hd G p⟩
  | succ m => exact .inr ⟨hgo i G (by omega) p, Pv (i + 1), fun G' p' => ⟨m, Nat.lt_succ_self m, by omega, p'⟩, fun x G' y => hs i x G G' (by omega) p y⟩
end

/-! ### the nodes that a condition leads to, in plain Lean -/
def kids (ns : List Node) (c : Nat) : List Nat := match nod ns c with
  | none => []
  | some n => [n.2.1, n.2.2].filter fun x => decide (2 ≤ x)
theorem kids_of {ns : List Node} {c : Nat} {n : Node} (h : nod ns c = some n) : kids ns c = [n.2.1, n.2.2].filter fun x => decide (2 ≤ x) := by
  unfold kids
  rw [h]
theorem kids_low {ns : List Node} {c : Nat} (h : c < 2) : kids ns c = [] := by
  unfold kids nod
  rw [if_pos h]
theorem mem_kids {ns : List Node} {c y : Nat} (h : y ∈ kids ns c) : ∃ n, nod ns c = some n ∧ (y = n.2.1 ∨ y = n.2.2) ∧ 2 ≤ y := by
  cases e : nod ns c with
  | none => unfold kids at h; rw [e] at h; cases h
  | some n =>
    rw [kids_of e] at h
    obtain ⟨h1, h2⟩ := List.mem_filter.mp h
    refine ⟨n, rfl, ?_, of_decide_eq_true h2⟩
    simp only [List.mem_cons, List.not_mem_nil, or_false] at h1
    exact h1
theorem kids_mem {ns : List Node} {c : Nat} {n : Node} (h : nod ns c = some n) : (2 ≤ n.2.1 → n.2.1 ∈ kids ns c) ∧ (2 ≤ n.2.2 → n.2.2 ∈ kids ns c) := by
  rw [kids_of h]
  exact ⟨fun q => List.mem_filter.mpr ⟨by simp, decide_eq_true q⟩, fun q => List.mem_filter.mpr ⟨by simp, decide_eq_true q⟩⟩
theorem NOk.kid_lt {E : List Int} {ns : List Node} (ok : NOk E ns) {c y : Nat} (h : y ∈ kids ns c) : y < c ∧ 2 ≤ y := by
  obtain ⟨n, hn, hy, h2⟩ := mem_kids h
  obtain ⟨l1, l2, _⟩ := ok.lt c n hn
  rcases hy with rfl | rfl <;> exact ⟨by assumption, h2⟩
inductive Rch (ns : List Node) (c : Nat) : Nat → Prop
  | refl : Rch ns c c
  | step {x y : Nat} : Rch ns c x → y ∈ kids ns x → Rch ns c y
theorem Rch.le {E : List Int} {ns : List Node} (ok : NOk E ns) {c x : Nat} (h : Rch ns c x) : x ≤ c := by
  induction h with
  | refl => exact Nat.le_refl _
  | step _ hk ih => have := (ok.kid_lt hk).1; omega
/-- found so far: all that is below is found before -/
structure Fnd (ns : List Node) (cs F : List Nat) : Prop where
  nd : F.Nodup
  mem : ∀ x ∈ F, 2 ≤ x ∧ ∃ c ∈ cs, Rch ns c x
  topo : ∀ (i x : Nat), F[i]? = some x → ∀ y ∈ kids ns x, y ∈ F.take i
structure Reached (ns : List Node) (cs F : List Nat) : Prop extends Fnd ns cs F where
  top : ∀ c ∈ cs, 2 ≤ c → c ∈ F
theorem Fnd.wide {ns : List Node} {cs cs' F : List Nat} (h : Fnd ns cs F) (s : ∀ c ∈ cs, c ∈ cs') : Fnd ns cs' F :=
  ⟨h.nd, fun x hx => let ⟨a, c, m, r⟩ := h.mem x hx; ⟨a, c, s c m, r⟩, h.topo⟩
/-- the stack: from the condition at its bottom down to its parts -/
structure Stk (ns : List Node) (cs : List Nat) (c : Nat) (F S : List Nat) : Prop where
  f : Fnd ns cs F
  bot : S ≠ [] → S.head? = some c
  desc : S.Pairwise (· > ·)
  rch : ∀ x ∈ S, Rch ns c x
  nin : ∀ x ∈ S.tail, x ∉ F ∧ 2 ≤ x
  fin : S = [] → 2 ≤ c → c ∈ F
theorem nodup_len : ∀ (N : Nat) (l : List Nat), l.Nodup → (∀ x ∈ l, x < N) → l.length ≤ N
  | 0, l, _, h => by
    cases l with
    | nil => exact Nat.le_refl _
    | cons x r => have := h x (by simp); omega
  | N + 1, l, nd, h => by
    have e : (l.filter fun x => decide (x ≠ N)).length ≤ N := nodup_len N _ (nd.filter _) fun x hx => by
      obtain ⟨h1, h2⟩ := List.mem_filter.mp hx
      have := h x h1
      have := of_decide_eq_true h2
      omega
    have c1 : l.count N ≤ 1 := List.nodup_iff_count.mp nd N
    have e2 : l.length = (l.filter fun x => decide (x ≠ N)).length + l.count N := by
      clear e c1 nd h
      induction l with
      | nil => rfl
      | cons x r ih =>
        rw [List.filter_cons, List.count_cons]
        by_cases hx : x = N
        · subst hx
          rw [if_neg (by simp), if_pos (by simp), List.length_cons, ih]
          omega
        · rw [if_pos (by simpa using hx), if_neg (by simpa using hx), List.length_cons, List.length_cons, ih]
          omega
    omega
theorem desc_nodup {l : List Nat} (h : l.Pairwise (· > ·)) : l.Nodup := h.imp fun h e => by omega
theorem Fnd.lt {E : List Int} {ns : List Node} {cs F : List Nat} (h : Fnd ns cs F) (ok : NOk E ns) (hc : ∀ c ∈ cs, c < ns.length + 2) : ∀ x ∈ F, x < ns.length + 2 := fun x hx => by
  obtain ⟨_, c, hm, r⟩ := h.mem x hx
  have := r.le ok
  have := hc c hm
  omega
theorem Stk.start {ns : List Node} {cs : List Nat} {c : Nat} {F : List Nat} (h : Fnd ns cs F) : Stk ns cs c F [c] :=
  ⟨h, fun _ => rfl, List.pairwise_singleton _ _, fun x hx => by rw [List.mem_singleton.mp hx]; exact .refl, fun x hx => (by cases hx), fun e => (by cases e)⟩
theorem head_app {α : Type} {S T : List α} (h : S ≠ []) : (S ++ T).head? = S.head? := by
  cases S with
  | nil => exact absurd rfl h
  | cons a r => rfl
/-- how much is left -/
def left (N : Nat) (F S : List Nat) : Nat := (N - F.length) * (N + 2) + (if S = [] then 0 else N + 1 - S.length)
theorem snoc_of {S : List Nat} (h : S ≠ []) : ∃ S0 x, S = S0 ++ [x] := ⟨S.dropLast, S.getLast h, (List.dropLast_concat_getLast h).symm⟩
section
variable {E : List Int} {ns : List Node} {cs : List Nat} {c : Nat} {F S0 : List Nat} {x y : Nat}
theorem Stk.push (ok : NOk E ns) (h : Stk ns cs c F (S0 ++ [x])) (hy : y ∈ kids ns x) (hn : y ∉ F) : Stk ns cs c F (S0 ++ [x] ++ [y]) := by
  obtain ⟨l1, l2⟩ := ok.kid_lt hy
  have e1 : ∀ z ∈ S0 ++ [x], z > y := fun z hz => by
    have hp := List.pairwise_append.mp h.desc
    rcases List.mem_append.mp hz with m | m
    · have := hp.2.2 z m x (by simp); omega
    · rw [List.mem_singleton.mp m]; exact l1
  have ne : S0 ++ [x] ≠ [] := by simp
  refine ⟨h.f, fun _ => ?_, List.pairwise_append.mpr ⟨h.desc, List.pairwise_singleton _ _, fun a ha b hb => by rw [List.mem_singleton.mp hb]; exact e1 a ha⟩, fun z hz => ?_, fun z hz => ?_, fun e => by simp at e⟩
  · rw [head_app ne]
    exact h.bot ne
  · rcases List.mem_append.mp hz with m | m
    · exact h.rch z m
    · rw [List.mem_singleton.mp m]; exact .step (h.rch x (by simp)) hy
  · rw [List.tail_append_of_ne_nil ne] at hz
    rcases List.mem_append.mp hz with m | m
    · exact h.nin z m
    · rw [List.mem_singleton.mp m]; exact ⟨hn, l2⟩
theorem Stk.len (h : Stk ns cs c F S0) (hc : c < ns.length + 2) (ok : NOk E ns) : S0.length ≤ ns.length + 2 :=
  nodup_len _ _ (desc_nodup h.desc) fun x hx => by have := (h.rch x hx).le ok; omega
theorem Fnd.len (h : Fnd ns cs F) (ok : NOk E ns) (hc : ∀ c ∈ cs, c < ns.length + 2) : F.length ≤ ns.length + 2 := nodup_len _ _ h.nd (h.lt ok hc)
theorem Fnd.add (h : Fnd ns cs F) (hx : x ∉ F) (h2 : 2 ≤ x) (hc : c ∈ cs) (hr : Rch ns c x) (hk : ∀ y ∈ kids ns x, y ∈ F) : Fnd ns cs (F ++ [x]) := by
  refine ⟨List.nodup_append.mpr ⟨h.nd, by simp, fun a ha b hb e => ?_⟩, fun z hz => ?_, fun i z hz y hy => ?_⟩
  · rw [List.mem_singleton.mp hb] at e
    exact hx (e ▸ ha)
  · rcases List.mem_append.mp hz with m | m
    · exact h.mem z m
    · rw [List.mem_singleton.mp m]
      exact ⟨h2, c, hc, hr⟩
  · by_cases hi : i < F.length
    · rw [List.getElem?_append_left hi] at hz
      rw [List.take_append_of_le_length (by omega)]
      exact h.topo i z hz y hy
    · have hi2 := (List.getElem?_eq_some_iff.mp hz).1
      rw [List.length_append, List.length_singleton] at hi2
      have e : i = F.length := by omega
      subst e
      rw [List.getElem?_append_right (Nat.le_refl _), Nat.sub_self] at hz
      cases hz
      rw [List.take_append_of_le_length (Nat.le_refl _), List.take_length]
      exact hk y hy
/-- F with x, if it is a node and not there -/
def addF (F : List Nat) (x : Nat) : List Nat := if 2 ≤ x ∧ x ∉ F then F ++ [x] else F
theorem Stk.pop (h : Stk ns cs c F (S0 ++ [x])) (hc : c ∈ cs) (hk : ∀ y ∈ kids ns x, y ∈ F) : Stk ns cs c (addF F x) S0 := by
  have hp := List.pairwise_append.mp h.desc
  have fx : Fnd ns cs (addF F x) := by
    unfold addF
    split
    · rename_i q
      exact h.f.add q.2 q.1 hc (h.rch x (by simp)) hk
    · exact h.f
  have inx : 2 ≤ x → x ∈ addF F x := fun q => by
    unfold addF
    by_cases m : x ∈ F
    · rw [if_neg (fun z => z.2 m)]; exact m
    · rw [if_pos ⟨q, m⟩]; simp
  refine ⟨fx, fun ne => ?_, hp.1, fun z hz => h.rch z (List.mem_append_left _ hz), fun z hz => ?_, fun e => ?_⟩
  · have := h.bot (by simp)
    rwa [head_app ne] at this
  · have ne : S0 ≠ [] := fun e => by rw [e] at hz; cases hz
    have hz' : z ∈ (S0 ++ [x]).tail := by rw [List.tail_append_of_ne_nil ne]; exact List.mem_append_left _ hz
    obtain ⟨n1, n2⟩ := h.nin z hz'
    refine ⟨fun m => ?_, n2⟩
    unfold addF at m
    split at m
    · rcases List.mem_append.mp m with m | m
      · exact n1 m
      · have := hp.2.2 z (List.mem_of_mem_tail hz) x (by simp)
        rw [List.mem_singleton.mp m] at this
        omega
    · exact n1 m
  · subst e
    have := h.bot (by simp)
    rw [List.nil_append] at this
    cases this
    exact inx
theorem left_push {N : Nat} {F S : List Nat} {y : Nat} (hs : S ≠ []) (h : S.length ≤ N) : left N F (S ++ [y]) < left N F S := by
  unfold left
  rw [if_neg hs, if_neg (by simp), List.length_append, List.length_singleton]
  have : 0 < S.length := List.length_pos_iff.mpr hs
  omega
theorem left_pop {N : Nat} (h : Stk ns cs c F (S0 ++ [x])) (hl : (S0 ++ [x]).length ≤ N) (hf : (addF F x).length ≤ N) : left N (addF F x) S0 < left N F (S0 ++ [x]) := by
  unfold left
  rw [if_neg (by simp : S0 ++ [x] ≠ [])]
  rw [List.length_append, List.length_singleton] at hl ⊢
  by_cases e : S0 = []
  · rw [if_pos e, e]
    have : F.length ≤ (addF F x).length := by unfold addF; split <;> simp
    have := Nat.mul_le_mul_right (N + 2) (show N - (addF F x).length ≤ N - F.length by omega)
    simp only [List.length_nil]
    omega
  · rw [if_neg e]
    have hx : x ∈ (S0 ++ [x]).tail := by rw [List.tail_append_of_ne_nil e]; simp
    obtain ⟨n1, n2⟩ := h.nin x hx
    have ea : addF F x = F ++ [x] := by unfold addF; rw [if_pos ⟨n2, n1⟩]
    rw [ea, List.length_append, List.length_singleton] at hf ⊢
    have : 0 < S0.length := List.length_pos_iff.mpr e
    have e3 : N - F.length = (N - (F.length + 1)) + 1 := by omega
    rw [e3, Nat.add_mul]
    omega
end

/-! ### the nodes that a condition leads to: the defs -/
abbrev vI (c : Nat) : V := .int (c : Int)
theorem ft_yes {α β : Type} {p : α → Bool} {f : α → β} {L : List α} {i : Nat} {y : α} (h : L[i]? = some y) (hp : p y = true) : ((L.take (i + 1)).filter p).map f = ((L.take i).filter p).map f ++ [f y] := by
  rw [List.take_add_one, h, List.filter_append, List.map_append]
  show _ ++ (([y].filter p).map f) = _
  rw [List.filter_cons, if_pos hp]
  rfl
theorem ft_no {α β : Type} {p : α → Bool} {f : α → β} {L : List α} {i : Nat} {y : α} (h : L[i]? = some y) (hp : p y = false) : ((L.take (i + 1)).filter p).map f = ((L.take i).filter p).map f := by
  rw [List.take_add_one, h, List.filter_append, List.map_append]
  show _ ++ (([y].filter p).map f) = _
  rw [List.filter_cons, if_neg (by rw [hp]; decide)]
  show _ ++ [] = _
  rw [List.append_nil]
theorem takeS {α : Type} {l : List α} {i : Nat} {x : α} (h : l[i]? = some x) : l.take (i + 1) = l.take i ++ [x] := by rw [List.take_add_one, h]; rfl
theorem mapAt {α : Type} {f : α → V} {L : List α} {i : Nat} {x : V} (h : (L.map f)[i]? = some x) : ∃ y, L[i]? = some y ∧ x = f y := by
  rw [List.getElem?_map] at h
  cases e : L[i]? with
  | none => rw [e] at h; cases h
  | some y => rw [e] at h; exact ⟨y, rfl, (Option.some.inj h).symm⟩
/-- the dict of what is found -/
def fk (F : List Nat) : List (Key × V) := F.map fun (x : Nat) => ((Sum.inl (x : Int) : Key), V.bl true)
theorem fk_val (F : List Nat) (x : Nat) : valV (fk F) (Sum.inl (x : Int) : Key) = if x ∈ F then some (.bl true) else none := by
  induction F with
  | nil => rfl
  | cons y r ih =>
    show valV (((Sum.inl (y : Int) : Key), V.bl true) :: fk r) _ = _
    by_cases e : y = x
    · subst e
      rw [valV_pos rfl, if_pos (by simp)]
    · rw [valV_neg (fun z => e (Int.ofNat.inj (Sum.inl.inj z))), ih]
      by_cases m : x ∈ r
      · rw [if_pos m, if_pos (List.mem_cons_of_mem _ m)]
      · rw [if_neg m, if_neg (fun z => (List.mem_cons.mp z).elim (fun e' => e e'.symm) m)]
theorem fk_put (F : List Nat) (x : Nat) : putK (fk F) (Sum.inl (x : Int) : Key) (.bl true) = fk (if x ∈ F then F else F ++ [x]) := by
  by_cases m : x ∈ F
  · rw [if_pos m]
    unfold putK
    rw [if_pos (by rw [valV_any, fk_val, if_pos m]; rfl)]
    refine (List.map_congr_left fun kv hkv => ?_).trans (List.map_id _)
    obtain ⟨y, _, rfl⟩ := List.mem_map.mp hkv
    show (if _ then _ else _) = _
    split <;> rfl
  · rw [if_neg m, putK_new _ (by rw [fk_val, if_neg m])]
    unfold fk
    rw [List.map_append]
    rfl
theorem fk_add (F : List Nat) (x : Nat) (h : 2 ≤ x) : putK (fk F) (Sum.inl (x : Int) : Key) (.bl true) = fk (addF F x) := by
  rw [fk_put]
  unfold addF
  by_cases m : x ∈ F
  · rw [if_pos m, if_neg fun z => z.2 m]
  · rw [if_neg m, if_pos ⟨h, m⟩]
theorem fk_keys (F : List Nat) : ((fk F).map fun kv => kV kv.1) = F.map vI := by
  unfold fk
  rw [List.map_map]
  rfl
theorem fk_len (F : List Nat) : (fk F).length = F.length := List.length_map _
def spParts (C : Addr) : Sp := fun vs H Q _ => ∃ (E : List Int) (s : SA) (ns : List Node) (b c : Nat), vs = [.ref s.p, .int c] ∧ StoAt C E s H ns b ∧ c < ns.length + 2 ∧
  ∀ (p : Addr) (H' : Hp), H p = none → Kp [] H H' → H' p = some (.lst ((kids ns c).map vI)) → Q (.ref p) H'
def spReached (K : PySem.W.Frag) (C : Addr) : Sp := fun vs H Q _ => ∃ (E : List Int) (s : SA) (ns : List Node) (b : Nat) (cs : List Nat) (a : Addr), vs = [.ref s.p, .ref a] ∧ StoAt C E s H ns b ∧
  SqL K H a (cs.map vI) ∧ (∀ c ∈ cs, c < ns.length + 2) ∧ b ≤ 1000000 ∧
  ∀ (R : List Nat) (r : Addr) (H' : Hp), Reached ns cs R → H r = none → Kp [] H H' → H' r = some (.lst (R.map vI)) → Q (.ref r) H'
section
variable {P : Program} {w : World} {K : PySem.W.Frag} {mg : Str → Option Value} {base : Heap} {C : Addr}
theorem ok_parts (D : GM K C "_parts" "Diagrams._parts" sD_Dparts ["self", "condition"]) (T : TSto K w mg C) : Met P w K mg base 1 C "_parts" (spParts C) [] := by
  refine D.met T.cl sc_Dparts (fun vs H Q E h => ?_) (fun f cdv A outer s0 H vs Q E hr h => ?_)
  · obtain ⟨E, s, ns, b, c, rfl, _⟩ := h
    rfl
  obtain ⟨E, s, ns, b, c, rfl, S, hc, q⟩ := h
  refine ⟨_, (pss_cons (ps_if (pt_cmpR op_le (pv 1) (pe_gc rfl T.g_ALWAYS) (nomark _)) (pss_one (ps_ret (pe_lst pa_nil))) pss_nil)
    (pss_one (ps_ret (pe_lc (own := [("part", 2)]) (g := gName 2) rfl sc_Dparts.nd (pi_tup (pe_slice sl_tup (pe_ix ix_list (pe_fld (pv 0) rfl) (pv 1) (fun _ _ => rfl)) (po_some pe_int) po_none)) (blkOk_by (own := [("part", 2)]) (N := ["self", "condition", "part"]) (sc := defScope sD_Dparts) (by decide +kernel)) (fun _ _ _ _ _ => (pg_name (i := 2) sc_Dparts.nd rfl (Or.inl rfl))) (fun _ _ _ _ _ => (pts_one (pt_cmpR op_gt (pv 2) (pe_gc rfl T.g_ALWAYS) (nomark _)))) (fun _ _ _ _ _ => (pv 2)))))), ?_⟩
  refine ⟨_, rfl, _, _, rfl, rfl, _, rfl, ?_⟩
  refine ite2 (fun c1 => ?_) (fun c1 => ?_)
  · have c1' : (c : Int) ≤ 1 := of_decide_eq_true c1
    exact ⟨(by show 0 ≤ sizeLine; decide), fun p hp => q p _ hp (.new hp) (by rw [kids_low (by omega)]; exact upd_same)⟩
  have c1' : ¬ (c : Int) ≤ 1 := fun z => c1 (decide_eq_true z)
  obtain ⟨n, hn⟩ := nod_some hc (by omega)
  obtain ⟨as, a, h1, h2, h3⟩ := S.at hn
  refine ⟨_, rfl, s.p, C, s.dx, _, _, rfl, S.ob, T.cl, T.a_nodes, sf_nodes _ _ _, _, rfl, s.l, _, _, _, rfl, rfl, SqL.of h1, h2, 1, rfl, a, _, rfl, SqT.of h3, (by show ¬ (HT.sIx 3 0 (some 1) = 0 ∧ HT.sIx 3 3 none = 3); decide), fun t ht => ?_⟩
  obtain ⟨H1, hH1⟩ : ∃ H1, upd H t (.tup (cutV (tupV n) (some 1) none)) = H1 := ⟨_, rfl⟩
  have k1 : Kp [] H H1 := by rw [← hH1]; exact .new ht
  have ht1 : H1 t = some (.tup ([n.2.1, n.2.2].map vI)) := by rw [← hH1]; exact upd_same
  rw [hH1]
  refine ⟨t, rfl, ⟨_, SqT.of ht1⟩, fun D hD => lc_tup (xs := [n.2.1, n.2.2].map vI) (fun i H' => Kp [] H1 H' ∧ H' D = some (.lst ((([n.2.1, n.2.2].take i).filter fun x => decide (2 ≤ x)).map vI))) ⟨.new hD, upd_same⟩ (fun i H' _ p => SqT.of (p.1.t _ _ ht1)) (fun i x H' hi p => ?_) (fun H' p => ?_)⟩
  · obtain ⟨y, hy, rfl⟩ := mapAt hi
    obtain ⟨kk, hD'⟩ := p
    refine ⟨rfl, _, rfl, _, _, rfl, rfl, _, rfl, ?_⟩
    refine ite2 (fun c2 => ?_) (fun c2 => ?_)
    · have c2' : (y : Int) > 1 := of_decide_eq_true c2
      refine ⟨_, rfl, _, hD', small1000 ?_, kk.mt hD, ?_⟩
      · rw [List.length_map]
        refine Nat.le_trans (List.length_filter_le _ _) (Nat.le_trans (List.length_take_le' _ _) (by simp))
      · rw [ft_yes hy (decide_eq_true (by omega))]
        exact upd_same
    · have c2' : ¬ (y : Int) > 1 := fun z => c2 (decide_eq_true z)
      exact ⟨kk, by rw [ft_no hy (decide_eq_false (by omega))]; exact hD'⟩
  · refine q D H' ?_ (k1.trans p.1) ?_
    · cases e : H D with
      | none => rfl
      | some o => rw [k1.k _ _ e (by simp)] at hD; cases hD
    · rw [kids_of hn]
      exact p.2
theorem ok_reached (D : GM K C "reached" "Diagrams.reached" sD_Dreached ["self", "conditions"]) (T : TSto K w mg C) (m_parts : Met P w K mg base 1 C "_parts" (spParts C) []) : Met P w K mg base 2 C "reached" (spReached K C) [] := by
  refine D.met T.cl sc_Dreached (fun vs H Q E h => ?_) (fun f cdv A outer s0 H vs Q E hr h => ?_)
  · obtain ⟨E, s, ns, b, cs, a, rfl, _⟩ := h
    rfl
  obtain ⟨E, s, ns, b, cs, a, rfl, S, hS, hcs, hb, q⟩ := h
  have hu := hu_of hr
  refine ⟨_, (pss_cons (ps_set (i := 2) sc_Dreached.nd rfl (Or.inr rfl) pe_dnewK)
    (pss_cons (ps_for PassesOwn.never rfl (pi_list (pv 1)) (pg_name (i := 3) sc_Dreached.nd rfl (Or.inl rfl)) (pss_cons (ps_set (i := 4) sc_Dreached.nd rfl (Or.inl rfl) (pe_lst (pa_cons (pv 3) pa_nil)))
    (pss_one (ps_while PassesOwn.never (pt_truth (pv 4) (by intro _; rfl)) (pss_cons (ps_set (i := 5) sc_Dreached.nd rfl (Or.inl rfl) (pe_ix ix_list (pv 4) (pe_un un_neg pe_int) (fun _ _ => rfl)))
    (pss_cons (ps_setLc (i := 6) (own := [("part", 7)]) (g := gName 7) rfl sc_Dreached.nd rfl rfl (sw_true rfl rfl rfl (by decide +kernel)) (pi_list (pe_mt m_parts hr (by omega) (pv 0) (pa_cons (pv 5) pa_nil))) (blkOk_by (own := [("part", 7)]) (N := ["self", "conditions", "found", "condition", "pending", "last", "parts", "part"]) (sc := defScope sD_Dreached) (by decide +kernel)) (fun _ _ _ _ _ => (pg_name (i := 7) sc_Dreached.nd rfl (Or.inl rfl))) (fun _ _ _ _ _ => (pts_one (pt_cmp (pc_dnotin hu (pv 7) (pv 2))))) (fun _ _ _ _ _ => (pv 7)))
    (pss_one (ps_if (pt_truth (pv 6) (by intro _; rfl)) (pss_one (ps_expr (pe_bm PySem.F.plainAttrs_list PySem.F.slot_list_append PySem.F.type_list_append mt_append (pv 4) (pa_cons (pe_ix ix_list (pv 6) pe_int (fun _ _ => rfl)) pa_nil)))) (pss_cons (ps_expr (pe_bm0 PySem.F.plainAttrs_list PySem.F.slot_list_pop PySem.F.type_list_pop mt_pop (pv 4)))
    (pss_one (ps_if (pt_cmpR op_gt (pv 5) (pe_gc rfl T.g_ALWAYS) (nomark _)) (pss_one (ps_dput hu (pv 2) (pv 5) pe_bl rfl)) pss_nil)))))))))))
    (pss_one (ps_ret (pe_callTy (call_list_dK rfl) (by rfl) T.n_list (by decide +kernel) (pa_cons (pv 2) pa_nil)))))), ?_⟩
  intro d hd
  have nle := S.le
  have sz : ∀ n : Nat, n ≤ ns.length + 3 → n < sizeLine := fun n h => Nat.lt_of_le_of_lt (show n ≤ 1000003 by omega) (by decide)
  refine ⟨_, rfl, a, rfl, ⟨_, (Kp.toSame (.new hd)).seq hS⟩, for_list (K := K) (a := a) (xs := cs.map vI) (fun i σ H' => ∃ (F : List Nat) (v3 v4 v5 v6 : Option V),
    σ = [some (.ref s.p), some (.ref a), some (.ref d), v3, v4, v5, v6, none] ∧ Kp [] H H' ∧ H' d = some (.dK (fk F)) ∧ Reached ns (cs.take i) F)
    ⟨[], none, none, none, none, rfl, .new hd, upd_same, ⟨⟨List.nodup_nil, fun x hx => (by cases hx), fun i x hx => (by simp at hx)⟩, fun c hc => (by simp at hc)⟩⟩
    (fun i σ H' _ ⟨F, v3, v4, v5, v6, _, k, _⟩ => k.toSame.seq hS) ?_ ?_⟩
  · rintro i x σ H1 hi ⟨F0, v3, v4, v5, v6, rfl, k1, hd1, R0⟩
    obtain ⟨c, hc, rfl⟩ := mapAt hi
    have hcm : c ∈ cs := List.mem_of_getElem? hc
    have tk : cs.take (i + 1) = cs.take i ++ [c] := by rw [List.take_add_one, hc]; rfl
    have hct : c ∈ cs.take (i + 1) := by rw [tk]; simp
    have hsub : ∀ c' ∈ cs.take i, c' ∈ cs.take (i + 1) := fun c' h => by rw [tk]; exact List.mem_append_left _ h
    have hcs' : ∀ c' ∈ cs.take (i + 1), c' < ns.length + 2 := fun c' h => hcs c' (List.mem_of_mem_take h)
    refine ⟨_, rfl, (by show 1 ≤ sizeLine; decide), fun P hP => ?_⟩
    have hP0 : H P = none := k1.free hP (by simp)
    have hdP : d ≠ P := fun e => by rw [← e, hd1] at hP; cases hP
    refine ⟨fun m σ' H2 => ∃ (F S : List Nat) (v5 v6 : Option V), σ' = [some (.ref s.p), some (.ref a), some (.ref d), some (.int c), some (.ref P), v5, v6, none] ∧ Kp [] H H2 ∧ H2 d = some (.dK (fk F)) ∧ H2 P = some (.lst (S.map vI)) ∧
      Stk ns (cs.take (i + 1)) c F S ∧ (∀ c' ∈ cs.take i, 2 ≤ c' → c' ∈ F) ∧ m = left (ns.length + 2) F S, ⟨_, F0, [c], v5, v6, rfl, k1.mt hP0, by rw [upd_ne hdP]; exact hd1, upd_same, .start (R0.toFnd.wide hsub), R0.top, rfl⟩, ?_⟩
    rintro m σ' H2 ⟨F, St, v5, v6, rfl, k2, hd2, hP2, stk, old, rfl⟩
    have hFl := stk.f.len S.ok hcs'
    have hSl := stk.len (hcs c hcm) S.ok
    refine ⟨_, rfl, _, .inl ⟨_, SqL.of hP2, rfl⟩, ?_⟩
    by_cases e : St = []
    · subst e
      refine iteF ?_
      refine ⟨F, _, _, _, _, rfl, k2, hd2, ⟨stk.f, fun c' hc' h2 => ?_⟩⟩
      rw [tk] at hc'
      rcases List.mem_append.mp hc' with m | m
      · exact old c' m h2
      · rw [List.mem_singleton.mp m] at h2 ⊢
        exact stk.fin rfl h2
    · obtain ⟨S0, x, rfl⟩ := snoc_of e
      rw [show (!((S0 ++ [x]).map vI).isEmpty) = true by simp]
      refine iteT ⟨fun σ2 H3 => ∃ m', m' < left (ns.length + 2) F (S0 ++ [x]) ∧ ∃ (F S : List Nat) (v5 v6 : Option V), σ2 = [some (.ref s.p), some (.ref a), some (.ref d), some (.int c), some (.ref P), v5, v6, none] ∧ Kp [] H H3 ∧ H3 d = some (.dK (fk F)) ∧ H3 P = some (.lst (S.map vI)) ∧
        Stk ns (cs.take (i + 1)) c F S ∧ (∀ c' ∈ cs.take i, 2 ≤ c' → c' ∈ F) ∧ m' = left (ns.length + 2) F S, fun _ _ h => h, ?_⟩
      have hx : x < ns.length + 2 := by have := (stk.rch x (by simp)).le S.ok; have := hcs c hcm; omega
      refine ⟨_, rfl, _, rfl, P, _, _, _, rfl, rfl, SqL.of hP2, (by rw [List.map_append]; exact atI_last _ _), ?_⟩
      have S2 := S.new k2
      refine ⟨_, rfl, s.p, s.dx, _, rfl, S2.ob, sf_no _ _ _ (by decide +kernel) (by decide +kernel) (by decide +kernel), _, rfl, E, s, ns, b, x, rfl, S2, hx, fun p H3 hp k3 hp3 => ?_⟩
      have hd3 : H3 d = some (.dK (fk F)) := k3.k _ _ hd2 (by simp)
      refine ⟨p, rfl, ⟨_, SqL.of hp3⟩, fun D hD => lc_list (K := K) (a := p) (xs := (kids ns x).map vI) (fun j H4 => Kp [] H3 H4 ∧ H4 D = some (.lst ((((kids ns x).take j).filter fun y => decide (y ∉ F)).map vI))) ⟨.new hD, upd_same⟩ (fun j H4 _ z => SqL.of (z.1.k _ _ hp3 (by simp))) (fun j y H4 hj z => ?_) (fun H4 z => ?_)⟩
      · obtain ⟨y, hy, rfl⟩ := mapAt hj
        obtain ⟨k4, hD4⟩ := z
        have hd4 : H4 d = some (.dK (fk F)) := k4.k _ _ hd3 (by simp)
        refine ⟨rfl, _, rfl, _, rfl, d, _, rfl, DGet.k (k := Sum.inl (y : Int)) hd4, _, rfl, ?_⟩
        rw [fk_val]
        by_cases m : y ∈ F
        · rw [if_pos m]
          refine iteF ⟨k4, ?_⟩
          rw [ft_no hy (decide_eq_false fun z => z m)]
          exact hD4
        · rw [if_neg m]
          refine iteT ⟨_, rfl, _, hD4, small1000 ?_, k4.mt hD, ?_⟩
          · rw [List.length_map]
            have h2 : (kids ns x).length ≤ 2 := by
              unfold kids
              split
              · exact Nat.zero_le _
              · exact List.length_filter_le _ _
            refine Nat.le_trans (List.length_filter_le _ _) (Nat.le_trans (List.length_take_le' _ _) (by omega))
          · rw [ft_yes hy (decide_eq_true m)]
            exact upd_same
      · obtain ⟨k4, hD4⟩ := z
        have ef : (kids ns x).take ((kids ns x).map vI).length = kids ns x := by rw [List.length_map, List.take_length]
        rw [ef] at hD4
        have k24 : Kp [] H2 H4 := k3.trans k4
        have hd4 : H4 d = some (.dK (fk F)) := k24.k _ _ hd2 (by simp)
        have hP4 : H4 P = some (.lst ((S0 ++ [x]).map vI)) := k24.k _ _ hP2 (by simp)
        have k04 : Kp [] H H4 := k2.trans k24
        refine ⟨_, rfl, _, .inl ⟨_, SqL.of hD4, rfl⟩, ?_⟩
        cases el : (kids ns x).filter fun y => decide (y ∉ F) with
        | cons y rest =>
          refine iteT ?_
          rw [el] at hD4
          have hy : y ∈ (kids ns x).filter fun y => decide (y ∉ F) := by rw [el]; simp
          obtain ⟨hy1, hy2⟩ := List.mem_filter.mp hy
          have hl4 : ((S0 ++ [x]).map vI).length < sizeLine := by rw [List.length_map]; exact sz _ (by omega)
          refine ⟨_, rfl, .inl ⟨rfl, _, SqL.of hP4⟩, _, rfl, D, _, _, _, rfl, rfl, SqL.of hD4, (atI_nat (j := 0) rfl), P, _, _, rfl, rfl, hP4, hl4, ?_⟩
          refine ⟨_, left_push (y := y) (by simp) hSl, F, S0 ++ [x] ++ [y], _, _, rfl, k04.mt hP0, by rw [upd_ne hdP]; exact hd4, ?_, stk.push S.ok hy1 (of_decide_eq_true hy2), old, rfl⟩
          rw [upd_same, List.map_append (l₁ := S0 ++ [x])]
          rfl
        | nil =>
          refine iteF ?_
          have hk : ∀ y ∈ kids ns x, y ∈ F := fun y hy => Classical.byContradiction fun z => by
            have : y ∈ (kids ns x).filter fun y => decide (y ∉ F) := List.mem_filter.mpr ⟨hy, decide_eq_true z⟩
            rw [el] at this
            cases this
          have stk' := stk.pop hct hk
          have hA := stk'.f.len S.ok hcs'
          have lt := left_pop stk hSl hA
          have el2 : ((S0 ++ [x]).map vI)[((S0 ++ [x]).map vI).length - 1]? = some (vI x) := by
            rw [List.map_append, List.length_append]
            show (S0.map vI ++ [vI x])[(S0.map vI).length + 1 - 1]? = _
            rw [Nat.add_sub_cancel, List.getElem?_append_right (Nat.le_refl _), Nat.sub_self]
            rfl
          have ed : ((S0 ++ [x]).map vI).dropLast = S0.map vI := by rw [List.map_append]; exact List.dropLast_concat
          refine ⟨_, rfl, .inl ⟨rfl, _, SqL.of hP4⟩, P, _, _, rfl, rfl, hP4, el2, ?_⟩
          rw [ed]
          have old' : ∀ c' ∈ cs.take i, 2 ≤ c' → c' ∈ addF F x := fun c' h h2 => by
            unfold addF
            split
            · exact List.mem_append_left _ (old c' h h2)
            · exact old c' h h2
          refine ⟨_, rfl, _, _, rfl, rfl, _, rfl, ?_⟩
          refine ite2 (fun c2 => ?_) (fun c2 => ?_)
          · have c2' : (x : Int) > 1 := of_decide_eq_true c2
            have hd5 : (upd H4 P (.lst (S0.map vI))) d = some (.dK (fk F)) := by rw [upd_ne hdP]; exact hd4
            refine ⟨_, rfl, _, rfl, d, _, rfl, DPut.k (k := Sum.inl (x : Int)) hd5 (by rw [fk_len]; exact sz _ (by omega)), ?_⟩
            refine ⟨_, lt, addF F x, S0, _, _, rfl, (k04.mt hP0).mt hd, ?_, by rw [upd_ne hdP.symm, upd_same], stk', old', rfl⟩
            rw [upd_same, fk_add F x (by omega)]
          · have c2' : ¬ (x : Int) > 1 := fun z => c2 (decide_eq_true z)
            have ea : addF F x = F := by unfold addF; rw [if_neg (fun z => by omega)]
            refine ⟨_, lt, addF F x, S0, _, _, rfl, k04.mt hP0, by rw [upd_ne hdP, ea]; exact hd4, upd_same, stk', old', rfl⟩
  · rintro σ H1 ⟨F, v3, v4, v5, v6, rfl, k1, hd1, R⟩
    rw [List.length_map, List.take_length] at R
    refine ⟨_, rfl, d, _, rfl, hd1, fun r hr' => ?_⟩
    refine q F r _ R (k1.free hr' (by simp)) (k1.newer hr') ?_
    rw [upd_same, fk_keys]
end

/-! ### depends -/
def spDepends (C : Addr) : Sp := fun vs H Q _ => ∃ (E : List Int) (s : SA) (ns : List Node) (b c : Nat), vs = [.ref s.p, .int c] ∧ StoAt C E s H ns b ∧ c < ns.length + 2 ∧ E.Nodup ∧ E.length ≤ 8 ∧ b ≤ 1000000 ∧
  ∀ (R : List Nat) (L : List Int) (r : Addr) (H' : Hp), Reached ns [c] R → L.Pairwise (· < ·) → (∀ k, k ∈ L ↔ ∃ x ∈ R, ∃ n, nod ns x = some n ∧ n.1 = k) → H r = none → Kp [] H H' →
    H' r = some (.lst (L.map V.int)) → Q (.ref r) H'
theorem filter_add {E : List Int} {S : Int → Bool} {k : Int} (nd : E.Nodup) (hk : k ∈ E) : (E.filter fun j => S j || decide (j = k)).length = if S k = true then (E.filter S).length else (E.filter S).length + 1 := by
  by_cases h : S k = true
  · rw [if_pos h]
    congr 1
    refine List.filter_congr fun j _ => ?_
    by_cases e : j = k
    · rw [e, h]; rfl
    · rw [decide_eq_false e, Bool.or_false]
  · rw [if_neg h]
    induction E with
    | nil => cases hk
    | cons a r ih =>
      obtain ⟨n1, n2⟩ := List.nodup_cons.mp nd
      rw [List.filter_cons, List.filter_cons]
      by_cases e : a = k
      · subst e
        rw [if_pos (by simp), if_neg h, List.length_cons]
        congr 2
        refine List.filter_congr fun j hj => ?_
        have : j ≠ a := fun z => n1 (z ▸ hj)
        rw [decide_eq_false this, Bool.or_false]
      · have hk' : k ∈ r := (List.mem_cons.mp hk).resolve_left fun z => e z.symm
        have := ih n2 hk'
        rw [decide_eq_false e, Bool.or_false]
        split
        · rw [List.length_cons, List.length_cons, this]
        · exact this

/-! ### data that are compared: _law_same of equal data -/
mutual
inductive Has (H : Hp) : V → PyData → Prop
  | non : Has H .non .none
  | bl (b : Bool) : Has H (.bl b) (.bool b)
  | int (i : Int) : Has H (.int i) (.int i)
  | str (x : Str) : Has H (.str x) (.str x)
  | lst {a : Addr} {xs : List V} {ds : List PyData} : H a = some (.lst xs) → HasAll H xs ds → Has H (.ref a) (.list ds)
  | tup {a : Addr} {xs : List V} {ds : List PyData} : H a = some (.tup xs) → HasAll H xs ds → Has H (.ref a) (.tuple ds)
inductive HasAll (H : Hp) : List V → List PyData → Prop
  | nil : HasAll H [] []
  | cons {v : V} {vs : List V} {d : PyData} {ds : List PyData} : Has H v d → HasAll H vs ds → HasAll H (v :: vs) (d :: ds)
end
mutual
theorem Has.kp {H H' : Hp} (k : Kp [] H H') : ∀ (d : PyData) (v : V), Has H v d → Has H' v d
  | .none, _, h => by cases h; exact .non
  | .bool b, _, h => by cases h; exact .bl b
  | .int i, _, h => by cases h; exact .int i
  | .str x, _, h => by cases h; exact .str x
  | .list ds, _, h => by cases h with | lst e r => exact .lst (k.k _ _ e (by simp)) (HasAll.kp k ds _ r)
  | .tuple ds, _, h => by cases h with | tup e r => exact .tup (k.t _ _ e) (HasAll.kp k ds _ r)
  | .dict _, _, h => by cases h
theorem HasAll.kp {H H' : Hp} (k : Kp [] H H') : ∀ (ds : List PyData) (vs : List V), HasAll H vs ds → HasAll H' vs ds
  | [], _, h => by cases h; exact .nil
  | d :: ds, _, h => by cases h with | cons h1 h2 => exact .cons (Has.kp k d _ h1) (HasAll.kp k ds _ h2)
end
theorem HasAll.len {H : Hp} : ∀ {ds : List PyData} {vs : List V}, HasAll H vs ds → vs.length = ds.length
  | [], _, h => by cases h; rfl
  | d :: ds, _, h => by
    cases h with
    | cons h1 h2 =>
      rw [List.length_cons, List.length_cons, HasAll.len h2]
theorem HasAll.at {H : Hp} : ∀ {ds : List PyData} {vs : List V} {i : Nat}, HasAll H vs ds → i < ds.length → ∃ v d, vs[i]? = some v ∧ ds[i]? = some d ∧ Has H v d
  | [], _, _, _, h => absurd h (Nat.not_lt_zero _)
  | d :: ds, _, 0, h, _ => by
    cases h with
    | cons h1 h2 => exact ⟨_, d, rfl, rfl, h1⟩
  | d :: ds, _, i + 1, h, l => by
    cases h with
    | cons h1 h2 =>
      obtain ⟨v, d', e1, e2, e3⟩ := HasAll.at (i := i) h2 (by simpa using l)
      exact ⟨v, d', e1, e2, e3⟩
-- how deep, how long
mutual
def fitsD : Nat → PyData → Prop
  | _, .none => True
  | _, .bool _ => True
  | _, .int _ => True
  | _, .str _ => True
  | 0, .list _ => False
  | 0, .tuple _ => False
  | n + 1, .list ds => ds.length ≤ 1000 ∧ fitsAll n ds
  | n + 1, .tuple ds => ds.length ≤ 1000 ∧ fitsAll n ds
  | _, .dict _ => False
def fitsAll : Nat → List PyData → Prop
  | _, [] => True
  | n, d :: ds => fitsD n d ∧ fitsAll n ds
end
theorem fitsAll_at : ∀ {n : Nat} {ds : List PyData} {i : Nat} {d : PyData}, fitsAll n ds → ds[i]? = some d → fitsD n d
  | _, [], _, _, _, h => by simp at h
  | n, x :: ds, 0, d, h, e => by
    cases e
    simp only [fitsAll] at h
    exact h.1
  | n, x :: ds, i + 1, d, h, e => by
    simp only [fitsAll] at h
    exact fitsAll_at h.2 (by simpa using e)
def spSame (n : Nat) : Sp := fun vs H Q _ => ∃ (x y : V) (d : PyData) (m : Nat), vs = [x, y] ∧ Has H x d ∧ Has H y d ∧ fitsD m d ∧ m < n ∧ ∀ H', Kp [] H H' → Q (.bl true) H'
structure TSame (mg : Str → Option Value) : Prop where
  n_isinstance : mg "isinstance" = none
  n_list : mg "list" = none
  n_tuple : mg "tuple" = none
  n_bool : mg "bool" = none
  n_str : mg "str" = none
  n_int : mg "int" = none
  n_len : mg "len" = none
  n_all : mg "all" = none
  n_range : mg "range" = none
theorem kitAny2 {K : PySem.W.Frag} {t c1 c2 : Value} {b1 b2 : Bool} (h1 : PySem.W.kitOne K t c1 = some b1) (h2 : PySem.W.kitOne K t c2 = some b2) : PySem.W.kitAny K t [c1, c2] = some (b1 || b2) := by
  unfold PySem.W.kitAny
  rw [h1]
  cases b1 with
  | true => rfl
  | false =>
    dsimp only
    unfold PySem.W.kitAny
    rw [h2]
    cases b2 <;> rfl
theorem all_true (n : Nat) : (List.replicate n true).all id = true := by simp
section
variable {P : Program} {w : World} {K : PySem.W.Frag} {mg : Str → Option Value} {base : Heap}
theorem same_step {n : Nat} (D : GD K mg "_law_same" sD_Lsame ["actual", "due"]) (T : TSame mg) (c_Lsame : Cal P w K mg base n "_law_same" (spSame n) []) : Cal P w K mg base (n + 1) "_law_same" (spSame (n + 1)) [] := by
  refine D.cal sc_Lsame (fun vs H Q E h => ?_) (fun f cdv A outer s0 H vs Q E hr h => ?_)
  · obtain ⟨x, y, d, m, rfl, _⟩ := h
    rfl
  obtain ⟨x, y, d, m, rfl, hx, hy, hf, hm, q⟩ := h
  refine ⟨_, (pss_cons (ps_if (pt_val (pe_callB call_isiT (by rfl) T.n_isinstance (by decide +kernel) (pa_cons (pv 1) (pa_cons (pe_tup (pa_cons (pe_bltn (v := .ty "list") (by rfl) T.n_list (by decide +kernel) rfl) (pa_cons (pe_bltn (v := .ty "tuple") (by rfl) T.n_tuple (by decide +kernel) rfl) pa_nil))) pa_nil)))) (pss_cons (ps_if (PW.pt (pw_or (pt_cmpR op_ne (pe_callB call_isi (by rfl) T.n_isinstance (by decide +kernel) (pa_cons (pv 1) (pa_cons (pe_bltn (v := .ty "list") (by rfl) T.n_list (by decide +kernel) rfl) pa_nil))) (pe_callB call_isi (by rfl) T.n_isinstance (by decide +kernel) (pa_cons (pv 0) (pa_cons (pe_bltn (v := .ty "list") (by rfl) T.n_list (by decide +kernel) rfl) pa_nil))) (nomark _)) (pw_or1 (pt_cmpR op_ne (pe_callB call_isi (by rfl) T.n_isinstance (by decide +kernel) (pa_cons (pv 1) (pa_cons (pe_bltn (v := .ty "tuple") (by rfl) T.n_tuple (by decide +kernel) rfl) pa_nil))) (pe_callB call_isi (by rfl) T.n_isinstance (by decide +kernel) (pa_cons (pv 0) (pa_cons (pe_bltn (v := .ty "tuple") (by rfl) T.n_tuple (by decide +kernel) rfl) pa_nil))) (nomark _))))) (pss_one (ps_ret pe_bl)) pss_nil)
    (pss_cons (ps_if (pt_cmpR op_ne (pe_callB call_len_seq (by rfl) T.n_len (by decide +kernel) (pa_cons (pv 0) pa_nil)) (pe_callB call_len_seq (by rfl) T.n_len (by decide +kernel) (pa_cons (pv 1) pa_nil)) (nomark _)) (pss_one (ps_ret pe_bl)) pss_nil)
    (pss_one (ps_ret (pe_callB (cr_all rfl) (by rfl) T.n_all (by decide +kernel) (pa_cons (pe_lc (own := [("k", 2)]) (g := gName 2) (tt := tYes) rfl sc_Lsame.nd (pi_range1 (by rfl) T.n_range (pa_cons (pe_callB call_len_seq (by rfl) T.n_len (by decide +kernel) (pa_cons (pv 1) pa_nil)) pa_nil)) (blkOk_by (own := [("k", 2)]) (N := ["actual", "due", "k"]) (sc := defScope sD_Lsame) (by decide +kernel)) (fun _ _ _ _ _ => (pg_name (i := 2) sc_Lsame.nd rfl (Or.inl rfl))) (fun _ _ _ _ _ => pts_nil) (fun _ _ _ _ _ => (pe_c c_Lsame hr (by omega) rfl (pa_cons (bx_seq (K := K) rfl (pv 0) (pv 2) (fun _ _ => rfl)) (pa_cons (bx_seq (K := K) rfl (pv 1) (pv 2) (fun _ _ => rfl)) pa_nil))))) pa_nil)))))) pss_nil)
    (pss_cons (ps_if (pt_cmp (pc_isN (pv 1))) (pss_one (ps_ret (pe_cmp (pc_isN (pv 0)) rfl))) pss_nil)
    (pss_cons (ps_if (pt_cmpR op_ne (pe_callB call_isi (by rfl) T.n_isinstance (by decide +kernel) (pa_cons (pv 1) (pa_cons (pe_bltn (v := .ty "bool") (by rfl) T.n_bool (by decide +kernel) rfl) pa_nil))) (pe_callB call_isi (by rfl) T.n_isinstance (by decide +kernel) (pa_cons (pv 0) (pa_cons (pe_bltn (v := .ty "bool") (by rfl) T.n_bool (by decide +kernel) rfl) pa_nil))) (nomark _)) (pss_one (ps_ret pe_bl)) pss_nil)
    (pss_cons (ps_if (pt_val (pe_callB call_isi (by rfl) T.n_isinstance (by decide +kernel) (pa_cons (pv 1) (pa_cons (pe_bltn (v := .ty "str") (by rfl) T.n_str (by decide +kernel) rfl) pa_nil)))) (pss_one (ps_ret (pe_and (pe_callB call_isi (by rfl) T.n_isinstance (by decide +kernel) (pa_cons (pv 0) (pa_cons (pe_bltn (v := .ty "str") (by rfl) T.n_str (by decide +kernel) rfl) pa_nil))) (pe_one (pe_cmpR op_eq (pv 0) (pv 1) (nomark _)))))) pss_nil)
    (pss_one (ps_ret (pe_and (pe_callB call_isi (by rfl) T.n_isinstance (by decide +kernel) (pa_cons (pv 0) (pa_cons (pe_bltn (v := .ty "int") (by rfl) T.n_int (by decide +kernel) rfl) pa_nil))) (pe_one (pe_cmpR op_eq (pv 0) (pv 1) (nomark _)))))))))), ?_⟩
  have b2 : (2 : Nat) ≤ sizeLine := by decide
  have kit : ∀ {a b : String} {r : Bool}, kitB a b = some r → PySem.W.kitOne K (.type a) (.type b) = some r := fun h => kit_ty h
  have cls2 : Paired ClsV [.ty "list", .ty "tuple"] [Value.type "list", Value.type "tuple"] := .cons (.ty _) (.cons (.ty _) .nil)
  -- a list or a tuple: its parts
  have parts : ∀ {xs ys : List V} {ds : List PyData} {a a' : Addr} {H1 : Hp} {D' : Ends} , True := fun {_ _ _ _ _ _ _} => True.intro
  cases d with
  | none =>
    cases hx
    cases hy
    refine ⟨_, rfl, b2, fun tp htp => ⟨_, tp, _, _, _, _, rfl, upd_same, cls2, .base .non, kitAny2 (kit (r := false) (by decide +kernel)) (kit (r := false) (by decide +kernel)), _, rfl, ?_⟩⟩
    refine iteF ?_
    refine ⟨_, rfl, _, rfl, iteT ?_⟩
    exact ⟨_, rfl, q _ (.new htp)⟩
  | bool b =>
    cases hx
    cases hy
    refine ⟨_, rfl, b2, fun tp htp => ⟨_, tp, _, _, _, _, rfl, upd_same, cls2, .base (.bl b), kitAny2 (kit (r := false) (by decide +kernel)) (kit (r := false) (by decide +kernel)), _, rfl, ?_⟩⟩
    refine iteF ?_
    refine ⟨_, rfl, _, rfl, iteF ?_⟩
    refine ⟨_, rfl, _, _, _, _, _, rfl, .ty _, .base (.bl b), kit (r := true) (by decide +kernel), _, rfl, _, _, _, _, _, rfl, .ty _, .base (.bl b), kit (r := true) (by decide +kernel), rfl, _, rfl, ?_⟩
    refine iteF ?_
    refine ⟨_, rfl, _, _, _, _, _, rfl, .ty _, .base (.bl b), kit (r := false) (by decide +kernel), _, rfl, iteF ?_⟩
    refine ⟨_, rfl, _, _, _, _, _, rfl, .ty _, .base (.bl b), kit (r := true) (by decide +kernel), _, rfl, iteT ?_⟩
    refine ⟨_, rfl, _, rfl, rfl, ?_⟩
    have e : decide (V.bl b = V.bl b) = true := decide_eq_true rfl
    rw [e]
    exact q _ (.new htp)
  | int i =>
    cases hx
    cases hy
    refine ⟨_, rfl, b2, fun tp htp => ⟨_, tp, _, _, _, _, rfl, upd_same, cls2, .base (.int i), kitAny2 (kit (r := false) (by decide +kernel)) (kit (r := false) (by decide +kernel)), _, rfl, ?_⟩⟩
    refine iteF ?_
    refine ⟨_, rfl, _, rfl, iteF ?_⟩
    refine ⟨_, rfl, _, _, _, _, _, rfl, .ty _, .base (.int i), kit (r := false) (by decide +kernel), _, rfl, _, _, _, _, _, rfl, .ty _, .base (.int i), kit (r := false) (by decide +kernel), rfl, _, rfl, ?_⟩
    refine iteF ?_
    refine ⟨_, rfl, _, _, _, _, _, rfl, .ty _, .base (.int i), kit (r := false) (by decide +kernel), _, rfl, iteF ?_⟩
    refine ⟨_, rfl, _, _, _, _, _, rfl, .ty _, .base (.int i), kit (r := true) (by decide +kernel), _, rfl, iteT ?_⟩
    refine ⟨_, rfl, _, rfl, rfl, ?_⟩
    have e : decide (V.int i = V.int i) = true := decide_eq_true rfl
    rw [e]
    exact q _ (.new htp)
  | str z =>
    cases hx
    cases hy
    refine ⟨_, rfl, b2, fun tp htp => ⟨_, tp, _, _, _, _, rfl, upd_same, cls2, .base (.str z), kitAny2 (kit (r := false) (by decide +kernel)) (kit (r := false) (by decide +kernel)), _, rfl, ?_⟩⟩
    refine iteF ?_
    refine ⟨_, rfl, _, rfl, iteF ?_⟩
    refine ⟨_, rfl, _, _, _, _, _, rfl, .ty _, .base (.str z), kit (r := false) (by decide +kernel), _, rfl, _, _, _, _, _, rfl, .ty _, .base (.str z), kit (r := false) (by decide +kernel), rfl, _, rfl, ?_⟩
    refine iteF ?_
    refine ⟨_, rfl, _, _, _, _, _, rfl, .ty _, .base (.str z), kit (r := true) (by decide +kernel), _, rfl, iteT ?_⟩
    refine ⟨_, rfl, _, _, _, _, _, rfl, .ty _, .base (.str z), kit (r := true) (by decide +kernel), _, rfl, iteT ?_⟩
    refine ⟨_, rfl, _, rfl, rfl, ?_⟩
    have e : decide (V.str z = V.str z) = true := decide_eq_true rfl
    rw [e]
    exact q _ (.new htp)
  | dict _ => cases hx
  | list ds =>
    cases m with
    | zero => simp only [fitsD] at hf
    | succ m =>
    simp only [fitsD] at hf
    obtain ⟨hl, hfa⟩ := hf
    cases hx with
    | @lst a xs _ ea ra =>
    cases hy with
    | @lst a' ys _ eb rb =>
    have lx := ra.len
    have ly := rb.len
    refine ⟨_, rfl, b2, fun tp htp => ⟨_, tp, _, _, _, _, rfl, upd_same, cls2, .base (.lst (by rw [upd_ne (ne_of_none eb htp)]; exact eb)), kitAny2 (kit (r := true) (by decide +kernel)) (kit (r := false) (by decide +kernel)), _, rfl, ?_⟩⟩
    obtain ⟨H1, hH1⟩ : ∃ H1, upd H tp (.tup [.ty "list", .ty "tuple"]) = H1 := ⟨_, rfl⟩
    have k1 : Kp [] H H1 := by rw [← hH1]; exact .new htp
    rw [hH1]
    have ea1 := k1.k _ _ ea (by simp)
    have eb1 := k1.k _ _ eb (by simp)
    refine iteT ?_
    refine ⟨_, rfl, _, _, _, _, _, rfl, .ty _, .base (.lst eb1), kit (r := true) (by decide +kernel), _, rfl, _, _, _, _, _, rfl, .ty _, .base (.lst ea1), kit (r := true) (by decide +kernel), rfl, _, rfl, ?_⟩
    refine iteF ?_
    refine ⟨_, rfl, _, _, _, _, _, rfl, .ty _, .base (.lst eb1), kit (r := false) (by decide +kernel), _, rfl, _, _, _, _, _, rfl, .ty _, .base (.lst ea1), kit (r := false) (by decide +kernel), rfl, _, rfl, ?_⟩
    refine iteF ?_
    refine ⟨_, rfl, a, _, rfl, .inl (SqL.of ea1), _, rfl, a', _, rfl, .inl (SqL.of eb1), rfl, _, rfl, ?_⟩
    refine iteNS (by rw [lx, ly]) ?_
    have e0 : ((ys.length : Int)).toNat = ds.length := by omega
    refine ⟨_, rfl, a', _, rfl, .inl (SqL.of eb1), _, rfl, by omega, by omega, ?_⟩
    rw [e0]
    refine fun L hL => lc_range (lo := 0) (n := ds.length) (fun i H' => Kp [] H1 H' ∧ H' L = some (.lst ((List.replicate i true).map V.bl))) ⟨.new hL, upd_same⟩ (fun i H' hi p => ?_) (fun H' p => ?_)
    · obtain ⟨k2, hL2⟩ := p
      obtain ⟨v, d, e1, e2, e3⟩ := ra.at hi
      obtain ⟨v', d', e1', e2', e3'⟩ := rb.at hi
      rw [e2] at e2'
      cases e2'
      have k02 := k1.trans k2
      refine ⟨rfl, _, rfl, _, rfl, .inl ⟨a, _, _, _, rfl, rfl, SqL.of (k02.k _ _ ea (by simp)), at_of (by omega) e1, _, rfl, _, rfl, .inl ⟨a', _, _, _, rfl, rfl, SqL.of (k02.k _ _ eb (by simp)), at_of (by omega) e1', ?_⟩⟩⟩
      refine ⟨v, v', d, m, rfl, e3.kp k02, e3'.kp k02, fitsAll_at hfa e2, by omega, fun H3 k3 => ⟨_, k3.k _ _ hL2 (by simp), ?_, (k2.trans k3).mt hL, ?_⟩⟩
      · rw [List.length_map, List.length_replicate]
        exact small1000 (by omega)
      · rw [upd_same, List.replicate_succ', List.map_append]
        rfl
    · exact ⟨L, _, rfl, SqL.of p.2, by rw [all_true]; exact q _ (k1.trans p.1)⟩
  | tuple ds =>
    cases m with
    | zero => simp only [fitsD] at hf
    | succ m =>
    simp only [fitsD] at hf
    obtain ⟨hl, hfa⟩ := hf
    cases hx with
    | @tup a xs _ ea ra =>
    cases hy with
    | @tup a' ys _ eb rb =>
    have lx := ra.len
    have ly := rb.len
    refine ⟨_, rfl, b2, fun tp htp => ⟨_, tp, _, _, _, _, rfl, upd_same, cls2, .base (.tup (by rw [upd_ne (ne_of_none eb htp)]; exact eb)), kitAny2 (kit (r := false) (by decide +kernel)) (kit (r := true) (by decide +kernel)), _, rfl, ?_⟩⟩
    obtain ⟨H1, hH1⟩ : ∃ H1, upd H tp (.tup [.ty "list", .ty "tuple"]) = H1 := ⟨_, rfl⟩
    have k1 : Kp [] H H1 := by rw [← hH1]; exact .new htp
    rw [hH1]
    have ea1 := k1.t _ _ ea
    have eb1 := k1.t _ _ eb
    refine iteT ?_
    refine ⟨_, rfl, _, _, _, _, _, rfl, .ty _, .base (.tup eb1), kit (r := false) (by decide +kernel), _, rfl, _, _, _, _, _, rfl, .ty _, .base (.tup ea1), kit (r := false) (by decide +kernel), rfl, _, rfl, ?_⟩
    refine iteF ?_
    refine ⟨_, rfl, _, _, _, _, _, rfl, .ty _, .base (.tup eb1), kit (r := true) (by decide +kernel), _, rfl, _, _, _, _, _, rfl, .ty _, .base (.tup ea1), kit (r := true) (by decide +kernel), rfl, _, rfl, ?_⟩
    refine iteF ?_
    refine ⟨_, rfl, a, _, rfl, .inr (SqT.of ea1), _, rfl, a', _, rfl, .inr (SqT.of eb1), rfl, _, rfl, ?_⟩
    refine iteNS (by rw [lx, ly]) ?_
    have e0 : ((ys.length : Int)).toNat = ds.length := by omega
    refine ⟨_, rfl, a', _, rfl, .inr (SqT.of eb1), _, rfl, by omega, by omega, ?_⟩
    rw [e0]
    refine fun L hL => lc_range (lo := 0) (n := ds.length) (fun i H' => Kp [] H1 H' ∧ H' L = some (.lst ((List.replicate i true).map V.bl))) ⟨.new hL, upd_same⟩ (fun i H' hi p => ?_) (fun H' p => ?_)
    · obtain ⟨k2, hL2⟩ := p
      obtain ⟨v, d, e1, e2, e3⟩ := ra.at hi
      obtain ⟨v', d', e1', e2', e3'⟩ := rb.at hi
      rw [e2] at e2'
      cases e2'
      have k02 := k1.trans k2
      refine ⟨rfl, _, rfl, _, rfl, .inr ⟨a, _, _, _, rfl, rfl, SqT.of (k02.t _ _ ea), at_of (by omega) e1, _, rfl, _, rfl, .inr ⟨a', _, _, _, rfl, rfl, SqT.of (k02.t _ _ eb), at_of (by omega) e1', ?_⟩⟩⟩
      refine ⟨v, v', d, m, rfl, e3.kp k02, e3'.kp k02, fitsAll_at hfa e2, by omega, fun H3 k3 => ⟨_, k3.k _ _ hL2 (by simp), ?_, (k2.trans k3).mt hL, ?_⟩⟩
      · rw [List.length_map, List.length_replicate]
        exact small1000 (by omega)
      · rw [upd_same, List.replicate_succ', List.map_append]
        rfl
    · exact ⟨L, _, rfl, SqL.of p.2, by rw [all_true]; exact q _ (k1.trans p.1)⟩
theorem ok_same (D : GD K mg "_law_same" sD_Lsame ["actual", "due"]) (T : TSame mg) : ∀ n, Cal P w K mg base n "_law_same" (spSame n) []
  | 0 => by
    have no : ∀ vs H Q E, ¬ spSame 0 vs H Q E := fun vs H Q E h => by
      obtain ⟨x, y, d, m, _, _, _, _, h, _⟩ := h
      omega
    obtain ⟨f, fd, F, hm, hb⟩ := D
    exact ⟨f, fd, _, [], ⟨fun vs H Q E h => absurd h (no vs H Q E), fun A outer s H args us vs Q E _ _ _ _ h => absurd h (no vs H Q E)⟩, hm, F.kp, hb, .nil⟩
  | n + 1 => same_step D T (ok_same D T n)
end

/-! ### the law's own draws: entries, a condition as a tree -/
inductive Tr where
  | con (b : Bool) | there (e : Int) | not (t : Tr) | bin (fm : Form) (a b : Tr)
def Tr.ev : Tr → (Int → Bool) → Bool
  | .con b, _ => b
  | .there e, f => f e
  | .not t, f => !t.ev f
  | .bin fm a b, f => fm.op (a.ev f) (b.ev f)
def Tr.In (E : List Int) : Tr → Prop
  | .con _ => True
  | .there e => e ∈ E
  | .not t => t.In E
  | .bin _ a b => a.In E ∧ b.In E
def Tr.depth : Tr → Nat
  | .con _ => 0
  | .there _ => 0
  | .not t => t.depth + 1
  | .bin _ a b => Nat.max a.depth b.depth + 1
def Tr.size : Tr → Nat
  | .con _ => 1
  | .there _ => 1
  | .not t => t.size + 1
  | .bin _ a b => a.size + b.size + 1
theorem Tr.size_le : ∀ t : Tr, t.size + 1 ≤ 2 ^ (t.depth + 1)
  | .con _ => by show 1 + 1 ≤ 2 ^ 1; decide
  | .there _ => by show 1 + 1 ≤ 2 ^ 1; decide
  | .not t => by
    have := t.size_le
    show t.size + 1 + 1 ≤ 2 ^ (t.depth + 1 + 1)
    rw [Nat.pow_succ]
    have := pow2_pos t.depth
    omega
  | .bin _ a b => by
    have h1 := a.size_le
    have h2 := b.size_le
    show a.size + b.size + 1 + 1 ≤ 2 ^ (Nat.max a.depth b.depth + 1 + 1)
    have m1 : 2 ^ (a.depth + 1) ≤ 2 ^ (Nat.max a.depth b.depth + 1) := Nat.pow_le_pow_right (by omega) (Nat.succ_le_succ (Nat.le_max_left _ _))
    have m2 : 2 ^ (b.depth + 1) ≤ 2 ^ (Nat.max a.depth b.depth + 1) := Nat.pow_le_pow_right (by omega) (Nat.succ_le_succ (Nat.le_max_right _ _))
    rw [Nat.pow_succ (m := Nat.max a.depth b.depth + 1)]
    omega
theorem Tr.congr {E : List Int} {f g : Int → Bool} (h : ∀ e ∈ E, f e = g e) : ∀ t : Tr, t.In E → t.ev f = t.ev g
  | .con _, _ => rfl
  | .there e, i => h e i
  | .not t, i => by
    show (!t.ev f) = (!t.ev g)
    rw [Tr.congr h t i]
  | .bin fm a b, ⟨i, j⟩ => by
    show fm.op (a.ev f) (b.ev f) = fm.op (a.ev g) (b.ev g)
    rw [Tr.congr h a i, Tr.congr h b j]
/-- the tree as nested tuples at r -/
def TreeAt (H : Hp) : Tr → Addr → Prop
  | .con b, r => H r = some (.tup [.str "constant", .int (if b then 1 else 0)])
  | .there e, r => H r = some (.tup [.str "there", .int e])
  | .not t, r => ∃ a, H r = some (.tup [.str "not", .ref a]) ∧ TreeAt H t a
  | .bin fm t u, r => ∃ a b, H r = some (.tup [.str fm.str, .ref a, .ref b]) ∧ TreeAt H t a ∧ TreeAt H u b
theorem TreeAt.kp {M : List Addr} {H H' : Hp} (k : Kp M H H') : ∀ (t : Tr) (r : Addr), TreeAt H t r → TreeAt H' t r
  | .con _, _, h => k.t _ _ h
  | .there _, _, h => k.t _ _ h
  | .not t, _, ⟨a, h, i⟩ => ⟨a, k.t _ _ h, TreeAt.kp k t a i⟩
  | .bin _ t u, _, ⟨a, b, h, i, j⟩ => ⟨a, b, k.t _ _ h, TreeAt.kp k t a i, TreeAt.kp k u b j⟩
theorem Drw.put {d sc p : Addr} {H : Hp} {o : HO} (D : Drw d sc H) (h1 : d ≠ p) (h2 : sc ≠ p) : Drw d sc (upd H p o) := by
  obtain ⟨ns, a, b, z, e1, e2, r⟩ := D
  exact ⟨ns, a, b, z, by rw [upd_ne h1]; exact e1, by rw [upd_ne h2]; exact e2, r⟩
theorem Drw.step {d sc : Addr} {H : Hp} {o : HO} (D : Drw d sc H) : Kp [d] H (upd H d o) := by
  obtain ⟨ns, a, b, z, e1, e2, r⟩ := D
  exact .put (by simp) e1 (fun xs e => by cases e)
theorem Drw.ne_new {d sc p : Addr} {H : Hp} (D : Drw d sc H) (h : H p = none) : d ≠ p ∧ sc ≠ p := by
  obtain ⟨ns, a, b, z, e1, e2, r⟩ := D
  exact ⟨ne_of_none e1 h, ne_of_none e2 h⟩
theorem Drw.dsc {d sc : Addr} {H : Hp} (D : Drw d sc H) : d ≠ sc := by
  obtain ⟨ns, a, b, z, e1, e2, p, q, r, ne⟩ := D
  exact ne
/-- entries: rising, few, small -/
structure Ent (E : List Int) (m : Nat) : Prop where
  up : E.Pairwise (· < ·)
  ne : E ≠ []
  len : E.length ≤ m
  lo : ∀ e ∈ E, 0 ≤ e ∧ e ≤ 1000
theorem Ent.nd {E : List Int} {m : Nat} (h : Ent E m) : E.Nodup := h.up.imp fun h e => by omega
def spEntries : Sp := fun vs H Q _ => ∃ (d sc : Addr) (m : Nat), vs = [.ref d, .int m] ∧ 1 ≤ m ∧ m ≤ 8 ∧ Drw d sc H ∧
  ∀ (E : List Int) (ea : Addr) (H' : Hp), Ent E m → H ea = none → Kp [d] H H' → Drw d sc H' → H' ea = some (.lst (E.map V.int)) → Q (.ref ea) H'
def spTree (n : Nat) : Sp := fun vs H Q _ => ∃ (d sc ea : Addr) (E : List Int) (dep : Nat), vs = [.ref d, .ref ea, .int dep] ∧ dep + 2 ≤ n ∧ Drw d sc H ∧ H ea = some (.lst (E.map V.int)) ∧ E ≠ [] ∧ E.length ≤ 1000 ∧ ea ≠ d ∧
  ∀ (t : Tr) (r : Addr) (H' : Hp), t.depth ≤ dep → t.In E → TreeAt H' t r → Kp [d] H H' → Drw d sc H' → Q (.ref r) H'
def spBuild (C : Addr) (n : Nat) : Sp := fun vs H Q _ => ∃ (E : List Int) (s : SA) (ns : List Node) (b : Nat) (t : Tr) (r : Addr), vs = [.ref s.p, .ref r] ∧ StoAt C E s H ns b ∧ TreeAt H t r ∧ t.In E ∧ t.depth + 33 ≤ n ∧
  E.length ≤ 8 ∧ b + 512 * t.size ≤ 1000000 ∧
  ∀ (H' : Hp) (ns' : List Node) (c : Nat), Kp s.M H H' → StoAt C E s H' ns' (b + 512 * t.size) → Pre ns ns' → c < ns'.length + 2 → (∀ f, ev ns' f c = t.ev f) → Q (.int c) H'
def spTrue (K : PySem.W.Frag) (n : Nat) : Sp := fun vs H Q _ => ∃ (t : Tr) (r a : Addr) (L : List Int), vs = [.ref r, .ref a] ∧ TreeAt H t r ∧ SqL K H a (L.map V.int) ∧ t.depth + 1 ≤ n ∧ Q (.bl (t.ev fun e => decide (e ∈ L))) H
theorem inV_ints (e : Int) (L : List Int) : inV (.int e) (L.map V.int) = decide (e ∈ L) := by
  unfold inV
  rw [List.any_map]
  induction L with
  | nil => simp
  | cons a r ih =>
    rw [List.any_cons, ih]
    show ((a == e) || decide (e ∈ r)) = decide (e ∈ a :: r)
    by_cases h : a = e
    · subst h; simp
    · have h' : ¬ e = a := fun z => h z.symm
      rw [beq_eq_false_iff_ne.mpr h, Bool.false_or]
      by_cases m : e ∈ r
      · rw [decide_eq_true m, decide_eq_true (List.mem_cons_of_mem _ m)]
      · rw [decide_eq_false m, decide_eq_false fun z => (List.mem_cons.mp z).elim h' m]
theorem flat_ints (L : List Int) : (L.map V.int).all flatV = true := by
  rw [List.all_map, List.all_eq_true]
  intro x _
  rfl
theorem dS {a b : Str} (h : a ≠ b) : decide (V.str a = V.str b) = false := decide_eq_false fun e => h (V.str.inj e)
theorem dSs (a : Str) : decide (V.str a = V.str a) = true := decide_eq_true rfl
structure TLaw (mg : Str → Option Value) : Prop where
  n_len : mg "len" = none
  n_range : mg "range" = none
  n_abs : mg "abs" = none
section
variable {P : Program} {w : World} {K : PySem.W.Frag} {mg : Str → Option Value} {base : Heap} {C : Addr}
theorem ok_entries (D : GD K mg "_law_entries" sD_Lentries ["draw", "most"]) (T : TLaw mg) (c_Lnext : Cal P w K mg base 1 "_law_next" spNext []) : Cal P w K mg base 2 "_law_entries" spEntries [] := by
  refine D.cal sc_Lentries (fun vs H Q E h => ?_) (fun f cdv A outer s0 H vs Q E hr h => ?_)
  · obtain ⟨d, sc, m, rfl, _⟩ := h
    rfl
  obtain ⟨d, sc, m, rfl, m1, m8, dr, q⟩ := h
  refine ⟨_, (pss_cons (ps_set (i := 2) sc_Lentries.nd rfl (Or.inl rfl) (pe_lst pa_nil))
    (pss_cons (ps_set (i := 3) sc_Lentries.nd rfl (Or.inl rfl) (pe_c c_Lnext hr (by omega) rfl (pa_cons (pv 0) (pa_cons pe_int pa_nil))))
    (pss_cons (ps_for PassesOwn.never rfl (pi_range1 (by rfl) T.n_range (pa_cons (pe_op op_add pe_int (pe_c c_Lnext hr (by omega) rfl (pa_cons (pv 0) (pa_cons (pv 1) pa_nil)))) pa_nil)) (pg_name (i := 4) sc_Lentries.nd rfl (Or.inl rfl)) (pss_cons (ps_expr (pe_bm PySem.F.plainAttrs_list PySem.F.slot_list_append PySem.F.type_list_append mt_append (pv 2) (pa_cons (pv 3) pa_nil)))
    (pss_one (ps_set (i := 3) sc_Lentries.nd rfl (Or.inl rfl) (pe_op op_add (pe_op op_add (pv 3) pe_int) (pe_op op_mul (pe_c c_Lnext hr (by omega) rfl (pa_cons (pv 0) (pa_cons pe_int pa_nil))) (pe_c c_Lnext hr (by omega) rfl (pa_cons (pv 0) (pa_cons pe_int pa_nil)))))))))
    (pss_one (ps_ret (pv 2)))))), ?_⟩
  refine ⟨(by show 0 ≤ sizeLine; decide), fun ea hea => ?_⟩
  obtain ⟨n1, n2⟩ := dr.ne_new hea
  have dr1 := dr.put (o := .lst []) n1 n2
  refine ⟨_, rfl, d, sc, 3, rfl, by decide, by decide, dr1, fun z o z0 z3 no dr2 => ?_⟩
  obtain ⟨H1, hH1⟩ : ∃ H1, upd (upd H ea (.lst [])) d o = H1 := ⟨_, rfl⟩
  have k1 : Kp [d] H H1 := by rw [← hH1]; exact (Kp.new hea).trans dr1.step
  have e1 : H1 ea = some (.lst ([].map V.int)) := by rw [← hH1, upd_ne n1.symm, upd_same]; rfl
  rw [hH1] at dr2 ⊢
  refine ⟨_, rfl, _, rfl, d, sc, m, rfl, by omega, by omega, dr2, fun r o' r0 rm no' dr3 => ?_⟩
  refine ⟨_, _, rfl, rfl, 1 + r, rfl, by omega, by omega, ?_⟩
  refine for_range (lo := 0) (n := (1 + r).toNat) (fun i σ H' => ∃ (L : List Int) (z : Int) (v : Option V), σ = [some (.ref d), some (.int m), some (.ref ea), some (.int z), v] ∧ Drw d sc H' ∧ Kp [d] H H' ∧ H' ea = some (.lst (L.map V.int)) ∧
    L.length = i ∧ L.Pairwise (· < ·) ∧ (∀ e ∈ L, 0 ≤ e ∧ e < z ∧ e ≤ 1000) ∧ 0 ≤ z ∧ z ≤ 2 + 90 * (i : Int)) ⟨[], z, none, rfl, dr3, k1.trans dr2.step, by rw [upd_ne n1.symm]; exact e1, rfl, List.Pairwise.nil, fun e h => (by cases h), z0, by omega⟩ (fun i σ H' hi p => ?_) (fun σ H' p => ?_)
  · obtain ⟨L, z, v, rfl, dr4, k4, e4, hl, up, lo, z0, zb⟩ := p
    have hsz : (L.map V.int).length < sizeLine := by rw [List.length_map]; exact small1000 (by omega)
    refine ⟨_, rfl, .inl ⟨rfl, _, SqL.of e4⟩, _, rfl, ea, _, _, rfl, rfl, e4, hsz, ?_⟩
    have em : L.map V.int ++ [V.int z] = (L ++ [z]).map V.int := by rw [List.map_append]; rfl
    rw [em]
    have dr5 := dr4.put (o := .lst ((L ++ [z]).map V.int)) n1 n2
    refine ⟨_, rfl, _, _, rfl, rfl, _, rfl, d, sc, 2, rfl, by decide, by decide, dr5, fun a o5 a0 a2 no5 dr6 => ?_⟩
    refine ⟨_, rfl, d, sc, 90, rfl, by decide, by decide, dr6, fun b o6 b0 b2 no6 dr7 => ?_⟩
    have hab : 0 ≤ a * b ∧ a * b ≤ 89 := by
      have : a = 0 ∨ a = 1 := by omega
      rcases this with rfl | rfl <;> omega
    refine ⟨_, _, rfl, rfl, .inl ⟨by omega, by omega⟩, _, _, rfl, rfl, ?_⟩
    generalize a * b = ab at hab
    refine ⟨L ++ [z], z + 1 + ab, _, rfl, dr7, ((k4.mt hea).trans dr5.step).trans dr6.step, by rw [upd_ne n1.symm, upd_ne n1.symm, upd_same], by rw [List.length_append, List.length_singleton, hl], ?_, fun e he => ?_, by omega, by omega⟩
    · exact List.pairwise_append.mpr ⟨up, List.pairwise_singleton _ _, fun x hx y hy => by rw [List.mem_singleton.mp hy]; exact (lo x hx).2.1⟩
    · rcases List.mem_append.mp he with h | h
      · have := lo e h; omega
      · rw [List.mem_singleton.mp h]; omega
  · obtain ⟨L, z, v, rfl, dr4, k4, e4, hl, up, lo, z0, zb⟩ := p
    refine ⟨_, rfl, q L ea H' ⟨up, fun e => ?_, by omega, fun e he => ⟨(lo e he).1, (lo e he).2.2⟩⟩ hea k4 dr4 e4⟩
    rw [e, List.length_nil] at hl
    omega
theorem tree_step {n : Nat} (D : GD K mg "_law_tree" sD_Ltree ["draw", "entries", "depth"]) (T : TLaw mg) (c_Lnext : Cal P w K mg base 1 "_law_next" spNext []) (c_Ltree : Cal P w K mg base n "_law_tree" (spTree n) []) :
    Cal P w K mg base (n + 1) "_law_tree" (spTree (n + 1)) [] := by
  refine D.cal sc_Ltree (fun vs H Q E h => ?_) (fun f cdv A outer s0 H vs Q E hr h => ?_)
  · obtain ⟨d, sc, ea, E, dep, rfl, _⟩ := h
    rfl
  obtain ⟨d, sc, ea, E, dep, rfl, hn, dr, he, hne, hlen, ned, q⟩ := h
  have hn1 : 1 ≤ n := by omega
  refine ⟨_, (pss_cons (ps_set (i := 3) sc_Ltree.nd rfl (Or.inl rfl) (pe_c c_Lnext hr (by omega) rfl (pa_cons (pv 0) (pa_cons pe_int pa_nil))))
    (pss_cons (ps_if (PW.pt (pw_or (pt_cmpR op_eq (pv 2) pe_int (nomark _)) (pw_or1 (pt_cmpR op_lt (pv 3) pe_int (nomark _))))) (pss_cons (ps_if (pt_cmpR op_eq (pe_c c_Lnext hr (by omega) rfl (pa_cons (pv 0) (pa_cons pe_int pa_nil))) pe_int (nomark _)) (pss_one (ps_ret (pe_tup (pa_cons pe_str (pa_cons (pe_c c_Lnext hr (by omega) rfl (pa_cons (pv 0) (pa_cons pe_int pa_nil))) pa_nil))))) pss_nil)
    (pss_one (ps_ret (pe_tup (pa_cons pe_str (pa_cons (pe_ix ix_list (pv 1) (pe_c c_Lnext hr (by omega) rfl (pa_cons (pv 0) (pa_cons (pe_callB call_len_seq (by rfl) T.n_len (by decide +kernel) (pa_cons (pv 1) pa_nil)) pa_nil))) (fun _ _ => rfl)) pa_nil)))))) pss_nil)
    (pss_cons (ps_if (pt_cmpR op_eq (pv 3) pe_int (nomark _)) (pss_one (ps_ret (pe_tup (pa_cons pe_str (pa_cons (pe_c c_Ltree hr (by omega) rfl (pa_cons (pv 0) (pa_cons (pv 1) (pa_cons (pe_op op_sub (pv 2) pe_int) pa_nil)))) pa_nil))))) pss_nil)
    (pss_cons (ps_set (i := 4) sc_Ltree.nd rfl (Or.inl rfl) (pe_c c_Ltree hr (by omega) rfl (pa_cons (pv 0) (pa_cons (pv 1) (pa_cons (pe_op op_sub (pv 2) pe_int) pa_nil)))))
    (pss_one (ps_ret (pe_tup (pa_cons (pe_ix ix_list (pe_lst (pa_cons pe_str (pa_cons pe_str (pa_cons pe_str pa_nil)))) (pe_op op_mod (pv 3) pe_int) (fun _ _ => rfl)) (pa_cons (pv 4) (pa_cons (pe_c c_Ltree hr (by omega) rfl (pa_cons (pv 0) (pa_cons (pv 1) (pa_cons (pe_op op_sub (pv 2) pe_int) pa_nil)))) pa_nil)))))))))), ?_⟩
  have e2 : (2 : Nat) ≤ sizeLine := by decide
  have e3 : (3 : Nat) ≤ sizeLine := by decide
  have hl0 : 0 < E.length := List.length_pos_iff.mpr hne
  refine ⟨_, rfl, d, sc, 9, rfl, by decide, by decide, dr, fun fm o f0 f9 no dr1 => ?_⟩
  obtain ⟨H1, hH1⟩ : ∃ H1, upd H d o = H1 := ⟨_, rfl⟩
  have k1 : Kp [d] H H1 := by rw [← hH1]; exact dr.step
  have he1 : H1 ea = some (.lst (E.map V.int)) := by rw [← hH1, upd_ne ned]; exact he
  rw [hH1] at dr1 ⊢
  refine ⟨_, rfl, rfl, _, rfl, ?_⟩
  refine ite2 (fun c => iteT ?g1) (fun c => ?g0)
  case' g0 =>
    refine ⟨_, rfl, _, _, rfl, rfl, _, rfl, ?_⟩
    refine ite2 (fun c2 => ?g2) (fun c2 => ?g3)
  case g1 | g2 =>
    refine ⟨_, rfl, d, sc, 12, rfl, by decide, by decide, dr1, fun a o1 a0 a1 no1 dr2 => ⟨rfl, _, rfl, ?_⟩⟩
    have k2 : Kp [d] H (upd H1 d o1) := k1.trans dr1.step
    refine ite2 (fun c3 => ?_) (fun c3 => ?_)
    · refine ⟨_, rfl, d, sc, 2, rfl, by decide, by decide, dr2, fun b o2 b0 b1 no2 dr3 => ⟨e2, fun p hp => ?_⟩⟩
      obtain ⟨x1, x2⟩ := dr3.ne_new hp
      refine q (.con (decide (b = 1))) p _ (Nat.zero_le _) True.intro ?_ ((k2.trans dr2.step).newer hp) (dr3.put x1 x2)
      show upd _ p _ p = _
      rw [upd_same]
      have : b = 0 ∨ b = 1 := by omega
      rcases this with rfl | rfl <;> rfl
    · have he2 : (upd H1 d o1) ea = some (.lst (E.map V.int)) := by rw [upd_ne ned]; exact he1
      have el : (((E.map V.int).length : Nat) : Int) = (E.length : Int) := by rw [List.length_map]
      refine ⟨_, rfl, _, rfl, _, rfl, ea, _, rfl, .inl (SqL.of he2), d, sc, (E.length : Int), (by rw [el]; rfl), by omega, by omega, dr2, fun b o2 b0 b1 no2 dr3 => ?_⟩
      have hi : b.toNat < E.length := by omega
      have he3 : (upd (upd H1 d o1) d o2) ea = some (.lst (E.map V.int)) := by rw [upd_ne ned]; exact he2
      refine ⟨ea, _, _, _, rfl, rfl, SqL.of he3, at_of (j := b.toNat) (by omega) (by rw [List.getElem?_map, List.getElem?_eq_getElem hi]; rfl), e2, fun p hp => ?_⟩
      obtain ⟨x1, x2⟩ := dr3.ne_new hp
      exact q (.there E[b.toNat]) p _ (Nat.zero_le _) (List.getElem_mem hi) upd_same ((k2.trans dr2.step).newer hp) (dr3.put x1 x2)
  case g3 =>
    have hd : dep ≠ 0 := fun e => nI c (by rw [e]; rfl)
    have h2 : ¬ fm < 2 := fun z => c2 (decide_eq_true z)
    have edp : (dep : Int) - 1 = ((dep - 1 : Nat) : Int) := by omega
    have eargs : ([V.ref d, V.ref ea, V.int ((dep : Int) - 1)] : List V) = [V.ref d, V.ref ea, V.int ((dep - 1 : Nat) : Int)] := by rw [edp]
    refine ⟨_, rfl, rfl, _, rfl, ?_⟩
    refine ite2 (fun c3 => ?_) (fun c3 => ?_)
    · refine ⟨_, rfl, _, rfl, _, rfl, _, _, rfl, rfl, d, sc, ea, E, dep - 1, eargs, by omega, dr1, he1, hne, hlen, ned, fun t r H2 td ti ta k2 dr2 => ⟨e2, fun p hp => ?_⟩⟩
      obtain ⟨x1, x2⟩ := dr2.ne_new hp
      refine q (.not t) p _ (by show t.depth + 1 ≤ dep; omega) ti ⟨r, upd_same, TreeAt.kp (Kp.new (M := []) hp) t r ta⟩ ((k1.trans k2).newer hp) (dr2.put x1 x2)
    · refine ⟨_, rfl, _, rfl, _, rfl, _, _, rfl, rfl, d, sc, ea, E, dep - 1, eargs, by omega, dr1, he1, hne, hlen, ned, fun t r H2 td ti ta k2 dr2 => ?_⟩
      refine ⟨e3, fun l hl => ?_⟩
      obtain ⟨x1, x2⟩ := dr2.ne_new hl
      have dr3 := dr2.put (o := .lst [.str "and", .str "or", .str "differ"]) x1 x2
      obtain ⟨H3, hH3⟩ : ∃ H3, upd H2 l (.lst [.str "and", .str "or", .str "differ"]) = H3 := ⟨_, rfl⟩
      have k3 : Kp [d] H H3 := by rw [← hH3]; exact (k1.trans k2).newer hl
      have hl3 : H3 l = some (.lst [.str "and", .str "or", .str "differ"]) := by rw [← hH3]; exact upd_same
      have he3 : H3 ea = some (.lst (E.map V.int)) := k3.k _ _ he (by simpa using ned)
      have ta3 : TreeAt H3 t r := by rw [← hH3]; exact TreeAt.kp (Kp.new (M := []) hl) t r ta
      rw [hH3] at dr3 ⊢
      obtain ⟨form, hform⟩ : ∃ form : Form, atI ([.str "and", .str "or", .str "differ"] : List V) (fm % 3) = some (.str form.str) := by
        have : fm % 3 = 0 ∨ fm % 3 = 1 ∨ fm % 3 = 2 := by omega
        rcases this with e | e | e
        · exact ⟨.and, by rw [e]; rfl⟩
        · exact ⟨.or, by rw [e]; rfl⟩
        · exact ⟨.differ, by rw [e]; rfl⟩
      refine ⟨_, rfl, _, _, rfl, rfl, (by show (0 : Int) < 3; decide), l, _, _, _, rfl, rfl, SqL.of hl3, hform, _, rfl, ?_⟩
      refine ⟨_, rfl, _, rfl, _, rfl, _, _, rfl, rfl, d, sc, ea, E, dep - 1, eargs, by omega, dr3, he3, hne, hlen, ned, fun u r' H4 ud ui ua k4 dr4 => ⟨e3, fun p hp => ?_⟩⟩
      obtain ⟨y1, y2⟩ := dr4.ne_new hp
      exact q (.bin form t u) p _ (by show Nat.max t.depth u.depth + 1 ≤ dep; have hmx : Nat.max t.depth u.depth ≤ dep - 1 := Nat.max_le.mpr ⟨td, ud⟩; omega) ⟨ti, ui⟩ ⟨r, r', upd_same, TreeAt.kp (k4.trans (Kp.new hp)) t r ta3, TreeAt.kp (Kp.new (M := []) hp) u r' ua⟩ ((k3.trans k4).newer hp) (dr4.put y1 y2)
theorem ok_tree (D : GD K mg "_law_tree" sD_Ltree ["draw", "entries", "depth"]) (T : TLaw mg) (c_Lnext : Cal P w K mg base 1 "_law_next" spNext []) : ∀ n, Cal P w K mg base n "_law_tree" (spTree n) []
  | 0 => by
    have no : ∀ vs H Q E, ¬ spTree 0 vs H Q E := fun vs H Q E h => by
      obtain ⟨d, sc, ea, E, dep, _, h, _⟩ := h
      omega
    obtain ⟨f, fd, F, hm, hb⟩ := D
    exact ⟨f, fd, _, [], ⟨fun vs H Q E h => absurd h (no vs H Q E), fun A outer s H args us vs Q E _ _ _ _ h => absurd h (no vs H Q E)⟩, hm, F.kp, hb, .nil⟩
  | n + 1 => tree_step D T c_Lnext (ok_tree D T c_Lnext n)
theorem build_step {n : Nat} (D : GD K mg "_law_build" sD_Lbuild ["store", "tree"]) (m_there : Met P w K mg base 2 C "there" (spThere C) []) (m_negation : Met P w K mg base 32 C "negation" (spNeg C) [])
    (m_conjunction : Met P w K mg base 31 C "conjunction" (spOp C .and) []) (m_disjunction : Met P w K mg base 31 C "disjunction" (spOp C .or) []) (m_differs : Met P w K mg base 31 C "differs" (spOp C .differ) [])
    (c_Lbuild : Cal P w K mg base n "_law_build" (spBuild C n) []) : Cal P w K mg base (n + 1) "_law_build" (spBuild C (n + 1)) [] := by
  refine D.cal sc_Lbuild (fun vs H Q E h => ?_) (fun f cdv A outer s0 H vs Q E hr h => ?_)
  · obtain ⟨E, s, ns, b, t, r, rfl, _⟩ := h
    rfl
  obtain ⟨E, s, ns, b, t, r, rfl, S, ta, ti, hn, hE, hb, q⟩ := h
  have hn1 : 32 ≤ n := by omega
  refine ⟨_, (pss_cons (ps_if (pt_cmpR op_eq (pe_ix ix_tup (pv 1) pe_int (fun _ _ => rfl)) pe_str (nomark _)) (pss_one (ps_ret (pe_ix ix_tup (pv 1) pe_int (fun _ _ => rfl)))) pss_nil)
    (pss_cons (ps_if (pt_cmpR op_eq (pe_ix ix_tup (pv 1) pe_int (fun _ _ => rfl)) pe_str (nomark _)) (pss_one (ps_ret (pe_mt m_there hr (by omega) (pv 0) (pa_cons (pe_ix ix_tup (pv 1) pe_int (fun _ _ => rfl)) pa_nil)))) pss_nil)
    (pss_cons (ps_set (i := 2) sc_Lbuild.nd rfl (Or.inl rfl) (pe_c c_Lbuild hr (by omega) rfl (pa_cons (pv 0) (pa_cons (pe_ix ix_tup (pv 1) pe_int (fun _ _ => rfl)) pa_nil))))
    (pss_cons (ps_if (pt_cmpR op_eq (pe_ix ix_tup (pv 1) pe_int (fun _ _ => rfl)) pe_str (nomark _)) (pss_one (ps_ret (pe_mt m_negation hr (by omega) (pv 0) (pa_cons (pv 2) pa_nil)))) pss_nil)
    (pss_cons (ps_set (i := 3) sc_Lbuild.nd rfl (Or.inl rfl) (pe_c c_Lbuild hr (by omega) rfl (pa_cons (pv 0) (pa_cons (pe_ix ix_tup (pv 1) pe_int (fun _ _ => rfl)) pa_nil))))
    (pss_cons (ps_if (pt_cmpR op_eq (pe_ix ix_tup (pv 1) pe_int (fun _ _ => rfl)) pe_str (nomark _)) (pss_one (ps_ret (pe_mt m_conjunction hr (by omega) (pv 0) (pa_cons (pv 2) (pa_cons (pv 3) pa_nil))))) pss_nil)
    (pss_one (ps_ret (pe_ifExp (pt_cmpR op_eq (pe_ix ix_tup (pv 1) pe_int (fun _ _ => rfl)) pe_str (nomark _)) (pe_mt m_disjunction hr (by omega) (pv 0) (pa_cons (pv 2) (pa_cons (pv 3) pa_nil))) (pe_mt m_differs hr (by omega) (pv 0) (pa_cons (pv 2) (pa_cons (pv 3) pa_nil)))))))))))), ?_⟩
  have mth : ∀ {m : Str}, ¬ m = "_results" → ¬ m = "_numbers" → ¬ m = "_nodes" → (sf s.l s.d1 s.d2).lookup m = none := fun h1 h2 h3 => sf_no _ _ _ h1 h2 h3
  cases t with
  | con v =>
    have ta : H r = some (.tup [.str "constant", .int (if v then 1 else 0)]) := ta
    refine ⟨_, rfl, r, _, _, _, rfl, rfl, SqT.of ta, rfl, rfl, _, rfl, ?_⟩
    rw [dSs]
    refine iteT ⟨_, rfl, r, _, _, _, rfl, rfl, SqT.of ta, rfl, ?_⟩
    cases v with
    | true => exact q H ns 1 .refl (S.mono (Nat.le_add_right _ _)) (.refl _) (by omega) fun f => ev_one ns f
    | false => exact q H ns 0 .refl (S.mono (Nat.le_add_right _ _)) (.refl _) (by omega) fun f => ev_zero ns f
  | there e =>
    have ta : H r = some (.tup [.str "there", .int e]) := ta
    have hb : b + 512 * 1 ≤ 1000000 := hb
    refine ⟨_, rfl, r, _, _, _, rfl, rfl, SqT.of ta, rfl, rfl, _, rfl, ?_⟩
    rw [dS (by decide +kernel)]
    refine iteF ⟨_, rfl, r, _, _, _, rfl, rfl, SqT.of ta, rfl, rfl, _, rfl, ?_⟩
    rw [dSs]
    refine iteT ⟨_, rfl, s.p, s.dx, _, rfl, S.ob, mth (by decide +kernel) (by decide +kernel) (by decide +kernel), _, rfl, r, _, _, _, rfl, rfl, SqT.of ta, rfl, E, s, ns, b, e, rfl, S, ti, by omega, fun H' ns' c k S' p hc hv => ?_⟩
    exact q H' ns' c k (S'.mono (by show b + 1 ≤ b + 512 * 1; omega)) p hc hv
  | not t =>
    obtain ⟨a, ta, tb⟩ := ta
    have hb : b + 512 * (t.size + 1) ≤ 1000000 := hb
    have hn : t.depth + 1 + 33 ≤ n + 1 := hn
    refine ⟨_, rfl, r, _, _, _, rfl, rfl, SqT.of ta, rfl, rfl, _, rfl, ?_⟩
    rw [dS (by decide +kernel)]
    refine iteF ⟨_, rfl, r, _, _, _, rfl, rfl, SqT.of ta, rfl, rfl, _, rfl, ?_⟩
    rw [dS (by decide +kernel)]
    refine iteF ⟨_, rfl, _, rfl, r, _, _, _, rfl, rfl, SqT.of ta, rfl, E, s, ns, b, t, a, rfl, S, tb, ti, by omega, hE, by omega, fun H1 ns1 c k1 S1 p1 hc hv => ?_⟩
    have ta1 := k1.t _ _ ta
    refine ⟨_, rfl, r, _, _, _, rfl, rfl, SqT.of ta1, rfl, rfl, _, rfl, ?_⟩
    rw [dSs]
    refine iteT ⟨_, rfl, s.p, s.dx, _, rfl, S1.ob, mth (by decide +kernel) (by decide +kernel) (by decide +kernel), _, rfl, E, s, ns1, _, c, rfl, S1, hc, hE, by omega, fun H2 ns2 r2 k2 S2 p2 g h2 => ?_⟩
    refine q H2 ns2 r2 (k1.trans k2) (S2.mono (by show _ ≤ b + 512 * (t.size + 1); omega)) (p1.trans p2) (g.2.2.1 E.length (.all g.1) (.all g.2.1)).1 fun f => ?_
    rw [h2 f, p2.ev S1.ok S2.ok f c hc, hv f]
    rfl
  | bin fm t u =>
    obtain ⟨a, a', ta, tb, tc⟩ := ta
    have hb : b + 512 * (t.size + u.size + 1) ≤ 1000000 := hb
    have hn : Nat.max t.depth u.depth + 1 + 33 ≤ n + 1 := hn
    have hm1 : t.depth ≤ Nat.max t.depth u.depth := Nat.le_max_left _ _
    have hm2 : u.depth ≤ Nat.max t.depth u.depth := Nat.le_max_right _ _
    have d0 : ∀ x : Form, decide (V.str x.str = V.str "constant") = false ∧ decide (V.str x.str = V.str "there") = false ∧ decide (V.str x.str = V.str "not") = false := fun x => by
      cases x <;> exact ⟨dS (by decide +kernel), dS (by decide +kernel), dS (by decide +kernel)⟩
    obtain ⟨d1, d2, d3⟩ := d0 fm
    refine ⟨_, rfl, r, _, _, _, rfl, rfl, SqT.of ta, rfl, rfl, _, rfl, ?_⟩
    rw [d1]
    refine iteF ⟨_, rfl, r, _, _, _, rfl, rfl, SqT.of ta, rfl, rfl, _, rfl, ?_⟩
    rw [d2]
    refine iteF ⟨_, rfl, _, rfl, r, _, _, _, rfl, rfl, SqT.of ta, rfl, E, s, ns, b, t, a, rfl, S, tb, ti.1, by omega, hE, by omega, fun H1 ns1 c k1 S1 p1 hc hv => ?_⟩
    have ta1 := k1.t _ _ ta
    refine ⟨_, rfl, r, _, _, _, rfl, rfl, SqT.of ta1, rfl, rfl, _, rfl, ?_⟩
    rw [d3]
    refine iteF ⟨_, rfl, _, rfl, r, _, _, _, rfl, rfl, SqT.of ta1, rfl, E, s, ns1, _, u, a', rfl, S1, TreeAt.kp k1 u a' tc, ti.2, by omega, hE, by omega, fun H2 ns2 c2 k2 S2 p2 hc2 hv2 => ?_⟩
    have ta2 := k2.t _ _ ta1
    have hc' : c < ns2.length + 2 := by have := p2.len; omega
    have fin : ∀ (H3 : Hp) (ns3 : List Node) (r3 : Nat), Kp s.M H2 H3 → StoAt C E s H3 ns3 (b + 512 * t.size + 512 * u.size + 512) → Pre ns2 ns3 → Good E ns3 fm c c2 r3 → Q (.int r3) H3 := fun H3 ns3 r3 k3 S3 p3 g => by
      refine q H3 ns3 r3 ((k1.trans k2).trans k3) (S3.mono (by show _ ≤ b + 512 * (t.size + u.size + 1); omega)) ((p1.trans p2).trans p3) (g.2.2.1 E.length (.all g.1) (.all g.2.1)).1 fun f => ?_
      rw [g.2.2.2 f, p3.ev S2.ok S3.ok f c hc', p2.ev S1.ok S2.ok f c hc, hv f, p3.ev S2.ok S3.ok f c2 hc2, hv2 f]
      rfl
    refine ⟨_, rfl, r, _, _, _, rfl, rfl, SqT.of ta2, rfl, rfl, _, rfl, ?_⟩
    cases fm with
    | and =>
      rw [show decide (V.str Form.and.str = V.str "and") = true from dSs _]
      exact iteT ⟨_, rfl, s.p, s.dx, _, rfl, S2.ob, mth (by decide +kernel) (by decide +kernel) (by decide +kernel), _, rfl, _, rfl, E, s, ns2, _, c, c2, rfl, S2, hc', hc2, hE, by omega, fin⟩
    | or =>
      rw [show decide (V.str Form.or.str = V.str "and") = false from dS (by decide +kernel)]
      refine iteF ⟨_, rfl, r, _, _, _, rfl, rfl, SqT.of ta2, rfl, rfl, _, rfl, ?_⟩
      rw [show decide (V.str Form.or.str = V.str "or") = true from dSs _]
      exact iteT ⟨_, rfl, s.p, s.dx, _, rfl, S2.ob, mth (by decide +kernel) (by decide +kernel) (by decide +kernel), _, rfl, _, rfl, E, s, ns2, _, c, c2, rfl, S2, hc', hc2, hE, by omega, fin⟩
    | differ =>
      rw [show decide (V.str Form.differ.str = V.str "and") = false from dS (by decide +kernel)]
      refine iteF ⟨_, rfl, r, _, _, _, rfl, rfl, SqT.of ta2, rfl, rfl, _, rfl, ?_⟩
      rw [show decide (V.str Form.differ.str = V.str "or") = false from dS (by decide +kernel)]
      exact iteF ⟨_, rfl, s.p, s.dx, _, rfl, S2.ob, mth (by decide +kernel) (by decide +kernel) (by decide +kernel), _, rfl, _, rfl, E, s, ns2, _, c, c2, rfl, S2, hc', hc2, hE, by omega, fin⟩
theorem ok_build (D : GD K mg "_law_build" sD_Lbuild ["store", "tree"]) (m_there : Met P w K mg base 2 C "there" (spThere C) []) (m_negation : Met P w K mg base 32 C "negation" (spNeg C) [])
    (m_conjunction : Met P w K mg base 31 C "conjunction" (spOp C .and) []) (m_disjunction : Met P w K mg base 31 C "disjunction" (spOp C .or) []) (m_differs : Met P w K mg base 31 C "differs" (spOp C .differ) []) : ∀ n, Cal P w K mg base n "_law_build" (spBuild C n) []
  | 0 => by
    have no : ∀ vs H Q E, ¬ spBuild C 0 vs H Q E := fun vs H Q E h => by
      obtain ⟨E, s, ns, b, t, r, _, _, _, _, h, _⟩ := h
      omega
    obtain ⟨f, fd, F, hm, hb⟩ := D
    exact ⟨f, fd, _, [], ⟨fun vs H Q E h => absurd h (no vs H Q E), fun A outer s H args us vs Q E _ _ _ _ h => absurd h (no vs H Q E)⟩, hm, F.kp, hb, .nil⟩
  | n + 1 => build_step D m_there m_negation m_conjunction m_disjunction m_differs (ok_build D m_there m_negation m_conjunction m_disjunction m_differs n)
theorem true_step {n : Nat} (D : GD K mg "_law_true" sD_Ltrue ["tree", "present"]) (c_Ltrue : Cal P w K mg base n "_law_true" (spTrue K n) []) : Cal P w K mg base (n + 1) "_law_true" (spTrue K (n + 1)) [] := by
  refine D.cal sc_Ltrue (fun vs H Q E h => ?_) (fun f cdv A outer s0 H vs Q E hr h => ?_)
  · obtain ⟨t, r, a, L, rfl, _⟩ := h
    rfl
  obtain ⟨t, r, p, L, rfl, ta, hL, hn, q⟩ := h
  refine ⟨_, (pss_cons (ps_if (pt_cmpR op_eq (pe_ix ix_tup (pv 0) pe_int (fun _ _ => rfl)) pe_str (nomark _)) (pss_one (ps_ret (pe_cmpR op_eq (pe_ix ix_tup (pv 0) pe_int (fun _ _ => rfl)) pe_int (nomark _)))) pss_nil)
    (pss_cons (ps_if (pt_cmpR op_eq (pe_ix ix_tup (pv 0) pe_int (fun _ _ => rfl)) pe_str (nomark _)) (pss_one (ps_ret (pe_cmpR op_in_seq (pe_ix ix_tup (pv 0) pe_int (fun _ _ => rfl)) (pv 1) (by rfl)))) pss_nil)
    (pss_cons (ps_set (i := 2) sc_Ltrue.nd rfl (Or.inl rfl) (pe_c c_Ltrue hr (by omega) rfl (pa_cons (pe_ix ix_tup (pv 0) pe_int (fun _ _ => rfl)) (pa_cons (pv 1) pa_nil))))
    (pss_cons (ps_if (pt_cmpR op_eq (pe_ix ix_tup (pv 0) pe_int (fun _ _ => rfl)) pe_str (nomark _)) (pss_one (ps_ret (pe_not (pv 2)))) pss_nil)
    (pss_cons (ps_set (i := 3) sc_Ltrue.nd rfl (Or.inl rfl) (pe_c c_Ltrue hr (by omega) rfl (pa_cons (pe_ix ix_tup (pv 0) pe_int (fun _ _ => rfl)) (pa_cons (pv 1) pa_nil))))
    (pss_cons (ps_if (pt_cmpR op_eq (pe_ix ix_tup (pv 0) pe_int (fun _ _ => rfl)) pe_str (nomark _)) (pss_one (ps_ret (pe_and (pv 2) (pe_one (pv 3))))) pss_nil)
    (pss_one (ps_ret (pe_ifExp (pt_cmpR op_eq (pe_ix ix_tup (pv 0) pe_int (fun _ _ => rfl)) pe_str (nomark _)) (pe_or (pv 2) (pe_one (pv 3))) (pe_cmpR op_ne (pv 2) (pv 3) (nomark _))))))))))), ?_⟩
  cases t with
  | con v =>
    have ta : H r = some (.tup [.str "constant", .int (if v then 1 else 0)]) := ta
    refine ⟨_, rfl, r, _, _, _, rfl, rfl, SqT.of ta, rfl, rfl, _, rfl, ?_⟩
    rw [dSs]
    refine iteT ⟨_, rfl, r, _, _, _, rfl, rfl, SqT.of ta, rfl, rfl, ?_⟩
    cases v with
    | true => exact q
    | false => exact q
  | there e =>
    have ta : H r = some (.tup [.str "there", .int e]) := ta
    refine ⟨_, rfl, r, _, _, _, rfl, rfl, SqT.of ta, rfl, rfl, _, rfl, ?_⟩
    rw [dS (by decide +kernel)]
    refine iteF ⟨_, rfl, r, _, _, _, rfl, rfl, SqT.of ta, rfl, rfl, _, rfl, ?_⟩
    rw [dSs]
    refine iteT ⟨_, rfl, r, _, _, _, rfl, rfl, SqT.of ta, rfl, _, rfl, p, _, rfl, .inl hL, rfl, flat_ints L, ?_⟩
    rw [if_neg Bool.false_ne_true, inV_ints]
    exact q
  | not t =>
    obtain ⟨a, ta, tb⟩ := ta
    have hn : t.depth + 1 + 1 ≤ n + 1 := hn
    refine ⟨_, rfl, r, _, _, _, rfl, rfl, SqT.of ta, rfl, rfl, _, rfl, ?_⟩
    rw [dS (by decide +kernel)]
    refine iteF ⟨_, rfl, r, _, _, _, rfl, rfl, SqT.of ta, rfl, rfl, _, rfl, ?_⟩
    rw [dS (by decide +kernel)]
    refine iteF ⟨_, rfl, r, _, _, _, rfl, rfl, SqT.of ta, rfl, _, rfl, t, a, p, L, rfl, tb, hL, by omega, ?_⟩
    refine ⟨_, rfl, r, _, _, _, rfl, rfl, SqT.of ta, rfl, rfl, _, rfl, ?_⟩
    rw [dSs]
    exact iteT ⟨_, rfl, _, rfl, q⟩
  | bin fm t u =>
    obtain ⟨a, a', ta, tb, tc⟩ := ta
    have hn : Nat.max t.depth u.depth + 1 + 1 ≤ n + 1 := hn
    have hm1 : t.depth ≤ Nat.max t.depth u.depth := Nat.le_max_left _ _
    have hm2 : u.depth ≤ Nat.max t.depth u.depth := Nat.le_max_right _ _
    have d0 : ∀ x : Form, decide (V.str x.str = V.str "constant") = false ∧ decide (V.str x.str = V.str "there") = false ∧ decide (V.str x.str = V.str "not") = false := fun x => by
      cases x <;> exact ⟨dS (by decide +kernel), dS (by decide +kernel), dS (by decide +kernel)⟩
    obtain ⟨d1, d2, d3⟩ := d0 fm
    refine ⟨_, rfl, r, _, _, _, rfl, rfl, SqT.of ta, rfl, rfl, _, rfl, ?_⟩
    rw [d1]
    refine iteF ⟨_, rfl, r, _, _, _, rfl, rfl, SqT.of ta, rfl, rfl, _, rfl, ?_⟩
    rw [d2]
    refine iteF ⟨_, rfl, r, _, _, _, rfl, rfl, SqT.of ta, rfl, _, rfl, t, a, p, L, rfl, tb, hL, by omega, ?_⟩
    refine ⟨_, rfl, r, _, _, _, rfl, rfl, SqT.of ta, rfl, rfl, _, rfl, ?_⟩
    rw [d3]
    refine iteF ⟨_, rfl, r, _, _, _, rfl, rfl, SqT.of ta, rfl, _, rfl, u, a', p, L, rfl, tc, hL, by omega, ?_⟩
    refine ⟨_, rfl, r, _, _, _, rfl, rfl, SqT.of ta, rfl, rfl, _, rfl, ?_⟩
    have q : Q (.bl (fm.op (t.ev fun e => decide (e ∈ L)) (u.ev fun e => decide (e ∈ L)))) H := q
    generalize (t.ev fun e => decide (e ∈ L)) = x at q ⊢
    generalize (u.ev fun e => decide (e ∈ L)) = y at q ⊢
    cases fm with
    | and =>
      rw [show decide (V.str Form.and.str = V.str "and") = true from dSs _]
      refine iteT ⟨_, rfl, _, rfl, ?_⟩
      cases x with
      | true => exact iteT ⟨_, rfl, q⟩
      | false => exact iteF q
    | or =>
      rw [show decide (V.str Form.or.str = V.str "and") = false from dS (by decide +kernel)]
      refine iteF ⟨_, rfl, r, _, _, _, rfl, rfl, SqT.of ta, rfl, rfl, _, rfl, ?_⟩
      rw [show decide (V.str Form.or.str = V.str "or") = true from dSs _]
      refine iteT ⟨_, rfl, _, rfl, ?_⟩
      cases x with
      | true => exact iteT q
      | false => exact iteF ⟨_, rfl, q⟩
    | differ =>
      rw [show decide (V.str Form.differ.str = V.str "and") = false from dS (by decide +kernel)]
      refine iteF ⟨_, rfl, r, _, _, _, rfl, rfl, SqT.of ta, rfl, rfl, _, rfl, ?_⟩
      rw [show decide (V.str Form.differ.str = V.str "or") = false from dS (by decide +kernel)]
      refine iteF ⟨_, rfl, _, rfl, rfl, ?_⟩
      cases x <;> cases y <;> exact q
theorem ok_true (D : GD K mg "_law_true" sD_Ltrue ["tree", "present"]) : ∀ n, Cal P w K mg base n "_law_true" (spTrue K n) []
  | 0 => by
    have no : ∀ vs H Q E, ¬ spTrue K 0 vs H Q E := fun vs H Q E h => by
      obtain ⟨t, r, a, L, _, _, _, h, _⟩ := h
      omega
    obtain ⟨f, fd, F, hm, hb⟩ := D
    exact ⟨f, fd, _, [], ⟨fun vs H Q E h => absurd h (no vs H Q E), fun A outer s H args us vs Q E _ _ _ _ h => absurd h (no vs H Q E)⟩, hm, F.kp, hb, .nil⟩
  | n + 1 => true_step D (ok_true D n)
end

/-! ### all subsets, fractions -/
def subs (E : List Int) : List (List Int) := E.foldl (fun acc e => acc ++ acc.map fun p => p ++ [e]) [[]]
theorem subs_snoc (E : List Int) (e : Int) : subs (E ++ [e]) = subs E ++ (subs E).map fun p => p ++ [e] := by
  unfold subs
  rw [List.foldl_append]
  rfl
theorem snoc_ind {α : Type} {P : List α → Prop} (h0 : P []) (h1 : ∀ l a, P l → P (l ++ [a])) : ∀ l, P l := by
  intro l
  rw [← List.reverse_reverse l]
  induction l.reverse with
  | nil => exact h0
  | cons a r ih =>
    rw [List.reverse_cons]
    exact h1 _ a ih
theorem subs_len (E : List Int) : (subs E).length = 2 ^ E.length := by
  induction E using snoc_ind with
  | h0 => rfl
  | h1 E e ih =>
    rw [subs_snoc, List.length_append, List.length_map, ih, List.length_append, List.length_singleton, Nat.pow_succ]
    omega
theorem subs_mem {E p : List Int} (h : p ∈ subs E) : ∀ x ∈ p, x ∈ E := by
  induction E using snoc_ind generalizing p with
  | h0 =>
    intro x hx
    have : p = [] := by simpa [subs] using h
    rw [this] at hx
    cases hx
  | h1 E e ih =>
    rw [subs_snoc] at h
    intro x hx
    rcases List.mem_append.mp h with m | m
    · exact List.mem_append_left _ (ih m x hx)
    · obtain ⟨p', hp', rfl⟩ := List.mem_map.mp m
      rcases List.mem_append.mp hx with m | m
      · exact List.mem_append_left _ (ih hp' x m)
      · exact List.mem_append_right _ m
theorem subs_short {E p : List Int} (h : p ∈ subs E) : p.length ≤ E.length := by
  induction E using snoc_ind generalizing p with
  | h0 =>
    have : p = [] := by simpa [subs] using h
    rw [this]
    exact Nat.le_refl _
  | h1 E e ih =>
    rw [subs_snoc] at h
    rw [List.length_append, List.length_singleton]
    rcases List.mem_append.mp h with m | m
    · have := ih m; omega
    · obtain ⟨p', hp', rfl⟩ := List.mem_map.mp m
      have := ih hp'
      rw [List.length_append, List.length_singleton]
      omega
/-- lists of ints at the places of a list -/
def LstsAt (H : Hp) (r : Addr) (LL : List (List Int)) : Prop :=
  ∃ as : List Addr, H r = some (.lst (as.map V.ref)) ∧ as.length = LL.length ∧ ∀ (i : Nat) (a : Addr) (l : List Int), as[i]? = some a → LL[i]? = some l → H a = some (.lst (l.map V.int))
theorem LstsAt.kp {H H' : Hp} {r : Addr} {LL : List (List Int)} (h : LstsAt H r LL) (k : Kp [] H H') : LstsAt H' r LL := by
  obtain ⟨as, h1, h2, h3⟩ := h
  exact ⟨as, k.k _ _ h1 (by simp), h2, fun i a l x y => k.k _ _ (h3 i a l x y) (by simp)⟩
/-- .. that are new behind H0 -/
def LstsF (H0 H : Hp) (r : Addr) (LL : List (List Int)) : Prop :=
  ∃ as : List Addr, H r = some (.lst (as.map V.ref)) ∧ as.length = LL.length ∧ (∀ (i : Nat) (a : Addr) (l : List Int), as[i]? = some a → LL[i]? = some l → H a = some (.lst (l.map V.int))) ∧ ∀ b ∈ as, H0 b = none
theorem LstsF.at {H0 H : Hp} {r : Addr} {LL : List (List Int)} (h : LstsF H0 H r LL) : LstsAt H r LL := by
  obtain ⟨as, h1, h2, h3, _⟩ := h
  exact ⟨as, h1, h2, h3⟩
def spSubsetsN (K : PySem.W.Frag) : Sp := fun vs H Q _ => ∃ (a : Addr) (E : List Int), vs = [.ref a] ∧ SqL K H a (E.map V.int) ∧ E.length ≤ 8 ∧
  ∀ (r : Addr) (H' : Hp), H r = none → Kp [] H H' → LstsF H H' r (subs E) → Q (.ref r) H'
def spSubsets (K : PySem.W.Frag) : Sp := fun vs H Q _ => ∃ (a : Addr) (E : List Int), vs = [.ref a] ∧ SqL K H a (E.map V.int) ∧ E.length ≤ 8 ∧
  ∀ (r : Addr) (H' : Hp), H r = none → Kp [] H H' → LstsAt H' r (subs E) → Q (.ref r) H'
def spCommon : Sp := fun vs H Q _ => ∃ (a b : Int), vs = [.int a, .int b] ∧ 0 ≤ a ∧ 0 ≤ b ∧ a < 2 ^ 60 ∧ b < 2 ^ 60 ∧ Q (.int (Int.gcd a b : Int)) H
/-- in lowest terms -/
def low (n d : Int) : List V := [.int (n / (Int.gcd n d : Int)), .int (d / (Int.gcd n d : Int))]
def spLowest : Sp := fun vs H Q _ => ∃ (a b : Int), vs = [.int a, .int b] ∧ 0 < b ∧ a.natAbs < 2 ^ 60 ∧ b < 2 ^ 60 ∧ ∀ p, H p = none → Q (.ref p) (upd H p (.tup (low a b)))
def spPower : Sp := fun vs H Q _ => ∃ (a : Int) (n : Nat), vs = [.int a, .int n] ∧ 0 ≤ a ∧ a ≤ 1000 ∧ n ≤ 1000 ∧ Q (.int (a ^ n)) H
structure TFrac (mg : Str → Option Value) : Prop where
  n_range : mg "range" = none
  n_abs : mg "abs" = none
  n_len : mg "len" = none
  g_gcd : mg "gcd" = some (.builtin "math.gcd")
theorem gcd_turn {a b : Int} : Int.gcd b (a - b * (a / b)) = Int.gcd a b := by
  rw [Int.gcd_sub_mul_left_right, Int.gcd_comm]
section
variable {P : Program} {w : World} {K : PySem.W.Frag} {mg : Str → Option Value} {base : Heap}
theorem ok_subsetsN (D : GD K mg "_law_subsets" sD_Lsubsets ["entries"]) : Cal P w K mg base 1 "_law_subsets" (spSubsetsN K) [] := by
  refine D.cal sc_Lsubsets (fun vs H Q E h => ?_) (fun f cdv A outer s0 H vs Q E hr h => ?_)
  · obtain ⟨a, E, rfl, _⟩ := h
    rfl
  obtain ⟨a, E, rfl, hS, hE, q⟩ := h
  refine ⟨_, (pss_cons (ps_set (i := 1) sc_Lsubsets.nd rfl (Or.inl rfl) (pe_lst (pa_cons (pe_lst pa_nil) pa_nil)))
    (pss_cons (ps_for PassesOwn.never rfl (pi_list (pv 0)) (pg_name (i := 2) sc_Lsubsets.nd rfl (Or.inr rfl)) (pss_one (ps_set (i := 1) sc_Lsubsets.nd rfl (Or.inl rfl) (pe_op op_cat (pv 1) (pe_lc (own := [("part", 3)]) (g := gName 3) (tt := tYes) rfl sc_Lsubsets.nd (pi_list (pv 1)) (blkOk_by (own := [("part", 3)]) (N := ["entries", "found", "entry", "part"]) (sc := defScope sD_Lsubsets) (by decide +kernel)) (fun _ _ _ _ _ => (pg_name (i := 3) sc_Lsubsets.nd rfl (Or.inl rfl))) (fun _ _ _ _ _ => pts_nil) (fun _ _ _ _ _ => (pe_op op_cat (pv 3) (pe_lst (pa_cons (pv 2) pa_nil)))))))))
    (pss_one (ps_ret (pv 1))))), ?_⟩
  refine ⟨(by show 0 ≤ sizeLine; decide), fun e0 he0 => ⟨(by show 1 ≤ sizeLine; decide), fun f0 hf0 => ?_⟩⟩
  have n0 : e0 ≠ f0 := ne_of_none upd_same hf0
  have k0 : Kp [] H (upd (upd H e0 (.lst [])) f0 (.lst [.ref e0])) := (Kp.new he0).newer hf0
  have hf0H : H f0 = none := by rw [upd_ne n0.symm] at hf0; exact hf0
  refine ⟨_, rfl, a, rfl, ⟨_, k0.toSame.seq hS⟩, for_list (K := K) (a := a) (xs := E.map V.int) (fun i σ H' => ∃ (f : Addr) (v : Option V), σ = [some (.ref a), some (.ref f), v, none] ∧ Kp [] H H' ∧ LstsF H H' f (subs (E.take i)) ∧ H f = none)
    ⟨f0, none, rfl, k0, ⟨[e0], upd_same, rfl, fun i a l x y => ?_, fun b hb => by rw [List.mem_singleton.mp hb]; exact he0⟩, hf0H⟩ (fun i σ H' _ ⟨f, v, _, k, _⟩ => k.toSame.seq hS) ?_ ?_⟩
  · cases i with
    | zero =>
      cases x
      cases y
      rw [upd_ne n0, upd_same]
      rfl
    | succ i => simp at x
  · rintro i x σ H1 hi ⟨f, v, rfl, k1, ⟨as, hf, hal, hls, hnew⟩, hfn⟩
    obtain ⟨e, he, rfl⟩ := mapAt hi
    have hiE : i < E.length := (List.getElem?_eq_some_iff.mp he).1
    have tk : E.take (i + 1) = E.take i ++ [e] := by rw [List.take_add_one, he]; rfl
    have hlen : (subs (E.take i)).length ≤ 256 := by
      rw [subs_len, List.length_take]
      exact Nat.le_trans (Nat.pow_le_pow_right (by omega) (show min i E.length ≤ 8 by omega)) (by decide)
    have hasl : as.length ≤ 256 := by omega
    refine ⟨_, rfl, _, rfl, f, rfl, ⟨_, SqL.of hf⟩, fun D hD => lc_list (K := K) (a := f) (xs := as.map V.ref) (fun j H2 => Kp [] H1 H2 ∧ ∃ bs : List Addr, H2 D = some (.lst (bs.map V.ref)) ∧ bs.length = j ∧
      (∀ (n : Nat) (b : Addr) (l : List Int), bs[n]? = some b → (subs (E.take i))[n]? = some l → H2 b = some (.lst ((l ++ [e]).map V.int))) ∧ ∀ b ∈ bs, H b = none)
      ⟨.new hD, [], upd_same, rfl, (fun n b l x => by simp at x), fun b hb => by cases hb⟩ (fun j H2 _ p => SqL.of (p.1.k _ _ hf (by simp))) (fun j x H2 hj p => ?_) (fun H2 p => ?_)⟩
    · obtain ⟨c, hc, rfl⟩ := mapAt hj
      obtain ⟨k2, bs, hD2, hbl, hbs, hbn⟩ := p
      have hjl : j < as.length := (List.getElem?_eq_some_iff.mp hc).1
      have hjs : j < (subs (E.take i)).length := by omega
      have hcl := k2.k _ _ (hls j c _ hc (List.getElem?_eq_getElem hjs)) (by simp)
      have hshort : ((subs (E.take i))[j]).length ≤ 8 := by
        have := subs_short (List.getElem_mem hjs)
        rw [List.length_take] at this
        omega
      refine ⟨rfl, _, rfl, _, rfl, (by show 1 ≤ sizeLine; decide), fun u hu => ?_⟩
      have ncu : c ≠ u := ne_of_none hcl hu
      refine ⟨c, u, _, _, rfl, rfl, (by rw [upd_ne ncu]; exact hcl), upd_same, small (by rw [List.length_map]; simp only [List.length_singleton]; omega), fun t ht => ?_⟩
      have nut : u ≠ t := ne_of_none upd_same ht
      have ht2 : H2 t = none := by rw [upd_ne nut.symm] at ht; exact ht
      have kt : Kp [] H2 (upd (upd H2 u (.lst [.int e])) t (.lst (((subs (E.take i))[j]).map V.int ++ [.int e]))) := (Kp.new hu).newer ht
      refine ⟨_, kt.k _ _ hD2 (by simp), by rw [List.length_map]; exact small1000 (by omega), (k2.trans kt).mt hD, bs ++ [t], by rw [upd_same, List.map_append]; rfl, by rw [List.length_append, List.length_singleton, hbl], fun n b l x y => ?_, fun b hb => (List.mem_append.mp hb).elim (hbn b) fun z => by rw [List.mem_singleton.mp z]; exact (k1.trans k2).free ht2 (by simp)⟩
      have nD : ∀ {b : Addr}, H2 b = none ∨ H2 b ≠ H2 D → b ≠ D := fun h e' => by rw [e'] at h; rcases h with h | h; (rw [hD2] at h; cases h); exact h rfl
      by_cases hn : n < bs.length
      · rw [List.getElem?_append_left hn] at x
        have hb := hbs n b l x y
        by_cases e' : b = D
        · subst e'
          rw [hD2] at hb
          have hb' := HO.lst.inj (Option.some.inj hb)
          exfalso
          have hbm : bs.length = ((l ++ [e]).map V.int).length := by rw [← hb', List.length_map]
          have h0 : 0 < bs.length := by omega
          have hx0 : ((l ++ [e]).map V.int)[0]? = some (V.ref bs[0]) := by rw [← hb', List.getElem?_map, List.getElem?_eq_getElem h0]; rfl
          obtain ⟨z, _, hz⟩ := mapAt hx0
          cases hz
        · rw [upd_ne e']
          exact kt.k _ _ hb (by simp)
      · have hn2 := (List.getElem?_eq_some_iff.mp x).1
        rw [List.length_append, List.length_singleton] at hn2
        have en : n = bs.length := by omega
        subst en
        rw [List.getElem?_append_right (Nat.le_refl _), Nat.sub_self] at x
        cases x
        rw [upd_ne (nD (.inl ht2)), upd_same]
        rw [hbl, List.getElem?_eq_getElem hjs] at y
        cases y
        rw [List.map_append]
        rfl
    · obtain ⟨k2, bs, hD2, hbl, hbs, hbn⟩ := p
      rw [List.length_map] at hbl
      refine ⟨f, D, _, _, rfl, rfl, k2.k _ _ hf (by simp), hD2, small (by rw [List.length_map, List.length_map]; omega), fun g hg => ?_⟩
      have k3 : Kp [] H2 (upd H2 g (.lst (as.map V.ref ++ bs.map V.ref))) := .new hg
      refine ⟨g, _, rfl, (k1.trans k2).trans k3, ⟨as ++ bs, by rw [upd_same, List.map_append], ?_, fun n b l x y => ?_, fun b hb => (List.mem_append.mp hb).elim (hnew b) (hbn b)⟩, (k1.trans k2).free hg (by simp)⟩
      · rw [tk, subs_snoc, List.length_append, List.length_append, List.length_map]
        omega
      · rw [tk, subs_snoc] at y
        by_cases hn : n < as.length
        · rw [List.getElem?_append_left hn] at x
          rw [List.getElem?_append_left (by omega)] at y
          exact k3.k _ _ (k2.k _ _ (hls n b l x y) (by simp)) (by simp)
        · rw [List.getElem?_append_right (by omega)] at x
          rw [List.getElem?_append_right (by omega)] at y
          rw [List.getElem?_map] at y
          rw [← hal] at y
          cases el : (subs (E.take i))[n - as.length]? with
          | none => rw [el] at y; cases y
          | some l0 =>
            rw [el] at y
            cases y
            exact k3.k _ _ (hbs _ b l0 x el) (by simp)
  · rintro σ H1 ⟨f, v, rfl, k1, hL, hfn⟩
    rw [List.length_map, List.take_length] at hL
    exact ⟨_, rfl, q f H1 hfn k1 hL⟩
theorem ok_subsets (D : GD K mg "_law_subsets" sD_Lsubsets ["entries"]) : Cal P w K mg base 1 "_law_subsets" (spSubsets K) [] := by
  obtain ⟨f, fd, ps, ds, F, a1, a2, a3, a4⟩ := (ok_subsetsN (P := P) (w := w) (base := base) D).ex
  exact ⟨f, fd, ps, ds, F.imp fun vs H Q E h => by
    obtain ⟨a, E, e, hS, hE, q⟩ := h
    exact ⟨a, E, e, hS, hE, fun r H' x y z => q r H' x y z.at⟩, a1, a2, a3, a4⟩
end

/-! ### sums over all subsets, in plain Lean -/
def set1 (e : Int) (f : Int → Bool) : Int → Bool := fun y => f y || decide (y = e)
theorem set1_comm (e x : Int) (f : Int → Bool) : set1 e (set1 x f) = set1 x (set1 e f) := by
  funext y
  unfold set1
  rw [Bool.or_assoc, Bool.or_assoc, Bool.or_comm (decide (y = x))]
theorem set1_self (e : Int) (f : Int → Bool) : set1 e f e = true := by unfold set1; simp
theorem set1_ne {e y : Int} (h : y ≠ e) (f : Int → Bool) : set1 e f y = f y := by unfold set1; rw [decide_eq_false h, Bool.or_false]
def Sm (a b : Int → Int) : List Int → ((Int → Bool) → Int) → Int
  | [], g => g fun _ => false
  | e :: L, g => a e * Sm a b L g + b e * Sm a b L fun f => g (set1 e f)
section
variable {a b : Int → Int}
theorem Sm_congr : ∀ {L : List Int} {g h : (Int → Bool) → Int}, (∀ f, (∀ x, x ∉ L → f x = false) → g f = h f) → Sm a b L g = Sm a b L h
  | [], g, h, q => q _ fun _ _ => rfl
  | e :: L, g, h, q => by
    show a e * Sm a b L g + b e * Sm a b L _ = a e * Sm a b L h + b e * Sm a b L _
    rw [Sm_congr (L := L) (g := g) (h := h) fun f hf => q f fun x hx => hf x fun m => hx (List.mem_cons_of_mem _ m),
      Sm_congr (L := L) (g := fun f => g (set1 e f)) (h := fun f => h (set1 e f)) fun f hf => q _ fun x hx => by
        rw [set1_ne (fun z => hx (by rw [z]; exact List.mem_cons_self))]
        exact hf x fun m => hx (List.mem_cons_of_mem _ m)]
theorem Sm_snoc : ∀ (L : List Int) (x : Int) (g : (Int → Bool) → Int), Sm a b (L ++ [x]) g = a x * Sm a b L g + b x * Sm a b L fun f => g (set1 x f)
  | [], x, g => rfl
  | e :: L, x, g => by
    show a e * Sm a b (L ++ [x]) g + b e * Sm a b (L ++ [x]) _ = a x * (a e * Sm a b L g + b e * Sm a b L _) + b x * (a e * Sm a b L _ + b e * Sm a b L fun f => g (set1 x (set1 e f)))
    rw [Sm_snoc L x g, Sm_snoc L x fun f => g (set1 e f)]
    have e1 : (fun f => g (set1 x (set1 e f))) = fun f => g (set1 e (set1 x f)) := by funext f; rw [set1_comm]
    rw [e1]
    generalize Sm a b L g = p
    generalize (Sm a b L fun f => g (set1 x f)) = q
    generalize (Sm a b L fun f => g (set1 e f)) = r
    generalize (Sm a b L fun f => g (set1 e (set1 x f))) = s
    grind
theorem Sm_add : ∀ (L : List Int) (g h : (Int → Bool) → Int), Sm a b L (fun f => g f + h f) = Sm a b L g + Sm a b L h
  | [], _, _ => rfl
  | e :: L, g, h => by
    show a e * Sm a b L (fun f => g f + h f) + b e * Sm a b L (fun f => g (set1 e f) + h (set1 e f)) = (a e * Sm a b L g + b e * Sm a b L _) + (a e * Sm a b L h + b e * Sm a b L _)
    rw [Sm_add L g h, Sm_add L (fun f => g (set1 e f)) fun f => h (set1 e f)]
    grind
/-- g does not ask about e -/
def Ind (g : (Int → Bool) → Int) (e : Int) : Prop := ∀ f, g (set1 e f) = g f
theorem Sm_skip {g : (Int → Bool) → Int} {e : Int} (L : List Int) (h : Ind g e) : Sm a b (e :: L) g = (a e + b e) * Sm a b L g := by
  show a e * Sm a b L g + b e * Sm a b L _ = _
  rw [show (fun f => g (set1 e f)) = g from funext h, Int.add_mul]
theorem Sm_drop {of : Int} (hab : ∀ e, a e + b e = of) {g : (Int → Bool) → Int} : ∀ (L1 L2 : List Int), (∀ e ∈ L1, Ind g e) → Sm a b (L1 ++ L2) g = of ^ L1.length * Sm a b L2 g
  | [], L2, _ => by
    show Sm a b L2 g = of ^ 0 * Sm a b L2 g
    rw [Int.pow_zero, Int.one_mul]
  | e :: L1, L2, h => by
    show Sm a b (e :: (L1 ++ L2)) g = of ^ (L1.length + 1) * Sm a b L2 g
    rw [Sm_skip _ (h e List.mem_cons_self), hab, Sm_drop hab L1 L2 fun x hx => h x (List.mem_cons_of_mem _ hx), Int.pow_succ]
    grind
theorem Sm_filter {of : Int} (hab : ∀ e, a e + b e = of) {g : (Int → Bool) → Int} (p : Int → Bool) : ∀ L : List Int, (∀ e ∈ L, p e = false → Ind g e) → ∃ k : Nat, k + (L.filter p).length = L.length ∧ Sm a b L g = of ^ k * Sm a b (L.filter p) g := by
  intro L
  induction L generalizing g with
  | nil => exact fun _ => ⟨0, rfl, by rw [Int.pow_zero, Int.one_mul]; rfl⟩
  | cons e L ih =>
    intro h
    rw [List.filter_cons]
    by_cases hp : p e = true
    · rw [if_pos hp]
      obtain ⟨k, h1, h2⟩ := ih (g := g) fun x hx => h x (List.mem_cons_of_mem _ hx)
      obtain ⟨k', h1', h2'⟩ := ih (g := fun f => g (set1 e f)) fun x hx hpx f => by
        show g (set1 e (set1 x f)) = g (set1 e f)
        rw [set1_comm]
        exact h x (List.mem_cons_of_mem _ hx) hpx _
      have ek : k' = k := by omega
      subst ek
      refine ⟨k', by simp only [List.length_cons]; omega, ?_⟩
      show a e * Sm a b L g + b e * Sm a b L _ = of ^ k' * (a e * Sm a b (L.filter p) g + b e * Sm a b (L.filter p) _)
      rw [h2, h2']
      grind
    · rw [if_neg hp]
      obtain ⟨k, h1, h2⟩ := ih (g := g) fun x hx => h x (List.mem_cons_of_mem _ hx)
      refine ⟨k + 1, by simp only [List.length_cons]; omega, ?_⟩
      rw [Sm_skip _ (h e List.mem_cons_self (by simpa using hp)), hab, h2, Int.pow_succ]
      grind
theorem Sm_bound {of : Int} (hab : ∀ e, a e + b e = of) (ha : ∀ e, 0 ≤ a e) (hb : ∀ e, 0 ≤ b e) : ∀ (L : List Int) (g : (Int → Bool) → Int), (∀ f, 0 ≤ g f ∧ g f ≤ 1) → 0 ≤ Sm a b L g ∧ Sm a b L g ≤ of ^ L.length
  | [], g, h => by
    show 0 ≤ g _ ∧ g _ ≤ of ^ 0
    rw [Int.pow_zero]
    exact h _
  | e :: L, g, h => by
    obtain ⟨h1, h2⟩ := Sm_bound hab ha hb L g h
    obtain ⟨h3, h4⟩ := Sm_bound hab ha hb L (fun f => g (set1 e f)) fun f => h _
    show 0 ≤ a e * Sm a b L g + b e * Sm a b L _ ∧ a e * Sm a b L g + b e * Sm a b L _ ≤ of ^ (L.length + 1)
    have x1 := Int.mul_nonneg (ha e) h1
    have x2 := Int.mul_nonneg (hb e) h3
    have x3 := Int.mul_le_mul_of_nonneg_left h2 (ha e)
    have x4 := Int.mul_le_mul_of_nonneg_left h4 (hb e)
    have x5 : a e * of ^ L.length + b e * of ^ L.length = of ^ (L.length + 1) := by rw [← Int.add_mul, hab, Int.pow_succ, Int.mul_comm]
    exact ⟨by omega, by omega⟩
/-- the law's own way -/
def wpr (a b : Int → Int) (E p : List Int) : Int := E.foldl (fun acc e => acc * (if e ∈ p then b e else a e)) 1
def memf (p : List Int) : Int → Bool := fun y => decide (y ∈ p)
theorem memf_snoc (p : List Int) (x : Int) : memf (p ++ [x]) = set1 x (memf p) := by
  funext y
  show decide (y ∈ p ++ [x]) = (decide (y ∈ p) || decide (y = x))
  by_cases h1 : y ∈ p
  · rw [decide_eq_true h1, decide_eq_true (List.mem_append_left _ h1)]; rfl
  · by_cases h2 : y = x
    · rw [decide_eq_true h2, Bool.or_true, decide_eq_true (by rw [h2]; simp)]
    · rw [decide_eq_false h1, decide_eq_false h2, decide_eq_false (by simp [h1, h2])]
      rfl
theorem wpr_snoc (E p : List Int) (x : Int) : wpr a b (E ++ [x]) p = wpr a b E p * (if x ∈ p then b x else a x) := by
  unfold wpr
  rw [List.foldl_append]
  rfl
theorem wpr_congr {p q : List Int} : ∀ {E : List Int}, (∀ e ∈ E, e ∈ p ↔ e ∈ q) → wpr a b E p = wpr a b E q := by
  intro E
  induction E using snoc_ind with
  | h0 => intro _; rfl
  | h1 E x ih =>
    intro h
    rw [wpr_snoc, wpr_snoc, ih fun e he => h e (List.mem_append_left _ he)]
    have := h x (by simp)
    by_cases hx : x ∈ p
    · rw [if_pos hx, if_pos (this.mp hx)]
    · rw [if_neg hx, if_neg fun z => hx (this.mpr z)]
theorem sum_map_mul (l : List (List Int)) (f : List Int → Int) (c : Int) : (l.map fun p => f p * c).sum = (l.map f).sum * c := by
  induction l with
  | nil => simp
  | cons x r ih =>
    rw [List.map_cons, List.map_cons, List.sum_cons, List.sum_cons, ih, Int.add_mul]
theorem Sm_sum {E : List Int} (nd : E.Nodup) (g : (Int → Bool) → Int) : ((subs E).map fun p => wpr a b E p * g (memf p)).sum = Sm a b E g := by
  induction E using snoc_ind generalizing g with
  | h0 =>
    show ([([] : List Int)].map fun p => wpr a b [] p * g (memf p)).sum = g fun _ => false
    rw [List.map_singleton, List.sum_singleton]
    show 1 * g (memf []) = _
    rw [Int.one_mul]
    rfl
  | h1 E x ih =>
    have hx : x ∉ E := fun m => by
      have := (List.nodup_append.mp nd).2.2 x m x (by simp)
      exact this rfl
    have ndE : E.Nodup := (List.nodup_append.mp nd).1
    rw [subs_snoc, List.map_append, List.sum_append, Sm_snoc, ← ih ndE g, ← ih ndE fun f => g (set1 x f)]
    congr 1
    · rw [Int.mul_comm, ← sum_map_mul]
      refine congrArg List.sum (List.map_congr_left fun p hp => ?_)
      rw [wpr_snoc, if_neg fun z => hx (subs_mem hp x z)]
      grind
    · rw [Int.mul_comm, ← sum_map_mul, List.map_map]
      refine congrArg List.sum (List.map_congr_left fun p hp => ?_)
      show wpr a b (E ++ [x]) (p ++ [x]) * g (memf (p ++ [x])) = _
      rw [wpr_snoc, if_pos (by simp), memf_snoc, wpr_congr (p := p ++ [x]) (q := p) fun e he => ?_]
      · grind
      · have : e ≠ x := fun z => hx (z ▸ he)
        simp [this]
theorem sum_filter (l : List (List Int)) (q : List Int → Bool) (f : List Int → Int) : ((l.filter q).map f).sum = (l.map fun p => f p * (if q p then 1 else 0)).sum := by
  induction l with
  | nil => rfl
  | cons x r ih =>
    rw [List.filter_cons, List.map_cons, List.sum_cons, ← ih]
    by_cases h : q x = true
    · rw [if_pos h, if_pos h, List.map_cons, List.sum_cons, Int.mul_one]
    · rw [if_neg h, if_neg h, Int.mul_zero, Int.zero_add]
end
/-! the diagram and what it asks -/
theorem Rch.trans {ns : List Node} {c x y : Nat} (h : Rch ns c x) (k : Rch ns x y) : Rch ns c y := by
  induction k with
  | refl => exact h
  | step _ hk ih => exact .step ih hk
theorem Rch.up {E : List Int} {ns : List Node} (ok : NOk E ns) {c x : Nat} {e : Int} (h : Rch ns c x) (u : Up ns e c) : Up ns e x := by
  induction h with
  | refl => exact u
  | step _ hk ih =>
    rename_i x' y' _
    obtain ⟨n, hn, hy, _⟩ := mem_kids hk
    have h1 := ih n hn
    obtain ⟨u1, u2⟩ := ok.ord _ n hn
    intro m hm
    rcases hy with rfl | rfl
    · have := u1 m hm; omega
    · have := u2 m hm; omega
/-- only what is asked counts -/
theorem ev_congr {E : List Int} {ns : List Node} (ok : NOk E ns) {f g : Int → Bool} : ∀ c, c < ns.length + 2 → (∀ y, Rch ns c y → ∀ n, nod ns y = some n → f n.1 = g n.1) → ev ns f c = ev ns g c := by
  intro c
  induction c using Nat.strongRecOn with
  | ind c ih =>
    intro hc h
    by_cases h2 : 2 ≤ c
    · obtain ⟨n, hn⟩ := nod_some hc h2
      obtain ⟨l1, l2, _⟩ := ok.lt c n hn
      have kid : ∀ y, (y = n.2.1 ∨ y = n.2.2) → ev ns f y = ev ns g y := fun y hy => by
        have hyc : y < c := by rcases hy with rfl | rfl <;> assumption
        refine ih y hyc (by omega) fun z hz m hm => ?_
        by_cases y2 : 2 ≤ y
        · refine h z (Rch.trans (.step .refl ?_) hz) m hm
          rcases hy with rfl | rfl
          · exact (kids_mem hn).1 y2
          · exact (kids_mem hn).2 y2
        · have := hz.le ok
          have := nod_lt hm
          omega
      rw [ok.ev hn, ok.ev hn, h c .refl n hn, kid _ (.inl rfl), kid _ (.inr rfl)]
    · have : c = 0 ∨ c = 1 := by omega
      rcases this with rfl | rfl
      · rw [ev_zero, ev_zero]
      · rw [ev_one, ev_one]
theorem ev_set1 {E : List Int} {ns : List Node} (ok : NOk E ns) {c : Nat} {e x : Int} (hc : c < ns.length + 2) (u : Up ns e c) (hx : x ≤ e) (f : Int → Bool) : ev ns (set1 x f) c = ev ns f c :=
  ev_congr ok c hc fun y hy n hn => set1_ne (by have := hy.up ok u n hn; omega) f
/-- 1 if the condition holds -/
def hol (ns : List Node) (c : Nat) : (Int → Bool) → Int := fun f => if ev ns f c then 1 else 0
theorem hol_b (ns : List Node) (c : Nat) (f : Int → Bool) : 0 ≤ hol ns c f ∧ hol ns c f ≤ 1 := by
  unfold hol
  split <;> decide
theorem hol_ind {E : List Int} {ns : List Node} (ok : NOk E ns) {c : Nat} {e x : Int} (hc : c < ns.length + 2) (u : Up ns e c) (hx : x ≤ e) : Ind (hol ns c) x := fun f => by
  unfold hol
  rw [ev_set1 ok hc u hx]
/-- the place of a condition among L, and the sum from there -/
structure Pla (a b : Int → Int) (ns : List Node) (L : List Int) (x p : Nat) (m : Int) : Prop where
  at_ : (x < 2 ∧ p = L.length) ∨ ∃ n, nod ns x = some n ∧ L[p]? = some n.1
  val : m = Sm a b (L.drop p) (hol ns x)
theorem Pla.le {a b : Int → Int} {ns : List Node} {L : List Int} {x p : Nat} {m : Int} (h : Pla a b ns L x p m) : p ≤ L.length := by
  rcases h.at_ with ⟨_, e⟩ | ⟨n, _, e⟩
  · omega
  · have := (List.getElem?_eq_some_iff.mp e).1; omega
section
variable {a b : Int → Int} {of : Int} {E L : List Int} {ns : List Node}
theorem Pla.ind {x p : Nat} {m : Int} (h : Pla a b ns L x p m) (ok : NOk E ns) (hx : x < ns.length + 2) (up : L.Pairwise (· < ·)) : ∀ (j : Nat) (e : Int), j < p → L[j]? = some e → Ind (hol ns x) e := fun j e hj he => by
  refine hol_ind ok hx (e := e) (fun n hn => ?_) (Int.le_refl _)
  rcases h.at_ with ⟨h1, _⟩ | ⟨n', h1, h2⟩
  · have := nod_lt hn; omega
  · rw [hn] at h1
    cases h1
    obtain ⟨i1, e1⟩ := List.getElem?_eq_some_iff.mp he
    obtain ⟨i2, e2⟩ := List.getElem?_eq_some_iff.mp h2
    rw [← e1, ← e2]
    exact List.pairwise_iff_getElem.mp up j p i1 i2 hj
theorem Pla.from {x p q : Nat} {m : Int} (h : Pla a b ns L x p m) (ok : NOk E ns) (hx : x < ns.length + 2) (up : L.Pairwise (· < ·)) (hab : ∀ e, a e + b e = of) (hq : q ≤ p) : m * of ^ (p - q) = Sm a b (L.drop q) (hol ns x) := by
  have hp := h.le
  have e : L.drop q = (L.drop q).take (p - q) ++ L.drop p := by
    have := (List.take_append_drop (p - q) (L.drop q)).symm
    rw [List.drop_drop] at this
    rw [show q + (p - q) = p by omega] at this
    exact this
  rw [e, Sm_drop hab _ _ fun x' hx' => ?_, h.val]
  · rw [List.length_take, List.length_drop, show min (p - q) (L.length - q) = p - q by omega, Int.mul_comm]
  · obtain ⟨j, hj⟩ := List.getElem?_of_mem hx'
    have hj1 := (List.getElem?_eq_some_iff.mp hj).1
    rw [List.length_take] at hj1
    rw [List.getElem?_take_of_lt (by omega), List.getElem?_drop] at hj
    exact h.ind ok hx up (q + j) x' (by omega) hj
theorem Pla.leaf (x : Nat) (hx : x < 2) : Pla a b ns L x L.length (if x = 0 then 0 else 1) := by
  refine ⟨.inl ⟨hx, rfl⟩, ?_⟩
  rw [List.drop_length]
  show _ = hol ns x _
  unfold hol
  have : x = 0 ∨ x = 1 := by omega
  rcases this with rfl | rfl
  · rw [ev_zero]; rfl
  · rw [ev_one]; rfl
theorem Pla.node {x p pw pt : Nat} {n : Node} {mw mt : Int} (ok : NOk E ns) (up : L.Pairwise (· < ·)) (hab : ∀ e, a e + b e = of) (hn : nod ns x = some n) (hp : L[p]? = some n.1) (w : Pla a b ns L n.2.1 pw mw) (t : Pla a b ns L n.2.2 pt mt) :
    p < pw ∧ p < pt ∧ Pla a b ns L x p (a n.1 * (mw * of ^ (pw - p - 1)) + b n.1 * (mt * of ^ (pt - p - 1))) := by
  obtain ⟨l1, l2, _⟩ := ok.lt x n hn
  obtain ⟨u1, u2⟩ := ok.ord x n hn
  have hx := nod_lt hn
  obtain ⟨ip, ep⟩ := List.getElem?_eq_some_iff.mp hp
  have lt : ∀ {y q : Nat} {m : Int}, Pla a b ns L y q m → Up ns n.1 y → p < q := fun {y q m} h u => by
    rcases h.at_ with ⟨_, e⟩ | ⟨k, h1, h2⟩
    · omega
    · have h3 := u k h1
      obtain ⟨iq, eq⟩ := List.getElem?_eq_some_iff.mp h2
      by_cases z : p < q
      · exact z
      · by_cases z2 : q = p
        · subst z2
          rw [ep] at eq
          omega
        · have := List.pairwise_iff_getElem.mp up q p iq ip (by omega)
          omega
  have h1 := lt w u1
  have h2 := lt t u2
  refine ⟨h1, h2, .inr ⟨n, hn, hp⟩, ?_⟩
  have ew := w.from (q := p + 1) ok (by omega) up hab (by omega)
  have et := t.from (q := p + 1) ok (by omega) up hab (by omega)
  rw [show pw - p - 1 = pw - (p + 1) by omega, show pt - p - 1 = pt - (p + 1) by omega, ew, et, List.drop_eq_getElem_cons ip, ep]
  have hne : n.1 ∉ L.drop (p + 1) := fun m => by
    obtain ⟨j, hj⟩ := List.getElem?_of_mem m
    rw [List.getElem?_drop] at hj
    obtain ⟨ij, ej⟩ := List.getElem?_eq_some_iff.mp hj
    have := List.pairwise_iff_getElem.mp up p (p + 1 + j) ip ij (by omega)
    omega
  show _ = a n.1 * Sm a b (L.drop (p + 1)) (hol ns x) + b n.1 * Sm a b (L.drop (p + 1)) fun f => hol ns x (set1 n.1 f)
  rw [Sm_congr (g := hol ns x) (h := hol ns n.2.1) fun f hf => ?_, Sm_congr (g := fun f => hol ns x (set1 n.1 f)) (h := hol ns n.2.2) fun f hf => ?_]
  · show hol ns x (set1 n.1 f) = hol ns n.2.2 f
    unfold hol
    rw [ok.ev hn, set1_self, if_pos rfl, ev_set1 ok (by omega) u2 (Int.le_refl _)]
  · unfold hol
    rw [ok.ev hn, hf _ hne]
    rfl
theorem Pla.all {x p : Nat} {m : Int} (h : Pla a b ns L x p m) (ok : NOk E ns) (hx : x < ns.length + 2) (up : L.Pairwise (· < ·)) (hab : ∀ e, a e + b e = of) : m * of ^ p = Sm a b L (hol ns x) := by
  have := h.from (q := 0) ok hx up hab (Nat.zero_le _)
  rwa [Nat.sub_zero, List.drop_zero] at this
theorem Pla.bound {x p : Nat} {m : Int} (h : Pla a b ns L x p m) (hab : ∀ e, a e + b e = of) (ha : ∀ e, 0 ≤ a e) (hb : ∀ e, 0 ≤ b e) : 0 ≤ m ∧ m ≤ of ^ (L.length - p) := by
  have := Sm_bound hab ha hb (L.drop p) (hol ns x) (hol_b ns x)
  rw [List.length_drop] at this
  rw [h.val]
  exact this
end

/-! ### the law's cases: their dict, the weight of a choice, how many cases in all -/
def ck (E : List Int) (f : Int → Int) : List (Key × V) := E.map fun e => ((Sum.inl e : Key), V.int (f e))
theorem ck_len (E : List Int) (f : Int → Int) : (ck E f).length = E.length := List.length_map _
theorem ck_val (E : List Int) (f : Int → Int) (x : Int) : valV (ck E f) (Sum.inl x : Key) = if x ∈ E then some (.int (f x)) else none := by
  induction E with
  | nil => rfl
  | cons y r ih =>
    show valV (((Sum.inl y : Key), V.int (f y)) :: ck r f) _ = _
    by_cases e : y = x
    · subst e
      rw [valV_pos rfl, if_pos (by simp)]
    · rw [valV_neg (fun z => e (Sum.inl.inj z)), ih]
      by_cases m : x ∈ r
      · rw [if_pos m, if_pos (List.mem_cons_of_mem _ m)]
      · rw [if_neg m, if_neg (fun z => (List.mem_cons.mp z).elim (fun e' => e e'.symm) m)]
theorem ck_put {E : List Int} (f : Int → Int) {x : Int} (v : Int) (h : x ∉ E) : putK (ck E f) (Sum.inl x : Key) (.int v) = ck (E ++ [x]) fun y => if y = x then v else f y := by
  rw [putK_new _ (by rw [ck_val, if_neg h])]
  unfold ck
  rw [List.map_append]
  congr 1
  · refine List.map_congr_left fun e he => ?_
    show (Sum.inl e, V.int (f e)) = (Sum.inl e, V.int (if e = x then v else f e))
    rw [if_neg fun z : e = x => h (z ▸ he)]
  · show [(Sum.inl x, V.int v)] = [(Sum.inl x, V.int (if x = x then v else f x))]
    rw [if_pos rfl]
def spCases : Sp := fun vs H Q _ => ∃ (d sc ea : Addr) (E : List Int) (of : Int), vs = [.ref d, .ref ea, .int of] ∧ 1 ≤ of ∧ of ≤ 1000 ∧ Drw d sc H ∧ H ea = some (.lst (E.map V.int)) ∧ ea ≠ d ∧ E.Nodup ∧ E.length ≤ 1000 ∧
  ∀ (cs : Int → Int) (r : Addr) (H' : Hp), (∀ e, 0 ≤ cs e ∧ cs e ≤ of) → H r = none → Kp [d] H H' → Drw d sc H' → H' r = some (.dK (ck E cs)) → Q (.ref r) H'
def spWeight (K : PySem.W.Frag) : Sp := fun vs H Q _ => ∃ (pa ea ca : Addr) (E p : List Int) (cs : Int → Int) (of : Int), vs = [.ref pa, .ref ea, .ref ca, .int of] ∧ SqL K H pa (p.map V.int) ∧ SqL K H ea (E.map V.int) ∧ H ca = some (.dK (ck E cs)) ∧
  1 ≤ of ∧ of ≤ 1000 ∧ (∀ e, 0 ≤ cs e ∧ cs e ≤ of) ∧ Q (.int (wpr (fun e => of - cs e) cs E p)) H
def spAll (K : PySem.W.Frag) : Sp := fun vs H Q _ => ∃ (ea : Addr) (E : List Int) (of : Int), vs = [.ref ea, .int of] ∧ SqL K H ea (E.map V.int) ∧ 1 ≤ of ∧ of ≤ 1000 ∧ Q (.int (of ^ E.length)) H
theorem nin_take {l : List Int} (nd : l.Nodup) {i : Nat} {x : Int} (h : l[i]? = some x) : x ∉ l.take i := fun m => by
  obtain ⟨j, hj, e⟩ := List.getElem_of_mem m
  rw [List.length_take] at hj
  obtain ⟨hi, e2⟩ := List.getElem?_eq_some_iff.mp h
  rw [List.getElem_take] at e
  exact List.pairwise_iff_getElem.mp nd j i (by omega) hi (by omega) (e.trans e2.symm)

/-! ### the chance of a condition -/
theorem low_mul (m d : Int) {k : Int} (hk : 0 < k) : low (k * m) (k * d) = low m d := by
  unfold low
  rw [Int.gcd_mul_left]
  have e : ((k.natAbs * Int.gcd m d : Nat) : Int) = k * (Int.gcd m d : Int) := by
    rw [Int.natCast_mul]
    congr 1
    omega
  rw [e, Int.mul_ediv_mul_of_pos _ _ hk, Int.mul_ediv_mul_of_pos _ _ hk]
theorem asc_unique : ∀ {L M : List Int}, L.Pairwise (· < ·) → M.Pairwise (· < ·) → (∀ x, x ∈ L ↔ x ∈ M) → L = M
  | [], [], _, _, _ => rfl
  | [], y :: M, _, _, h => absurd ((h y).mpr List.mem_cons_self) (by simp)
  | x :: L, [], _, _, h => absurd ((h x).mp List.mem_cons_self) (by simp)
  | x :: L, y :: M, a, b, h => by
    obtain ⟨a1, a2⟩ := List.pairwise_cons.mp a
    obtain ⟨b1, b2⟩ := List.pairwise_cons.mp b
    have e : x = y := by
      rcases List.mem_cons.mp ((h x).mp List.mem_cons_self) with m | m
      · exact m
      · rcases List.mem_cons.mp ((h y).mpr List.mem_cons_self) with q | q
        · exact q.symm
        · have := a1 y q; have := b1 x m; omega
    subst e
    rw [asc_unique a2 b2 fun z => ?_]
    have := h z
    constructor
    · intro m
      rcases List.mem_cons.mp (this.mp (List.mem_cons_of_mem _ m)) with q | q
      · have := a1 z m; omega
      · exact q
    · intro m
      rcases List.mem_cons.mp (this.mpr (List.mem_cons_of_mem _ m)) with q | q
      · have := b1 z m; omega
      · exact q
theorem Reached.all {ns : List Node} {c : Nat} {R : List Nat} (hR : Reached ns [c] R) {x : Nat} {n : Node} (h : Rch ns c x) (hn : nod ns x = some n) : x ∈ R := by
  revert n
  induction h with
  | refl => exact fun hn => hR.top c (by simp) (nod_lt hn).1
  | @step y z _ hk ih =>
    intro n _
    obtain ⟨n', hn', _⟩ := mem_kids hk
    obtain ⟨i, hi⟩ := List.getElem?_of_mem (ih hn')
    exact List.mem_of_mem_take (hR.topo i y hi z hk)
/-- only what the condition asks counts -/
theorem Sm_asked {a b : Int → Int} {of : Int} {E L : List Int} {ns : List Node} {c : Nat} {R : List Nat} (ok : NOk E ns) (hc : c < ns.length + 2) (up : E.Pairwise (· < ·)) (hab : ∀ e, a e + b e = of) (hR : Reached ns [c] R)
    (upL : L.Pairwise (· < ·)) (hL : ∀ k, k ∈ L ↔ ∃ x ∈ R, ∃ n, nod ns x = some n ∧ n.1 = k) : ∃ k : Nat, k + L.length = E.length ∧ Sm a b E (hol ns c) = of ^ k * Sm a b L (hol ns c) := by
  have inR := fun x n h (hn : nod ns x = some n) => hR.all (c := c) (x := x) (n := n) h hn
  have hin : ∀ k ∈ L, k ∈ E := fun k hk => by
    obtain ⟨x, _, n, hn, rfl⟩ := (hL k).mp hk
    exact ok.en x n hn
  have ef : E.filter (fun e => decide (e ∈ L)) = L := asc_unique (up.sublist List.filter_sublist) upL fun x => by
    rw [List.mem_filter]
    exact ⟨fun h => of_decide_eq_true h.2, fun h => ⟨hin x h, decide_eq_true h⟩⟩
  obtain ⟨k, h1, h2⟩ := Sm_filter hab (g := hol ns c) (fun e => decide (e ∈ L)) E fun e he hp f => by
    unfold hol
    rw [ev_congr ok (f := set1 e f) (g := f) c hc fun y hy n hn => set1_ne (fun z => ?_) f]
    exact of_decide_eq_false hp ((hL e).mpr ⟨y, inR y n hy hn, n, hn, z⟩)
  rw [ef] at h1 h2
  exact ⟨k, h1, h2⟩
/-- a def with a keyword of its own -/
structure GK (K : PySem.W.Frag) (mg : Str → Option Value) (x : Str) (st : Stmt) (kws : List (Str × V)) (f : Addr) (fd : FuncData) : Prop where
  fn : FunD K x x (defArgs st) (defBody st) (defScope st) [] kws f fd
  m : mg x = some (.ref f)
/-- what a call with keywords wants -/
structure KCal (P : Program) (w : World) (K : PySem.W.Frag) (mg : Str → Option Value) (base : Heap) (k : Nat) (x : Str) (sp : Sp) (ps : List Str) (n : Nat) (ks : List Str) (f : Addr) (fd : FuncData) : Prop where
  F : FnOk P w K mg base CX0 k f fd ps sp
  m : mg x = some (.ref f)
  kp : PySem.W.keepIn K (.ref f) = true
  kb : KBn K fd ps n ks (fun us ws => us ++ ws) (fun vs zs => vs ++ zs)
section
variable {P : Program} {w : World} {K : PySem.W.Frag} {mg : Str → Option Value} {base : Heap} {C : Addr}
theorem GK.ok {x : Str} {st : Stmt} {k : Nat} {sp : Sp} {N ps : List Str} {kws : List (Str × V)} {f : Addr} {fd : FuncData} (D : GK K mg x st kws f fd) (S : FnScope N ps (defScope st)) (len : ∀ vs H Q E, sp vs H Q E → vs.length = ps.length)
    (body : ∀ (cdv : Value) (A : Around) (outer : List Env) (s : Shared) (H : Hp) (vs : List V) (Q : VK) (E : XK), Room k (A.deeper (envOfC x (defScope st) s.heap.objs.size f cdv)) → sp vs H Q E →
      ∃ t, PSs (cxOf CX0 P w K mg base N x (defScope st) f cdv A outer s H E).nox (defBody st) t ∧ t { nx := fun _ H' => Q .non H', rt := Q } (start N vs) H) : FnOk P w K mg base CX0 (k + 1) f fd ps sp :=
  D.fn.ok S len fun cdv A outer s H vs Q E hr h => let ⟨t, h1, h2⟩ := body cdv A outer s H vs Q E hr h
    ⟨t, h1.nox, h2⟩
theorem GK.kcal {x : Str} {st : Stmt} {k : Nat} {sp : Sp} {ps : List Str} {n : Nat} {ks : List Str} {kws : List (Str × V)} {f : Addr} {fd : FuncData} (D : GK K mg x st kws f fd) (F : FnOk P w K mg base CX0 k f fd ps sp) (hk : kws ≠ [])
    (h : ∀ (D : Addr) (doc pm : Value) (an : Option Addr) (cdv ct : Value) (us ws : List Value), us.length = n → ws.length = ks.length → bindArgs (PySem.W.fnOf x x (defArgs st) (defBody st) (defScope st) .none (.ref D) doc pm an cdv ct) ⟨us, ks.zip ws⟩ = pure (ps.zip (us ++ ws))) :
    KCal P w K mg base k x sp ps n ks f fd := by
  refine ⟨F, D.m, D.fn.kp, ⟨fun s us ws _ l1 l2 => ?_, fun r1 r2 => r1.append r2⟩⟩
  obtain ⟨oc, od, dV, kV, doc, pm, an, cdv, ct, osl, rfl, lk, hcd, hD, hK⟩ := D.fn.ex
  rcases hD with ⟨_, rfl⟩ | ⟨e, _⟩
  · rcases hK with e | ⟨Da, rfl, _⟩
    · exact absurd e hk
    · exact .of_eq (h Da doc pm an cdv ct us ws l1 l2)
  · exact absurd rfl e
theorem GK.cal {x : Str} {st : Stmt} {k : Nat} {sp : Sp} {ps : List Str} {n : Nat} {kws : List (Str × V)} {f : Addr} {fd : FuncData} (D : GK K mg x st kws f fd) (F : FnOk P w K mg base CX0 k f fd ps sp) (hk : kws ≠ []) (hn : n + kws.length = ps.length)
    (h : ∀ (D : Addr) (doc pm : Value) (an : Option Addr) (cdv ct : Value) (us ks : List Value), us.length = n → ks.length = kws.length →
      KwChain D ((kws.map (·.1)).zip ks) (bindArgs (PySem.W.fnOf x x (defArgs st) (defBody st) (defScope st) .none (.ref D) doc pm an cdv ct) ⟨us, []⟩) (ps.zip (us ++ ks))) : Cal P w K mg base k x sp (kws.map (·.2)) := by
  obtain ⟨ds, rv, hb⟩ := D.fn.binds0 n hk hn h
  exact ⟨f, fd, ps, ds, F, D.m, D.fn.kp, hb, rv⟩
end

/-! ### diagrams are canonical: what a condition asks is what it depends on -/
def put1 (e : Int) (b : Bool) (f : Int → Bool) : Int → Bool := fun y => if y = e then b else f y
theorem put1_self (e : Int) (b : Bool) (f : Int → Bool) : put1 e b f e = b := if_pos rfl
theorem put1_ne {e y : Int} (h : y ≠ e) (b : Bool) (f : Int → Bool) : put1 e b f y = f y := if_neg h
theorem put1_comm {e k : Int} (h : e ≠ k) (b c : Bool) (f : Int → Bool) : put1 e b (put1 k c f) = put1 k c (put1 e b f) := by
  funext y
  unfold put1
  by_cases h1 : y = e
  · rw [if_pos h1, if_neg (fun z => h (h1.symm.trans z)), if_pos h1]
  · rw [if_neg h1]
    by_cases h2 : y = k
    · rw [if_pos h2, if_pos h2]
    · rw [if_neg h2, if_neg h2, if_neg h1]
/-- the condition depends on k -/
def Dep (ns : List Node) (c : Nat) (k : Int) : Prop := ∃ f, ev ns (put1 k true f) c ≠ ev ns (put1 k false f) c
section
variable {E : List Int} {ns : List Node}
theorem ev_put {c : Nat} {e : Int} (ok : NOk E ns) (hc : c < ns.length + 2) (u : Up ns e c) (b : Bool) (f : Int → Bool) : ev ns (put1 e b f) c = ev ns f c :=
  ev_congr ok c hc fun y hy n hn => put1_ne (by have := hy.up ok u n hn; omega) b f
theorem NOk.kid1 (ok : NOk E ns) {x : Nat} {n : Node} (hn : nod ns x = some n) (f : Int → Bool) : Lw.ev ns (put1 n.1 false f) x = Lw.ev ns f n.2.1 ∧ Lw.ev ns (put1 n.1 true f) x = Lw.ev ns f n.2.2 := by
  obtain ⟨l1, l2, _⟩ := ok.lt x n hn
  obtain ⟨u1, u2⟩ := ok.ord x n hn
  have hx := nod_lt hn
  refine ⟨?_, ?_⟩
  · rw [ok.ev hn, put1_self, if_neg (by decide), ev_put ok (by omega) u1]
  · rw [ok.ev hn, put1_self, if_pos rfl, ev_put ok (by omega) u2]
/-- conditions that are alike are the same -/
theorem canon (ok : NOk E ns) : ∀ (N x y : Nat), x + y ≤ N → x < ns.length + 2 → y < ns.length + 2 → (∀ f, ev ns f x = ev ns f y) → x = y := by
  intro N
  induction N with
  | zero => intro x y h _ _ _; omega
  | succ N ih =>
    -- a node over one that does not ask its entry
    have over : ∀ (x y : Nat) (n : Node), x + y ≤ N + 1 → y < ns.length + 2 → nod ns x = some n → Up ns n.1 y → (∀ f, ev ns f x = ev ns f y) → False := fun x y n h hy hn u q => by
      obtain ⟨l1, l2, ne⟩ := ok.lt x n hn
      have hx := nod_lt hn
      have e1 := ih n.2.1 y (by omega) (by omega) hy fun f => by rw [← (ok.kid1 hn f).1, q, ev_put ok hy u]
      have e2 := ih n.2.2 y (by omega) (by omega) hy fun f => by rw [← (ok.kid1 hn f).2, q, ev_put ok hy u]
      exact ne (e1.trans e2.symm)
    intro x y h hx hy q
    by_cases x2 : 2 ≤ x
    · obtain ⟨n, hn⟩ := nod_some hx x2
      by_cases y2 : 2 ≤ y
      · obtain ⟨m, hm⟩ := nod_some hy y2
        by_cases e : n.1 = m.1
        · obtain ⟨l1, l2, _⟩ := ok.lt x n hn
          obtain ⟨l3, l4, _⟩ := ok.lt y m hm
          have e1 := ih n.2.1 m.2.1 (by omega) (by omega) (by omega) fun f => by rw [← (ok.kid1 hn f).1, q, e, (ok.kid1 hm f).1]
          have e2 := ih n.2.2 m.2.2 (by omega) (by omega) (by omega) fun f => by rw [← (ok.kid1 hn f).2, q, e, (ok.kid1 hm f).2]
          have en : n = m := Prod.ext e (Prod.ext e1 e2)
          subst en
          exact ok.inj x y n hn hm
        · by_cases lt : n.1 < m.1
          · exact (over x y n h hy hn (fun k hk => by rw [hm] at hk; cases hk; exact lt) q).elim
          · exact (over y x m (by omega) hx hm (fun k hk => by rw [hn] at hk; cases hk; omega) fun f => (q f).symm).elim
      · exact (over x y n h hy hn (fun k hk => by have := nod_lt hk; omega) q).elim
    · by_cases y2 : 2 ≤ y
      · obtain ⟨m, hm⟩ := nod_some hy y2
        exact (over y x m (by omega) hx hm (fun k hk => by have := nod_lt hk; omega) fun f => (q f).symm).elim
      · have q0 := q fun _ => false
        have h1 : x = 0 ∨ x = 1 := by omega
        have h2 : y = 0 ∨ y = 1 := by omega
        rcases h1 with rfl | rfl <;> rcases h2 with rfl | rfl
        · rfl
        · rw [ev_zero, ev_one] at q0; cases q0
        · rw [ev_zero, ev_one] at q0; cases q0
        · rfl
theorem dep_top (ok : NOk E ns) {x : Nat} {n : Node} (hn : nod ns x = some n) : Dep ns x n.1 := by
  obtain ⟨l1, l2, ne⟩ := ok.lt x n hn
  have hx := nod_lt hn
  refine Classical.byContradiction fun no => ne (canon ok _ n.2.1 n.2.2 (Nat.le_refl _) (by omega) (by omega) fun f => ?_)
  refine Classical.byContradiction fun d => no ⟨f, ?_⟩
  rw [(ok.kid1 hn f).1, (ok.kid1 hn f).2]
  exact fun z => d z.symm
theorem dep_kid (ok : NOk E ns) {x y : Nat} {k : Int} (hk : y ∈ kids ns x) (d : Dep ns y k) : Dep ns x k := by
  obtain ⟨n, hn, hy, _⟩ := mem_kids hk
  obtain ⟨f, hf⟩ := d
  obtain ⟨l1, l2, _⟩ := ok.lt x n hn
  obtain ⟨u1, u2⟩ := ok.ord x n hn
  have hx := nod_lt hn
  have hyl : y < ns.length + 2 := by rcases hy with rfl | rfl <;> omega
  have uy : Up ns n.1 y := by rcases hy with rfl | rfl <;> assumption
  have ne : k ≠ n.1 := fun e => hf (by rw [e, ev_put ok hyl uy, ev_put ok hyl uy])
  rcases hy with rfl | rfl
  · refine ⟨put1 n.1 false f, ?_⟩
    rw [put1_comm ne, put1_comm ne, (ok.kid1 hn _).1, (ok.kid1 hn _).1]
    exact hf
  · refine ⟨put1 n.1 true f, ?_⟩
    rw [put1_comm ne, put1_comm ne, (ok.kid1 hn _).2, (ok.kid1 hn _).2]
    exact hf
theorem dep_rch (ok : NOk E ns) {c x : Nat} {k : Int} (h : Rch ns c x) (d : Dep ns x k) : Dep ns c k := by
  induction h with
  | refl => exact d
  | step _ hk ih => exact ih (dep_kid ok hk d)
/-- what is asked is what counts -/
theorem dep_iff (ok : NOk E ns) {c : Nat} (hc : c < ns.length + 2) (k : Int) : Dep ns c k ↔ ∃ x n, Rch ns c x ∧ nod ns x = some n ∧ n.1 = k := by
  constructor
  · rintro ⟨f, hf⟩
    refine Classical.byContradiction fun no => hf (ev_congr ok c hc fun y hy n hn => ?_)
    have ne : n.1 ≠ k := fun e => no ⟨y, n, hy, hn, e⟩
    rw [put1_ne ne, put1_ne ne]
  · rintro ⟨x, n, hx, hn, rfl⟩
    exact dep_rch ok hx (dep_top ok hn)
theorem Pre.dep {ns' : List Node} (p : Pre ns ns') (oa : NOk E ns) (ob : NOk E ns') {c : Nat} (hc : c < ns.length + 2) (k : Int) : Dep ns' c k ↔ Dep ns c k := by
  unfold Dep
  constructor
  · rintro ⟨f, hf⟩
    exact ⟨f, by rw [← p.ev oa ob _ c hc, ← p.ev oa ob _ c hc]; exact hf⟩
  · rintro ⟨f, hf⟩
    exact ⟨f, by rw [p.ev oa ob _ c hc, p.ev oa ob _ c hc]; exact hf⟩
theorem Reached.dep {c : Nat} {R : List Nat} {L : List Int} (hR : Reached ns [c] R) (ok : NOk E ns) (hc : c < ns.length + 2) (hL : ∀ k, k ∈ L ↔ ∃ x ∈ R, ∃ n, nod ns x = some n ∧ n.1 = k) (k : Int) : k ∈ L ↔ Dep ns c k := by
  rw [hL k, dep_iff ok hc k]
  constructor
  · rintro ⟨x, hx, n, hn, e⟩
    obtain ⟨_, c', hc', h⟩ := hR.mem x hx
    rw [List.mem_singleton.mp hc'] at h
    exact ⟨x, n, h, hn, e⟩
  · rintro ⟨x, n, hx, hn, e⟩
    exact ⟨x, hR.all hx hn, n, hn, e⟩
end

/-! ### what the store is not -/
theorem StoAt.out {C : Addr} {E : List Int} {s : SA} {H : Hp} {ns : List Node} {b : Nat} (S : StoAt C E s H ns b) : (∀ a kvs, H a = some (.dK kvs) → a ∉ s.M) ∧ (∀ (a : Addr) (L : List Int), H a = some (.lst (L.map V.int)) → a ∉ s.M) ∧ ∀ a, H a = none → a ∉ s.M := by
  obtain ⟨as, a1, _⟩ := S.ls
  obtain ⟨kvs, b1, _⟩ := S.nu
  obtain ⟨kvs', c1, _⟩ := S.re
  refine ⟨fun a kv h m => ?_, fun a L h m => ?_, fun a h m => ?_⟩ <;> (simp only [SA.M, List.mem_cons, List.not_mem_nil, or_false] at m; rcases m with e | e | e <;> rw [e] at h)
  · rw [a1] at h; cases h
  · rw [b1] at h; cases h
  · rw [c1] at h; cases h
  · rw [a1] at h
    have h' : V.non :: V.non :: as.map V.ref = L.map V.int := HO.lst.inj (Option.some.inj h)
    cases L with
    | nil => cases h'
    | cons x r => cases (List.cons.inj h').1
  · rw [b1] at h; cases h
  · rw [c1] at h; cases h
  · rw [a1] at h; cases h
  · rw [b1] at h; cases h
  · rw [c1] at h; cases h
theorem StoAt.out_ref {C : Addr} {E : List Int} {s : SA} {H : Hp} {ns : List Node} {b : Nat} (S : StoAt C E s H ns b) {a : Addr} {as : List Addr} (h : H a = some (.lst (as.map V.ref))) : a ∉ s.M := by
  obtain ⟨bs, a1, _⟩ := S.ls
  obtain ⟨kvs, b1, _⟩ := S.nu
  obtain ⟨kvs', c1, _⟩ := S.re
  intro m
  simp only [SA.M, List.mem_cons, List.not_mem_nil, or_false] at m
  rcases m with e | e | e <;> rw [e] at h
  · rw [a1] at h
    have h' : V.non :: V.non :: bs.map V.ref = as.map V.ref := HO.lst.inj (Option.some.inj h)
    cases as with
    | nil => cases h'
    | cons x r => cases (List.cons.inj h').1
  · rw [b1] at h; cases h
  · rw [c1] at h; cases h

/-! ### sorted(xs, key=f), f a def of the text -/
mutual
/-- what is read off the tracked heap is read off the heap -/
theorem Has.reads {P : Program} {w : World} {H : Hp} {h : Heap} (ok : HOk P w H h) : ∀ (d : PyData) (v : V) (u : Value), Has H v d → RelV v u → ∃ as, Reads h u d as
  | .none, _, u, x, r => by cases x; exact ⟨[], by rw [show u = Value.none from r]; exact .none⟩
  | .bool b, _, u, x, r => by cases x; exact ⟨[], by rw [show u = Value.bool b from r]; exact .bool b⟩
  | .int i, _, u, x, r => by
    cases x
    obtain ⟨t, rfl⟩ := r
    exact ⟨[], .int i t⟩
  | .str z, _, u, x, r => by
    cases x
    obtain ⟨t, rfl⟩ := r
    exact ⟨[], .str z t⟩
  | .list ds, _, u, x, r => by
    cases x with
    | lst e hs =>
      obtain ⟨_, its, n, rv, ho⟩ := ok _ _ e
      obtain ⟨as, q⟩ := HasAll.reads ok ds _ its hs rv
      rw [show u = Value.ref _ from r]
      exact ⟨_, .list ho rfl rfl (by simpa using q)⟩
  | .tuple ds, _, u, x, r => by
    cases x with
    | tup e hs =>
      obtain ⟨_, its, rv, ob, ho, hc, n, hd⟩ := ok _ _ e
      obtain ⟨as, q⟩ := HasAll.reads ok ds _ its hs rv
      rw [show u = Value.ref _ from r]
      exact ⟨_, .tuple ho hc hd (by simpa using q)⟩
  | .dict _, _, _, x, _ => by cases x
theorem HasAll.reads {P : Program} {w : World} {H : Hp} {h : Heap} (ok : HOk P w H h) : ∀ (ds : List PyData) (vs : List V) (us : List Value), HasAll H vs ds → Vals vs us → ∃ as, ReadsAll h us ds as
  | [], _, us, x, r => by
    cases x
    cases r
    exact ⟨[], .nil⟩
  | d :: ds, _, us, x, r => by
    cases x with
    | cons x1 x2 =>
      cases r with
      | cons r1 r2 =>
        obtain ⟨as, q1⟩ := Has.reads ok d _ _ x1 r1
        obtain ⟨bs, q2⟩ := HasAll.reads ok ds _ _ x2 r2
        exact ⟨as ++ bs, .cons q1 q2⟩
end
section
variable {X : Cx} {pins : List (Addr × Obj)} {σ : List (Option V)} {H : Hp} {s : Shared}
/-- objects that no one tracks change, all else stays -/
theorem Inv.others {h' : Heap} {t' : Nat} (ch : List Addr) (I : Inv X pins σ H s) (hf : ∀ b ∈ ch, FpOk X pins H b) (k : ∀ b u, b ∉ ch → s.heap.get? b = some u → h'.get? b = some u) : Inv X pins σ H { s with heap := h', toks := t' } :=
  I.call (ch := ch) (g' := s.gens) (d' := s.drawn)
    ⟨fun b o e _ _ hc => k b o hc e, fun b o e _ _ hc => ⟨o.slots, k b o hc e⟩, fun _ _ _ n _ => n, fun b o e hc => ⟨o, k b o hc e⟩, fun _ _ e => e, fun _ _ _ e => e, fun _ ps e => ⟨#[], by rw [e]; simp⟩⟩
    (fun a o e => (I.hok a o e).stay (fun b u hb q => k b u (fun z => by
      have n := (hf b z).1
      rcases hb with y | y
      · rw [y, e] at n; cases n
      · rw [y] at n; cases n) q) (fun _ q => q) fun _ _ q => q)
    I.bare fun b hb => let ⟨_, f2, _, f4, f5, f6⟩ := hf b hb; ⟨f4, f2, f5, f6⟩
/-- an object that no one tracked is tracked -/
theorem Inv.adopt {a : Addr} {o : HO} (I : Inv X pins σ H s) (hf : FpOk X pins H a) (new : ObjOk X.prog X.w (upd H a o) s.heap a o) : Inv X pins σ (upd H a o) s := by
  have hn := hf.1
  exact I.call' (ch := [a]) rfl
    ⟨fun b o e _ _ _ => e, fun b o e _ _ _ => ⟨o.slots, e⟩, fun b _ _ n hc => by rw [upd_ne fun z => hc (by rw [z]; simp)]; exact n, fun b o e _ => ⟨o, e⟩, fun b xs e => by rw [upd_ne (ne_of_none e hn)]; exact e, fun b xs u e => by rw [upd_ne (ne_of_none e hn)]; exact e,
      fun b ps e => ⟨#[], by rw [upd_ne (ne_of_none e hn), e]; simp⟩⟩
    (fun b u e => by
      by_cases hb : b = a
      · subst hb
        rw [upd_same] at e
        cases e
        exact new
      · rw [upd_ne hb] at e
        exact (I.hok b u e).stay (fun _ _ _ q => q) (fun c q => by rw [upd_ne (ne_of_none q hn)]; exact q) fun c xs q => by rw [upd_ne (ne_of_none q hn)]; exact q)
    I.bare fun b hb => by
      rw [List.mem_singleton.mp hb]
      exact ⟨hf.2.2.2.1, hf.2.1, hf.2.2.2.2.1, hf.2.2.2.2.2⟩
/-- a def called from within a built-in -/
theorem run_in {k : Nat} {f : Addr} {fd : FuncData} {ps : List Str} {sp : Sp} {A : Around} {Q : VK} {x : V} {u : Value} (F : FnOk X.prog X.w X.K X.mg X.base CX0 k f fd ps sp) (hr : Room k A) (he : Env0 X.prog X.w X.K X.mg X.base A X.stack s H) (hb : Binds X.K fd ps []) (I : Inv X pins σ H s) (r : RelV x u) (h : sp [x] H Q C8.E0) :
    wpAny (model X.prog X.w) A (call (.ref f) [u]) (EP X pins σ Q) (fun _ _ => False) s := by
  have l : ([u] ++ []).length = ps.length := F.len _ _ _ _ h
  refine wpAny_call (codeAny_mono (F.run A X.stack s H ⟨[u], []⟩ [u] [x] Q C8.E0 hr he (hb s [u] I.kIn l) (.cons r .nil) h) fun q s' z => ?_)
  cases q with
  | error e => exact z
  | ok fl =>
    cases fl with
    | ret v => exact I.after z
    | next => exact z
    | brk => exact z
    | cont => exact z
/-- sorted(xs, key=f): the items with their keys -/
def rSF (sp : Sp) : V → Hp → VK → Prop := fun x H Q => ∃ (a : Addr) (bs : List (V × PyData)), x = .ref a ∧ H a = some (.lst (bs.map Prod.fst)) ∧ PySem.W.AllAlike (bs.map Prod.snd) ∧ PySem.W.Sortable (bs.map Prod.snd) ∧ (∀ b ∈ bs, b.2.depth ≤ 10) ∧
  (∀ b ∈ bs, ∀ G : Hp, Kp [] H G → sp [b.1] G (fun v G' => Kp [] G G' ∧ Has G' v b.2) C8.E0) ∧
  ∀ (G : Hp) (p : Addr), Kp [] H G → H p = none → G p = none → Q (.ref p) (upd G p (.lst ((bs.mergeSort (PySem.W.dataLe false Prod.snd)).map Prod.fst)))
theorem each_of_vals {xs : List V} {us : List Value} (r : Vals xs us) : ∀ {bs : List (V × PyData)}, bs.map Prod.fst = xs → PySem.W.EachIs (fun u (b : V × PyData) => RelV b.1 u) us bs := by
  induction r with
  | nil =>
    intro bs e
    rw [List.map_eq_nil_iff.mp e]
    exact .nil
  | cons r1 _ ih =>
    intro bs e
    cases bs with
    | nil => cases e
    | cons b bs =>
      rw [List.map_cons] at e
      injection e with e1 e2
      exact .cons (by rw [e1]; exact r1) (ih e2)
theorem vals_of_each : ∀ {us : List Value} {bs : List (V × PyData)}, PySem.W.EachIs (fun u (b : V × PyData) => RelV b.1 u) us bs → Vals (bs.map Prod.fst) us
  | _, _, .nil => .nil
  | _, _, .cons a t => .cons a (vals_of_each t)
theorem each_keys {H : Hp} {h : Heap} {P : Program} {w : World} (ok : HOk P w H h) : ∀ {ds : List PyData} {vs : List V} {us : List Value}, HasAll H vs ds → Vals vs us → PySem.W.EachIs (fun u d => ∃ as, Reads h u d as) us ds
  | [], _, _, x, r => by
    cases x
    cases r
    exact .nil
  | d :: ds, _, _, x, r => by
    cases x with
    | cons x1 x2 =>
      cases r with
      | cons r1 r2 => exact .cons (Has.reads ok d _ _ x1 r1) (each_keys ok x2 r2)
theorem HasAll.snoc {H : Hp} {v : V} {d : PyData} : ∀ {ds : List PyData} {vs : List V}, HasAll H vs ds → Has H v d → HasAll H (vs ++ [v]) (ds ++ [d])
  | [], _, x, y => by
    cases x
    exact .cons y .nil
  | e :: ds, _, x, y => by
    cases x with
    | cons x1 x2 => exact .cons x1 (HasAll.snoc x2 y)
theorem rest_run {k : Nat} {f a1 kS : Addr} {fd : FuncData} {ps : List Str} {sp : Sp} {bs : List (V × PyData)} {its : List Value} {e1 : Nat} {Q : VK} {E' : Value → Shared → Prop} (F : FnOk X.prog X.w X.K X.mg X.base CX0 k f fd ps sp) (hr : Room (k + 2) X.A) (hb : Binds X.K fd ps []) (I : Inv X pins σ H s)
    (fk : FpOk X pins H kS) (fa : FpOk X pins H a1) (ne : kS ≠ a1) (nk : s.heap.get? kS = some (PyProof.Rows.seqObj "list" #[] 0)) (na : s.heap.get? a1 = some (PyProof.Rows.seqObj "list" #[] e1)) (rv : Vals (bs.map Prod.fst) its) (hL : its.length ≤ sizeLine)
    (hal : PySem.W.AllAlike (bs.map Prod.snd)) (hso : PySem.W.Sortable (bs.map Prod.snd)) (hdp : ∀ b ∈ bs, b.2.depth ≤ 10) (turn : ∀ b ∈ bs, ∀ G : Hp, Kp [] H G → sp [b.1] G (fun v G' => Kp [] G G' ∧ Has G' v b.2) C8.E0)
    (q : ∀ G : Hp, Kp [] H G → G a1 = none → Q (.ref a1) (upd G a1 (.lst ((bs.mergeSort (PySem.W.dataLe false Prod.snd)).map Prod.fst)))) :
    wpAny (model X.prog X.w) X.A.in1.in1 (PyProof.Rows.ksk_rest a1 (.ref f) false its.toArray e1 (.ref kS)) (fun fl s' => fl = .done (.ret .none) ∧ EP X pins σ Q (.ref a1) s') E' s := by
  have hl0 : bs.length = its.length := by rw [← rv.length, List.length_map]
  have pinT : ∀ {G : Hp} {s2 : Shared} {o o2 : Obj}, Inv X pins σ G s2 → s2.heap.get? kS = some o → s2.heap.get? a1 = some o2 → G kS = none → G a1 = none → (∀ v, o.data ≠ .cell v) → (∀ v, o2.data ≠ .cell v) → Inv X ((kS, o) :: (a1, o2) :: pins) σ G s2 := fun {G s2 o o2} J g1 g2 g3 g4 g5 g6 =>
    J.pins_of fun p hp => by
      rcases List.mem_cons.mp hp with rfl | hp
      · exact ⟨g1, g3, fk.2.1, fk.2.2.1, g5⟩
      rcases List.mem_cons.mp hp with rfl | hp
      · exact ⟨g2, g4, fa.2.1, fa.2.2.1, g6⟩
      · exact J.pin p (List.mem_append_right _ hp)
  have pinK : ∀ {G : Hp} {s2 : Shared} {o o2 : Obj}, Inv X ((kS, o) :: (a1, o2) :: pins) σ G s2 → Inv X pins σ G s2 ∧ s2.heap.get? kS = some o ∧ s2.heap.get? a1 = some o2 ∧ G kS = none ∧ G a1 = none := fun {G s2 o o2} J =>
    have p1 := J.pin (kS, o) (List.mem_append_right _ List.mem_cons_self)
    have p2 := J.pin (a1, o2) (List.mem_append_right _ (List.mem_cons_of_mem _ List.mem_cons_self))
    ⟨J.pins_of fun p hp => J.pin p (List.mem_append_right _ (List.mem_cons_of_mem _ (List.mem_cons_of_mem _ hp))), p1.1, p2.1, p1.2.1, p2.2.1⟩
  unfold PyProof.Rows.ksk_rest
  refine wpAny_bind (wpAny_rule ?_)
  rw [← Array.forIn_toList]
  refine wpAny_bind (PyProof.Rows.ksk_fold (fun i s' => ∃ (G : Hp) (kts : List V) (kA : Array Value) (e : Nat), Inv X ((kS, PyProof.Rows.seqObj "list" kA e) :: (a1, PyProof.Rows.seqObj "list" #[] e1) :: pins) σ G s' ∧ Kp [] H G ∧ Vals kts kA.toList ∧ HasAll G kts ((bs.map Prod.snd).take i)) its 0 s
    ⟨H, [], #[], 0, pinT I nk na fk.1 fa.1 nofun nofun, .refl, .nil, .nil⟩ ?turn ?fin)
  case turn =>
    rintro j x s' hx ⟨G, kts, kA, e, J, kG, rk, hk⟩
    rw [Nat.zero_add] at hk ⊢
    have hj : j < bs.length := by rw [hl0]; exact (List.getElem?_eq_some_iff.mp hx).1
    have hbj : bs[j]? = some bs[j] := List.getElem?_eq_getElem hj
    generalize bs[j] = b at hbj
    have hbm := List.mem_of_getElem? hbj
    have rx : RelV b.1 x := by
      obtain ⟨u, hu, r⟩ := rv.get (i := j) (x := b.1) (by rw [List.getElem?_map, hbj]; rfl)
      rw [hx] at hu
      cases hu
      exact r
    have tk1 : (bs.map Prod.snd).take (j + 1) = (bs.map Prod.snd).take j ++ [b.2] := takeS (by rw [List.getElem?_map, hbj]; rfl)
    refine wpAny_bind (wpAny_attempt (wpAny_mono (run_in F hr.in1.in1 J.env0.in1.in1 hb J rx (turn b hbm G kG)) (fun u s2 hu => ?_) fun _ _ z => z.elim))
    obtain ⟨v, G2, J2, r2, kG2, hv⟩ := hu
    obtain ⟨J3, g1, g2, g3, g4⟩ := pinK J2
    have lk : kA.size ≤ its.length := by
      have h1 := rk.length
      have h2 := hk.len
      rw [List.length_take, List.length_map] at h2
      have h3 : kA.toList.length = kA.size := Array.length_toList ..
      omega
    obtain ⟨c2, hc2⟩ : ∃ c2, (s2.heap.update kS (Obj.mapSeq (·.push u))).get? kS = some (PyProof.Rows.seqObj "list" (kA.push u) c2) := ⟨_, PyProof.Rows.get?_update_seq g1 (·.push u)⟩
    have sb := Heap.SameBut.update s2.heap kS (Obj.mapSeq (·.push u))
    refine wpAny_bind (PyProof.Rows.listUpdate_at g1 rfl (wpAny_pure ⟨rfl, G2, kts ++ [v], kA.push u, c2, ?_, kG.trans kG2, ?_, ?_⟩) (by omega) (by rw [Array.size_push]; omega))
    · exact pinT (Inv.others (I := J3) (t' := s2.toks) [kS] (fun b hb => by rw [List.mem_singleton.mp hb]; exact ⟨g3, fk.2⟩) fun b o hb e => (sb.2 b fun z => hb (by rw [z]; simp)).trans e) hc2 ((sb.2 a1 ne.symm).trans g2) g3 g4 nofun nofun
    · rw [Array.toList_push]
      exact rk.append (.cons r2 .nil)
    · rw [tk1]
      exact (HasAll.kp kG2 _ _ hk).snoc hv
  case fin =>
    rintro s' ⟨G, kts, kA, e, J, kG, rk, hk⟩
    rw [Nat.zero_add, List.take_of_length_le (by rw [List.length_map]; omega)] at hk
    obtain ⟨J3, g1, g2, g3, g4⟩ := pinK J
    have ek := each_keys J.hok hk rk
    have lk : kA.size = its.length := by
      have h1 := rk.length
      have h2 := hk.len
      rw [List.length_map] at h2
      have h3 : kA.toList.length = kA.size := Array.length_toList ..
      omega
    obtain ⟨h1, k1, k2⟩ := L2.restrict s'.heap fun b => decide (b ≠ kS)
    have kk : ∀ b o, b ≠ kS → s'.heap.get? b = some o → h1.get? b = some o := fun b o hb e => by rw [k1 b (decide_eq_true hb)]; exact e
    have kb : ∀ b o, h1.get? b = some o → s'.heap.get? b = some o := fun b o e => by
      by_cases z : b = kS
      · rw [k2 b (decide_eq_false (by simpa using z))] at e
        cases e
      · rw [← k1 b (decide_eq_true z)]
        exact e
    refine wpAny_bind (PyProof.Rows.listItems_at g1 rfl ?_)
    refine PySem.W.keyH_end (κ := PySem.W.dataKind s'.heap (bs.map Prod.snd)) (h₁ := h1) (fun b o _ e => kb b o e) (k2 kS (by simp)) g1 g2 ne (PySem.W.SortsAt.data ek hal hso fun d hd => ?_) lk hL fun h2 tk c hkb hD => ⟨rfl, .ref a1, upd G a1 (.lst ((bs.mergeSort (PySem.W.dataLe false Prod.snd)).map Prod.fst)), ?_, rfl, q G kG g4⟩
    · obtain ⟨b, hbm, rfl⟩ := List.mem_map.mp hd
      have := hdp b hbm
      have := hr.in1.in1.un
      omega
    · have out := PySem.W.keyedOut_each (rev := false) (bs := bs) (vs := its) (R := fun u (b : V × PyData) => RelV b.1 u) Prod.snd ⟨s'.heap, kA.toList, hal, rfl, ek⟩ (each_of_vals rv rfl)
      have J4 := Inv.others (I := J3) (h' := h2) (t' := tk) [kS, a1] (fun b hb => by
        rcases List.mem_cons.mp hb with rfl | hb
        · exact ⟨g3, fk.2⟩
        · rw [List.mem_singleton.mp hb]; exact ⟨g4, fa.2⟩) fun b o hb e => hkb b o (fun z => hb (by rw [z]; simp)) (kk b o (fun z => hb (by rw [z]; simp)) e)
      have ln := vals_of_each out
      refine Inv.adopt J4 ⟨g4, fa.2⟩ ⟨?_, _, c, ln, hD⟩
      rw [List.length_map, List.length_mergeSort, hl0]
      exact hL
theorem cr_sortedF {k : Nat} {f : Addr} {fd : FuncData} {ps : List Str} {sp : Sp} (F : FnOk X.prog X.w X.K X.mg X.base CX0 k f fd ps sp) (hr : Room (k + 2) X.A) (hb : Binds X.K fd ps []) :
    CallRK X (.builtin "sorted") [Str.ofString "key"] (fun vs zs H Q => ∃ x, vs = [x] ∧ zs = [.ref f] ∧ rSF sp x H Q) := by
  intro pins s σ H vs zs us ws Q I r rz h
  obtain ⟨x, rfl, rfl, a, bs, rfl, ha, hal, hso, hdp, turn, q⟩ := h
  obtain rfl := Vals.ref1 r
  obtain rfl := Vals.ref1 rz
  obtain ⟨hz, its, n, rv, hob⟩ := I.hok a _ ha
  have hl0 : bs.length = its.length := by rw [← rv.length, List.length_map]
  have hL : its.length ≤ sizeLine := by rw [← rv.length]; exact hz
  show wpAny _ _ (call (.builtin "sorted") [.ref a] [(Str.ofString "key", .ref f)]) _ _ s
  refine PySem.W.sorted_of_sort (vs := its) ⟨_, hob, rfl, _, rfl⟩ hL (PyProof.Rows.ksk_s1 _ _) (fun _ => PyProof.Rows.ksk_l1 _ _) fun E' => ?_
  rw [PyProof.Rows.ksk_t1]
  have c0 := PySem.W.copyHeap_at s.heap its
  obtain ⟨e1, c1⟩ : ∃ e1, ((PySem.W.copyHeap s.heap its).update (s.heap.objs.size + 1) (Obj.mapSeq fun _ => (#[] : Array Value))).get? (s.heap.objs.size + 1) = some (PyProof.Rows.seqObj "list" #[] e1) := ⟨_, PyProof.Rows.get?_update_seq c0 fun _ => #[]⟩
  have sz : (((PySem.W.copyHeap s.heap its).update (s.heap.objs.size + 1) (Obj.mapSeq fun _ => (#[] : Array Value))).push (PyProof.Rows.seqObj "tuple" its.toArray 0)).objs.size = (PySem.W.copyHeap s.heap its).objs.size + 1 := by
    rw [PyProof.Rows.size_push', Heap.size_update]
  have gt : s.heap.objs.size + 1 < (PySem.W.copyHeap s.heap its).objs.size := Heap.lt_size c0
  unfold PyProof.Rows.ksk_tree
  refine wpAny_bind (PyProof.Rows.listItems_at c0 rfl (wpAny_bind (PyProof.Rows.listUpdate_at c0 rfl (wpAny_bind (PyProof.Rows.seqEpoch_at c1 rfl (wpAny_bind (wpAny_newTuple (wpAny_bind (wpAny_newList (wpAny_holding ?_) (Nat.zero_le _))) hL)))) (by rw [List.size_toArray]; exact hL) (Nat.zero_le _))))
  have I5 : Inv X pins σ H { s with heap := PySem.W.sortingHeap (PySem.W.copyHeap s.heap its) (s.heap.objs.size + 1) its } := I.kept (t' := s.toks) fun b o e => PySem.W.sorting_copy_old e
  have fk : FpOk X pins H ((PySem.W.copyHeap s.heap its).objs.size + 1) := I.fpOk (Nat.le_of_lt (Nat.lt_of_lt_of_le (Nat.lt_succ_self _) (Nat.le_of_lt (Nat.lt_succ_of_lt gt)))) (I.hok.fresh (Nat.le_of_lt (Nat.lt_of_lt_of_le (Nat.lt_succ_self _) (Nat.le_of_lt (Nat.lt_succ_of_lt gt)))))
  have fa : FpOk X pins H (s.heap.objs.size + 1) := I.fpOk (Nat.le_succ _) (I.hok.fresh (Nat.le_succ _))
  rw [sz]
  refine rest_run (s := { s with heap := PySem.W.sortingHeap (PySem.W.copyHeap s.heap its) (s.heap.objs.size + 1) its }) F hr hb I5 fk fa (Nat.ne_of_gt (Nat.lt_succ_of_lt gt)) ?_ ?_ rv hL hal hso hdp turn fun G kG g => q G _ kG fa.1 g
  · show (PySem.W.sortingHeap (PySem.W.copyHeap s.heap its) (s.heap.objs.size + 1) its).get? _ = _
    rw [← sz]
    exact Heap.get?_push_size _ rfl
  · show (PySem.W.sortingHeap (PySem.W.copyHeap s.heap its) (s.heap.objs.size + 1) its).get? _ = _
    exact Heap.get?_push_of_some _ (Heap.get?_push_of_some _ c1)
/-- sorted(e, key=y) -/
theorem pe_sortedF {k j : Nat} {y : Str} {sp : Sp} {p p2 kp pos : Pos} {e : Expr} {ta : TA} (c : Cal X.prog X.w X.K X.mg X.base k y sp []) (hr : Room j X.A) (hk : k + 2 ≤ j) (hg : Gl X "sorted") (hm : X.mg "sorted" = none) (hv : bootBuiltins "sorted" = some (.builtin "sorted")) (hgy : Gl X y) (ha : PA X [e] ta)
    (hdy : (y == ("__debug__" : Str)) = false := by decide)
    (h1 : backTo pos (starEach [e] X.env) = (false, eval e X.env) :: backTo pos (starEach [] X.env) := by rfl) (h2 : (backTo pos (starEach [e] X.env)).any (·.1) = false := by rfl)
    (h3 : (backToKw pos (keywordEach [⟨some "key", .Name y p2, kp⟩] X.env)).all (·.1.isSome) = true := by rfl) (h4 : (backToKw pos (keywordEach [⟨some "key", .Name y p2, kp⟩] X.env)).any (·.1.isNone) = false := by rfl) (h5 : (backToKw pos (keywordEach [⟨some "key", .Name y p2, kp⟩] X.env)).filterMap (·.1) = [Str.ofString "key"] := by rfl) :
    PE X (.Call (.Name "sorted" p) [e] [⟨some "key", .Name y p2, kp⟩] pos) (fun σ H Q => ta σ H fun vs H1 => ∃ x, vs = [x] ∧ rSF sp x H1 Q) := by
  obtain ⟨f, fd, ps, ds, F, hmy, kp', b, d⟩ := c.ex
  cases d
  refine ⟨fun pins s σ H Q I h => wpAny_Call_Name_kw (ld_blt I hg hm hv ?_ (by decide) (by decide))⟩
  have keys : PK X [⟨some "key", .Name y p2, kp⟩] (tCons (tC (.ref f)) tNil) := pk_cons (pe_glob (v := .ref f) hgy hmy rfl hdy) pk_nil
  refine PyProof.Rows.callWith_kw (thn (ha.run pos pins s σ H _ I h) fun us s1 ⟨vs, H1, I1, r1, x, ev, q1⟩ => thn (keys.run pos pins s1 σ H1 (fun zs H2 => zs = [.ref f] ∧ H2 = H1) I1 ⟨rfl, rfl⟩) fun ws s2 ⟨zs, H2, I2, r2, ez, eh⟩ => ?_) h1 h2 h3 h4
  rw [h5]
  exact cr_sortedF F (hr.mono hk) b pins s2 σ H2 vs zs us ws Q I2 r1 r2 ⟨x, ev, ez, by rw [eh]; exact q1⟩
end

/-! ### min(.., key=f), f a def of the text: the first of the least -/
/-- the first of the least by their keys -/
def bstD (b : V × PyData) (l : List (V × PyData)) : V × PyData := l.foldl (fun b x => if PySem.W.dataLt x.2 b.2 = true then x else b) b
theorem bstD_mem : ∀ (l : List (V × PyData)) (b : V × PyData), bstD b l = b ∨ bstD b l ∈ l
  | [], _ => .inl rfl
  | x :: l, b => by
    show bstD (if PySem.W.dataLt x.2 b.2 = true then x else b) l = b ∨ _
    rcases bstD_mem l (if PySem.W.dataLt x.2 b.2 = true then x else b) with e | e
    · by_cases c : PySem.W.dataLt x.2 b.2 = true
      · rw [if_pos c] at e
        right
        show bstD (if PySem.W.dataLt x.2 b.2 = true then x else b) l ∈ _
        rw [if_pos c, e]
        exact List.mem_cons_self
      · rw [if_neg c] at e ⊢
        exact .inl e
    · exact .inr (List.mem_cons_of_mem _ e)
/-- what is walked: xs, at `it`; S tells of the abstract heap that xs stands there -/
structure SqN (P : Program) (w : World) (K : PySem.W.Frag) (it : Addr) (xs : List V) (tn : Nat → Heap → Prop) (S : Hp → Prop) : Prop where
  obj : ∀ i h, tn i h → ∃ o, h.get? it = some o ∧ ∀ v, o.data ≠ .cell v
  keep : ∀ i h h', tn i h → (∀ o, h.get? it = some o → h'.get? it = some o) → tn i h'
  grow : ∀ H H', S H → Kp [] H H' → S H'
  item : ∀ (X : Cx), X.prog = P → X.w = w → X.K = K → ∀ (A : Around) (i : Nat) (pins : List (Addr × Obj)) (s : Shared) (σ : List (Option V)) (H : Hp) (x : V) (Q : Option Value → Shared → Prop) (E : Value → Shared → Prop), Inv X pins σ H s → S H → tn i s.heap → xs[i]? = some x →
    (∀ u h', RelV x u → tn (i + 1) h' → (∀ b o, b ≠ it → s.heap.get? b = some o → h'.get? b = some o) → Q (some u) { s with heap := h' }) → wpAny (model P w) A (pyNext (.ref it)) Q E s
  done : ∀ (X : Cx), X.prog = P → X.w = w → X.K = K → ∀ (A : Around) (i : Nat) (pins : List (Addr × Obj)) (s : Shared) (σ : List (Option V)) (H : Hp) (Q : Option Value → Shared → Prop) (E : Value → Shared → Prop), A.handled = none → Inv X pins σ H s → S H → tn i s.heap → xs.length ≤ i →
    (∀ h', (∀ b o, b ≠ it → s.heap.get? b = some o → h'.get? b = some o) → Q none { s with heap := h' }) → wpAny (model P w) A (pyNext (.ref it)) Q E s
theorem sqn_tuple {P : Program} {w : World} {K : PySem.W.Frag} (a it : Addr) (xs : List V) : SqN P w K it xs (fun i h => h.IsTupleIter it a i) (fun H => H a = some (.tup xs)) where
  obj := fun i h st => by
    obtain ⟨o, e, c, d⟩ := st
    exact ⟨o, e, fun v z => by rw [d] at z; cases z⟩
  keep := fun i h h' st k => st.at k
  grow := fun H H' h k => k.t _ _ h
  item := fun X hP hw hK A i pins s σ H x Q E I hS st hx q => by
    subst hP hw hK
    obtain ⟨its, rv, p, hz⟩ := I.tuple (SqT.of hS)
    obtain ⟨u, hu, ru⟩ := rv.get hx
    exact wpAny_pyNext_tuple_item st (show s.heap.IsTuple a its.toArray from p) (x := u) (by simpa using hu) fun h' st' sb => q u h' ru st' fun b o hb e => (sb.2 b hb).trans e
  done := fun X hP hw hK A i pins s σ H Q E hh I hS st hl q => by
    subst hP hw hK
    obtain ⟨its, rv, p, hz⟩ := I.tuple (SqT.of hS)
    have := rv.length
    exact wpAny_pyNext_tuple_end hh st (show s.heap.IsTuple a its.toArray from p) (by simp; omega) fun h' eb => q h' eb
theorem sqn_list {P : Program} {w : World} {K : PySem.W.Frag} (a it : Addr) (xs : List V) : SqN P w K it xs (fun i h => h.IsListIter it a i) (fun H => H a = some (.lst xs)) where
  obj := fun i h st => by
    obtain ⟨o, e, c, d⟩ := st
    exact ⟨o, e, fun v z => by rw [d] at z; cases z⟩
  keep := fun i h h' st k => st.at k
  grow := fun H H' h k => k.k _ _ h (by simp)
  item := fun X hP hw hK A i pins s σ H x Q E I hS st hx q => by
    subst hP hw hK
    obtain ⟨its, rv, p, hz⟩ := I.list (SqL.of hS)
    obtain ⟨u, hu, ru⟩ := rv.get hx
    exact wpAny_pyNext_list_item st p.isList (x := u) (by simpa using hu) fun h' st' sb => q u h' ru st' fun b o hb e => (sb.2 b hb).trans e
  done := fun X hP hw hK A i pins s σ H Q E hh I hS st hl q => by
    subst hP hw hK
    obtain ⟨its, rv, p, hz⟩ := I.list (SqL.of hS)
    have := rv.length
    exact wpAny_pyNext_list_end hh st p.isList (by simp; omega) fun h' eb => q h' eb
section
variable {X : Cx} {pins : List (Addr × Obj)} {σ : List (Option V)} {H : Hp} {s : Shared} {k : Nat} {f : Addr} {fd : FuncData} {ps : List Str} {sp : Sp}
/-- a def called while two objects that no one tracks are held -/
theorem run_two {a b : Addr} {oa ob : Obj} {A : Around} {Q : VK} {x : V} {u : Value} (Fn : FnOk X.prog X.w X.K X.mg X.base CX0 k f fd ps sp) (hr : Room k A) (he : Env0 X.prog X.w X.K X.mg X.base A X.stack s H) (hb : Binds X.K fd ps []) (I : Inv X pins σ H s) (fa : FpOk X pins H a) (fb : FpOk X pins H b)
    (ha : s.heap.get? a = some oa) (hb' : s.heap.get? b = some ob) (da : ∀ v, oa.data ≠ .cell v) (db : ∀ v, ob.data ≠ .cell v) (r : RelV x u) (h : sp [x] H Q C8.E0) :
    wpAny (model X.prog X.w) A (call (.ref f) [u]) (fun v s' => ∃ y G, Inv X pins σ G s' ∧ RelV y v ∧ Q y G ∧ FpOk X pins G a ∧ FpOk X pins G b ∧ s'.heap.get? a = some oa ∧ s'.heap.get? b = some ob) (fun _ _ => False) s := by
  have J : Inv X ((a, oa) :: (b, ob) :: pins) σ H s := I.pins_of fun p hp => by
    rcases List.mem_cons.mp hp with rfl | hp
    · exact ⟨ha, fa.1, fa.2.1, fa.2.2.1, da⟩
    rcases List.mem_cons.mp hp with rfl | hp
    · exact ⟨hb', fb.1, fb.2.1, fb.2.2.1, db⟩
    · exact I.pin p (List.mem_append_right _ hp)
  refine wpAny_mono (run_in Fn hr he hb J r h) (fun v s' z => ?_) fun _ _ z => z
  obtain ⟨y, G, J2, r2, q⟩ := z
  have p1 := J2.pin (a, oa) (List.mem_append_right _ List.mem_cons_self)
  have p2 := J2.pin (b, ob) (List.mem_append_right _ (List.mem_cons_of_mem _ List.mem_cons_self))
  exact ⟨y, G, J2.pins_of fun p hp => J2.pin p (List.mem_append_right _ (List.mem_cons_of_mem _ (List.mem_cons_of_mem _ hp))), r2, q, ⟨p1.2.1, fa.2⟩, ⟨p2.2.1, fb.2⟩, p1.1, p2.1⟩
theorem min_turns {it S : Addr} {bs : List (V × PyData)} {tn : Nat → Heap → Prop} {SQ : Hp → Prop} {R : Result → Shared → Prop} (Fn : FnOk X.prog X.w X.K X.mg X.base CX0 k f fd ps sp) (hr : Room (k + 1) X.A) (hb : Binds X.K fd ps []) (N : SqN X.prog X.w X.K it (bs.map Prod.fst) tn SQ) (ne : S ≠ it)
    (hal : PySem.W.AllAlike (bs.map Prod.snd)) (hnn : ∀ b ∈ bs, b.2 ≠ .none) (hdp : ∀ b ∈ bs, b.2.depth ≤ 10) {H0 : Hp} (turn : ∀ b ∈ bs, ∀ G : Hp, Kp [] H0 G → sp [b.1] G (fun v G' => Kp [] G G' ∧ Has G' v b.2) C8.E0) :
    ∀ (rest : List (V × PyData)) (j : Nat) (b : V × PyData) (s : Shared) (G : Hp) (vb kb : Value) (kv : V) (c : Nat), bs.drop j = rest → b ∈ bs → Inv X pins σ G s → Kp [] H0 G → SQ G → FpOk X pins G S → FpOk X pins G it → tn j s.heap →
      s.heap.get? S = some { cls := .type "list", dict := none, data := .seq #[vb, kb] c, slots := #[] } → RelV b.1 vb → RelV kv kb → Has G kv b.2 →
      (∀ G' s' v, Kp [] H0 G' → Inv X pins σ G' s' → RelV (bstD b rest).1 v → R (.ok (.ret v)) s') → codeAny (model X.prog X.w) X.A (.builtin "min.loop" ⟨[.ref it, .ref f, .ref S], []⟩) R s := by
  have nm : (toString "min" ++ toString ".loop" : String) = "min.loop" := by decide
  intro rest
  induction rest with
  | nil =>
    intro j b s G vb kb kv c hd hbm I kG hS fS fI st oS rb rk hk q
    have hj : bs.length ≤ j := List.drop_eq_nil_iff.mp hd
    refine codeAny_builtin (PySem.F.entry_min_loop) ?_; rw [Around.under_plainId PySem.F.plain_min_loop _]
    show wpAny _ X.A.in1 (seqItems? (.ref S) >>= _) _ _ s
    refine wpAny_bind (wpAny_seqItems oS rfl ?_)
    show wpAny _ X.A.in1 (tryCatch (pyNext (.ref it)) _ >>= _) _ _ s
    refine wpAny_bind (wpAny_tryCatch (N.done X rfl rfl rfl X.A.in1 j pins s σ G _ _ hr.hd I hS st (by rw [List.length_map]; exact hj) fun h1 k1 => ?_))
    have oS1 := k1 S _ ne oS
    have I1 : Inv X pins σ G { s with heap := h1 } := I.turned (t' := s.toks) k1 fI.1 fI.2.1 fI.2.2.2.1 fI.2.2.2.2.1 fI.2.2.2.2.2
    show wpAny _ X.A.in1 (updateSeq S (fun _ => #[]) >>= _) _ _ _
    refine wpAny_bind (wpAny_updateSeq oS1 rfl (wpAny_bind (wpAny_letGo (wpAny_pure ?_))))
    exact q G _ vb kG (Inv.others (t' := s.toks) [S] I1 (fun b hb => by rw [List.mem_singleton.mp hb]; exact fS) fun b o hb e => (Heap.get?_update_other _ _ fun z => hb (by rw [← z]; simp)).trans e) rb
  | cons x rest ih =>
    intro j b s G vb kb kv c hd hbm I kG hS fS fI st oS rb rk hk q
    have hj : bs[j]? = some x := by
      have := congrArg List.head? hd
      rw [List.head?_drop] at this
      exact this
    have hd2 : bs.drop (j + 1) = rest := by
      have := congrArg List.tail hd
      rw [List.tail_drop] at this
      exact this
    have hxm := List.mem_of_getElem? hj
    refine codeAny_builtin (PySem.F.entry_min_loop) ?_; rw [Around.under_plainId PySem.F.plain_min_loop _]
    show wpAny _ X.A.in1 (seqItems? (.ref S) >>= _) _ _ s
    refine wpAny_bind (wpAny_seqItems oS rfl ?_)
    show wpAny _ X.A.in1 (tryCatch (pyNext (.ref it)) _ >>= _) _ _ s
    refine wpAny_bind (wpAny_tryCatch (N.item X rfl rfl rfl X.A.in1 j pins s σ G x.1 _ _ I hS st (by rw [List.getElem?_map, hj]; rfl) fun u h1 ru st1 k1 => ?_))
    have oS1 := k1 S _ ne oS
    have I1 : Inv X pins σ G { s with heap := h1 } := I.turned (t' := s.toks) k1 fI.1 fI.2.1 fI.2.2.2.1 fI.2.2.2.2.1 fI.2.2.2.2.2
    obtain ⟨oI, hI, dI⟩ := N.obj _ _ st1
    show wpAny _ X.A.in1 (tryCatch (holding [u] (call (.ref f) [u])) _ >>= _) _ _ _
    refine wpAny_bind (wpAny_tryCatch (wpAny_holding (wpAny_mono (run_two Fn hr.in1 I1.env0.in1 hb I1 fS fI oS1 hI nofun dI ru (turn x hxm G kG)) (fun kx s2 z => ?_) fun _ _ z => z.elim)))
    obtain ⟨kxv, G2, I2, rkx, ⟨kG2, hkx⟩, fS2, fI2, oS2, oI2⟩ := z
    have st2 : tn (j + 1) s2.heap := N.keep _ _ _ st1 fun o e => by rw [e] at hI; cases hI; exact oI2
    have hk2 : Has G2 kv b.2 := Has.kp kG2 _ _ hk
    obtain ⟨as1, rd1⟩ := Has.reads I2.hok _ _ _ hkx rkx
    obtain ⟨as2, rd2⟩ := Has.reads I2.hok _ _ _ hk2 rk
    have room : X.A.in1.units + min x.2.depth b.2.depth < cLine := by
      have := hdp x hxm
      have := hr.in1.un
      omega
    show wpAny _ X.A.in1 (tryCatch (holding [u, kx] (richCompare .Lt kx kb >>= _)) _ >>= _) _ _ _
    refine wpAny_bind (wpAny_tryCatch (wpAny_holding (wpAny_bind (PySem.W.lt_data rd1 rd2 (hal _ (List.mem_map.mpr ⟨x, hxm, rfl⟩) _ (List.mem_map.mpr ⟨b, hbm, rfl⟩)) (hnn x hxm) room ?_))))
    refine wpAny_bind (wpAny_holding (wpAny_truthy_bool (wpAny_bind (wpAny_letGo (wpAny_pure ?_)))))
    have kG02 := kG.trans kG2
    cases c2 : PySem.W.dataLt x.2 b.2 with
    | true =>
      have eb : bstD b (x :: rest) = bstD x rest := by
        show bstD (if PySem.W.dataLt x.2 b.2 = true then x else b) rest = _
        rw [if_pos c2]
      simp only [if_true]
      refine wpAny_bind (wpAny_updateSeq oS2 rfl (wpAny_bind (wpAny_letGo ?_)))
      rw [nm]
      refine wpAny_pure ⟨plainId_quiet PySem.F.plain_min_loop _, ih (j + 1) x _ G2 u kx kxv _ hd2 hxm (Inv.others (t' := s2.toks) [S] I2 (fun b hb => by rw [List.mem_singleton.mp hb]; exact fS2) fun b o hb e => (Heap.get?_update_other _ _ fun z => hb (by rw [← z]; simp)).trans e) kG02 (N.grow _ _ hS kG2) fS2 fI2
        (N.keep _ _ _ st2 fun o e => (Heap.get?_update_other _ _ ne).trans e) (Heap.get?_update_self _ oS2 rfl) ru rkx hkx fun G' s' v a1 a2 a3 => q G' s' v a1 a2 (by rw [eb]; exact a3)⟩
    | false =>
      have eb : bstD b (x :: rest) = bstD b rest := by
        show bstD (if PySem.W.dataLt x.2 b.2 = true then x else b) rest = _
        rw [if_neg (by rw [c2]; decide)]
      simp only [Bool.false_eq_true, if_false]
      refine wpAny_bind (wpAny_letGo ?_)
      rw [nm]
      exact wpAny_pure ⟨plainId_quiet PySem.F.plain_min_loop _, ih (j + 1) b _ G2 vb kb kv c hd2 hbm I2 kG02 (N.grow _ _ hS kG2) fS2 fI2 st2 oS2 rb rk hk2 fun G' s' v a1 a2 a3 => q G' s' v a1 a2 (by rw [eb]; exact a3)⟩
theorem min_start {it S : Addr} {b : V × PyData} {rest : List (V × PyData)} {tn : Nat → Heap → Prop} {SQ : Hp → Prop} {R : Result → Shared → Prop} {c : Nat} (Fn : FnOk X.prog X.w X.K X.mg X.base CX0 k f fd ps sp) (hr : Room (k + 1) X.A) (hb : Binds X.K fd ps []) (N : SqN X.prog X.w X.K it ((b :: rest).map Prod.fst) tn SQ) (ne : S ≠ it)
    (hal : PySem.W.AllAlike ((b :: rest).map Prod.snd)) (hnn : ∀ b' ∈ b :: rest, b'.2 ≠ .none) (hdp : ∀ b' ∈ b :: rest, b'.2.depth ≤ 10) (turn : ∀ b' ∈ b :: rest, ∀ G : Hp, Kp [] H G → sp [b'.1] G (fun v G' => Kp [] G G' ∧ Has G' v b'.2) C8.E0)
    (I : Inv X pins σ H s) (hS : SQ H) (fS : FpOk X pins H S) (fI : FpOk X pins H it) (st : tn 0 s.heap) (oS : s.heap.get? S = some { cls := .type "list", dict := none, data := .seq #[] c, slots := #[] })
    (q : ∀ G' s' v, Kp [] H G' → Inv X pins σ G' s' → RelV (bstD b rest).1 v → R (.ok (.ret v)) s') : codeAny (model X.prog X.w) X.A (.builtin "min.loop" ⟨[.ref it, .ref f, .ref S], []⟩) R s := by
  have nm : (toString "min" ++ toString ".loop" : String) = "min.loop" := by decide
  have hm0 : b ∈ b :: rest := List.mem_cons_self
  refine codeAny_builtin (PySem.F.entry_min_loop) ?_; rw [Around.under_plainId PySem.F.plain_min_loop _]
  show wpAny _ X.A.in1 (seqItems? (.ref S) >>= _) _ _ s
  refine wpAny_bind (wpAny_seqItems oS rfl ?_)
  show wpAny _ X.A.in1 (tryCatch (pyNext (.ref it)) _ >>= _) _ _ s
  refine wpAny_bind (wpAny_tryCatch (N.item X rfl rfl rfl X.A.in1 0 pins s σ H b.1 _ _ I hS st rfl fun u h1 ru st1 k1 => ?_))
  have oS1 := k1 S _ ne oS
  have I1 : Inv X pins σ H { s with heap := h1 } := I.turned (t' := s.toks) k1 fI.1 fI.2.1 fI.2.2.2.1 fI.2.2.2.2.1 fI.2.2.2.2.2
  obtain ⟨oI, hI, dI⟩ := N.obj _ _ st1
  show wpAny _ X.A.in1 (tryCatch (holding [u] (call (.ref f) [u])) _ >>= _) _ _ _
  refine wpAny_bind (wpAny_tryCatch (wpAny_holding (wpAny_mono (run_two Fn hr.in1 I1.env0.in1 hb I1 fS fI oS1 hI nofun dI ru (turn b hm0 H .refl)) (fun kx s2 z => ?_) fun _ _ z => z.elim)))
  obtain ⟨kxv, G2, I2, rkx, ⟨kG2, hkx⟩, fS2, fI2, oS2, oI2⟩ := z
  have st2 : tn (0 + 1) s2.heap := N.keep _ _ _ st1 fun o e => by rw [e] at hI; cases hI; exact oI2
  show wpAny _ X.A.in1 (updateSeq S (fun _ => #[u, kx]) >>= _) _ _ _
  refine wpAny_bind (wpAny_updateSeq oS2 rfl ?_)
  rw [nm]
  exact wpAny_pure ⟨plainId_quiet PySem.F.plain_min_loop _, min_turns Fn hr hb N ne hal hnn hdp turn rest 1 b _ G2 u kx kxv _ rfl hm0 (Inv.others (t' := s2.toks) [S] I2 (fun b hb => by rw [List.mem_singleton.mp hb]; exact fS2) fun b o hb e => (Heap.get?_update_other _ _ fun z => hb (by rw [← z]; simp)).trans e) kG2 (N.grow _ _ hS kG2) fS2 fI2
    (N.keep _ _ _ st2 fun o e => (Heap.get?_update_other _ _ ne).trans e) (Heap.get?_update_self _ oS2 rfl) ru rkx hkx q⟩
theorem args_min_two (a b v : Value) : argsOk "min" ⟨[a, b], [(Str.ofString "key", v)]⟩ := by unfold argsOk; kernel_rfl
/-- min(x, y, key=f) -/
def rM2 (sp : Sp) : List V → Hp → VK → Prop := fun vs H Q => ∃ b1 b2 : V × PyData, vs = [b1.1, b2.1] ∧ PySem.W.AllAlike [b1.2, b2.2] ∧ (∀ b ∈ [b1, b2], b.2 ≠ .none) ∧ (∀ b ∈ [b1, b2], b.2.depth ≤ 10) ∧ (∀ b ∈ [b1, b2], ∀ G : Hp, Kp [] H G → sp [b.1] G (fun v G' => Kp [] G G' ∧ Has G' v b.2) C8.E0) ∧
  ∀ G : Hp, Kp [] H G → Q (if PySem.W.dataLt b2.2 b1.2 = true then b2.1 else b1.1) G
/-- min(l, key=f), l a list -/
def rM1 (sp : Sp) : List V → Hp → VK → Prop := fun vs H Q => ∃ (a : Addr) (b : V × PyData) (rest : List (V × PyData)), vs = [.ref a] ∧ H a = some (.lst ((b :: rest).map Prod.fst)) ∧ PySem.W.AllAlike ((b :: rest).map Prod.snd) ∧ (∀ b' ∈ b :: rest, b'.2 ≠ .none) ∧ (∀ b' ∈ b :: rest, b'.2.depth ≤ 10) ∧
  (∀ b' ∈ b :: rest, ∀ G : Hp, Kp [] H G → sp [b'.1] G (fun v G' => Kp [] G G' ∧ Has G' v b'.2) C8.E0) ∧ ∀ G : Hp, Kp [] H G → Q (bstD b rest).1 G
theorem cr_minF2 (Fn : FnOk X.prog X.w X.K X.mg X.base CX0 k f fd ps sp) (hr : Room (k + 1) X.A) (hb : Binds X.K fd ps []) {us : List Value} {vs : List V} {Q : VK} (I : Inv X pins σ H s) (r : Vals vs us) (h : rM2 sp vs H Q) :
    wpAny (model X.prog X.w) X.A (call (.builtin "min") us [(Str.ofString "key", .ref f)]) (EP X pins σ Q) X.xe s := by
  have nm : (toString "min" ++ toString ".loop" : String) = "min.loop" := by decide
  obtain ⟨b1, b2, rfl, hal, hnn, hdp, turn, q⟩ := h
  obtain ⟨u1, u2, rfl, r1, r2⟩ := vals2 r
  refine PyProof.Rows.kmk_tree PySem.F.kind_min PySem.F.plain_min PySem.F.entry_min (args_min_two _ _ _) ?_
  show wpAny _ X.A.in1 (Builtin.Builtins.bindParams "min" ["key", "default"] 0 ⟨[], [(Str.ofString "key", .ref f)]⟩ >>= _) _ _ s
  refine wpAny_bind (wpAny_of_eq (show Builtin.Builtins.bindParams "min" ["key", "default"] 0 ⟨[], [(Str.ofString "key", .ref f)]⟩ = pure [some (.ref f), none] from rfl) ?_)
  show wpAny _ X.A.in1 (newTuple [u1, u2] >>= _) _ _ s
  refine wpAny_bind (wpAny_newObj_type ?_)
  have hz : ([b1.1, b2.1] : List V).length ≤ sizeLine := by show 2 ≤ sizeLine; decide
  have ht : H s.heap.objs.size = none := I.hok.fresh (Nat.le_refl _)
  have oT : (s.heap.push { cls := .type "tuple", data := .seq #[u1, u2] }).get? s.heap.objs.size = some { cls := .type "tuple", data := .seq #[u1, u2] } := Heap.get?_push_size _ rfl
  have I1 : Inv X pins σ (upd H s.heap.objs.size (.tup [b1.1, b2.1])) { s with heap := s.heap.push { cls := .type "tuple", data := .seq #[u1, u2] } } := I.laid (t' := s.toks) (fun b o e => Heap.get?_push_of_some _ e) (Nat.le_refl _) ⟨hz, [u1, u2], .cons r1 (.cons r2 .nil), ⟨_, oT, rfl, _, rfl⟩⟩
  have kT := Kp.new (M := []) (o := .tup [b1.1, b2.1]) ht
  generalize s.heap.objs.size = T at *
  generalize hs1 : ({ s with heap := s.heap.push { cls := .type "tuple", data := .seq #[u1, u2] } } : Shared) = s1 at *
  have oT1 : s1.heap.get? T = some { cls := .type "tuple", data := .seq #[u1, u2] } := by rw [← hs1]; exact oT
  refine wpAny_bind (wpAny_pyIter_tuple (t := T) (items := #[u1, u2]) ⟨_, oT1, rfl, _, rfl⟩ ?_)
  have I2 : Inv X pins σ (upd H T (.tup [b1.1, b2.1])) { s1 with heap := s1.heap.push { cls := .type "tuple_iterator", data := .fields #[.ref T, .int 0 0] } } := I1.kept (t' := s1.toks) fun b o e => Heap.get?_push_of_some _ e
  have fI : FpOk X pins (upd H T (.tup [b1.1, b2.1])) s1.heap.objs.size := I1.fpOk (Nat.le_refl _) (I1.hok.fresh (Nat.le_refl _))
  have fS : FpOk X pins (upd H T (.tup [b1.1, b2.1])) (s1.heap.push { cls := .type "tuple_iterator", data := .fields #[.ref T, .int 0 0] }).objs.size := I2.fpOk (Nat.le_refl _) (I2.hok.fresh (Nat.le_refl _))
  have ne : (s1.heap.push { cls := .type "tuple_iterator", data := .fields #[.ref T, .int 0 0] }).objs.size ≠ s1.heap.objs.size := by
    rw [Heap.size_push]
    exact Nat.succ_ne_self _
  refine wpAny_bind (wpAny_newObj_type ?_); rw [nm]
  have kI3 : ∀ b o, (s1.heap.push { cls := .type "tuple_iterator", data := .fields #[.ref T, .int 0 0] }).get? b = some o → ((s1.heap.push { cls := .type "tuple_iterator", data := .fields #[.ref T, .int 0 0] }).push { cls := .type "list", data := .seq #[] }).get? b = some o := fun b o e => Heap.get?_push_of_some _ e
  refine wpAny_pure ⟨plainId_quiet PySem.F.plain_min_loop _, min_start (b := b1) (rest := [b2]) Fn hr hb (sqn_tuple T _ [b1.1, b2.1]) ne hal hnn hdp (fun b' hb' G kG => turn b' hb' G (kT.trans kG)) (I2.kept (t' := s1.toks) kI3) upd_same fS fI
    ⟨_, kI3 _ _ (Heap.get?_push_size _ rfl), rfl, rfl⟩ (Heap.get?_push_size _ rfl) fun G' s' v kG' I' rv => ?_⟩
  refine ⟨_, G', I', ?_, q G' (kT.trans kG')⟩
  show RelV (if PySem.W.dataLt b2.2 b1.2 = true then b2.1 else b1.1) v
  have rv' : RelV (if PySem.W.dataLt b2.2 b1.2 = true then b2 else b1).1 v := rv
  by_cases c : PySem.W.dataLt b2.2 b1.2 = true
  · rw [if_pos c] at rv' ⊢
    exact rv'
  · rw [if_neg c] at rv' ⊢
    exact rv'
theorem cr_minF1 (Fn : FnOk X.prog X.w X.K X.mg X.base CX0 k f fd ps sp) (hr : Room (k + 1) X.A) (hb : Binds X.K fd ps []) {us : List Value} {vs : List V} {Q : VK} (I : Inv X pins σ H s) (r : Vals vs us) (h : rM1 sp vs H Q) :
    wpAny (model X.prog X.w) X.A (call (.builtin "min") us [(Str.ofString "key", .ref f)]) (EP X pins σ Q) X.xe s := by
  have nm : (toString "min" ++ toString ".loop" : String) = "min.loop" := by decide
  obtain ⟨a, b, rest, rfl, ha, hal, hnn, hdp, turn, q⟩ := h
  obtain rfl := Vals.ref1 r
  refine PyProof.Rows.kmk_tree PySem.F.kind_min PySem.F.plain_min PySem.F.entry_min (PyProof.Rows.kmk_min_key _ _) ?_
  show wpAny _ X.A.in1 (Builtin.Builtins.bindParams "min" ["key", "default"] 0 ⟨[], [(Str.ofString "key", .ref f)]⟩ >>= _) _ _ s
  refine wpAny_bind (wpAny_of_eq (show Builtin.Builtins.bindParams "min" ["key", "default"] 0 ⟨[], [(Str.ofString "key", .ref f)]⟩ = pure [some (.ref f), none] from rfl) ?_)
  refine wpAny_bind (wpAny_pure ?_)
  obtain ⟨its, rv, p, hz⟩ := I.list (SqL.of ha)
  refine wpAny_bind (wpAny_pyIter_list p.isList ?_)
  have I2 : Inv X pins σ H { s with heap := s.heap.push { cls := .type "list_iterator", data := .fields #[.ref a, .int 0 0] } } := I.kept (t' := s.toks) fun b o e => Heap.get?_push_of_some _ e
  have fI : FpOk X pins H s.heap.objs.size := I.fpOk (Nat.le_refl _) (I.hok.fresh (Nat.le_refl _))
  have fS : FpOk X pins H (s.heap.push { cls := .type "list_iterator", data := .fields #[.ref a, .int 0 0] }).objs.size := I2.fpOk (Nat.le_refl _) (I2.hok.fresh (Nat.le_refl _))
  have ne : (s.heap.push { cls := .type "list_iterator", data := .fields #[.ref a, .int 0 0] }).objs.size ≠ s.heap.objs.size := by
    rw [Heap.size_push]
    exact Nat.succ_ne_self _
  refine wpAny_bind (wpAny_newObj_type ?_); rw [nm]
  have kI3 : ∀ b o, (s.heap.push { cls := .type "list_iterator", data := .fields #[.ref a, .int 0 0] }).get? b = some o → ((s.heap.push { cls := .type "list_iterator", data := .fields #[.ref a, .int 0 0] }).push { cls := .type "list", data := .seq #[] }).get? b = some o := fun b o e => Heap.get?_push_of_some _ e
  exact wpAny_pure ⟨plainId_quiet PySem.F.plain_min_loop _, min_start (b := b) (rest := rest) Fn hr hb (sqn_list a _ _) ne hal hnn hdp turn (I2.kept (t' := s.toks) kI3) ha fS fI
    ⟨_, kI3 _ _ (Heap.get?_push_size _ rfl), rfl, rfl⟩ (Heap.get?_push_size _ rfl) fun G' s' v kG' I' rv => ⟨_, G', I', rv, q G' kG'⟩⟩
end
section
variable {X : Cx} {k j : Nat} {y : Str} {sp : Sp} {p p2 kp pos : Pos} {e : Expr} {es : List Expr} {ta : TA}
theorem pe_minF {rel : List V → Hp → VK → Prop} (c : Cal X.prog X.w X.K X.mg X.base k y sp []) (hr : Room j X.A) (hk : k + 1 ≤ j) (hrel : ∀ {f : Addr} {fd : FuncData} {ps : List Str}, FnOk X.prog X.w X.K X.mg X.base CX0 k f fd ps sp → Room (k + 1) X.A → Binds X.K fd ps [] → ∀ {pins : List (Addr × Obj)} {σ : List (Option V)} {H : Hp} {s : Shared} {us : List Value} {vs : List V} {Q : VK}, Inv X pins σ H s → Vals vs us → rel vs H Q → wpAny (model X.prog X.w) X.A (call (.builtin "min") us [(Str.ofString "key", .ref f)]) (EP X pins σ Q) X.xe s)
    (hg : Gl X "min") (hm : X.mg "min" = none) (hv : bootBuiltins "min" = some (.builtin "min")) (hgy : Gl X y) (ha : PA X (e :: es) ta) (hdy : (y == ("__debug__" : Str)) = false := by decide)
    (h1 : backTo pos (starEach (e :: es) X.env) = (false, eval e X.env) :: backTo pos (starEach es X.env) := by rfl) (h2 : (backTo pos (starEach (e :: es) X.env)).any (·.1) = false := by rfl)
    (h3 : (backToKw pos (keywordEach [⟨some "key", .Name y p2, kp⟩] X.env)).all (·.1.isSome) = true := by rfl) (h4 : (backToKw pos (keywordEach [⟨some "key", .Name y p2, kp⟩] X.env)).any (·.1.isNone) = false := by rfl) (h5 : (backToKw pos (keywordEach [⟨some "key", .Name y p2, kp⟩] X.env)).filterMap (·.1) = [Str.ofString "key"] := by rfl) :
    PE X (.Call (.Name "min" p) (e :: es) [⟨some "key", .Name y p2, kp⟩] pos) (fun σ H Q => ta σ H fun vs H1 => rel vs H1 Q) := by
  obtain ⟨f, fd, ps, ds, F, hmy, kp', b, d⟩ := c.ex
  cases d
  refine ⟨fun pins s σ H Q I h => wpAny_Call_Name_kw (ld_blt I hg hm hv ?_ (by decide) (by decide))⟩
  have keys : PK X [⟨some "key", .Name y p2, kp⟩] (tCons (tC (.ref f)) tNil) := pk_cons (pe_glob (v := .ref f) hgy hmy rfl hdy) pk_nil
  refine PyProof.Rows.callWith_kw (thn (ha.run pos pins s σ H _ I h) fun us s1 ⟨vs, H1, I1, r1, q1⟩ => thn (keys.run pos pins s1 σ H1 (fun zs H2 => zs = [.ref f] ∧ H2 = H1) I1 ⟨rfl, rfl⟩) fun ws s2 ⟨zs, H2, I2, r2, ez, eh⟩ => ?_) h1 h2 h3 h4
  rw [h5]
  subst ez
  obtain rfl := Vals.ref1 r2
  exact hrel F (hr.mono hk) b I2 r1 (by rw [eh]; exact q1)
end

/-! ### sets of entries in order; the cheapest ones, in plain Lean -/
/-- pf, with the members of T turned -/
def trn (pf : Int → Bool) (T : List Int) : Int → Bool := fun y => pf y != decide (y ∈ T)
/-- smaller ones first, then by members -/
def setLt (S T : List Int) : Prop := S.length < T.length ∨ (S.length = T.length ∧ S < T)
/-- cheaper ones first -/
def chLt (a b : Int × List Int) : Prop := a.1 < b.1 ∨ (a.1 = b.1 ∧ setLt a.2 b.2)
instance (S T : List Int) : Decidable (setLt S T) := inferInstanceAs (Decidable (_ ∨ _))
instance (a b : Int × List Int) : Decidable (chLt a b) := inferInstanceAs (Decidable (_ ∨ _))
theorem setLt_irr (S : List Int) : ¬ setLt S S := fun h => by
  rcases h with h | ⟨_, h⟩
  · omega
  · exact List.lt_irrefl _ h
theorem setLt_trans {R S T : List Int} (h : setLt R S) (k : setLt S T) : setLt R T := by
  rcases h with h | ⟨h1, h⟩ <;> rcases k with k | ⟨k1, k⟩
  · exact .inl (by omega)
  · exact .inl (by omega)
  · exact .inl (by omega)
  · exact .inr ⟨by omega, List.lt_trans h k⟩
theorem setLt_tri {S T : List Int} (h : ¬ setLt S T) (k : ¬ setLt T S) : S = T := by
  unfold setLt at h k
  have e : S.length = T.length := by
    have h1 : ¬ S.length < T.length := fun z => h (.inl z)
    have k1 : ¬ T.length < S.length := fun z => k (.inl z)
    omega
  have h2 : ¬ S < T := fun z => h (.inr ⟨e, z⟩)
  have k2 : ¬ T < S := fun z => k (.inr ⟨e.symm, z⟩)
  exact List.le_antisymm k2 h2
theorem chLt_irr (a : Int × List Int) : ¬ chLt a a := fun h => by
  rcases h with h | ⟨_, h⟩
  · omega
  · exact setLt_irr _ h
theorem chLt_trans {a b c : Int × List Int} (h : chLt a b) (k : chLt b c) : chLt a c := by
  rcases h with h | ⟨h1, h⟩ <;> rcases k with k | ⟨k1, k⟩
  · exact .inl (by omega)
  · exact .inl (by omega)
  · exact .inl (by omega)
  · exact .inr ⟨by omega, setLt_trans h k⟩
theorem chLt_tri {a b : Int × List Int} (h : ¬ chLt a b) (k : ¬ chLt b a) : a = b := by
  unfold chLt at h k
  have e : a.1 = b.1 := by
    have h1 : ¬ a.1 < b.1 := fun z => h (.inl z)
    have k1 : ¬ b.1 < a.1 := fun z => k (.inl z)
    omega
  exact Prod.ext e (setLt_tri (fun z => h (.inr ⟨e, z⟩)) fun z => k (.inr ⟨e.symm, z⟩))
def cst (cs : Int → Int) (T : List Int) : Int := (T.map cs).sum
theorem cst_cons (cs : Int → Int) (y : Int) (T : List Int) : cst cs (y :: T) = cs y + cst cs T := by
  unfold cst
  rw [List.map_cons, List.sum_cons]
theorem cst_pos {cs : Int → Int} (h : ∀ e, 0 ≤ cs e) : ∀ T : List Int, 0 ≤ cst cs T
  | [] => by show (0 : Int) ≤ 0; omega
  | y :: T => by
    rw [cst_cons]
    have := h y
    have := cst_pos h T
    omega
/-- T's members above e -/
theorem over_of {cs : Int → Int} (h0 : ∀ e, 0 ≤ cs e) {e : Int} : ∀ {T : List Int}, T.Pairwise (· < ·) → e ∈ T → cs e + cst cs (T.filter fun y => decide (e < y)) ≤ cst cs T ∧ (T = e :: T.filter (fun y => decide (e < y)) ∨ 1 + (T.filter fun y => decide (e < y)).length < T.length)
  | [], _, h => by cases h
  | y :: T, up, h => by
    obtain ⟨u1, u2⟩ := List.pairwise_cons.mp up
    by_cases q : y = e
    · subst q
      have ef : T.filter (fun z => decide (y < z)) = T := List.filter_eq_self.mpr fun z hz => decide_eq_true (u1 z hz)
      rw [List.filter_cons, if_neg (by simp), ef, cst_cons]
      exact ⟨Int.le_refl _, .inl rfl⟩
    · have hT : e ∈ T := by
        rcases List.mem_cons.mp h with z | z
        · exact absurd z.symm q
        · exact z
      have := u1 e hT
      obtain ⟨i1, i2⟩ := over_of h0 u2 hT
      rw [List.filter_cons, if_neg (by simp; omega), cst_cons]
      have := h0 y
      refine ⟨by omega, .inr ?_⟩
      rcases i2 with i2 | i2
      · have := congrArg List.length i2
        rw [List.length_cons] at this ⊢
        omega
      · rw [List.length_cons]
        omega
/-- the best change after which c holds: members al -/
def Best0 (ns : List Node) (pf al : Int → Bool) (cs : Int → Int) (c : Nat) : Option (List Int) → Prop
  | none => ∀ T : List Int, T.Pairwise (· < ·) → (∀ y ∈ T, al y = true) → ev ns (trn pf T) c = false
  | some T => T.Pairwise (· < ·) ∧ (∀ y ∈ T, al y = true) ∧ ev ns (trn pf T) c = true ∧ ∀ T' : List Int, T'.Pairwise (· < ·) → (∀ y ∈ T', al y = true) → ev ns (trn pf T') c = true → ¬ chLt (cst cs T', T') (cst cs T, T)
theorem Best0.uniq {ns : List Node} {pf al : Int → Bool} {cs : Int → Int} {c : Nat} : ∀ {r r' : Option (List Int)}, Best0 ns pf al cs c r → Best0 ns pf al cs c r' → r = r'
  | none, none, _, _ => rfl
  | none, some T, h, k => by
    have := h T k.1 k.2.1
    rw [k.2.2.1] at this
    cases this
  | some T, none, h, k => by
    have := k T h.1 h.2.1
    rw [h.2.2.1] at this
    cases this
  | some T, some T', h, k => by
    have e := chLt_tri (h.2.2.2 T' k.1 k.2.1 k.2.2.1) (k.2.2.2 T h.1 h.2.1 h.2.2.1)
    rw [(Prod.mk.inj e).2]
structure Best (ns : List Node) (pf al : Int → Bool) (cs : Int → Int) (c : Nat) (r : Option (List Int)) : Prop where
  is : Best0 ns pf al cs c r
  up : ∀ T, r = some T → ∀ e, Up ns e c → ∀ y ∈ T, e < y
theorem Best.zero (ns : List Node) (pf al : Int → Bool) (cs : Int → Int) : Best ns pf al cs 0 none := ⟨fun T _ _ => ev_zero ns _, fun _ h => by cases h⟩
theorem Best.one (ns : List Node) (pf al : Int → Bool) {cs : Int → Int} (h0 : ∀ e, 0 ≤ cs e) : Best ns pf al cs 1 (some []) :=
  ⟨⟨.nil, fun _ h => (by cases h), ev_one ns _, fun T' _ _ _ h => by
    have := cst_pos h0 T'
    have z : cst cs [] = 0 := rfl
    rcases h with h | ⟨_, h⟩
    · rw [z] at h
      have h : cst cs T' < 0 := h
      omega
    · rcases h with h | ⟨_, h⟩
      · exact Nat.not_lt_zero _ h
      · exact List.not_lt_nil _ h⟩, fun T h => by cases h; exact fun e _ y hy => by cases hy⟩
/-- the better one of two -/
def btr (cs : Int → Int) : Option (List Int) → Option (List Int) → Option (List Int)
  | none, b => b
  | some a, none => some a
  | some a, some b => if chLt (cst cs b, b) (cst cs a, a) then some b else some a
/-- with e turned too -/
def wth (al : Int → Bool) (e : Int) : Option (List Int) → Option (List Int)
  | none => none
  | some T => if al e then some (e :: T) else none
theorem Best.node {E : List Int} {ns : List Node} {pf al : Int → Bool} {cs : Int → Int} (ok : NOk E ns) (h0 : ∀ e, 0 ≤ cs e) {x : Nat} {n : Node} (hn : nod ns x = some n) {r1 r2 : Option (List Int)} (b1 : Best ns pf al cs (if pf n.1 then n.2.2 else n.2.1) r1) (b2 : Best ns pf al cs (if pf n.1 then n.2.1 else n.2.2) r2) :
    Best ns pf al cs x (btr cs r1 (wth al n.1 r2)) := by
  obtain ⟨l1, l2, _⟩ := ok.lt x n hn
  obtain ⟨o1, o2⟩ := ok.ord x n hn
  have hx := nod_lt hn
  obtain ⟨k, hk⟩ : ∃ k, (if pf n.1 then n.2.2 else n.2.1) = k := ⟨_, rfl⟩
  obtain ⟨g, hg⟩ : ∃ g, (if pf n.1 then n.2.1 else n.2.2) = g := ⟨_, rfl⟩
  rw [hk] at b1
  rw [hg] at b2
  have uk : Up ns n.1 k := by rw [← hk]; split; exact o2; exact o1
  have ug : Up ns n.1 g := by rw [← hg]; split; exact o1; exact o2
  have gl : g < ns.length + 2 := by rw [← hg]; split <;> omega
  have out : ∀ T : List Int, n.1 ∉ T → ev ns (trn pf T) x = ev ns (trn pf T) k := fun T h => by
    rw [ok.ev hn, ← hk]
    have : trn pf T n.1 = pf n.1 := by unfold trn; rw [decide_eq_false h]; simp
    rw [this]
    split <;> rfl
  have inn : ∀ T : List Int, n.1 ∈ T → ev ns (trn pf T) x = ev ns (trn pf T) g := fun T h => by
    rw [ok.ev hn, ← hg]
    have : trn pf T n.1 = !pf n.1 := by unfold trn; rw [decide_eq_true h]; simp
    rw [this]
    cases pf n.1 <;> rfl
  have same : ∀ T T' : List Int, (∀ y, n.1 < y → (y ∈ T ↔ y ∈ T')) → ev ns (trn pf T) g = ev ns (trn pf T') g := fun T T' h => ev_congr ok g gl fun y hy m hm => by
    unfold trn
    rw [decide_eq_decide.mpr (h m.1 (hy.up ok ug m hm))]
  -- those that turn n.1
  have turn : ∀ T : List Int, T.Pairwise (· < ·) → (∀ y ∈ T, al y = true) → n.1 ∈ T → ev ns (trn pf T) x = true → ∃ D, wth al n.1 r2 = some (n.1 :: D) ∧ ¬ chLt (cst cs T, T) (cst cs (n.1 :: D), n.1 :: D) := fun T up ha hm hv => by
    obtain ⟨c1, c2⟩ := over_of h0 up hm
    obtain ⟨T2, hT2⟩ : ∃ T2, (T.filter fun y => decide (n.1 < y)) = T2 := ⟨_, rfl⟩
    have m2 : ∀ y, y ∈ T2 ↔ y ∈ T ∧ n.1 < y := fun y => by rw [← hT2, List.mem_filter, decide_eq_true_iff]
    have u2 : T2.Pairwise (· < ·) := by rw [← hT2]; exact up.sublist List.filter_sublist
    rw [hT2] at c1 c2
    have v2 : ev ns (trn pf T2) g = true := by
      rw [same T2 T fun y hy => by rw [m2]; exact ⟨fun z => z.1, fun z => ⟨z, hy⟩⟩, ← inn T hm]
      exact hv
    have a2 : ∀ y ∈ T2, al y = true := fun y hy => ha y ((m2 y).mp hy).1
    cases r2 with
    | none =>
      have := b2.is T2 u2 a2
      rw [v2] at this
      cases this
    | some D =>
      have nb := b2.is.2.2.2 T2 u2 a2 v2
      refine ⟨D, by show (if al n.1 then some (n.1 :: D) else none) = _; rw [if_pos (ha _ hm)], fun lt => nb ?_⟩
      rw [cst_cons] at lt
      rcases lt with lt | ⟨e1, lt⟩
      · have lt : cst cs T < cs n.1 + cst cs D := lt
        exact .inl (show cst cs T2 < cst cs D by omega)
      · have e1 : cst cs T = cs n.1 + cst cs D := e1
        by_cases q : cst cs T2 < cst cs D
        · exact .inl q
        · refine .inr ⟨show cst cs T2 = cst cs D by omega, show setLt T2 D from ?_⟩
          have lt : setLt T (n.1 :: D) := lt
          rcases c2 with c2 | c2
          · rw [c2] at lt
            rcases lt with lt | ⟨e2, lt⟩
            · rw [List.length_cons, List.length_cons] at lt
              exact .inl (by omega)
            · rw [List.length_cons, List.length_cons] at e2
              rcases List.cons_lt_cons_iff.mp lt with lt | ⟨_, lt⟩
              · omega
              · exact .inr ⟨by omega, lt⟩
          · rcases lt with lt | ⟨e2, _⟩
            · rw [List.length_cons] at lt
              exact .inl (by omega)
            · rw [List.length_cons] at e2
              exact .inl (by omega)
  have stay : ∀ T : List Int, T.Pairwise (· < ·) → (∀ y ∈ T, al y = true) → n.1 ∉ T → ev ns (trn pf T) x = true → ∃ D, r1 = some D ∧ ¬ chLt (cst cs T, T) (cst cs D, D) := fun T up ha hm hv => by
    rw [out T hm] at hv
    cases r1 with
    | none =>
      have := b1.is T up ha
      rw [hv] at this
      cases this
    | some D => exact ⟨D, rfl, b1.is.2.2.2 T up ha hv⟩
  have fst : ∀ D, r1 = some D → D.Pairwise (· < ·) ∧ (∀ y ∈ D, al y = true) ∧ ev ns (trn pf D) x = true ∧ ∀ e, Up ns e x → ∀ y ∈ D, e < y := fun D h => by
    have i := b1.is
    rw [h] at i
    have lo := b1.up D h n.1 uk
    exact ⟨i.1, i.2.1, by rw [out D fun z => by have := lo _ z; omega]; exact i.2.2.1, fun e u y hy => by
      have := u n hn
      have := lo y hy
      omega⟩
  have snd : ∀ D, wth al n.1 r2 = some D → D.Pairwise (· < ·) ∧ (∀ y ∈ D, al y = true) ∧ ev ns (trn pf D) x = true ∧ ∀ e, Up ns e x → ∀ y ∈ D, e < y := fun D h => by
    cases r2 with
    | none => cases h
    | some D2 =>
      have h : (if al n.1 then some (n.1 :: D2) else none) = some D := h
      by_cases ha : al n.1 = true
      · rw [if_pos ha] at h
        cases h
        have i := b2.is
        have lo := b2.up D2 rfl n.1 ug
        refine ⟨List.pairwise_cons.mpr ⟨lo, i.1⟩, fun y hy => ?_, ?_, fun e u y hy => ?_⟩
        · rcases List.mem_cons.mp hy with rfl | hy
          · exact ha
          · exact i.2.1 y hy
        · rw [inn _ List.mem_cons_self, same (n.1 :: D2) D2 fun y hy => ?_]
          · exact i.2.2.1
          · rw [List.mem_cons]
            exact ⟨fun z => z.resolve_left (by omega), .inr⟩
        · have := u n hn
          rcases List.mem_cons.mp hy with rfl | hy
          · exact this
          · have := lo y hy
            omega
      · rw [if_neg ha] at h
        cases h
  generalize wth al n.1 r2 = r3 at turn snd
  have all : ∀ T : List Int, T.Pairwise (· < ·) → (∀ y ∈ T, al y = true) → ev ns (trn pf T) x = true → (∃ D, r1 = some D ∧ ¬ chLt (cst cs T, T) (cst cs D, D)) ∨ ∃ D, r3 = some D ∧ ¬ chLt (cst cs T, T) (cst cs D, D) := fun T up ha hv => by
    by_cases hm : n.1 ∈ T
    · obtain ⟨D, e, h⟩ := turn T up ha hm hv
      exact .inr ⟨_, e, h⟩
    · exact .inl (stay T up ha hm hv)
  have wrap : ∀ D : List Int, (r1 = some D ∨ r3 = some D) → (∀ T : List Int, T.Pairwise (· < ·) → (∀ y ∈ T, al y = true) → ev ns (trn pf T) x = true → ¬ chLt (cst cs T, T) (cst cs D, D)) → Best ns pf al cs x (some D) := fun D h m => by
    obtain ⟨p1, p2, p3, p4⟩ : D.Pairwise (· < ·) ∧ (∀ y ∈ D, al y = true) ∧ ev ns (trn pf D) x = true ∧ ∀ e, Up ns e x → ∀ y ∈ D, e < y := by
      rcases h with h | h
      · exact fst D h
      · exact snd D h
    exact ⟨⟨p1, p2, p3, m⟩, fun T e => by cases e; exact p4⟩
  cases r1 with
  | none =>
    cases r3 with
    | none =>
      refine ⟨fun T up ha => ?_, fun _ h => by cases h⟩
      cases hv : ev ns (trn pf T) x with
      | false => rfl
      | true =>
        rcases all T up ha hv with ⟨D, e, _⟩ | ⟨D, e, _⟩ <;> cases e
    | some b =>
      refine wrap b (.inr rfl) fun T up ha hv => ?_
      rcases all T up ha hv with ⟨D, e, h⟩ | ⟨D, e, h⟩
      · cases e
      · cases e
        exact h
  | some a =>
    cases r3 with
    | none =>
      refine wrap a (.inl rfl) fun T up ha hv => ?_
      rcases all T up ha hv with ⟨D, e, h⟩ | ⟨D, e, h⟩
      · cases e
        exact h
      · cases e
    | some b =>
      show Best ns pf al cs x (if chLt (cst cs b, b) (cst cs a, a) then some b else some a)
      by_cases q : chLt (cst cs b, b) (cst cs a, a)
      · rw [if_pos q]
        refine wrap b (.inr rfl) fun T up ha hv lt => ?_
        rcases all T up ha hv with ⟨D, e, h⟩ | ⟨D, e, h⟩
        · cases e
          exact h (chLt_trans lt q)
        · cases e
          exact h lt
      · rw [if_neg q]
        refine wrap a (.inl rfl) fun T up ha hv lt => ?_
        rcases all T up ha hv with ⟨D, e, h⟩ | ⟨D, e, h⟩
        · cases e
          exact h lt
        · cases e
          by_cases q2 : chLt (cst cs a, a) (cst cs b, b)
          · exact h (chLt_trans lt q2)
          · exact h (by rw [chLt_tri q q2]; exact lt)
/-! #### as keys -/
open PySem.W PyProof.Rows in
theorem lt_last {x y : PyData} (h : alike x y = true) : (if PyData.eqv x y = true then false else dataLt x y) = dataLt x y := by
  cases e : PyData.eqv x y with
  | true =>
    rw [if_pos rfl]
    unfold dataLt
    rw [(toks_eqv x y h).1 e]
    exact (lex_irrefl _).symm
  | false => rw [if_neg Bool.false_ne_true]
open PySem.W in
theorem lt_set (S T : List Int) : dataLt (.tuple [.int S.length, .list (S.map .int)]) (.tuple [.int T.length, .list (T.map .int)]) = decide (setLt S T) := by
  have al : alike (.list (S.map .int)) (.list (T.map .int)) = true := by simp only [alike]; exact alike_ints S T
  have e : PyProof.Rows.lexLt itemOrd (keyToksAll (S.map .int)) (keyToksAll (T.map .int)) = decide (S < T) := dataLt_ints S T
  rw [dataLt_pair (by simp [alike]) al, lt_last al, dataLt_int, dataLt_list, e]
  simp only [PyData.eqv, beq_iff_eq]
  unfold setLt
  by_cases h : S.length = T.length
  · rw [if_pos (by rw [h])]
    exact decide_eq_decide.mpr ⟨fun z => .inr ⟨h, z⟩, fun z => by rcases z with z | z; omega; exact z.2⟩
  · rw [if_neg fun z => h (Int.ofNat_inj.mp z)]
    exact decide_eq_decide.mpr ⟨fun z => .inl (by omega), fun z => by rcases z with z | z; omega; exact absurd z.1 h⟩
open PySem.W in
theorem lt_setT (S T : List Int) : dataLt (.tuple [.int S.length, .tuple (S.map .int)]) (.tuple [.int T.length, .tuple (T.map .int)]) = decide (setLt S T) := by
  have al : alike (.tuple (S.map .int)) (.tuple (T.map .int)) = true := by simp only [alike]; exact alike_ints S T
  rw [dataLt_pair (by simp [alike]) al, lt_last al, dataLt_int, dataLt_tuple]
  have e : PyProof.Rows.lexLt itemOrd (keyToksAll (S.map .int)) (keyToksAll (T.map .int)) = decide (S < T) := dataLt_ints S T
  rw [e]
  simp only [PyData.eqv, beq_iff_eq]
  unfold setLt
  by_cases h : S.length = T.length
  · rw [if_pos (by rw [h])]
    exact decide_eq_decide.mpr ⟨fun z => .inr ⟨h, z⟩, fun z => by rcases z with z | z; omega; exact z.2⟩
  · rw [if_neg fun z => h (Int.ofNat_inj.mp z)]
    exact decide_eq_decide.mpr ⟨fun z => .inl (by omega), fun z => by rcases z with z | z; omega; exact absurd z.1 h⟩
open PySem.W in
theorem lt_ch (a b : Int × List Int) : dataLt (.tuple [.int a.1, .int a.2.length, .list (a.2.map .int)]) (.tuple [.int b.1, .int b.2.length, .list (b.2.map .int)]) = decide (chLt a b) := by
  have h2 : PyProof.Rows.lexLt itemOrd (keyToksAll [.int a.2.length, .list (a.2.map .int)]) (keyToksAll [.int b.2.length, .list (b.2.map .int)]) = decide (setLt a.2 b.2) := by
    rw [← dataLt_tuple]
    exact lt_set a.2 b.2
  rw [dataLt_tuple, dataLt_cons (by simp [alike]), h2, dataLt_int]
  simp only [PyData.eqv, beq_iff_eq]
  unfold chLt
  by_cases h : a.1 = b.1
  · rw [if_pos h]
    exact decide_eq_decide.mpr ⟨fun z => .inr ⟨h, z⟩, fun z => by rcases z with z | z; omega; exact z.2⟩
  · rw [if_neg h]
    exact decide_eq_decide.mpr ⟨fun z => .inl z, fun z => by rcases z with z | z; exact z; exact absurd z.1 h⟩
theorem has_ints {H : Hp} : ∀ T : List Int, HasAll H (T.map V.int) (T.map PyData.int)
  | [] => .nil
  | _ :: T => .cons (.int _) (has_ints T)

/-! ### the cheapest change -/
/-- v is the change r -/
def ChV (H : Hp) (cs : Int → Int) (v : V) : Option (List Int) → Prop
  | none => v = .non
  | some T => ∃ t l : Addr, v = .ref t ∧ H t = some (.tup [.int (cst cs T), .ref l]) ∧ H l = some (.lst (T.map V.int)) ∧ T.length ≤ 9
theorem ChV.kp {H H' : Hp} {cs : Int → Int} {v : V} {M : List Addr} (k : Kp M H H') (hM : ∀ (a : Addr) (L : List Int), H a = some (.lst (L.map V.int)) → a ∉ M) : ∀ {r : Option (List Int)}, ChV H cs v r → ChV H' cs v r
  | none, h => h
  | some T, h => by
    obtain ⟨t, l, h1, h2, h3, h4⟩ := h
    exact ⟨t, l, h1, k.t _ _ h2, k.k _ _ h3 (hM _ _ h3), h4⟩
theorem ChV.new {H H' : Hp} {cs : Int → Int} {v : V} {r : Option (List Int)} (h : ChV H cs v r) (k : Kp [] H H') : ChV H' cs v r := h.kp k fun _ _ _ => by simp
def chgD (cs : Int → Int) (T : List Int) : PyData := .tuple [.int (cst cs T), .int T.length, .list (T.map .int)]
theorem chgD_dp (cs : Int → Int) (T : List Int) : (chgD cs T).depth ≤ 10 := by
  unfold chgD
  simp only [PyData.depth, PyData.depthAll]
  have : PyData.depthAll (T.map .int) = 0 := PySem.W.depth_ints T
  rw [this]
  decide
theorem chgD_al (cs : Int → Int) (S T : List Int) : PySem.W.alike (chgD cs S) (chgD cs T) = true := by
  unfold chgD
  have := PySem.W.alike_ints S T
  simp only [PySem.W.alike, PySem.W.alikeAll, this, Bool.and_self]
def spChangeKey : Sp := fun vs H Q _ => ∃ (t l : Addr) (k : Int) (T : List Int), vs = [.ref t] ∧ H t = some (.tup [.int k, .ref l]) ∧ H l = some (.lst (T.map V.int)) ∧ ∀ p, H p = none → Q (.ref p) (upd H p (.tup [.int k, .int T.length, .ref l]))
def spBetter : Sp := fun vs H Q _ => ∃ (cs : Int → Int) (x y : V) (r1 r2 : Option (List Int)), vs = [x, y] ∧ ChV H cs x r1 ∧ ChV H cs y r2 ∧ ∀ v G, Kp [] H G → ChV G cs v (btr cs r1 r2) → Q v G
def spWith : Sp := fun vs H Q _ => ∃ (cs : Int → Int) (al : Int → Bool) (e : Int) (x : V) (ca : Addr) (kvs : List (Key × V)) (r : Option (List Int)), vs = [.int e, x, .ref ca] ∧ ChV H cs x r ∧ (∀ T, r = some T → T.length ≤ 8) ∧ H ca = some (.dK kvs) ∧ valV kvs (Sum.inl e : Key) = (if al e then some (.int (cs e)) else none) ∧
  ∀ v G, Kp [] H G → ChV G cs v (wth al e r) → Q v G
def spCheapest (C : Addr) : Sp := fun vs H Q _ => ∃ (E : List Int) (s : SA) (ns : List Node) (b c : Nat) (pa ca : Addr) (PP : List Int) (kvs : List (Key × V)) (cs : Int → Int) (al : Int → Bool), vs = [.ref s.p, .int c, .ref pa, .ref ca] ∧ StoAt C E s H ns b ∧ b ≤ 1000000 ∧ c < ns.length + 2 ∧ E.Pairwise (· < ·) ∧ E.length ≤ 8 ∧
  H pa = some (.lst (PP.map V.int)) ∧ H ca = some (.dK kvs) ∧ (∀ e ∈ E, valV kvs (Sum.inl e : Key) = if al e then some (.int (cs e)) else none) ∧ (∀ e, al e = true → e ∈ E) ∧ (∀ e, 0 ≤ cs e) ∧
  ∀ v G r, Kp [] H G → Best0 ns (fun y => decide (y ∈ PP)) al cs c r → ChV G cs v r → (∀ (t l : Addr) (k : V), v = .ref t → G t = some (.tup [k, .ref l]) → H l = none) → Q v G
structure TCheap (mg : Str → Option Value) : Prop extends TLeaf mg where
  n_len : mg "len" = none
  n_min : mg "min" = none
  n_list : mg "list" = none
/-- the changes found so far -/
def Chgs (ns : List Node) (pf al : Int → Bool) (cs : Int → Int) (kvs : List (Key × V)) (H : Hp) (F : List Nat) : Prop :=
  ∀ x : Nat, x < 2 ∨ x ∈ F → ∃ (v : V) (r : Option (List Int)), valV kvs (Sum.inl (x : Int) : Key) = some v ∧ ChV H cs v r ∧ Best ns pf al cs x r
theorem Best.few {ns : List Node} {pf al : Int → Bool} {cs : Int → Int} {c : Nat} {r : Option (List Int)} {E : List Int} (h : Best ns pf al cs c r) (upE : E.Pairwise (· < ·)) (hal : ∀ e, al e = true → e ∈ E) : ∀ T, r = some T → T.length ≤ E.length := fun T e => by
  have i := h.is
  rw [e] at i
  have ef : E.filter (fun y => decide (y ∈ T)) = T := asc_unique (upE.sublist List.filter_sublist) i.1 fun y => by
    rw [List.mem_filter, decide_eq_true_iff]
    exact ⟨fun z => z.2, fun z => ⟨hal y (i.2.1 y z), z⟩⟩
  rw [← ef]
  exact List.length_filter_le _ _
section
variable {P : Program} {w : World} {K : PySem.W.Frag} {mg : Str → Option Value} {base : Heap} {C : Addr}
theorem ok_change_key (D : GD K mg "change_key" sD_change_key ["change"]) (T : TCheap mg) : Cal P w K mg base 1 "change_key" spChangeKey [] := by
  refine D.cal sc_change_key (fun vs H Q E h => ?_) (fun f cdv A outer s0 H vs Q E hr h => ?_)
  · obtain ⟨t, l, k, S, rfl, _⟩ := h
    rfl
  obtain ⟨t, l, k, S, rfl, ht, hl, q⟩ := h
  refine ⟨_, (pss_one (ps_ret (pe_tup (pa_cons (pe_ix ix_tup (pv 0) pe_int (fun _ _ => rfl)) (pa_cons (pe_callB call_len_seq (by rfl) T.n_len (by decide +kernel) (pa_cons (pe_ix ix_tup (pv 0) pe_int (fun _ _ => rfl)) pa_nil)) (pa_cons (pe_ix ix_tup (pv 0) pe_int (fun _ _ => rfl)) pa_nil)))))), ?_⟩
  refine ⟨_, rfl, t, _, _, _, rfl, rfl, SqT.of ht, rfl, _, rfl, t, _, _, _, rfl, rfl, SqT.of ht, rfl, l, _, rfl, .inl (SqL.of hl), _, rfl, t, _, _, _, rfl, rfl, SqT.of ht, rfl, (by show 3 ≤ sizeLine; decide), fun p hp => ?_⟩
  rw [List.length_map]
  exact q p hp
theorem ok_better (D : GD K mg "better" sD_better ["first", "second"]) (T : TCheap mg) (c_change_key : Cal P w K mg base 1 "change_key" spChangeKey []) : Cal P w K mg base 3 "better" spBetter [] := by
  refine D.cal sc_better (fun vs H Q E h => ?_) (fun f cdv A outer s0 H vs Q E hr h => ?_)
  · obtain ⟨cs, x, y, r1, r2, rfl, _⟩ := h
    rfl
  obtain ⟨cs, x, y, r1, r2, rfl, h1, h2, q⟩ := h
  refine ⟨_, (pss_cons (ps_if (PW.pt (pw_or (pt_cmp (pc_isN (pv 0))) (pw_or1 (pt_cmp (pc_isN (pv 1)))))) (pss_one (ps_ret (pe_ifExp (pt_cmp (pc_isN (pv 0))) (pv 1) (pv 0)))) pss_nil)
    (pss_one (ps_ret (pe_minF c_change_key hr (by omega) (fun Fn hr hb => by intro _ _ _ _ _ _ _ I r h; exact cr_minF2 Fn hr hb I r h) (by rfl) T.n_min (by decide +kernel) (by rfl) (pa_cons (pv 0) (pa_cons (pv 1) pa_nil)))))), ?_⟩
  cases r1 with
  | none =>
    obtain rfl : x = .non := h1
    refine ⟨_, rfl, _, rfl, iteT_of (decide_eq_true rfl) (iteT ?_)⟩
    exact ⟨_, rfl, _, rfl, iteT_of (decide_eq_true rfl) ⟨_, rfl, q y H .refl h2⟩⟩
  | some S =>
    obtain ⟨t1, l1, rfl, a1, a2, a3⟩ := h1
    refine ⟨_, rfl, _, rfl, iteF_of (decide_eq_false nofun) ?_⟩
    cases r2 with
    | none =>
      obtain rfl : y = .non := h2
      refine ⟨_, rfl, _, rfl, iteT_of (decide_eq_true rfl) ?_⟩
      exact ⟨_, rfl, _, rfl, iteF_of (decide_eq_false nofun) ⟨_, rfl, q _ H .refl ⟨t1, l1, rfl, a1, a2, a3⟩⟩⟩
    | some S2 =>
      obtain ⟨t2, l2, rfl, b1, b2, b3⟩ := h2
      refine ⟨_, rfl, _, rfl, iteF_of (decide_eq_false nofun) ?_⟩
      refine ⟨_, rfl, _, rfl, (.ref t1, chgD cs S), (.ref t2, chgD cs S2), rfl, ?_, ?_, ?_, ?_, fun G kG => ?_⟩
      · intro d hd d' hd'
        rcases List.mem_cons.mp hd with rfl | hd
        · rcases List.mem_cons.mp hd' with rfl | hd'
          · exact chgD_al ..
          · rw [List.mem_singleton.mp hd']; exact chgD_al ..
        · rw [List.mem_singleton.mp hd]
          rcases List.mem_cons.mp hd' with rfl | hd'
          · exact chgD_al ..
          · rw [List.mem_singleton.mp hd']; exact chgD_al ..
      · intro b hb
        rcases List.mem_cons.mp hb with rfl | hb
        · exact nofun
        · rw [List.mem_singleton.mp hb]; exact nofun
      · intro b hb
        rcases List.mem_cons.mp hb with rfl | hb
        · exact chgD_dp ..
        · rw [List.mem_singleton.mp hb]; exact chgD_dp ..
      · intro b hb G kG
        have key : ∀ (t l : Addr) (R : List Int), H t = some (.tup [.int (cst cs R), .ref l]) → H l = some (.lst (R.map V.int)) → spChangeKey [.ref t] G (fun v G' => Kp [] G G' ∧ Has G' v (chgD cs R)) C8.E0 := fun t l R e1 e2 =>
          ⟨t, l, _, R, rfl, kG.t _ _ e1, kG.k _ _ e2 (by simp), fun p hp => ⟨.new hp, .tup upd_same (.cons (.int _) (.cons (.int _) (.cons (.lst ((Kp.new (M := []) hp).k _ _ (kG.k _ _ e2 (by simp)) (by simp)) (has_ints R)) .nil)))⟩⟩
        rcases List.mem_cons.mp hb with rfl | hb
        · exact key t1 l1 S a1 a2
        · rw [List.mem_singleton.mp hb]; exact key t2 l2 S2 b1 b2
      · have e : PySem.W.dataLt (chgD cs S2) (chgD cs S) = decide (chLt (cst cs S2, S2) (cst cs S, S)) := lt_ch (cst cs S2, S2) (cst cs S, S)
        show Q (if PySem.W.dataLt (chgD cs S2) (chgD cs S) = true then .ref t2 else .ref t1) G
        rw [e]
        refine q _ G kG ?_
        show ChV G cs _ (if chLt (cst cs S2, S2) (cst cs S, S) then some S2 else some S)
        by_cases c : chLt (cst cs S2, S2) (cst cs S, S)
        · rw [if_pos (decide_eq_true c), if_pos c]
          exact ⟨t2, l2, rfl, kG.t _ _ b1, kG.k _ _ b2 (by simp), b3⟩
        · rw [if_neg (by rw [decide_eq_false c]; decide), if_neg c]
          exact ⟨t1, l1, rfl, kG.t _ _ a1, kG.k _ _ a2 (by simp), a3⟩
theorem ok_with (D : GD K mg "with_turned" sD_with_turned ["entry", "change", "costs"]) : Cal P w K mg base 1 "with_turned" spWith [] := by
  refine D.cal sc_with_turned (fun vs H Q E h => ?_) (fun f cdv A outer s0 H vs Q E hr h => ?_)
  · obtain ⟨cs, al, e, x, ca, kvs, r, rfl, _⟩ := h
    rfl
  obtain ⟨cs, al, e, x, ca, kvs, r, rfl, hx, h8, hca, hv, q⟩ := h
  have hu := hu_of hr
  refine ⟨_, (pss_cons (ps_if (PW.pt (pw_or (pt_cmp (pc_isN (pv 1))) (pw_or1 (pt_cmp (pc_dnotin hu (pv 0) (pv 2)))))) (pss_one (ps_ret pe_non)) pss_nil)
    (pss_one (ps_ret (pe_tup (pa_cons (pe_op op_add (pe_ix ix_tup (pv 1) pe_int (fun _ _ => rfl)) (pe_dget hu (pv 2) (pv 0) (fun _ _ => rfl))) (pa_cons (pe_op op_cat (pe_lst (pa_cons (pv 0) pa_nil)) (pe_ix ix_tup (pv 1) pe_int (fun _ _ => rfl))) pa_nil)))))), ?_⟩
  cases r with
  | none =>
    obtain rfl : x = .non := hx
    exact ⟨_, rfl, _, rfl, iteT_of (decide_eq_true rfl) (iteT (q .non H .refl rfl))⟩
  | some S =>
    obtain ⟨t, l, rfl, a1, a2, a3⟩ := hx
    have g : DGet H ca (.int e) (if al e then some (.int (cs e)) else none) := by rw [← hv]; exact DGet.k (k := Sum.inl e) hca
    refine ⟨_, rfl, _, rfl, iteF_of (decide_eq_false nofun) ?_⟩
    by_cases ha : al e = true
    · rw [if_pos ha] at g
      refine ⟨_, rfl, _, rfl, ca, _, rfl, g, _, rfl, iteF ?_⟩
      refine ⟨_, rfl, t, _, _, _, rfl, rfl, SqT.of a1, rfl, _, rfl, _, rfl, ca, _, rfl, g, _, _, rfl, rfl, ?_⟩
      refine ⟨_, rfl, (by show 1 ≤ sizeLine; decide), fun p1 hp1 => ?_⟩
      have k1 := Kp.new (M := []) (o := .lst [.int e]) hp1
      refine ⟨_, rfl, t, _, _, _, rfl, rfl, SqT.of (k1.t _ _ a1), rfl, p1, l, _, _, rfl, rfl, upd_same, k1.k _ _ a2 (by simp), small (by rw [List.length_map]; simp only [List.length_singleton]; omega), fun p2 hp2 => ?_⟩
      have k2 := k1.newer (o := .lst ([.int e] ++ S.map V.int)) hp2
      refine ⟨(by show 2 ≤ sizeLine; decide), fun p3 hp3 => ?_⟩
      have k3 := k2.newer (o := .tup [.int (cst cs S + cs e), .ref p2]) hp3
      refine q _ _ k3 ?_
      have e1 : wth al e (some S) = some (e :: S) := by show (if al e then some (e :: S) else none) = _; rw [if_pos ha]
      rw [e1]
      have := h8 S rfl
      refine ⟨p3, p2, rfl, by rw [cst_cons, Int.add_comm]; exact upd_same, (Kp.new (M := []) hp3).k _ _ upd_same (by simp), by rw [List.length_cons]; omega⟩
    · rw [if_neg ha] at g
      refine ⟨_, rfl, _, rfl, ca, _, rfl, g, _, rfl, iteT (q .non H .refl ?_)⟩
      show ChV H cs .non (if al e then some (e :: S) else none)
      rw [if_neg ha]
      rfl
theorem ok_cheapest (D : GD K mg "cheapest" sD_cheapest ["store", "condition", "present", "costs"]) (T : TCheap mg) (c_better : Cal P w K mg base 3 "better" spBetter []) (c_with_turned : Cal P w K mg base 1 "with_turned" spWith [])
    (m_reached : Met P w K mg base 2 C "reached" (spReached K C) []) (m_node : Met P w K mg base 1 C "node" (spNode C) []) : Cal P w K mg base 4 "cheapest" (spCheapest C) [] := by
  refine D.cal sc_cheapest (fun vs H Q E h => ?_) (fun f cdv A outer s0 H vs Q E hr h => ?_)
  · obtain ⟨E, s, ns, b, c, pa, ca, PP, kvs, cs, al, rfl, _⟩ := h
    rfl
  obtain ⟨E, s, ns, b, c, pa, ca, PP, kvs, cs, al, rfl, S, hb, hc, upE, hE, hpa, hca, hkv, hal, h0, q⟩ := h
  have hu := hu_of hr
  have keepS : ∀ {H' : Hp}, Kp [] H H' → StoAt C E s H' ns b := fun k => S.new k
  refine ⟨_, (pss_cons (ps_set (i := 4) sc_cheapest.nd rfl (Or.inl rfl) (pe_disp (pps_cons (pe_gc rfl T.g_NEVER) pe_non (pps_cons (pe_gc rfl T.g_ALWAYS) (pe_tup (pa_cons pe_int (pa_cons (pe_lst pa_nil) pa_nil))) pps_nil)) (by rfl) (by rfl) (fun z => by cases z) (by decide)))
    (pss_cons (ps_for PassesOwn.never rfl (pi_list (pe_mt m_reached hr (by omega) (pv 0) (pa_cons (pe_lst (pa_cons (pv 1) pa_nil)) pa_nil))) (pg_name (i := 5) sc_cheapest.nd rfl (Or.inl rfl)) (pss_cons (ps_asg (pe_mt m_node hr (by omega) (pv 0) (pa_cons (pv 5) pa_nil)) (pg_tup rfl (pgs_cons (pg_name (i := 6) sc_cheapest.nd rfl (Or.inl rfl)) (pgs_cons (pg_name (i := 7) sc_cheapest.nd rfl (Or.inl rfl)) (pgs_cons (pg_name (i := 8) sc_cheapest.nd rfl (Or.inl rfl)) pgs_nil)))))
    (pss_cut (ps_if (pt_cmpR op_in_seq (pv 6) (pv 2) (by rfl)) (pss_one (ps_par (i := 7) (j := 8) (by rfl) sc_cheapest.nd rfl rfl (by decide) rfl rfl (pa_cons (pv 8) (pa_cons (pv 7) pa_nil)) (by rfl))) pss_nil)
    (pss_one (ps_dput hu (pv 4) (pv 5) (pe_c c_better hr (by omega) rfl (pa_cons (pe_dget hu (pv 4) (pv 7) (fun _ _ => rfl)) (pa_cons (pe_c c_with_turned hr (by omega) rfl (pa_cons (pv 6) (pa_cons (pe_dget hu (pv 4) (pv 8) (fun _ _ => rfl)) (pa_cons (pv 3) pa_nil)))) pa_nil))) rfl)))))
    (pss_cons (ps_set (i := 9) sc_cheapest.nd rfl (Or.inl rfl) (pe_dget hu (pv 4) (pv 1) (fun _ _ => rfl)))
    (pss_one (ps_ret (pe_ifExp (pt_cmp (pc_isN (pv 9))) pe_non (pe_tup (pa_cons (pe_ix ix_tup (pv 9) pe_int (fun _ _ => rfl)) (pa_cons (pe_callTy call_list_of (by rfl) T.n_list (by decide +kernel) (pa_cons (pe_ix ix_tup (pv 9) pe_int (fun _ _ => rfl)) pa_nil)) pa_nil))))))))), ?_⟩
  refine fun fd hfd => ⟨(by show 0 ≤ sizeLine; decide), fun l0 hl0 => ⟨(by show 2 ≤ sizeLine; decide), fun t0 ht0 => ?_⟩⟩
  have k1 : Kp [] H (upd H fd (.dK [])) := .new hfd
  have k2 := k1.newer (o := .lst []) hl0
  have k3 := k2.newer (o := .tup [.int 0, .ref l0]) ht0
  have nf0 : fd ≠ l0 := ne_of_none upd_same hl0
  have nft : fd ≠ t0 := ne_of_none (by rw [upd_ne nf0]; exact upd_same) ht0
  have nlt : l0 ≠ t0 := ne_of_none upd_same ht0
  refine ⟨by rw [upd_ne nft, upd_ne nf0, upd_same], [(Sum.inl 0, .non), (Sum.inl 1, .ref t0)], rfl, (by show 2 ≤ 15; decide), ?_⟩
  have k4 := k3.mt (o := .dK (mergeK [] [(Sum.inl 0, .non), (Sum.inl 1, .ref t0)])) hfd
  have f4 : Chgs ns (fun y => decide (y ∈ PP)) al cs (mergeK [] [(Sum.inl 0, .non), (Sum.inl 1, .ref t0)]) (upd (upd (upd (upd H fd (.dK [])) l0 (.lst [])) t0 (.tup [.int 0, .ref l0])) fd (.dK (mergeK [] [(Sum.inl 0, .non), (Sum.inl 1, .ref t0)]))) [] := fun x hx => by
    have h2 : x = 0 ∨ x = 1 := by
      rcases hx with h | h
      · omega
      · cases h
    rcases h2 with rfl | rfl
    · exact ⟨.non, none, rfl, rfl, .zero ..⟩
    · exact ⟨.ref t0, some [], rfl, ⟨t0, l0, rfl, by rw [upd_ne nft.symm, upd_same]; rfl, by rw [upd_ne nf0.symm, upd_ne nlt, upd_same]; rfl, by decide⟩, .one _ _ _ h0⟩
  have g4 : (mergeK [] [((Sum.inl 0 : Key), V.non), (Sum.inl 1, .ref t0)]).length = 2 := rfl
  generalize mergeK [] [((Sum.inl 0 : Key), V.non), (Sum.inl 1, .ref t0)] = kv0 at k4 f4 g4 ⊢
  have d4 : (upd (upd (upd (upd H fd (.dK [])) l0 (.lst [])) t0 (.tup [.int 0, .ref l0])) fd (.dK kv0)) fd = some (.dK kv0) := upd_same
  obtain ⟨H4, hH4⟩ : ∃ H4, upd (upd (upd (upd H fd (.dK [])) l0 (.lst [])) t0 (.tup [.int 0, .ref l0])) fd (.dK kv0) = H4 := ⟨_, rfl⟩
  rw [hH4] at k4 f4 d4 ⊢
  have S4 := keepS k4
  refine ⟨_, rfl, s.p, s.dx, _, rfl, S4.ob, sf_no _ _ _ (by decide +kernel) (by decide +kernel) (by decide +kernel), _, rfl, (by show 1 ≤ sizeLine; decide), fun ra hra => ?_⟩
  have k5 : Kp [] H4 (upd H4 ra (.lst [.int c])) := .new hra
  refine ⟨E, s, ns, b, [c], ra, rfl, S4.new k5, SqL.of upd_same, fun x hx => by rw [List.mem_singleton.mp hx]; exact hc, hb, fun R r H6 hR hr6 k6 hH6 => ?_⟩
  have k46 : Kp [] H4 H6 := k5.trans k6
  have hRc : ∀ x ∈ R, Rch ns c x ∧ 2 ≤ x := fun x hx => by
    obtain ⟨h2, c', hc', h⟩ := hR.mem x hx
    rw [List.mem_singleton.mp hc'] at h
    exact ⟨h, h2⟩
  have hRl : R.length ≤ ns.length + 2 := hR.toFnd.len S.ok fun x hx => by rw [List.mem_singleton.mp hx]; exact hc
  have hnl := S.le
  have hr4 : H4 r = none := k5.free hr6 (by simp)
  refine ⟨r, rfl, ⟨_, SqL.of hH6⟩, for_list (K := K) (a := r) (xs := R.map vI) (fun i σ H' => ∃ (v5 v6 v7 v8 : Option V) (fk' : List (Key × V)),
    σ = [some (.ref s.p), some (.int c), some (.ref pa), some (.ref ca), some (.ref fd), v5, v6, v7, v8, none] ∧ Kp [] H H' ∧ H' r = some (.lst (R.map vI)) ∧
    H' fd = some (.dK fk') ∧ fk'.length ≤ i + 2 ∧ Chgs ns (fun y => decide (y ∈ PP)) al cs fk' H' (R.take i))
    ⟨none, none, none, none, kv0, rfl, k4.trans k46, hH6, k46.k _ _ d4 (by simp), by omega, fun x hx => ?_⟩ (fun i σ H' _ p => ?_) ?_ ?_⟩
  · obtain ⟨v, r', h1, h2, h3⟩ := f4 x hx
    exact ⟨v, r', h1, h2.new k46, h3⟩
  · obtain ⟨v5, v6, v7, v8, fk', rfl, k, hrr, _⟩ := p
    exact SqL.of hrr
  · rintro i x σ H7 hi ⟨v5, v6, v7, v8, fk', rfl, k7, r7, d7, l7, f7⟩
    obtain ⟨x, hx, rfl⟩ := mapAt hi
    have hxR : x ∈ R := List.mem_of_getElem? hx
    have hiR := (List.getElem?_eq_some_iff.mp hx).1
    obtain ⟨rx, x2⟩ := hRc x hxR
    have xle := rx.le S.ok
    obtain ⟨n, hn⟩ := nod_some (show x < ns.length + 2 by omega) x2
    obtain ⟨lt1, lt2, _⟩ := S.ok.lt x n hn
    have S7 := keepS k7
    have topo := hR.topo i x hx
    obtain ⟨km1, km2⟩ := kids_mem hn
    have got : ∀ y, (y = n.2.1 ∨ y = n.2.2) → ∃ (v : V) (r : Option (List Int)), DGet H7 fd (.int y) (some v) ∧ ChV H7 cs v r ∧ Best ns (fun y => decide (y ∈ PP)) al cs y r := fun y hy => by
      obtain ⟨v, r, h1, h2, h3⟩ := f7 y (by
        by_cases z : y < 2
        · exact .inl z
        · rcases hy with rfl | rfl
          · exact .inr (topo _ (km1 (by omega)))
          · exact .inr (topo _ (km2 (by omega))))
      exact ⟨v, r, by rw [← h1]; exact DGet.k (k := Sum.inl (y : Int)) d7, h2, h3⟩
    refine ⟨_, rfl, s.p, s.dx, _, rfl, S7.ob, sf_no _ _ _ (by decide +kernel) (by decide +kernel) (by decide +kernel), _, rfl, E, s, ns, b, x, n, rfl, S7, hn, fun a ha' => ?_⟩
    refine ⟨a, _, rfl, SqT.of ha', rfl, _, _, rfl, _, _, rfl, _, _, rfl, rfl, ?_⟩
    refine ⟨fun σ' H' => H' = H7 ∧ σ' = [some (.ref s.p), some (.int c), some (.ref pa), some (.ref ca), some (.ref fd), some (.int x), some (.int n.1), some (.int ((if decide (n.1 ∈ PP) = true then n.2.2 else n.2.1 : Nat) : Int)), some (.int ((if decide (n.1 ∈ PP) = true then n.2.1 else n.2.2 : Nat) : Int)), none], ?_, ?_⟩
    · refine ⟨_, rfl, _, rfl, pa, _, rfl, .inl (SqL.of (k7.k _ _ hpa (by simp))), rfl, flat_ints PP, ?_⟩
      rw [if_neg Bool.false_ne_true, inV_ints]
      refine ⟨_, rfl, ?_⟩
      by_cases m : n.1 ∈ PP
      · rw [decide_eq_true m]
        refine iteT ⟨_, rfl, _, rfl, _, _, rfl, rfl, ?_⟩
        rw [if_pos rfl, if_pos rfl]
        rfl
      · rw [decide_eq_false m]
        refine iteF ⟨rfl, ?_⟩
        rw [if_neg Bool.false_ne_true, if_neg Bool.false_ne_true]
        rfl
    rintro σ' H8 ⟨rfl, rfl⟩
    have b0 := fun (r1 r2 : Option (List Int)) h1 h2 => Best.node (pf := fun y => decide (y ∈ PP)) (al := al) (cs := cs) S.ok h0 hn (r1 := r1) (r2 := r2) h1 h2
    obtain ⟨kp, hkp⟩ : ∃ kp, (if decide (n.1 ∈ PP) = true then n.2.2 else n.2.1) = kp := ⟨_, rfl⟩
    obtain ⟨ch, hch⟩ : ∃ ch, (if decide (n.1 ∈ PP) = true then n.2.1 else n.2.2) = ch := ⟨_, rfl⟩
    rw [hkp, hch] at b0 ⊢
    obtain ⟨v1, r1, g1, c1, b1⟩ := got kp (by rw [← hkp]; split; exact .inr rfl; exact .inl rfl)
    obtain ⟨v2, r2, g2, c2, b2⟩ := got ch (by rw [← hch]; split; exact .inl rfl; exact .inr rfl)
    have bx := b0 r1 r2 b1 b2
    refine ⟨_, rfl, _, rfl, fd, _, rfl, g1, _, rfl, _, rfl, _, rfl, fd, _, rfl, g2, _, rfl, ?_⟩
    have nE : n.1 ∈ E := S.ok.en x n hn
    refine ⟨cs, al, n.1, v2, ca, kvs, r2, rfl, c2, fun T e => by have := b2.few upE hal T e; omega, k7.k _ _ hca (by simp), hkv _ nE, fun v3 G3 k8 hv3 => ?_⟩
    refine ⟨cs, v1, v3, r1, _, rfl, c1.new k8, hv3, fun v G kG hv => ?_⟩
    have k9 := k8.trans kG
    have d9 := k9.k _ _ d7 (by simp)
    refine ⟨_, rfl, _, rfl, fd, _, rfl, DPut.k (k := Sum.inl (x : Int)) d9 (Nat.lt_of_le_of_lt (show _ ≤ 1000010 by omega) (by decide)), ?_⟩
    have nrf : r ≠ fd := fun z => by rw [z, d7] at r7; cases r7
    have kput : Kp [fd] G (upd G fd (.dK (putK fk' (Sum.inl (x : Int)) v))) := .put (by simp) d9 fun xs e => by cases e
    have nm : ∀ (a : Addr) (L : List Int), G a = some (.lst (L.map V.int)) → a ∉ [fd] := fun a L e m => by
      rw [List.mem_singleton.mp m, d9] at e
      cases e
    refine ⟨_, _, _, _, _, rfl, (k7.trans k9).mt hfd, ?_, upd_same, Nat.le_trans (length_putK _ _ _) (by omega), fun y hy => ?_⟩
    · rw [upd_ne nrf]
      exact k9.k _ _ r7 (by simp)
    · rw [valV_put]
      by_cases e : y = x
      · subst e
        rw [if_pos rfl]
        exact ⟨v, _, rfl, hv.kp kput nm, bx⟩
      · rw [if_neg fun z : (Sum.inl (y : Int) : Key) = Sum.inl (x : Int) => e (Int.ofNat.inj (Sum.inl.inj z))]
        obtain ⟨v', r', h1, h2, h3⟩ := f7 y (hy.imp id fun m => by
          rw [takeS hx] at m
          rcases List.mem_append.mp m with m | m
          · exact m
          · exact absurd (List.mem_singleton.mp m) e)
        exact ⟨v', r', h1, (h2.new k9).kp kput nm, h3⟩
  · rintro σ H7 ⟨v5, v6, v7, v8, fk', rfl, k7, r7, d7, l7, f7⟩
    rw [List.length_map, List.take_length] at f7
    obtain ⟨v, r', h1, h2, h3⟩ := f7 c (by by_cases z : c < 2; exact .inl z; exact .inr (hR.top c (by simp) (by omega)))
    have gt : DGet H7 fd (.int c) (some v) := by rw [← h1]; exact DGet.k (k := Sum.inl (c : Int)) d7
    refine ⟨_, rfl, _, rfl, fd, _, rfl, gt, _, rfl, ?_⟩
    cases r' with
    | none =>
      obtain rfl : v = .non := h2
      exact ⟨_, rfl, iteT_of (decide_eq_true rfl) (q _ _ none k7 h3.is rfl fun _ _ _ z => by cases z)⟩
    | some S =>
      obtain ⟨t, l, rfl, a1, a2, a3⟩ := h2
      refine ⟨_, rfl, iteF_of (decide_eq_false nofun) ?_⟩
      refine ⟨_, rfl, t, _, _, _, rfl, rfl, SqT.of a1, rfl, _, rfl, t, _, _, _, rfl, rfl, SqT.of a1, rfl, l, _, rfl, .inl (SqL.of a2), fun l2 hl2 => ⟨(by show 2 ≤ sizeLine; decide), fun t2 ht2 => ?_⟩⟩
      have k8 := (k7.newer (o := .lst (S.map V.int)) hl2).newer (o := .tup [.int (cst cs S), .ref l2]) ht2
      refine q _ _ (some S) k8 h3.is ⟨t2, l2, rfl, upd_same, (Kp.new (M := []) ht2).k _ _ upd_same (by simp), a3⟩ fun t' l' k' e1 e2 => ?_
      cases e1
      rw [upd_same] at e2
      cases e2
      exact k7.free hl2 (by simp)
end

/-! ### subsets, sets in order; the best change for a condition, in plain Lean -/
theorem subs_iff {E p : List Int} : p ∈ subs E ↔ p.Sublist E := by
  induction E using snoc_ind generalizing p with
  | h0 =>
    show p ∈ [[]] ↔ _
    rw [List.mem_singleton, List.sublist_nil]
  | h1 E e ih =>
    rw [subs_snoc, List.mem_append, List.sublist_append_iff, ih]
    constructor
    · rintro (h | h)
      · exact ⟨p, [], by simp, h, List.nil_sublist _⟩
      · obtain ⟨q, hq, rfl⟩ := List.mem_map.mp h
        exact ⟨q, [e], rfl, ih.mp hq, List.Sublist.refl _⟩
    · rintro ⟨l1, l2, rfl, h1, h2⟩
      have h3 : l2 = [] ∨ l2 = [e] := by
        cases h2 with
        | cons _ h => exact .inl (List.sublist_nil.mp h)
        | cons_cons _ h => exact .inr (by rw [List.sublist_nil.mp h])
      rcases h3 with rfl | rfl
      · exact .inl (by simpa using h1)
      · exact .inr (List.mem_map.mpr ⟨l1, ih.mpr h1, rfl⟩)
/-- ascending lists of members of an ascending list are its sublists -/
theorem asc_sub {A T : List Int} (upA : A.Pairwise (· < ·)) (up : T.Pairwise (· < ·)) (h : ∀ y ∈ T, y ∈ A) : T.Sublist A := by
  have ef : A.filter (fun y => decide (y ∈ T)) = T := asc_unique (upA.sublist List.filter_sublist) up fun y => by
    rw [List.mem_filter, decide_eq_true_iff]
    exact ⟨fun z => z.2, fun z => ⟨h y z, z⟩⟩
  rw [← ef]
  exact List.filter_sublist
/-- the order by size, then by members, as the sort asks it -/
def setLe (S T : List Int) : Bool := !decide (setLt T S)
theorem setLe_trans (R S T : List Int) (h : setLe R S = true) (k : setLe S T = true) : setLe R T = true := by
  unfold setLe at *
  rw [Bool.not_eq_true', decide_eq_false_iff_not] at *
  intro z
  by_cases c : setLt R S
  · exact k (setLt_trans z c)
  · rw [setLt_tri c h] at z
    exact k z
theorem setLe_total (S T : List Int) : (setLe S T || setLe T S) = true := by
  unfold setLe
  by_cases c : setLt T S
  · have : ¬ setLt S T := fun z => setLt_irr _ (setLt_trans c z)
    rw [decide_eq_false this]
    simp
  · rw [decide_eq_false c]
    simp
theorem sort_first {l : List (List Int)} {h : List Int} {r : List (List Int)} (e : l.mergeSort setLe = h :: r) : h ∈ l ∧ ∀ x ∈ l, ¬ setLt x h := by
  have hp := List.mergeSort_perm l setLe
  have hs := List.pairwise_mergeSort setLe_trans setLe_total l
  rw [e] at hp hs
  refine ⟨hp.mem_iff.mp List.mem_cons_self, fun x hx z => ?_⟩
  rcases List.mem_cons.mp (hp.mem_iff.mpr hx) with rfl | hx
  · exact setLt_irr _ z
  · have := (List.pairwise_cons.mp hs).1 x hx
    unfold setLe at this
    rw [Bool.not_eq_true', decide_eq_false_iff_not] at this
    exact this z
/-- the best change after which g holds -/
def BestF (g : (Int → Bool) → Bool) (pf al : Int → Bool) (cs : Int → Int) : Option (List Int) → Prop
  | none => ∀ T : List Int, T.Pairwise (· < ·) → (∀ y ∈ T, al y = true) → g (trn pf T) = false
  | some T => T.Pairwise (· < ·) ∧ (∀ y ∈ T, al y = true) ∧ g (trn pf T) = true ∧ ∀ T' : List Int, T'.Pairwise (· < ·) → (∀ y ∈ T', al y = true) → g (trn pf T') = true → ¬ chLt (cst cs T', T') (cst cs T, T)
theorem Best0.toF {ns : List Node} {pf al : Int → Bool} {cs : Int → Int} {c : Nat} {g : (Int → Bool) → Bool} (h : ∀ f, ev ns f c = g f) {r : Option (List Int)} (b : Best0 ns pf al cs c r) : BestF g pf al cs r := by
  have e : (fun f => ev ns f c) = g := funext h
  subst e
  cases r with
  | none => exact b
  | some T => exact b
theorem BestF.uniq {g : (Int → Bool) → Bool} {pf al : Int → Bool} {cs : Int → Int} : ∀ {r r' : Option (List Int)}, BestF g pf al cs r → BestF g pf al cs r' → r = r'
  | none, none, _, _ => rfl
  | none, some T, h, k => by
    have := h T k.1 k.2.1
    rw [k.2.2.1] at this
    cases this
  | some T, none, h, k => by
    have := k T h.1 h.2.1
    rw [h.2.2.1] at this
    cases this
  | some T, some T', h, k => by
    have e := chLt_tri (h.2.2.2 T' k.1 k.2.1 k.2.2.1) (k.2.2.2 T h.1 h.2.1 h.2.2.1)
    rw [(Prod.mk.inj e).2]
noncomputable def bst1 (g : (Int → Bool) → Bool) (pf al : Int → Bool) (cs : Int → Int) : Option (List Int) := Classical.epsilon fun r => BestF g pf al cs r
theorem bst1_eq {g : (Int → Bool) → Bool} {pf al : Int → Bool} {cs : Int → Int} {r : Option (List Int)} (h : BestF g pf al cs r) : bst1 g pf al cs = r := (Classical.epsilon_spec (p := fun r => BestF g pf al cs r) ⟨r, h⟩).uniq h
theorem cst_one (T : List Int) : cst (fun _ => 1) T = T.length := by
  induction T with
  | nil => rfl
  | cons y T ih =>
    rw [cst_cons, ih, List.length_cons]
    omega
theorem ch_one {S T : List Int} : chLt (cst (fun _ => 1) S, S) (cst (fun _ => 1) T, T) ↔ setLt S T := by
  unfold chLt
  simp only [cst_one]
  constructor
  · rintro (h | ⟨_, h⟩)
    · exact .inl (by omega)
    · exact h
  · rintro (h | ⟨h1, h2⟩)
    · exact .inl (by omega)
    · exact .inr ⟨by omega, .inr ⟨h1, h2⟩⟩
/-- the condition is as it is now, and turning e turns it -/
def hgf (g : (Int → Bool) → Bool) (pf : Int → Bool) (e : Int) : (Int → Bool) → Bool := fun f => (g (put1 e (pf e) f) == g pf) && (g (put1 e (!pf e) f) != g pf)
theorem trn_out {pf : Int → Bool} {T : List Int} {e : Int} (h : e ∉ T) : put1 e (pf e) (trn pf T) = trn pf T ∧ put1 e (!pf e) (trn pf T) = trn pf (T ++ [e]) := by
  constructor
  · funext y
    unfold put1 trn
    by_cases q : y = e
    · subst q
      rw [if_pos rfl, decide_eq_false h]
      simp
    · rw [if_neg q]
  · funext y
    unfold put1 trn
    by_cases q : y = e
    · subst q
      rw [if_pos rfl, decide_eq_true (by simp)]
      simp
    · rw [if_neg q, decide_eq_decide.mpr (show y ∈ T ↔ y ∈ T ++ [e] by simp [q])]
theorem hgf_put (g : (Int → Bool) → Bool) (pf : Int → Bool) (e : Int) {f f' : Int → Bool} (h : ∀ y, y ≠ e → f y = f' y) : hgf g pf e f = hgf g pf e f' := by
  have : ∀ b, put1 e b f = put1 e b f' := fun b => by
    funext y
    unfold put1
    by_cases q : y = e
    · rw [if_pos q, if_pos q]
    · rw [if_neg q, if_neg q, h y q]
  unfold hgf
  rw [this, this]
/-- the first set of others of A after which e decides, as the law finds it -/
def fnd (g : (Int → Bool) → Bool) (pf : Int → Bool) (A : List Int) (e : Int) : List (List Int) := (subs (A.filter fun y => !decide (y = e))).filter fun p => (g (trn pf p) == g pf) && (g (trn pf (p ++ [e])) != g pf)
theorem fnd_best {g : (Int → Bool) → Bool} {pf : Int → Bool} {A : List Int} {e : Int} (up : A.Pairwise (· < ·)) : BestF (hgf g pf e) pf (fun y => decide (y ∈ A)) (fun _ => 1) ((fnd g pf A e).mergeSort setLe).head? := by
  have inF : ∀ p, p ∈ fnd g pf A e ↔ p.Pairwise (· < ·) ∧ (∀ y ∈ p, y ∈ A) ∧ e ∉ p ∧ hgf g pf e (trn pf p) = true := fun p => by
    unfold fnd
    rw [List.mem_filter, subs_iff]
    constructor
    · rintro ⟨h1, h2⟩
      have m := h1.subset
      have ne : e ∉ p := fun z => by
        have := (List.mem_filter.mp (m z)).2
        simp at this
      refine ⟨(up.sublist List.filter_sublist).sublist h1, fun y hy => (List.mem_filter.mp (m hy)).1, ne, ?_⟩
      unfold hgf
      rw [(trn_out ne).1, (trn_out ne).2]
      exact h2
    · rintro ⟨h1, h2, h3, h4⟩
      refine ⟨asc_sub (up.sublist List.filter_sublist) h1 fun y hy => List.mem_filter.mpr ⟨h2 y hy, ?_⟩, ?_⟩
      · simp only [Bool.not_eq_true', decide_eq_false_iff_not]
        intro z
        rw [z] at hy
        exact h3 hy
      · unfold hgf at h4
        rw [(trn_out h3).1, (trn_out h3).2] at h4
        exact h4
  -- any other one has one without e
  have out : ∀ T : List Int, T.Pairwise (· < ·) → (∀ y ∈ T, decide (y ∈ A) = true) → hgf g pf e (trn pf T) = true → ∃ p ∈ fnd g pf A e, p = T ∨ p.length < T.length := fun T h1 h2 h3 => by
    by_cases q : e ∈ T
    · refine ⟨T.filter fun y => !decide (y = e), (inF _).mpr ⟨h1.sublist List.filter_sublist, fun y hy => of_decide_eq_true (h2 y (List.mem_filter.mp hy).1), fun z => by simpa using (List.mem_filter.mp z).2, ?_⟩, .inr ?_⟩
      · rw [hgf_put g pf e (f' := trn pf T) fun y hy => ?_]
        · exact h3
        · unfold trn
          rw [decide_eq_decide.mpr (show (y ∈ T.filter fun y => !decide (y = e)) ↔ y ∈ T by simp [hy])]
      · have hl := List.length_filter_le (fun y => !decide (y = e)) T
        by_cases z : (T.filter fun y => !decide (y = e)).length = T.length
        · have := List.length_filter_eq_length_iff.mp z e q
          simp at this
        · omega
    · exact ⟨T, (inF T).mpr ⟨h1, fun y hy => of_decide_eq_true (h2 y hy), q, h3⟩, .inl rfl⟩
  cases hs : (fnd g pf A e).mergeSort setLe with
  | nil =>
    have hn : fnd g pf A e = [] := by
      have := (List.mergeSort_perm (fnd g pf A e) setLe).length_eq
      rw [hs] at this
      exact List.length_eq_zero_iff.mp this.symm
    intro T h1 h2
    cases hv : hgf g pf e (trn pf T) with
    | false => rfl
    | true =>
      obtain ⟨p, hp, _⟩ := out T h1 h2 hv
      rw [hn] at hp
      cases hp
  | cons h r =>
    obtain ⟨hm, hmin⟩ := sort_first hs
    obtain ⟨a1, a2, a3, a4⟩ := (inF h).mp hm
    refine ⟨a1, fun y hy => decide_eq_true (a2 y hy), a4, fun T h1 h2 h3 z => ?_⟩
    rw [ch_one] at z
    obtain ⟨p, hp, rfl | hl⟩ := out T h1 h2 h3
    · exact hmin p hp z
    · refine hmin p hp (.inl ?_)
      rcases z with z | ⟨z, _⟩ <;> omega
/-- the row of e -/
noncomputable def brow (g : (Int → Bool) → Bool) (pf al : Int → Bool) (e : Int) : List (Int × List Int) := (bst1 (hgf g pf e) pf al fun _ => 1).toList.map fun T => (e, T)
theorem brow_no {g : (Int → Bool) → Bool} {pf al : Int → Bool} {e : Int} (h : ∀ f, g (put1 e true f) = g (put1 e false f)) : brow g pf al e = [] := by
  have b : BestF (hgf g pf e) pf al (fun _ => 1) none := fun T _ _ => by
    unfold hgf
    have : ∀ a b f, g (put1 e a f) = g (put1 e b f) := fun a b f => by
      cases a <;> cases b <;> first | rfl | exact h f | exact (h f).symm
    rw [this (!pf e) (pf e)]
    cases g (put1 e (pf e) (trn pf T)) <;> cases g pf <;> rfl
  unfold brow
  rw [bst1_eq b]
  rfl
theorem flat_filter {α β : Type} (p : α → Bool) (f : α → List β) : ∀ l : List α, (∀ x ∈ l, p x = false → f x = []) → l.flatMap f = (l.filter p).flatMap f
  | [], _ => rfl
  | x :: l, h => by
    rw [List.flatMap_cons, flat_filter p f l fun y hy => h y (List.mem_cons_of_mem _ hy), List.filter_cons]
    cases c : p x with
    | true => rw [if_pos rfl, List.flatMap_cons]
    | false => rw [if_neg Bool.false_ne_true, h x List.mem_cons_self c, List.nil_append]

/-! ### some turned -/
theorem cut_take (xs : List V) (k : Nat) : cutV xs none (some (k : Int)) = xs.take k := by
  unfold cutV
  rw [HT.sIx_none, HT.sIx_nat, Nat.sub_zero]
  exact (List.take_eq_take_min ..).symm
theorem not_cons {α : Type} {a b : α} {l : List α} (h : a ≠ b) (k : a ∉ l) : a ∉ b :: l := fun m => (List.mem_cons.mp m).elim h k
def spTurned : Sp := fun vs H Q _ => ∃ (pa qa : Addr) (PP T : List Int), vs = [.ref pa, .ref qa] ∧ H pa = some (.lst (PP.map V.int)) ∧ H qa = some (.lst (T.map V.int)) ∧ PP.Nodup ∧ T.Nodup ∧ PP.length ≤ 8 ∧ T.length ≤ 8 ∧
  ∀ (N : List Int) (r : Addr) (H' : Hp), N.Pairwise (· < ·) → (∀ y, y ∈ N ↔ trn (fun y => decide (y ∈ PP)) T y = true) → N.length ≤ 16 → H r = none → Kp [] H H' → H' r = some (.lst (N.map V.int)) → Q (.ref r) H'
def spSetKey : Sp := fun vs H Q _ => ∃ (l : Addr) (T : List Int), vs = [.ref l] ∧ H l = some (.lst (T.map V.int)) ∧ ∀ p, H p = none → Q (.ref p) (upd H p (.tup [.int T.length, .ref l]))
structure TTurn (mg : Str → Option Value) : Prop where
  n_len : mg "len" = none
  n_sorted : mg "sorted" = none
theorem lt_of_le_nodup : ∀ {l : List Int}, l.Pairwise (· ≤ ·) → l.Nodup → l.Pairwise (· < ·)
  | [], _, _ => .nil
  | x :: l, h, n => by
    obtain ⟨h1, h2⟩ := List.pairwise_cons.mp h
    obtain ⟨n1, n2⟩ := List.nodup_cons.mp n
    exact List.pairwise_cons.mpr ⟨fun y hy => by
      have := h1 y hy
      have : x ≠ y := fun z => n1 (by rw [z]; exact hy)
      omega, lt_of_le_nodup h2 n2⟩
section
variable {P : Program} {w : World} {K : PySem.W.Frag} {mg : Str → Option Value} {base : Heap}
theorem ok_turned (D : GD K mg "_law_turned" sD_Lturned ["present", "part"]) (T : TTurn mg) : Cal P w K mg base 1 "_law_turned" spTurned [] := by
  refine D.cal sc_Lturned (fun vs H Q E h => ?_) (fun f cdv A outer s0 H vs Q E hr h => ?_)
  · obtain ⟨pa, qa, PP, S, rfl, _⟩ := h
    rfl
  obtain ⟨pa, qa, PP, S, rfl, hpa, hqa, ndP, ndS, lP, lS, q⟩ := h
  refine ⟨_, (pss_cons (ps_setLc (i := 2) (own := [("entry", 3)]) (g := gName 3) rfl sc_Lturned.nd rfl rfl (sw_true rfl rfl rfl (by decide +kernel)) (pi_list (pv 0)) (blkOk_by (own := [("entry", 3)]) (N := ["present", "part", "kept", "entry"]) (sc := defScope sD_Lturned) (by decide +kernel)) (fun _ _ _ _ _ => (pg_name (i := 3) sc_Lturned.nd rfl (Or.inl rfl))) (fun _ _ _ _ _ => (pts_one (bt_notin (K := K) rfl (pv 3) (pv 1)))) (fun _ _ _ _ _ => (pv 3)))
    (pss_one (ps_ret (pe_callB cr_sorted (by rfl) T.n_sorted (by decide +kernel) (pa_cons (pe_op op_cat (pv 2) (pe_lc (own := [("entry", 3)]) (g := gName 3) rfl sc_Lturned.nd (pi_list (pv 1)) (blkOk_by (own := [("entry", 3)]) (N := ["present", "part", "kept", "entry"]) (sc := defScope sD_Lturned) (by decide +kernel)) (fun _ _ _ _ _ => (pg_name (i := 3) sc_Lturned.nd rfl (Or.inl rfl))) (fun _ _ _ _ _ => (pts_one (bt_notin (K := K) rfl (pv 3) (pv 0)))) (fun _ _ _ _ _ => (pv 3)))) pa_nil))))), ?_⟩
  refine ⟨_, rfl, pa, rfl, ⟨_, SqL.of hpa⟩, fun D hD => lc_list (K := K) (a := pa) (xs := PP.map V.int) (fun j G => Kp [] H G ∧ G D = some (.lst (((PP.take j).filter fun x => !decide (x ∈ S)).map V.int))) ⟨.new hD, upd_same⟩ (fun j G _ p => SqL.of (p.1.k _ _ hpa (by simp))) (fun j x G hj p => ?_) (fun G p => ?_)⟩
  · obtain ⟨e, he, rfl⟩ := mapAt hj
    obtain ⟨kG, hG⟩ := p
    refine ⟨rfl, _, rfl, _, rfl, qa, _, rfl, .inl (SqL.of (kG.k _ _ hqa (by simp))), rfl, flat_ints S, ?_⟩
    rw [if_pos rfl, inV_ints]
    refine ⟨_, rfl, ?_⟩
    by_cases m : e ∈ S
    · rw [decide_eq_true m]
      refine iteF ⟨kG, ?_⟩
      rw [ft_no he (by simp [m])]
      exact hG
    · rw [decide_eq_false m]
      refine iteT ⟨_, rfl, _, hG, small1000 ?_, kG.mt hD, ?_⟩
      · rw [List.length_map]
        exact Nat.le_trans (List.length_filter_le _ _) (Nat.le_trans (List.length_take_le' _ _) (by omega))
      · rw [ft_yes he (by simp [m])]
        exact upd_same
  obtain ⟨kG, hG⟩ := p
  rw [List.length_map, List.take_length] at hG
  refine ⟨_, rfl, _, rfl, qa, rfl, ⟨_, SqL.of (kG.k _ _ hqa (by simp))⟩, fun D2 hD2 => lc_list (K := K) (a := qa) (xs := S.map V.int) (fun j G2 => Kp [] G G2 ∧ G2 D2 = some (.lst (((S.take j).filter fun x => !decide (x ∈ PP)).map V.int))) ⟨.new hD2, upd_same⟩ (fun j G2 _ p => SqL.of (p.1.k _ _ (kG.k _ _ hqa (by simp)) (by simp))) (fun j x G2 hj p => ?_) (fun G2 p => ?_)⟩
  · obtain ⟨e, he, rfl⟩ := mapAt hj
    obtain ⟨kG2, hG2⟩ := p
    refine ⟨rfl, _, rfl, _, rfl, pa, _, rfl, .inl (SqL.of ((kG.trans kG2).k _ _ hpa (by simp))), rfl, flat_ints PP, ?_⟩
    rw [if_pos rfl, inV_ints]
    refine ⟨_, rfl, ?_⟩
    by_cases m : e ∈ PP
    · rw [decide_eq_true m]
      refine iteF ⟨kG2, ?_⟩
      rw [ft_no he (by simp [m])]
      exact hG2
    · rw [decide_eq_false m]
      refine iteT ⟨_, rfl, _, hG2, small1000 ?_, kG2.mt hD2, ?_⟩
      · rw [List.length_map]
        exact Nat.le_trans (List.length_filter_le _ _) (Nat.le_trans (List.length_take_le' _ _) (by omega))
      · rw [ft_yes he (by simp [m])]
        exact upd_same
  obtain ⟨kG2, hG2⟩ := p
  rw [List.length_map, List.take_length] at hG2
  have l1 := List.length_filter_le (fun x => !decide (x ∈ S)) PP
  have l2 := List.length_filter_le (fun x => !decide (x ∈ PP)) S
  refine ⟨D, D2, _, _, rfl, rfl, kG2.k _ _ hG (by simp), hG2, small (by rw [List.length_map, List.length_map]; omega), fun p1 hp1 => ?_⟩
  have k1 := (kG.trans kG2).newer (o := .lst ((PP.filter fun x => !decide (x ∈ S)).map V.int ++ (S.filter fun x => !decide (x ∈ PP)).map V.int)) hp1
  refine ⟨p1, PP.filter (fun x => !decide (x ∈ S)) ++ S.filter (fun x => !decide (x ∈ PP)), rfl, SqL.of (by rw [upd_same, List.map_append]), by rw [List.length_append]; omega, fun N p2 perm ord hp2 => ?_⟩
  have nd : (PP.filter (fun x => !decide (x ∈ S)) ++ S.filter (fun x => !decide (x ∈ PP))).Nodup := by
    refine List.nodup_append.mpr ⟨ndP.filter _, ndS.filter _, fun a ha b hb z => ?_⟩
    have h1 := (List.mem_filter.mp ha).2
    have h2 := (List.mem_filter.mp hb).1
    rw [z] at h1
    simp [h2] at h1
  refine q N p2 _ (lt_of_le_nodup ord (perm.nodup_iff.mpr nd)) (fun y => ?_) (by rw [perm.length_eq, List.length_append]; omega) (k1.free hp2 (by simp)) (k1.newer hp2) upd_same
  rw [perm.mem_iff, List.mem_append, List.mem_filter, List.mem_filter]
  unfold trn
  by_cases a : y ∈ PP <;> by_cases b : y ∈ S <;> simp [a, b]
theorem ok_Lset_key (D : GD K mg "_law_set_key" sD_Lset_key ["members"]) (T : TTurn mg) : Cal P w K mg base 1 "_law_set_key" spSetKey [] := by
  refine D.cal sc_Lset_key (fun vs H Q E h => ?_) (fun f cdv A outer s0 H vs Q E hr h => ?_)
  · obtain ⟨l, S, rfl, _⟩ := h
    rfl
  obtain ⟨l, S, rfl, hl, q⟩ := h
  refine ⟨_, (pss_one (ps_ret (pe_tup (pa_cons (pe_callB call_len_seq (by rfl) T.n_len (by decide +kernel) (pa_cons (pv 0) pa_nil)) (pa_cons (pv 0) pa_nil))))), ?_⟩
  refine ⟨_, rfl, l, _, rfl, .inl (SqL.of hl), _, rfl, (by show 2 ≤ sizeLine; decide), fun p hp => ?_⟩
  rw [List.length_map]
  exact q p hp
end
/-! #### sets in a list, sorted by the key -/
/-- some lists of ints -/
def LstsK (H : Hp) (r : Addr) (LL : List (List Int)) : Prop :=
  ∃ as : List Addr, H r = some (.lst (as.map V.ref)) ∧ as.length = LL.length ∧ ∀ (i : Nat) (a : Addr) (l : List Int), as[i]? = some a → LL[i]? = some l → H a = some (.lst (l.map V.int))
/-- .. with a word on where they stand -/
def LstsP (Pq : Addr → Prop) (H : Hp) (r : Addr) (LL : List (List Int)) : Prop :=
  ∃ as : List Addr, H r = some (.lst (as.map V.ref)) ∧ as.length = LL.length ∧ (∀ (i : Nat) (a : Addr) (l : List Int), as[i]? = some a → LL[i]? = some l → H a = some (.lst (l.map V.int))) ∧ ∀ a ∈ as, Pq a
def setD (S : List Int) : PyData := .tuple [.int S.length, .list (S.map .int)]
theorem setD_dp (S : List Int) : (setD S).depth ≤ 10 := by
  unfold setD
  simp only [PyData.depth, PyData.depthAll]
  have : PyData.depthAll (S.map .int) = 0 := PySem.W.depth_ints S
  rw [this]
  decide
theorem setD_al (S T : List Int) : PySem.W.alike (setD S) (setD T) = true := by
  unfold setD
  have := PySem.W.alike_ints S T
  simp only [PySem.W.alike, PySem.W.alikeAll, this, Bool.and_self]
theorem zip_fst {α β : Type} : ∀ {l : List α} {m : List β}, l.length = m.length → (l.zip m).map Prod.fst = l
  | [], _, _ => rfl
  | x :: l, [], h => by cases h
  | x :: l, y :: m, h => by rw [List.zip_cons_cons, List.map_cons, zip_fst (Nat.succ.inj h)]
theorem zip_snd {α β : Type} : ∀ {l : List α} {m : List β}, l.length = m.length → (l.zip m).map Prod.snd = m
  | [], [], _ => rfl
  | [], y :: m, h => by cases h
  | x :: l, [], h => by cases h
  | x :: l, y :: m, h => by rw [List.zip_cons_cons, List.map_cons, zip_snd (Nat.succ.inj h)]
/-- what sorted(r, key=_law_set_key) asks -/
theorem sort_sets {Pq : Addr → Prop} {H : Hp} {r : Addr} {LL : List (List Int)} {Q : VK} (hL : LstsP Pq H r LL) (q : ∀ (G : Hp) (p : Addr), Kp [] H G → H p = none → LstsP Pq G p (LL.mergeSort setLe) → Q (.ref p) G) : rSF spSetKey (.ref r) H Q := by
  obtain ⟨as, hr, hl, hs, hP⟩ := hL
  have hz : ∀ b ∈ (as.zip LL), H b.1 = some (.lst (b.2.map V.int)) := fun b hb => by
    obtain ⟨i, hi⟩ := List.mem_iff_getElem?.mp hb
    obtain ⟨h1, h2⟩ := List.getElem?_zip_eq_some.mp hi
    exact hs i b.1 b.2 h1 h2
  obtain ⟨cs, hcs⟩ : ∃ cs, as.zip LL = cs := ⟨_, rfl⟩
  have e1 : cs.map Prod.fst = as := by rw [← hcs]; exact zip_fst hl
  have e2 : cs.map Prod.snd = LL := by rw [← hcs]; exact zip_snd hl
  rw [hcs] at hz
  have le2 : ∀ S T : List Int, (!PySem.W.dataLt (setD T) (setD S)) = setLe S T := fun S T => by
    unfold setLe setD
    rw [lt_set]
  have ms : ((cs.map fun c => (V.ref c.1, setD c.2)).mergeSort (PySem.W.dataLe false Prod.snd)) = (cs.mergeSort fun a b => setLe a.2 b.2).map fun c => (V.ref c.1, setD c.2) := by
    refine (List.map_mergeSort (r := fun a b => setLe a.2 b.2) (s := PySem.W.dataLe false Prod.snd) (f := fun c : Addr × List Int => (V.ref c.1, setD c.2)) fun a _ b _ => ?_).symm
    show setLe a.2 b.2 = !PySem.W.dataLt (setD b.2) (setD a.2)
    rw [le2]
  have ms2 : (cs.mergeSort fun a b => setLe a.2 b.2).map Prod.snd = LL.mergeSort setLe := by
    rw [← e2]
    exact List.map_mergeSort (r := fun a b : Addr × List Int => setLe a.2 b.2) (s := setLe) (f := Prod.snd) fun a _ b _ => rfl
  refine ⟨r, cs.map fun c => (.ref c.1, setD c.2), rfl, ?_, ?_, ?_, ?_, ?_, fun G p kG hp hpG => ?_⟩
  · rw [hr, List.map_map, ← e1, List.map_map]
    rfl
  · intro d hd d' hd'
    rw [List.map_map] at hd hd'
    obtain ⟨b, _, rfl⟩ := List.mem_map.mp hd
    obtain ⟨b', _, rfl⟩ := List.mem_map.mp hd'
    exact setD_al ..
  · refine .inl fun d hd => ?_
    rw [List.map_map] at hd
    obtain ⟨b, _, rfl⟩ := List.mem_map.mp hd
    exact ⟨_, _, rfl⟩
  · intro b hb
    obtain ⟨c, _, rfl⟩ := List.mem_map.mp hb
    exact setD_dp _
  · intro b hb G kG
    obtain ⟨c, hc, rfl⟩ := List.mem_map.mp hb
    have h := kG.k _ _ (hz c hc) (by simp)
    exact ⟨c.1, c.2, rfl, h, fun p hp => ⟨.new hp, .tup upd_same (.cons (.int _) (.cons (.lst ((Kp.new (M := []) hp).k _ _ h (by simp)) (has_ints _)) .nil))⟩⟩
  · refine q _ p (kG.newer hpG) hp ⟨(cs.mergeSort fun a b => setLe a.2 b.2).map Prod.fst, ?_, ?_, fun i a l ha hl2 => ?_, fun a ha => ?_⟩
    · rw [upd_same, ms, List.map_map, List.map_map]
      rfl
    · rw [← ms2, List.length_map, List.length_map]
    · rw [← ms2] at hl2
      rw [List.getElem?_map] at ha hl2
      cases e : (cs.mergeSort fun a b => setLe a.2 b.2)[i]? with
      | none => rw [e] at ha; cases ha
      | some c =>
        rw [e] at ha hl2
        cases ha
        cases hl2
        have hc := (List.mergeSort_perm cs _).mem_iff.mp (List.mem_of_getElem? e)
        have h := kG.k _ _ (hz c hc) (by simp)
        rw [upd_ne (ne_of_none h hpG)]
        exact h
    · obtain ⟨c, hc, rfl⟩ := List.mem_map.mp ha
      exact hP _ (by rw [← e1]; exact List.mem_map.mpr ⟨c, (List.mergeSort_perm cs _).mem_iff.mp hc, rfl⟩)

/-! ### least sets, in plain Lean -/
/-- the least ones of those for which F holds -/
def MinOf (F : List Int → Prop) (T : List Int) : Prop := T.Pairwise (· < ·) ∧ F T ∧ ∀ U : List Int, U.Sublist T → F U → U = T
theorem MinOf.below {F : List Int → Prop} : ∀ (n : Nat) (T : List Int), T.length ≤ n → T.Pairwise (· < ·) → F T → ∃ U : List Int, U.Sublist T ∧ MinOf F U := by
  intro n
  induction n with
  | zero =>
    intro T h up f
    refine ⟨T, List.Sublist.refl _, up, f, fun U s _ => ?_⟩
    have := s.length_le
    rw [List.length_eq_zero_iff.mp (show U.length = 0 by omega), List.length_eq_zero_iff.mp (show T.length = 0 by omega)]
  | succ n ih =>
    intro T h up f
    by_cases q : ∃ U : List Int, U.Sublist T ∧ F U ∧ U ≠ T
    · obtain ⟨U, s, fU, ne⟩ := q
      have l1 : U.length < T.length := Nat.lt_of_le_of_ne s.length_le fun z => ne (s.eq_of_length z)
      obtain ⟨W, sW, mW⟩ := ih U (by omega) (up.sublist s) fU
      exact ⟨W, sW.trans s, mW⟩
    · exact ⟨T, List.Sublist.refl _, up, f, fun U s fU => Classical.byContradiction fun ne => q ⟨U, s, fU, ne⟩⟩
theorem MinOf.congr {F G : List Int → Prop} (h : ∀ T : List Int, T.Pairwise (· < ·) → (F T ↔ G T)) {T : List Int} : MinOf F T ↔ MinOf G T := by
  constructor
  · rintro ⟨up, f, m⟩
    exact ⟨up, (h T up).mp f, fun U s g => m U s ((h U (up.sublist s)).mpr g)⟩
  · rintro ⟨up, f, m⟩
    exact ⟨up, (h T up).mpr f, fun U s g => m U s ((h U (up.sublist s)).mp g)⟩
theorem MinOf.up_iff {F : List Int → Prop} {T : List Int} : MinOf (fun T => ∃ U : List Int, U.Sublist T ∧ F U) T ↔ MinOf F T := by
  constructor
  · rintro ⟨up, ⟨U, s, f⟩, m⟩
    have e := m U s ⟨U, List.Sublist.refl _, f⟩
    rw [e] at f
    exact ⟨up, f, fun V sV fV => m V sV ⟨V, List.Sublist.refl _, fV⟩⟩
  · rintro ⟨up, f, m⟩
    refine ⟨up, ⟨T, List.Sublist.refl _, f⟩, fun V sV h => ?_⟩
    obtain ⟨U, s, fU⟩ := h
    have e := m U (s.trans sV) fU
    rw [e] at s
    exact sV.eq_of_length_le s.length_le
def wit (S T : List Int) : Bool := S.all fun y => decide (y ∈ T)
theorem wit_iff {S T : List Int} : wit S T = true ↔ ∀ y ∈ S, y ∈ T := by
  unfold wit
  rw [List.all_eq_true]
  exact ⟨fun h y hy => of_decide_eq_true (h y hy), fun h y hy => decide_eq_true (h y hy)⟩
theorem wit_sub {S T : List Int} (uS : S.Pairwise (· < ·)) (uT : T.Pairwise (· < ·)) : wit S T = true ↔ S.Sublist T := by
  rw [wit_iff]
  exact ⟨asc_sub uT uS, fun h y hy => h.subset hy⟩
def lstep (acc : List (List Int)) (m : List Int) : List (List Int) := if (acc.any fun o => wit o m) = true then acc else acc ++ [m]
def lsts (LL : List (List Int)) : List (List Int) := (LL.mergeSort setLe).foldl lstep []
theorem fold_take {LL : List (List Int)} {i : Nat} {x : List Int} (h : LL[i]? = some x) : (LL.take (i + 1)).foldl lstep [] = lstep ((LL.take i).foldl lstep []) x := by
  rw [takeS h, List.foldl_append]
  rfl
theorem lstep_len (acc : List (List Int)) (m : List Int) : (lstep acc m).length ≤ acc.length + 1 := by
  unfold lstep
  split
  · omega
  · rw [List.length_append, List.length_singleton]
    exact Nat.le_refl _
theorem fold_len : ∀ (LL acc : List (List Int)), (LL.foldl lstep acc).length ≤ acc.length + LL.length
  | [], acc => Nat.le_refl _
  | m :: LL, acc => by
    have h1 := fold_len LL (lstep acc m)
    have h2 := lstep_len acc m
    rw [List.foldl_cons, List.length_cons]
    omega
theorem setLe_lt {S T : List Int} (h : setLe S T = true) (ne : S ≠ T) : setLt S T := by
  unfold setLe at h
  rw [Bool.not_eq_true', decide_eq_false_iff_not] at h
  exact Classical.byContradiction fun z => ne (setLt_tri z h)
theorem sub_lt {S T : List Int} (h : S.Sublist T) (ne : S ≠ T) : setLt S T := .inl (Nat.lt_of_le_of_ne h.length_le fun z => ne (h.eq_of_length z))
theorem greedy {M : List (List Int)} (hs : M.Pairwise fun a b => setLe a b = true) (up : ∀ l ∈ M, l.Pairwise (· < ·)) :
    (M.foldl lstep []).Pairwise setLt ∧ (∀ T ∈ M.foldl lstep [], MinOf (· ∈ M) T) ∧ ∀ m ∈ M, ∃ o ∈ M.foldl lstep [], o.Sublist m := by
  induction M using snoc_ind with
  | h0 => exact ⟨.nil, fun T h => (by cases h), fun m h => (by cases h)⟩
  | h1 M x ih =>
    obtain ⟨hM, _, hx⟩ := List.pairwise_append.mp hs
    have hx : ∀ a ∈ M, setLe a x = true := fun a ha => hx a ha x (by simp)
    have upM : ∀ l ∈ M, l.Pairwise (· < ·) := fun l hl => up l (List.mem_append_left _ hl)
    have upx : x.Pairwise (· < ·) := up x (by simp)
    obtain ⟨i1, i2, i3⟩ := ih hM upM
    rw [List.foldl_append]
    show (lstep (M.foldl lstep []) x).Pairwise setLt ∧ (∀ T ∈ lstep (M.foldl lstep []) x, _) ∧ ∀ m ∈ M ++ [x], ∃ o ∈ lstep (M.foldl lstep []) x, _
    generalize M.foldl lstep [] = A at i1 i2 i3
    have old : ∀ T ∈ A, MinOf (· ∈ M ++ [x]) T := fun T hT => by
      obtain ⟨a1, a2, a3⟩ := i2 T hT
      refine ⟨a1, List.mem_append_left _ a2, fun U s hU => ?_⟩
      rcases List.mem_append.mp hU with h | h
      · exact a3 U s h
      · rw [List.mem_singleton.mp h] at s ⊢
        refine Classical.byContradiction fun ne => ?_
        have h1 := sub_lt s ne
        have h2 := hx T a2
        unfold setLe at h2
        rw [Bool.not_eq_true', decide_eq_false_iff_not] at h2
        exact h2 h1
    unfold lstep
    by_cases c : (A.any fun o => wit o x) = true
    · rw [if_pos c]
      refine ⟨i1, old, fun m hm => ?_⟩
      rcases List.mem_append.mp hm with h | h
      · exact i3 m h
      · rw [List.mem_singleton.mp h]
        obtain ⟨o, ho, w⟩ := List.any_eq_true.mp c
        exact ⟨o, ho, (wit_sub (i2 o ho).1 upx).mp w⟩
    · rw [if_neg c]
      have no : ∀ o ∈ A, ¬ o.Sublist x := fun o ho s => c (List.any_eq_true.mpr ⟨o, ho, (wit_sub (i2 o ho).1 upx).mpr s⟩)
      refine ⟨List.pairwise_append.mpr ⟨i1, List.pairwise_singleton .., fun a ha b hb => ?_⟩, fun T hT => ?_, fun m hm => ?_⟩
      · rw [List.mem_singleton.mp hb]
        exact setLe_lt (hx a (i2 a ha).2.1) fun z => no a ha (by rw [z]; exact List.Sublist.refl _)
      · rcases List.mem_append.mp hT with h | h
        · exact old T h
        · rw [List.mem_singleton.mp h]
          refine ⟨upx, by simp, fun U s hU => ?_⟩
          rcases List.mem_append.mp hU with h | h
          · obtain ⟨o, ho, so⟩ := i3 U h
            exact absurd (so.trans s) (no o ho)
          · exact List.mem_singleton.mp h
      · rcases List.mem_append.mp hm with h | h
        · obtain ⟨o, ho, so⟩ := i3 m h
          exact ⟨o, List.mem_append_left _ ho, so⟩
        · rw [List.mem_singleton.mp h]
          exact ⟨x, by simp, List.Sublist.refl _⟩
theorem lsts_spec {LL : List (List Int)} (up : ∀ l ∈ LL, l.Pairwise (· < ·)) : (lsts LL).Pairwise setLt ∧ ∀ T, T ∈ lsts LL ↔ MinOf (· ∈ LL) T := by
  have hp := List.mergeSort_perm LL setLe
  have hm : ∀ T, T ∈ LL.mergeSort setLe ↔ T ∈ LL := fun T => hp.mem_iff
  obtain ⟨g1, g2, g3⟩ := greedy (List.pairwise_mergeSort setLe_trans setLe_total LL) fun l hl => up l ((hm l).mp hl)
  refine ⟨g1, fun T => ?_⟩
  have e : MinOf (· ∈ LL.mergeSort setLe) T ↔ MinOf (· ∈ LL) T := MinOf.congr fun T _ => hm T
  rw [← e]
  refine ⟨g2 T, fun h => ?_⟩
  obtain ⟨o, ho, so⟩ := g3 T h.2.1
  rw [← h.2.2 o so (g2 o ho).2.1]
  exact ho
/-- in order, two lists with the same sets are the same -/
theorem ord_eq : ∀ {L M : List (List Int)}, L.Pairwise setLt → M.Pairwise setLt → (∀ T, T ∈ L ↔ T ∈ M) → L = M
  | [], [], _, _, _ => rfl
  | [], y :: M, _, _, h => absurd ((h y).mpr List.mem_cons_self) (by simp)
  | x :: L, [], _, _, h => absurd ((h x).mp List.mem_cons_self) (by simp)
  | x :: L, y :: M, a, b, h => by
    obtain ⟨a1, a2⟩ := List.pairwise_cons.mp a
    obtain ⟨b1, b2⟩ := List.pairwise_cons.mp b
    have e : x = y := by
      rcases List.mem_cons.mp ((h x).mp List.mem_cons_self) with m | m
      · exact m
      · rcases List.mem_cons.mp ((h y).mpr List.mem_cons_self) with q | q
        · exact q.symm
        · exact absurd (setLt_trans (a1 y q) (b1 x m)) (setLt_irr _)
    subst e
    rw [ord_eq a2 b2 fun z => ?_]
    have := h z
    constructor
    · intro m
      rcases List.mem_cons.mp (this.mp (List.mem_cons_of_mem _ m)) with q | q
      · exact absurd (by rw [q] at m; exact a1 x m) (setLt_irr x)
      · exact q
    · intro m
      rcases List.mem_cons.mp (this.mpr (List.mem_cons_of_mem _ m)) with q | q
      · exact absurd (by rw [q] at m; exact b1 x m) (setLt_irr x)
      · exact q
theorem ord_nodup : ∀ {l : List (List Int)}, (l.Pairwise fun a b => setLe a b = true) → l.Nodup → l.Pairwise setLt
  | [], _, _ => .nil
  | x :: l, h, n => by
    obtain ⟨h1, h2⟩ := List.pairwise_cons.mp h
    obtain ⟨n1, n2⟩ := List.nodup_cons.mp n
    exact List.pairwise_cons.mpr ⟨fun y hy => setLe_lt (h1 y hy) fun z => n1 (by rw [z]; exact hy), ord_nodup h2 n2⟩
theorem ord_sort {LL : List (List Int)} (nd : LL.Nodup) : (LL.mergeSort setLe).Pairwise setLt := ord_nodup (List.pairwise_mergeSort setLe_trans setLe_total LL) ((List.mergeSort_perm LL setLe).nodup_iff.mpr nd)
theorem nd_len {α : Type} [DecidableEq α] : ∀ {l D : List α}, l.Nodup → (∀ x ∈ l, x ∈ D) → l.length ≤ D.length
  | [], D, _, _ => Nat.zero_le _
  | x :: l, D, n, h => by
    obtain ⟨n1, n2⟩ := List.nodup_cons.mp n
    have hx := h x List.mem_cons_self
    have := nd_len (l := l) (D := D.erase x) n2 fun y hy => (List.mem_erase_of_ne fun z => n1 (by rw [← z]; exact hy)).mpr (h y (List.mem_cons_of_mem _ hy))
    rw [List.length_erase_of_mem hx] at this
    have := List.length_pos_of_mem hx
    rw [List.length_cons]
    omega

/-! ### least reasons, least changes, per node, in plain Lean -/
/-- T forces the condition, as it is with pf -/
def FrcN (ns : List Node) (pf : Int → Bool) (c : Nat) (T : List Int) : Prop := ∀ f : Int → Bool, (∀ y ∈ T, f y = pf y) → ev ns f c = true
/-- T turns the condition on -/
def TrnN (ns : List Node) (pf al : Int → Bool) (c : Nat) (T : List Int) : Prop := (∀ y ∈ T, al y = true) ∧ ev ns (trn pf T) c = true
structure LeastL (F : List Int → Prop) (LL : List (List Int)) : Prop where
  nd : LL.Nodup
  iff : ∀ T, T ∈ LL ↔ MinOf F T
section
variable {E : List Int} {ns : List Node} {pf al : Int → Bool}
theorem filter_lt {T : List Int} (y : Int) (h : y ∈ T) : (T.filter fun z => !decide (z = y)) ≠ T := fun e => by
  rw [← e, List.mem_filter] at h
  simp at h
theorem FrcN.dep (ok : NOk E ns) {c : Nat} (hc : c < ns.length + 2) {T : List Int} (h : MinOf (FrcN ns pf c) T) {e : Int} (u : Up ns e c) : ∀ y ∈ T, e < y := fun y hy => by
  refine Classical.byContradiction fun lt => filter_lt y hy (h.2.2 _ List.filter_sublist fun f hf => ?_)
  rw [← ev_congr ok (f := put1 y (pf y) f) (g := f) c hc fun x hx n hn => put1_ne (by have := hx.up ok u n hn; omega) _ _]
  refine h.2.1 _ fun z hz => ?_
  by_cases q : z = y
  · rw [q, put1_self]
  · rw [put1_ne q]
    exact hf z (List.mem_filter.mpr ⟨hz, by simp [q]⟩)
theorem TrnN.dep (ok : NOk E ns) {c : Nat} (hc : c < ns.length + 2) {T : List Int} (h : MinOf (TrnN ns pf al c) T) {e : Int} (u : Up ns e c) : ∀ y ∈ T, e < y := fun y hy => by
  refine Classical.byContradiction fun lt => filter_lt y hy (h.2.2 _ List.filter_sublist ⟨fun z hz => h.2.1.1 z (List.mem_filter.mp hz).1, ?_⟩)
  rw [← h.2.1.2]
  refine ev_congr ok c hc fun x hx n hn => ?_
  have ne : n.1 ≠ y := by have := hx.up ok u n hn; omega
  unfold trn
  rw [decide_eq_decide.mpr (show (n.1 ∈ T.filter fun z => !decide (z = y)) ↔ n.1 ∈ T by simp [ne])]
theorem FrcN.mem (ok : NOk E ns) {c : Nat} (hc : c < ns.length + 2) {T : List Int} (h : MinOf (FrcN ns pf c) T) : ∀ y ∈ T, y ∈ E := fun y hy => by
  refine Classical.byContradiction fun no => filter_lt y hy (h.2.2 _ List.filter_sublist fun f hf => ?_)
  rw [← ev_congr ok (f := put1 y (pf y) f) (g := f) c hc fun x hx n hn => put1_ne (fun z => no (by rw [← z]; exact ok.en x n hn)) _ _]
  refine h.2.1 _ fun z hz => ?_
  by_cases q : z = y
  · rw [q, put1_self]
  · rw [put1_ne q]
    exact hf z (List.mem_filter.mpr ⟨hz, by simp [q]⟩)
theorem TrnN.mem (ok : NOk E ns) {c : Nat} (hc : c < ns.length + 2) {T : List Int} (h : MinOf (TrnN ns pf al c) T) : ∀ y ∈ T, y ∈ E := fun y hy => by
  refine Classical.byContradiction fun no => filter_lt y hy (h.2.2 _ List.filter_sublist ⟨fun z hz => h.2.1.1 z (List.mem_filter.mp hz).1, ?_⟩)
  rw [← h.2.1.2]
  refine ev_congr ok c hc fun x hx n hn => ?_
  have ne : n.1 ≠ y := fun z => no (by rw [← z]; exact ok.en x n hn)
  unfold trn
  rw [decide_eq_decide.mpr (show (n.1 ∈ T.filter fun z => !decide (z = y)) ↔ n.1 ∈ T by simp [ne])]
/-- a set with e in it, all of its members from e on -/
theorem cons_of {T : List Int} {e : Int} (up : T.Pairwise (· < ·)) (he : e ∈ T) (lo : ∀ y ∈ T, e ≤ y) : ∃ U, T = e :: U ∧ U.Pairwise (· < ·) ∧ ∀ y ∈ U, e < y := by
  cases T with
  | nil => cases he
  | cons y U =>
    obtain ⟨u1, u2⟩ := List.pairwise_cons.mp up
    have ey : y = e := by
      rcases List.mem_cons.mp he with z | z
      · exact z.symm
      · have := u1 e z
        have := lo y List.mem_cons_self
        omega
    subst ey
    exact ⟨U, rfl, u2, u1⟩
theorem sub_of_cons {V U : List Int} {e : Int} (s : V.Sublist (e :: U)) : (e ∉ V → V.Sublist U) ∧ (∀ W, V = e :: W → W.Sublist U) := by
  constructor
  · intro h
    cases s with
    | cons _ s => exact s
    | cons_cons _ s => exact absurd List.mem_cons_self h
  · rintro W rfl
    exact List.cons_sublist_cons.mp s
theorem le_up {n : Node} {x : Nat} (hn : nod ns x = some n) : Up ns (n.1 - 1) x := fun m hm => by
  rw [hn] at hm
  cases hm
  omega
theorem TrnN.zero : LeastL (TrnN ns pf al 0) [] := ⟨.nil, fun T => ⟨fun h => (by cases h), fun h => by
  have := h.2.1.2
  rw [ev_zero] at this
  cases this⟩⟩
theorem TrnN.one : LeastL (TrnN ns pf al 1) [[]] := ⟨by simp, fun T => by
  rw [List.mem_singleton]
  constructor
  · rintro rfl
    exact ⟨.nil, ⟨fun y hy => (by cases hy), ev_one ns _⟩, fun U s _ => List.sublist_nil.mp s⟩
  · exact fun h => (h.2.2 [] (List.nil_sublist _) ⟨fun y hy => (by cases hy), ev_one ns _⟩).symm⟩
theorem FrcN.zero : LeastL (FrcN ns pf 0) [] := ⟨.nil, fun T => ⟨fun h => (by cases h), fun h => by
  have := h.2.1 pf fun _ _ => rfl
  rw [ev_zero] at this
  cases this⟩⟩
theorem FrcN.one : LeastL (FrcN ns pf 1) [[]] := ⟨by simp, fun T => by
  rw [List.mem_singleton]
  constructor
  · rintro rfl
    exact ⟨.nil, fun f _ => ev_one ns _, fun U s _ => List.sublist_nil.mp s⟩
  · exact fun h => (h.2.2 [] (List.nil_sublist _) fun f _ => ev_one ns _).symm⟩
/-- one list and another one, each set of it with e ahead -/
theorem nd_join {L1 L2 : List (List Int)} {e : Int} (n1 : L1.Nodup) (n2 : L2.Nodup) (no : ∀ T ∈ L1, e ∉ T) : (L1 ++ L2.map fun U => e :: U).Nodup := by
  refine List.nodup_append.mpr ⟨n1, ?_, fun a ha b hb z => ?_⟩
  · unfold List.Nodup
    rw [List.pairwise_map]
    exact List.Pairwise.imp (fun h z => h (List.cons_inj_right e |>.mp z)) n2
  · obtain ⟨U, _, rfl⟩ := List.mem_map.mp hb
    exact no a ha (by rw [z]; exact List.mem_cons_self)
/-- the changes of a node -/
theorem TrnN.node (ok : NOk E ns) {x : Nat} {n : Node} (hn : nod ns x = some n) {L1 L2 : List (List Int)} (h1 : LeastL (TrnN ns pf al (if pf n.1 then n.2.2 else n.2.1)) L1) (h2 : LeastL (TrnN ns pf al (if pf n.1 then n.2.1 else n.2.2)) L2) :
    LeastL (TrnN ns pf al x) (if al n.1 then L1 ++ (L2.filter fun m => !L1.any fun k => wit k m).map fun U => n.1 :: U else L1) := by
  obtain ⟨l1, l2, _⟩ := ok.lt x n hn
  obtain ⟨o1, o2⟩ := ok.ord x n hn
  have hx := nod_lt hn
  obtain ⟨k, hk⟩ : ∃ k, (if pf n.1 then n.2.2 else n.2.1) = k := ⟨_, rfl⟩
  obtain ⟨g, hg⟩ : ∃ g, (if pf n.1 then n.2.1 else n.2.2) = g := ⟨_, rfl⟩
  rw [hk] at h1
  rw [hg] at h2
  have uk : Up ns n.1 k := by rw [← hk]; split; exact o2; exact o1
  have ug : Up ns n.1 g := by rw [← hg]; split; exact o1; exact o2
  have kl : k < ns.length + 2 := by rw [← hk]; split <;> omega
  have gl : g < ns.length + 2 := by rw [← hg]; split <;> omega
  have out : ∀ T : List Int, n.1 ∉ T → (TrnN ns pf al x T ↔ TrnN ns pf al k T) := fun T h => by
    unfold TrnN
    rw [ok.ev hn, ← hk]
    have : trn pf T n.1 = pf n.1 := by unfold trn; rw [decide_eq_false h]; simp
    rw [this]
    split <;> exact Iff.rfl
  have inn : ∀ U : List Int, (TrnN ns pf al x (n.1 :: U) ↔ al n.1 = true ∧ TrnN ns pf al g U) := fun U => by
    have e1 : trn pf (n.1 :: U) n.1 = !pf n.1 := by unfold trn; rw [decide_eq_true List.mem_cons_self]; simp
    have e2 : ev ns (trn pf (n.1 :: U)) x = ev ns (trn pf U) g := by
      rw [ok.ev hn, e1, ← ev_congr ok (f := trn pf (n.1 :: U)) (g := trn pf U) g gl fun y hy m hm => ?_]
      · rw [← hg]
        cases pf n.1 <;> rfl
      · have ne : m.1 ≠ n.1 := by have := hy.up ok ug m hm; omega
        unfold trn
        rw [decide_eq_decide.mpr (show m.1 ∈ n.1 :: U ↔ m.1 ∈ U by simp [ne])]
    unfold TrnN
    rw [e2]
    constructor
    · rintro ⟨a, b⟩
      exact ⟨a n.1 List.mem_cons_self, fun y hy => a y (List.mem_cons_of_mem _ hy), b⟩
    · rintro ⟨a, b, c⟩
      exact ⟨fun y hy => (List.mem_cons.mp hy).elim (fun z => by rw [z]; exact a) fun z => b y z, c⟩
  have lo1 : ∀ T, MinOf (TrnN ns pf al k) T → n.1 ∉ T := fun T h z => by
    have := TrnN.dep ok kl h uk n.1 z
    omega
  -- the sets without n.1
  have w1 : ∀ T, n.1 ∉ T → (MinOf (TrnN ns pf al x) T ↔ MinOf (TrnN ns pf al k) T) := fun T h => by
    constructor
    · rintro ⟨up, f, m⟩
      exact ⟨up, (out T h).mp f, fun U s fU => m U s ((out U fun z => h (s.subset z)).mpr fU)⟩
    · rintro ⟨up, f, m⟩
      exact ⟨up, (out T h).mpr f, fun U s fU => m U s ((out U fun z => h (s.subset z)).mp fU)⟩
  -- those with it
  have w2 : ∀ U : List Int, (∀ y ∈ U, n.1 < y) → (MinOf (TrnN ns pf al x) (n.1 :: U) ↔ al n.1 = true ∧ MinOf (TrnN ns pf al g) U ∧ ∀ m ∈ L1, wit m U = false) := fun U lo => by
    constructor
    · rintro ⟨up, f, m⟩
      obtain ⟨_, u2⟩ := List.pairwise_cons.mp up
      obtain ⟨a, fU⟩ := (inn U).mp f
      refine ⟨a, ⟨u2, fU, fun W s fW => ?_⟩, fun T hT => ?_⟩
      · exact (List.cons_inj_right n.1).mp (m (n.1 :: W) (List.cons_sublist_cons.mpr s) ((inn W).mpr ⟨a, fW⟩))
      · cases c : wit T U with
        | false => rfl
        | true =>
          have mT := (h1.iff T).mp hT
          have e := m T (((wit_sub mT.1 u2).mp c).cons _) ((out T (lo1 T mT)).mpr mT.2.1)
          exact absurd (by rw [e]; exact List.mem_cons_self) (lo1 T mT)
    · rintro ⟨a, ⟨u2, fU, m⟩, no⟩
      refine ⟨List.pairwise_cons.mpr ⟨lo, u2⟩, (inn U).mpr ⟨a, fU⟩, fun V s fV => ?_⟩
      have upV : V.Pairwise (· < ·) := (List.pairwise_cons.mpr ⟨lo, u2⟩ : (n.1 :: U).Pairwise (· < ·)).sublist s
      by_cases q : n.1 ∈ V
      · obtain ⟨W, rfl, _, _⟩ := cons_of upV q fun y hy => by
          rcases List.mem_cons.mp (s.subset hy) with z | z
          · omega
          · have := lo y z; omega
        rw [m W ((sub_of_cons s).2 W rfl) ((inn W).mp fV).2]
      · have sV := (sub_of_cons s).1 q
        obtain ⟨T, sT, mT⟩ := MinOf.below V.length V (Nat.le_refl _) upV ((out V q).mp fV)
        have := no T ((h1.iff T).mpr mT)
        rw [(wit_sub mT.1 u2).mpr (sT.trans sV)] at this
        cases this
  have lo2 : ∀ T, MinOf (TrnN ns pf al x) T → ∀ y ∈ T, n.1 ≤ y := fun T h y hy => by
    have := TrnN.dep ok hx.2 h (le_up hn) y hy
    omega
  by_cases a : al n.1 = true
  · rw [if_pos a]
    refine ⟨nd_join h1.nd (h2.nd.filter _) fun T hT => lo1 T ((h1.iff T).mp hT), fun T => ?_⟩
    rw [List.mem_append, h1.iff]
    constructor
    · rintro (h | h)
      · exact (w1 T (lo1 T h)).mpr h
      · obtain ⟨U, hU, rfl⟩ := List.mem_map.mp h
        obtain ⟨hU, nU⟩ := List.mem_filter.mp hU
        have mU := (h2.iff U).mp hU
        refine (w2 U (TrnN.dep ok gl mU ug)).mpr ⟨a, mU, fun m hm => ?_⟩
        cases c : wit m U with
        | false => rfl
        | true =>
          rw [List.any_eq_true.mpr ⟨m, hm, c⟩] at nU
          cases nU
    · intro h
      by_cases q : n.1 ∈ T
      · obtain ⟨U, rfl, _, lo⟩ := cons_of h.1 q (lo2 T h)
        obtain ⟨_, mU, no⟩ := (w2 U lo).mp h
        refine .inr (List.mem_map.mpr ⟨U, List.mem_filter.mpr ⟨(h2.iff U).mpr mU, ?_⟩, rfl⟩)
        cases c : L1.any fun k => wit k U with
        | false => rfl
        | true =>
          obtain ⟨m, hm, w⟩ := List.any_eq_true.mp c
          rw [no m hm] at w
          cases w
      · exact .inl ((w1 T q).mp h)
  · rw [if_neg a]
    refine ⟨h1.nd, fun T => ?_⟩
    rw [h1.iff]
    constructor
    · exact fun h => (w1 T (lo1 T h)).mpr h
    · intro h
      have q : n.1 ∉ T := fun z => a (h.2.1.1 _ z)
      exact (w1 T q).mp h
/-- the sets of both, joined -/
structure IsU (A B U : List Int) : Prop where
  up : U.Pairwise (· < ·)
  iff : ∀ y, y ∈ U ↔ y ∈ A ∨ y ∈ B
/-- the reasons of a node: M: the sets of both branches, joined -/
theorem FrcN.node (ok : NOk E ns) {x : Nat} {n : Node} (hn : nod ns x = some n) {L1 L2 M : List (List Int)} (h1 : LeastL (FrcN ns pf (if pf n.1 then n.2.2 else n.2.1)) L1) (h2 : LeastL (FrcN ns pf (if pf n.1 then n.2.1 else n.2.2)) L2)
    (hM : ∀ U, U ∈ M ↔ ∃ A ∈ L1, ∃ B ∈ L2, IsU A B U) :
    LeastL (FrcN ns pf x) (lsts M ++ (L1.filter fun m => !(lsts M).any fun k => wit k m).map fun U => n.1 :: U) := by
  obtain ⟨l1, l2, _⟩ := ok.lt x n hn
  obtain ⟨o1, o2⟩ := ok.ord x n hn
  have hx := nod_lt hn
  obtain ⟨k, hk⟩ : ∃ k, (if pf n.1 then n.2.2 else n.2.1) = k := ⟨_, rfl⟩
  obtain ⟨g, hg⟩ : ∃ g, (if pf n.1 then n.2.1 else n.2.2) = g := ⟨_, rfl⟩
  rw [hk] at h1
  rw [hg] at h2
  have uk : Up ns n.1 k := by rw [← hk]; split; exact o2; exact o1
  have ug : Up ns n.1 g := by rw [← hg]; split; exact o1; exact o2
  have kl : k < ns.length + 2 := by rw [← hk]; split <;> omega
  have gl : g < ns.length + 2 := by rw [← hg]; split <;> omega
  have vk : ∀ f : Int → Bool, f n.1 = pf n.1 → ev ns f x = ev ns f k := fun f h => by
    rw [ok.ev hn, h, ← hk]
    split <;> rfl
  have vg : ∀ f : Int → Bool, f n.1 = (!pf n.1) → ev ns f x = ev ns f g := fun f h => by
    rw [ok.ev hn, h, ← hg]
    cases pf n.1 <;> rfl
  have inn : ∀ U : List Int, (FrcN ns pf x (n.1 :: U) ↔ FrcN ns pf k U) := fun U => by
    constructor
    · intro h f hf
      rw [← ev_put ok kl uk (pf n.1) f, ← vk _ (put1_self ..)]
      refine h _ fun y hy => ?_
      by_cases q : y = n.1
      · rw [q, put1_self]
      · rw [put1_ne q]
        exact hf y ((List.mem_cons.mp hy).resolve_left q)
    · intro h f hf
      rw [vk f (hf _ List.mem_cons_self)]
      exact h f fun y hy => hf y (List.mem_cons_of_mem _ hy)
  have out : ∀ T : List Int, n.1 ∉ T → (FrcN ns pf x T ↔ FrcN ns pf k T ∧ FrcN ns pf g T) := fun T h => by
    constructor
    · intro h'
      constructor
      · intro f hf
        rw [← ev_put ok kl uk (pf n.1) f, ← vk _ (put1_self ..)]
        exact h' _ fun y hy => by rw [put1_ne (fun z => h (by rw [← z]; exact hy))]; exact hf y hy
      · intro f hf
        rw [← ev_put ok gl ug (!pf n.1) f, ← vg _ (put1_self ..)]
        exact h' _ fun y hy => by rw [put1_ne (fun z => h (by rw [← z]; exact hy))]; exact hf y hy
    · rintro ⟨a, b⟩ f hf
      by_cases q : f n.1 = pf n.1
      · rw [vk f q]; exact a f hf
      · rw [vg f (by cases c : f n.1 <;> cases d : pf n.1 <;> simp_all)]; exact b f hf
  have lo1 : ∀ T, MinOf (FrcN ns pf k) T → ∀ y ∈ T, n.1 < y := fun T h => FrcN.dep ok kl h uk
  have lo2 : ∀ T, MinOf (FrcN ns pf g) T → ∀ y ∈ T, n.1 < y := fun T h => FrcN.dep ok gl h ug
  have upM : ∀ l ∈ M, l.Pairwise (· < ·) := fun l hl => by
    obtain ⟨A, _, B, _, i⟩ := (hM l).mp hl
    exact i.up
  have loM : ∀ l ∈ M, n.1 ∉ l := fun l hl z => by
    obtain ⟨A, hA, B, hB, i⟩ := (hM l).mp hl
    rcases (i.iff _).mp z with m | m
    · have := lo1 A ((h1.iff A).mp hA) _ m; omega
    · have := lo2 B ((h2.iff B).mp hB) _ m; omega
  have frM : ∀ l ∈ M, FrcN ns pf x l := fun l hl => by
    obtain ⟨A, hA, B, hB, i⟩ := (hM l).mp hl
    exact (out l (loM l hl)).mpr ⟨fun f hf => ((h1.iff A).mp hA).2.1 f fun y hy => hf y ((i.iff y).mpr (.inl hy)), fun f hf => ((h2.iff B).mp hB).2.1 f fun y hy => hf y ((i.iff y).mpr (.inr hy))⟩
  -- below each set that forces without n.1 there is one of M
  have toM : ∀ T : List Int, T.Pairwise (· < ·) → n.1 ∉ T → FrcN ns pf x T → ∃ l ∈ M, l.Sublist T := fun T up h f => by
    obtain ⟨fk, fg⟩ := (out T h).mp f
    obtain ⟨A, sA, mA⟩ := MinOf.below T.length T (Nat.le_refl _) up fk
    obtain ⟨B, sB, mB⟩ := MinOf.below T.length T (Nat.le_refl _) up fg
    have i : IsU A B (T.filter fun y => decide (y ∈ A ∨ y ∈ B)) := ⟨up.sublist List.filter_sublist, fun y => by
      rw [List.mem_filter, decide_eq_true_iff]
      exact ⟨fun z => z.2, fun z => ⟨z.elim (fun m => sA.subset m) fun m => sB.subset m, z⟩⟩⟩
    exact ⟨_, (hM _).mpr ⟨A, (h1.iff A).mpr mA, B, (h2.iff B).mpr mB, i⟩, List.filter_sublist⟩
  obtain ⟨q1, q2⟩ := lsts_spec upM
  generalize lsts M = S at q1 q2
  have w1 : ∀ T, n.1 ∉ T → (MinOf (FrcN ns pf x) T ↔ T ∈ S) := fun T h => by
    rw [q2]
    constructor
    · rintro ⟨up, f, m⟩
      obtain ⟨l, hl, s⟩ := toM T up h f
      have e := m l s (frM l hl)
      rw [e] at hl
      exact ⟨up, hl, fun U s hU => m U s (frM U hU)⟩
    · rintro ⟨up, hT, m⟩
      refine ⟨up, frM T hT, fun U s fU => ?_⟩
      obtain ⟨l, hl, sl⟩ := toM U (up.sublist s) (fun z => h (s.subset z)) fU
      have e := m l (sl.trans s) hl
      rw [e] at sl
      exact s.eq_of_length_le sl.length_le
  have w2 : ∀ U : List Int, (∀ y ∈ U, n.1 < y) → (MinOf (FrcN ns pf x) (n.1 :: U) ↔ MinOf (FrcN ns pf k) U ∧ ∀ m ∈ S, wit m U = false) := fun U lo => by
    constructor
    · rintro ⟨up, f, m⟩
      obtain ⟨_, u2⟩ := List.pairwise_cons.mp up
      refine ⟨⟨u2, (inn U).mp f, fun W s fW => ?_⟩, fun T hT => ?_⟩
      · exact (List.cons_inj_right n.1).mp (m (n.1 :: W) (List.cons_sublist_cons.mpr s) ((inn W).mpr fW))
      · cases c : wit T U with
        | false => rfl
        | true =>
          have mT := (q2 T).mp hT
          have e := m T (((wit_sub mT.1 u2).mp c).cons _) (frM T mT.2.1)
          exact absurd (by rw [e]; exact List.mem_cons_self) (loM T mT.2.1)
    · rintro ⟨⟨u2, fU, m⟩, no⟩
      refine ⟨List.pairwise_cons.mpr ⟨lo, u2⟩, (inn U).mpr fU, fun V s fV => ?_⟩
      have upV : V.Pairwise (· < ·) := (List.pairwise_cons.mpr ⟨lo, u2⟩ : (n.1 :: U).Pairwise (· < ·)).sublist s
      by_cases q : n.1 ∈ V
      · obtain ⟨W, rfl, _, _⟩ := cons_of upV q fun y hy => by
          rcases List.mem_cons.mp (s.subset hy) with z | z
          · omega
          · have := lo y z; omega
        rw [m W ((sub_of_cons s).2 W rfl) ((inn W).mp fV)]
      · have sV := (sub_of_cons s).1 q
        obtain ⟨T, sT, mT⟩ := MinOf.below V.length V (Nat.le_refl _) upV fV
        have qT : n.1 ∉ T := fun z => q (sT.subset z)
        have := no T ((w1 T qT).mp mT)
        rw [(wit_sub mT.1 u2).mpr (sT.trans sV)] at this
        cases this
  have lo3 : ∀ T, MinOf (FrcN ns pf x) T → ∀ y ∈ T, n.1 ≤ y := fun T h y hy => by
    have := FrcN.dep ok hx.2 h (le_up hn) y hy
    omega
  have loS : ∀ T ∈ S, n.1 ∉ T := fun T hT => loM T ((q2 T).mp hT).2.1
  have ndS : S.Nodup := List.Pairwise.imp (fun {a b} (h : setLt a b) (z : a = b) => setLt_irr b (by rw [z] at h; exact h)) q1
  refine ⟨nd_join ndS (h1.nd.filter _) loS, fun T => ?_⟩
  rw [List.mem_append]
  constructor
  · rintro (h | h)
    · exact (w1 T (loS T h)).mpr h
    · obtain ⟨U, hU, rfl⟩ := List.mem_map.mp h
      obtain ⟨hU, nU⟩ := List.mem_filter.mp hU
      have mU := (h1.iff U).mp hU
      refine (w2 U (lo1 U mU)).mpr ⟨mU, fun m hm => ?_⟩
      cases c : wit m U with
      | false => rfl
      | true =>
        rw [List.any_eq_true.mpr ⟨m, hm, c⟩] at nU
        cases nU
  · intro h
    by_cases q : n.1 ∈ T
    · obtain ⟨U, rfl, _, lo⟩ := cons_of h.1 q (lo3 T h)
      obtain ⟨mU, no⟩ := (w2 U lo).mp h
      refine .inr (List.mem_map.mpr ⟨U, List.mem_filter.mpr ⟨(h1.iff U).mpr mU, ?_⟩, rfl⟩)
      cases c : S.any fun k => wit k U with
      | false => rfl
      | true =>
        obtain ⟨m, hm, w⟩ := List.any_eq_true.mp c
        rw [no m hm] at w
        cases w
    · exact .inl ((w1 T q).mp h)
/-- at most 2 ^ n of them -/
theorem LeastL.few {F : List Int → Prop} {LL : List (List Int)} {D : List Int} (h : LeastL F LL) (upD : D.Pairwise (· < ·)) (hD : ∀ T, MinOf F T → ∀ y ∈ T, y ∈ D) : LL.length ≤ 2 ^ D.length := by
  rw [← subs_len]
  refine nd_len h.nd fun T hT => ?_
  have m := (h.iff T).mp hT
  exact subs_iff.mpr (asc_sub upD m.1 (hD T m))
end

/-! ### tables of truth, in plain Lean -/
def tab (E : List Int) (h : (Int → Bool) → Bool) : List Bool := (subs E).map fun p => h (memf p)
theorem tab_len (E : List Int) (h : (Int → Bool) → Bool) : (tab E h).length = 2 ^ E.length := by
  unfold tab
  rw [List.length_map, subs_len]
theorem bits {k c r q : Nat} (hc : c < 2) (hr : r < 2 ^ k) (j : Nat) : (2 ^ (k + 1) * q + 2 ^ k * c + r) / 2 ^ j % 2 = if j < k then r / 2 ^ j % 2 else if j = k then c else q / 2 ^ (j - k - 1) % 2 := by
  by_cases h1 : j < k
  · rw [if_pos h1]
    obtain ⟨m, rfl⟩ : ∃ m, k = j + m + 1 := ⟨k - j - 1, by omega⟩
    have e : 2 ^ (j + m + 1 + 1) * q + 2 ^ (j + m + 1) * c + r = r + 2 ^ j * (2 * (2 ^ m * (2 * q + c))) := by
      rw [Nat.pow_succ, Nat.pow_succ, Nat.pow_add]
      generalize 2 ^ j = A
      generalize 2 ^ m = B
      grind
    rw [e, Nat.add_mul_div_left _ _ (Nat.two_pow_pos j)]
    omega
  · rw [if_neg h1]
    by_cases h2 : j = k
    · subst h2
      rw [if_pos rfl]
      have e : 2 ^ (j + 1) * q + 2 ^ j * c + r = r + 2 ^ j * (2 * q + c) := by
        rw [Nat.pow_succ, Nat.mul_add, Nat.mul_assoc]
        omega
      rw [e, Nat.add_mul_div_left _ _ (Nat.two_pow_pos j), Nat.div_eq_of_lt hr]
      omega
    · rw [if_neg h2]
      obtain ⟨m, rfl⟩ : ∃ m, j = k + 1 + m := ⟨j - k - 1, by omega⟩
      have lt : 2 ^ k * c + r < 2 ^ (k + 1) := by
        rw [Nat.pow_succ]
        have : 2 ^ k * c ≤ 2 ^ k * 1 := Nat.mul_le_mul_left _ (by omega)
        omega
      rw [Nat.pow_add 2 (k + 1) m, ← Nat.div_div_eq_div_mul, show 2 ^ (k + 1) * q + 2 ^ k * c + r = (2 ^ k * c + r) + 2 ^ (k + 1) * q by omega, Nat.add_mul_div_left _ _ (Nat.two_pow_pos _), Nat.div_eq_of_lt lt, show k + 1 + m - k - 1 = m by omega, Nat.zero_add]
theorem subs_get {E : List Int} : ∀ {i : Nat}, i < 2 ^ E.length → ∃ p, (subs E)[i]? = some p ∧ ∀ y, y ∈ p ↔ ∃ j, E[j]? = some y ∧ i / 2 ^ j % 2 = 1 := by
  induction E using snoc_ind with
  | h0 =>
    intro i h
    have : i = 0 := by simpa using h
    subst this
    exact ⟨[], rfl, fun y => by simp⟩
  | h1 E e ih =>
    intro i h
    rw [List.length_append, List.length_singleton, Nat.pow_succ] at h
    rw [subs_snoc]
    have at_ : ∀ j y, (E ++ [e])[j]? = some y ↔ (j < E.length ∧ E[j]? = some y) ∨ (j = E.length ∧ y = e) := fun j y => by
      by_cases c : j < E.length
      · rw [List.getElem?_append_left c]
        constructor
        · exact fun z => .inl ⟨c, z⟩
        · rintro (z | z)
          · exact z.2
          · omega
      · rw [List.getElem?_append_right (by omega)]
        constructor
        · intro z
          have hl := (List.getElem?_eq_some_iff.mp z).1
          rw [List.length_singleton] at hl
          have ej : j = E.length := by omega
          rw [ej, Nat.sub_self] at z
          exact .inr ⟨ej, (Option.some.inj z).symm⟩
        · rintro (z | z)
          · omega
          · rw [z.1, z.2, Nat.sub_self]
            rfl
    by_cases c : i < 2 ^ E.length
    · obtain ⟨p, hp, m⟩ := ih c
      refine ⟨p, by rw [List.getElem?_append_left (by rw [subs_len]; exact c)]; exact hp, fun y => ?_⟩
      rw [m]
      constructor
      · rintro ⟨j, a, b⟩
        exact ⟨j, (at_ j y).mpr (.inl ⟨(List.getElem?_eq_some_iff.mp a).1, a⟩), b⟩
      · rintro ⟨j, a, b⟩
        rcases (at_ j y).mp a with z | z
        · exact ⟨j, z.2, b⟩
        · rw [z.1, Nat.div_eq_of_lt c] at b
          cases b
    · obtain ⟨i', rfl⟩ : ∃ i', i = 2 ^ E.length + i' := ⟨i - 2 ^ E.length, by omega⟩
      have hi' : i' < 2 ^ E.length := by omega
      obtain ⟨p, hp, m⟩ := ih hi'
      have bt : ∀ j, (2 ^ E.length + i') / 2 ^ j % 2 = if j < E.length then i' / 2 ^ j % 2 else if j = E.length then 1 else 0 / 2 ^ (j - E.length - 1) % 2 := fun j => by
        have := bits (k := E.length) (c := 1) (r := i') (q := 0) (by omega) hi' j
        rw [Nat.mul_zero, Nat.zero_add, Nat.mul_one] at this
        exact this
      refine ⟨p ++ [e], by rw [List.getElem?_append_right (by rw [subs_len]; omega), subs_len, List.getElem?_map, show 2 ^ E.length + i' - 2 ^ E.length = i' by omega, hp]; rfl, fun y => ?_⟩
      rw [List.mem_append, List.mem_singleton, m]
      constructor
      · rintro (⟨j, a, b⟩ | rfl)
        · have hj := (List.getElem?_eq_some_iff.mp a).1
          exact ⟨j, (at_ j y).mpr (.inl ⟨hj, a⟩), by rw [bt, if_pos hj]; exact b⟩
        · exact ⟨E.length, (at_ _ _).mpr (.inr ⟨rfl, rfl⟩), by rw [bt, if_neg (Nat.lt_irrefl _), if_pos rfl]⟩
      · rintro ⟨j, a, b⟩
        rcases (at_ j y).mp a with z | z
        · rw [bt, if_pos z.1] at b
          exact .inl ⟨j, z.2, b⟩
        · exact .inr z.2
/-- the place that the fixed table looks at -/
def fixI (i k b : Nat) : Nat := (if i / 2 ^ k % 2 = 1 then i - 2 ^ k else i) + 2 ^ k * b
theorem fixI_eq (i k b : Nat) : fixI i k b = 2 ^ (k + 1) * (i / 2 ^ (k + 1)) + 2 ^ k * b + i % 2 ^ k := by
  have h1 := Nat.div_add_mod i (2 ^ (k + 1))
  have h2 : i % 2 ^ (k + 1) = i % 2 ^ k + 2 ^ k * (i / 2 ^ k % 2) := by rw [Nat.pow_succ, Nat.mod_mul]
  have h3 : i / 2 ^ k % 2 < 2 := Nat.mod_lt _ (by omega)
  unfold fixI
  generalize 2 ^ (k + 1) * (i / 2 ^ (k + 1)) = A at h1 ⊢
  generalize i % 2 ^ (k + 1) = B at h1 h2
  by_cases c : i / 2 ^ k % 2 = 1
  · rw [if_pos c]
    rw [c, Nat.mul_one] at h2
    omega
  · rw [if_neg c]
    rw [show i / 2 ^ k % 2 = 0 by omega, Nat.mul_zero] at h2
    omega
theorem fixI_bits {i k b : Nat} (hb : b < 2) (j : Nat) : fixI i k b / 2 ^ j % 2 = if j = k then b else i / 2 ^ j % 2 := by
  have h3 : i / 2 ^ k % 2 < 2 := Nat.mod_lt _ (by omega)
  have h4 : i % 2 ^ k < 2 ^ k := Nat.mod_lt _ (Nat.two_pow_pos k)
  have e : i = 2 ^ (k + 1) * (i / 2 ^ (k + 1)) + 2 ^ k * (i / 2 ^ k % 2) + i % 2 ^ k := by
    have h1 := Nat.div_add_mod i (2 ^ (k + 1))
    have h2 : i % 2 ^ (k + 1) = i % 2 ^ k + 2 ^ k * (i / 2 ^ k % 2) := by rw [Nat.pow_succ, Nat.mod_mul]
    omega
  have b1 := bits (q := i / 2 ^ (k + 1)) hb h4 j
  have b2 := bits (q := i / 2 ^ (k + 1)) h3 h4 j
  rw [← e] at b2
  rw [fixI_eq, b1]
  by_cases c1 : j < k
  · rw [if_pos c1] at b2 ⊢
    rw [if_neg (by omega), b2]
  · rw [if_neg c1] at b2 ⊢
    by_cases c2 : j = k
    · rw [if_pos c2, if_pos c2]
    · rw [if_neg c2] at b2 ⊢
      rw [if_neg c2, b2]
theorem fixI_lt {i k b n : Nat} (hb : b < 2) (hk : k < n) (hi : i < 2 ^ n) : fixI i k b < 2 ^ n := by
  obtain ⟨m, rfl⟩ : ∃ m, n = (k + 1) + m := ⟨n - k - 1, by omega⟩
  have h4 : i % 2 ^ k < 2 ^ k := Nat.mod_lt _ (Nat.two_pow_pos k)
  have hq : i / 2 ^ (k + 1) < 2 ^ m := by
    rw [Nat.div_lt_iff_lt_mul (Nat.two_pow_pos _), Nat.mul_comm, ← Nat.pow_add]
    exact hi
  have h5 : 2 ^ k * b ≤ 2 ^ k * 1 := Nat.mul_le_mul_left _ (by omega)
  have h6 : 2 ^ (k + 1) * (i / 2 ^ (k + 1) + 1) ≤ 2 ^ (k + 1) * 2 ^ m := Nat.mul_le_mul_left _ hq
  have h7 : 2 ^ (k + 1) = 2 ^ k * 2 := Nat.pow_succ ..
  rw [fixI_eq, Nat.pow_add 2 (k + 1) m]
  rw [Nat.mul_add, Nat.mul_one] at h6
  generalize 2 ^ (k + 1) * (i / 2 ^ (k + 1)) = A at h6 ⊢
  generalize 2 ^ (k + 1) * 2 ^ m = B at h6 ⊢
  generalize 2 ^ k * b = D at h5 ⊢
  omega
/-- h, with e fixed -/
def fx (e : Int) (b : Bool) (h : (Int → Bool) → Bool) : (Int → Bool) → Bool := fun f => h (put1 e b f)
theorem tab_fix {E : List Int} (nd : E.Nodup) {k : Nat} {e : Int} (he : E[k]? = some e) (h : (Int → Bool) → Bool) {b : Nat} (hb : b < 2) {i : Nat} (hi : i < 2 ^ E.length) : (tab E h)[fixI i k b]? = (tab E (fx e (decide (b = 1)) h))[i]? := by
  have hk := (List.getElem?_eq_some_iff.mp he).1
  obtain ⟨p, hp, mp⟩ := subs_get hi
  obtain ⟨p', hp', mp'⟩ := subs_get (fixI_lt hb hk hi)
  unfold tab fx
  rw [List.getElem?_map, List.getElem?_map, hp, hp']
  have : memf p' = put1 e (decide (b = 1)) (memf p) := by
    funext y
    unfold memf
    by_cases q : y = e
    · subst q
      rw [put1_self]
      refine decide_eq_decide.mpr ?_
      rw [mp']
      constructor
      · rintro ⟨j, a, c⟩
        have ej : j = k := (List.getElem?_inj (List.getElem?_eq_some_iff.mp a).1 nd).mp (a.trans he.symm)
        rw [ej, fixI_bits hb, if_pos rfl] at c
        exact c
      · intro c
        exact ⟨k, he, by rw [fixI_bits hb, if_pos rfl]; exact c⟩
    · rw [put1_ne q]
      refine decide_eq_decide.mpr ?_
      rw [mp', mp]
      constructor
      · rintro ⟨j, a, c⟩
        have nj : j ≠ k := fun z => by rw [z, he] at a; exact q (Option.some.inj a).symm
        rw [fixI_bits hb, if_neg nj] at c
        exact ⟨j, a, c⟩
      · rintro ⟨j, a, c⟩
        have nj : j ≠ k := fun z => by rw [z, he] at a; exact q (Option.some.inj a).symm
        exact ⟨j, a, by rw [fixI_bits hb, if_neg nj]; exact c⟩
  show some (h (memf p')) = some (h (put1 e (decide (b = 1)) (memf p)))
  rw [this]
/-- h asks no more than E -/
def Only (E : List Int) (h : (Int → Bool) → Bool) : Prop := ∀ f f' : Int → Bool, (∀ y ∈ E, f y = f' y) → h f = h f'
theorem Only.fx {E : List Int} {h : (Int → Bool) → Bool} (o : Only E h) (e : Int) (b : Bool) : Only E (fx e b h) := fun f f' q => o _ _ fun y hy => by
  by_cases c : y = e
  · rw [c, put1_self, put1_self]
  · rw [put1_ne c, put1_ne c, q y hy]
theorem tab_inj {E : List Int} (up : E.Pairwise (· < ·)) {h h' : (Int → Bool) → Bool} (o : Only E h) (o' : Only E h') (e : tab E h = tab E h') : h = h' := by
  funext f
  have hm : E.filter f ∈ subs E := subs_iff.mpr List.filter_sublist
  obtain ⟨i, hi⟩ := List.mem_iff_getElem?.mp hm
  have h1 : (tab E h)[i]? = some (h (memf (E.filter f))) := by unfold tab; rw [List.getElem?_map, hi]; rfl
  have h2 : (tab E h')[i]? = some (h' (memf (E.filter f))) := by unfold tab; rw [List.getElem?_map, hi]; rfl
  rw [e, h2] at h1
  have q : ∀ y ∈ E, f y = memf (E.filter f) y := fun y hy => by
    unfold memf
    cases c : f y with
    | true => exact (decide_eq_true (List.mem_filter.mpr ⟨hy, c⟩)).symm
    | false => exact (decide_eq_false fun z => by rw [(List.mem_filter.mp z).2] at c; cases c).symm
  rw [o f _ q, o' f _ q]
  exact (Option.some.inj h1).symm
def Ind1 (h : (Int → Bool) → Bool) (e : Int) : Prop := fx e false h = fx e true h
theorem Ind1.put {h : (Int → Bool) → Bool} {e : Int} (i : Ind1 h e) (b : Bool) (f : Int → Bool) : h (put1 e b f) = h f := by
  have e1 : ∀ c, h (put1 e c f) = h (put1 e b f) := fun c => by
    have := congrFun i f
    unfold fx at this
    cases b <;> cases c <;> first | rfl | exact this | exact this.symm
  rw [← e1 (f e)]
  congr 1
  funext y
  by_cases q : y = e
  · rw [q, put1_self]
  · rw [put1_ne q]
/-- e, the k-th, is the first of E that h asks -/
structure TopAt (E : List Int) (h : (Int → Bool) → Bool) (k : Nat) (e : Int) : Prop where
  at_ : E[k]? = some e
  dep : ¬ Ind1 h e
  low : ∀ (j : Nat) (e' : Int), j < k → E[j]? = some e' → Ind1 h e'
theorem TopAt.uniq {E : List Int} {h : (Int → Bool) → Bool} {k k' : Nat} {e e' : Int} (a : TopAt E h k e) (b : TopAt E h k' e') : k = k' ∧ e = e' := by
  have ek : k = k' := by
    by_cases c : k < k'
    · exact absurd (b.low k e c a.at_) a.dep
    · by_cases d : k' < k
      · exact absurd (a.low k' e' d b.at_) b.dep
      · omega
  subst ek
  have := a.at_.symm.trans b.at_
  exact ⟨rfl, Option.some.inj this⟩
/-- what one comes to from g, the first that is asked fixed each time -/
inductive Cof (E : List Int) (g : (Int → Bool) → Bool) : ((Int → Bool) → Bool) → Prop where
  | refl : Cof E g g
  | step {h : (Int → Bool) → Bool} {k : Nat} {e : Int} (b : Bool) : Cof E g h → TopAt E h k e → Cof E g (fx e b h)
theorem Cof.only {E : List Int} {g h : (Int → Bool) → Bool} (c : Cof E g h) (o : Only E g) : Only E h := by
  induction c with
  | refl => exact o
  | step b _ _ ih => exact ih.fx _ b
/-- a condition's nodes are just these -/
theorem cof_node {E : List Int} {ns : List Node} (up : E.Pairwise (· < ·)) (ok : NOk E ns) {c : Nat} (hc : c < ns.length + 2) (h : (Int → Bool) → Bool) : (Cof E (fun f => ev ns f c) h ∧ ∃ k e, TopAt E h k e) ↔ ∃ x, Rch ns c x ∧ 2 ≤ x ∧ (fun f => ev ns f x) = h := by
  have hrl : ∀ {x}, Rch ns c x → x < ns.length + 2 := fun {x} r => by have := r.le ok; omega
  have kid : ∀ {x : Nat} {n : Node}, nod ns x = some n → (fx n.1 false fun f => ev ns f x) = (fun f => ev ns f n.2.1) ∧ (fx n.1 true fun f => ev ns f x) = fun f => ev ns f n.2.2 := fun {x n} hn => ⟨funext fun f => (ok.kid1 hn f).1, funext fun f => (ok.kid1 hn f).2⟩
  have top : ∀ {x : Nat} {n : Node}, x < ns.length + 2 → nod ns x = some n → ∃ k, TopAt E (fun f => ev ns f x) k n.1 := fun {x n} hx hn => by
    obtain ⟨k, hk⟩ := List.mem_iff_getElem?.mp (ok.en x n hn)
    refine ⟨k, hk, fun i => ?_, fun j e' hj he' => ?_⟩
    · obtain ⟨f, hf⟩ := dep_top ok hn
      exact hf (congrFun i f).symm
    · have lt : e' < n.1 := by
        have h1 := (List.getElem?_eq_some_iff.mp hk)
        have h2 := (List.getElem?_eq_some_iff.mp he')
        have := List.pairwise_iff_getElem.mp up j k h2.1 h1.1 hj
        rw [h1.2, h2.2] at this
        exact this
      have u : Up ns e' x := fun m hm => by rw [hn] at hm; cases hm; exact lt
      funext f
      show ev ns (put1 e' false f) x = ev ns (put1 e' true f) x
      rw [ev_put ok hx u, ev_put ok hx u]
  have cst : ∀ {x k : Nat} {e : Int}, x < 2 → ¬ TopAt E (fun f => ev ns f x) k e := fun {x k e} hx t => by
    refine t.dep ?_
    have : x = 0 ∨ x = 1 := by omega
    rcases this with rfl | rfl
    · funext f; show ev ns _ 0 = ev ns _ 0; rw [ev_zero, ev_zero]
    · funext f; show ev ns _ 1 = ev ns _ 1; rw [ev_one, ev_one]
  have all : ∀ h, Cof E (fun f => ev ns f c) h → ∃ x, (Rch ns c x ∨ x < 2) ∧ (fun f => ev ns f x) = h := fun h q => by
    induction q with
    | refl => exact ⟨c, .inl .refl, rfl⟩
    | @step h k e b _ t ih =>
      obtain ⟨x, rx, ex⟩ := ih
      subst ex
      by_cases x2 : 2 ≤ x
      · have rx : Rch ns c x := rx.resolve_right (by omega)
        have hx := hrl rx
        obtain ⟨n, hn⟩ := nod_some hx x2
        obtain ⟨k', t'⟩ := top hx hn
        obtain ⟨_, ee⟩ := t.uniq t'
        subst ee
        obtain ⟨k1, k2⟩ := kid hn
        cases b with
        | false =>
          rw [k1]
          by_cases y2 : 2 ≤ n.2.1
          · exact ⟨n.2.1, .inl (.step rx ((kids_mem hn).1 y2)), rfl⟩
          · exact ⟨n.2.1, .inr (by omega), rfl⟩
        | true =>
          rw [k2]
          by_cases y2 : 2 ≤ n.2.2
          · exact ⟨n.2.2, .inl (.step rx ((kids_mem hn).2 y2)), rfl⟩
          · exact ⟨n.2.2, .inr (by omega), rfl⟩
      · exact absurd t (cst (by omega))
  constructor
  · rintro ⟨q, k, e, t⟩
    obtain ⟨x, rx, rfl⟩ := all h q
    by_cases x2 : 2 ≤ x
    · exact ⟨x, rx.resolve_right (by omega), x2, rfl⟩
    · exact absurd t (cst (by omega))
  · rintro ⟨x, rx, x2, rfl⟩
    obtain ⟨n, hn⟩ := nod_some (hrl rx) x2
    obtain ⟨k, t⟩ := top (hrl rx) hn
    refine ⟨?_, k, _, t⟩
    clear t hn n k x2
    induction rx with
    | refl => exact .refl
    | @step x y rx hk ih =>
      obtain ⟨n, hn, hy, _⟩ := mem_kids hk
      obtain ⟨k, t⟩ := top (hrl rx) hn
      obtain ⟨k1, k2⟩ := kid hn
      rcases hy with rfl | rfl
      · rw [← k1]; exact .step false ih t
      · rw [← k2]; exact .step true ih t
/-! #### at most 2 ^ (n + 1) of them -/
def pfx : List Int → ((Int → Bool) → Bool) → List ((Int → Bool) → Bool)
  | [], g => [g]
  | e :: E, g => g :: (pfx E (fx e false g) ++ pfx E (fx e true g))
theorem pfx_len : ∀ (E : List Int) (g : (Int → Bool) → Bool), (pfx E g).length + 1 = 2 ^ (E.length + 1)
  | [], _ => rfl
  | e :: E, g => by
    have h1 := pfx_len E (fx e false g)
    have h2 := pfx_len E (fx e true g)
    rw [pfx, List.length_cons, List.length_append, List.length_cons, Nat.pow_succ]
    omega
theorem pfx_self : ∀ (E : List Int) (g : (Int → Bool) → Bool), g ∈ pfx E g
  | [], _ => List.mem_singleton.mpr rfl
  | _ :: _, _ => List.mem_cons_self
theorem ind_fx {h : (Int → Bool) → Bool} {e e' : Int} (ne : e ≠ e') (b : Bool) (i : Ind1 h e) : Ind1 (fx e' b h) e := by
  funext f
  show h (put1 e' b (put1 e false f)) = h (put1 e' b (put1 e true f))
  rw [put1_comm (Ne.symm ne), put1_comm (Ne.symm ne)]
  exact congrFun i _
theorem ind_self (h : (Int → Bool) → Bool) (e : Int) (b : Bool) : Ind1 (fx e b h) e := by
  funext f
  show h (put1 e b (put1 e false f)) = h (put1 e b (put1 e true f))
  congr 1
  funext y
  by_cases q : y = e
  · rw [q, put1_self, put1_self]
  · rw [put1_ne q, put1_ne q, put1_ne q, put1_ne q]
theorem pfx_ind {e : Int} : ∀ {E : List Int} {g h : (Int → Bool) → Bool}, e ∉ E → Ind1 g e → h ∈ pfx E g → Ind1 h e
  | [], g, h, _, i, m => by rw [List.mem_singleton.mp m]; exact i
  | e' :: E, g, h, n, i, m => by
    obtain ⟨n1, n2⟩ : e ≠ e' ∧ e ∉ E := by simpa using n
    rcases List.mem_cons.mp m with rfl | m
    · exact i
    · rcases List.mem_append.mp m with m | m
      · exact pfx_ind n2 (ind_fx n1 _ i) m
      · exact pfx_ind n2 (ind_fx n1 _ i) m
theorem fx_ind {h : (Int → Bool) → Bool} {e : Int} (i : Ind1 h e) (b : Bool) : fx e b h = h := funext fun f => i.put b f
theorem pfx_step : ∀ {E : List Int} {g h : (Int → Bool) → Bool} {k : Nat} {e : Int} (b : Bool), E.Nodup → h ∈ pfx E g → TopAt E h k e → fx e b h ∈ pfx E g
  | [], _, _, k, _, _, _, _, t => by have := t.at_; simp at this
  | e0 :: E, g, h, k, e, b, nd, m, t => by
    obtain ⟨n1, n2⟩ := List.nodup_cons.mp nd
    have low : ∀ {k'}, k = k' + 1 → TopAt E h k' e := fun {k'} z => by
      subst z
      exact ⟨by simpa using t.at_, t.dep, fun j e' hj he' => t.low (j + 1) e' (by omega) (by simpa using he')⟩
    rw [pfx]
    rcases List.mem_cons.mp m with rfl | m
    · cases k with
      | zero =>
        have : e0 = e := by simpa using t.at_
        subst this
        refine List.mem_cons_of_mem _ (List.mem_append.mpr ?_)
        cases b
        · exact .inl (pfx_self ..)
        · exact .inr (pfx_self ..)
      | succ k =>
        have i0 : Ind1 h e0 := t.low 0 e0 (by omega) rfl
        have e1 := fx_ind i0 false
        refine List.mem_cons_of_mem _ (List.mem_append_left _ ?_)
        rw [e1]
        exact pfx_step b n2 (pfx_self E h) (low rfl)
    · have i0 : Ind1 h e0 := by
        rcases List.mem_append.mp m with m | m
        · exact pfx_ind n1 (ind_self ..) m
        · exact pfx_ind n1 (ind_self ..) m
      cases k with
      | zero =>
        have : e0 = e := by simpa using t.at_
        subst this
        exact absurd i0 t.dep
      | succ k =>
        refine List.mem_cons_of_mem _ (List.mem_append.mpr ?_)
        exact (List.mem_append.mp m).imp (fun m => pfx_step b n2 m (low rfl)) fun m => pfx_step b n2 m (low rfl)
theorem Cof.mem {E : List Int} {g h : (Int → Bool) → Bool} (nd : E.Nodup) (c : Cof E g h) : h ∈ pfx E g := by
  induction c with
  | refl => exact pfx_self E g
  | step b _ t ih => exact pfx_step b nd ih t
/-- tables that one comes to: at most 64 -/
theorem tabs_few {E : List Int} {g : (Int → Bool) → Bool} {L : List (List Bool)} (nd : E.Nodup) (lE : E.length ≤ 5) (n : L.Nodup) (h : ∀ t ∈ L, ∃ h, Cof E g h ∧ t = tab E h) : L.length ≤ 64 := by
  have h1 := nd_len (D := (pfx E g).map (tab E)) n fun t ht => by
    obtain ⟨q, c, rfl⟩ := h t ht
    exact List.mem_map.mpr ⟨q, c.mem nd, rfl⟩
  have h2 := pfx_len E g
  have h3 : 2 ^ (E.length + 1) ≤ 2 ^ 6 := Nat.pow_le_pow_right (by omega) (by omega)
  rw [List.length_map] at h1
  omega

/-! ### least sets, by the text: lists of sets that are lists (the law's) or tuples (the program's) -/
/-- some sets at as -/
def Els (ob : List V → HO) (H : Hp) (as : List Addr) (LL : List (List Int)) : Prop := as.length = LL.length ∧ ∀ (i : Nat) (a : Addr) (l : List Int), as[i]? = some a → LL[i]? = some l → H a = some (ob (l.map V.int))
/-- a list of sets -/
def SetsO (ob : List V → HO) (H : Hp) (r : Addr) (LL : List (List Int)) : Prop := ∃ as : List Addr, H r = some (.lst (as.map V.ref)) ∧ Els ob H as LL
theorem Els.kp {ob : List V → HO} {H H' : Hp} {as : List Addr} {LL : List (List Int)} (h : Els ob H as LL) (k : Kp [] H H') : Els ob H' as LL := ⟨h.1, fun i a l x y => k.k _ _ (h.2 i a l x y) (by simp)⟩
theorem Els.nil {ob : List V → HO} {H : Hp} : Els ob H [] [] := ⟨rfl, fun i a l x => by simp at x⟩
theorem Els.snoc {ob : List V → HO} {H : Hp} {as : List Addr} {LL : List (List Int)} {a : Addr} {l : List Int} (h : Els ob H as LL) (ha : H a = some (ob (l.map V.int))) : Els ob H (as ++ [a]) (LL ++ [l]) := by
  refine ⟨by rw [List.length_append, List.length_append, h.1]; rfl, fun i b x p q => ?_⟩
  by_cases hi : i < as.length
  · rw [List.getElem?_append_left hi] at p
    rw [List.getElem?_append_left (by rw [← h.1]; exact hi)] at q
    exact h.2 i b x p q
  · have hl := (List.getElem?_eq_some_iff.mp p).1
    rw [List.length_append, List.length_singleton] at hl
    have ei : i = as.length := by omega
    subst ei
    rw [List.getElem?_append_right (Nat.le_refl _), Nat.sub_self] at p
    rw [h.1, List.getElem?_append_right (Nat.le_refl _), Nat.sub_self] at q
    cases p
    cases q
    exact ha
theorem Els.append {ob : List V → HO} {H : Hp} {as bs : List Addr} {LL MM : List (List Int)} (h : Els ob H as LL) (k : Els ob H bs MM) : Els ob H (as ++ bs) (LL ++ MM) := by
  refine ⟨by rw [List.length_append, List.length_append, h.1, k.1], fun i b x p q => ?_⟩
  by_cases hi : i < as.length
  · rw [List.getElem?_append_left hi] at p
    rw [List.getElem?_append_left (by rw [← h.1]; exact hi)] at q
    exact h.2 i b x p q
  · rw [List.getElem?_append_right (by omega)] at p
    rw [List.getElem?_append_right (by rw [← h.1]; omega), ← h.1] at q
    exact k.2 _ b x p q
/-- the one at i -/
theorem Els.at {ob : List V → HO} {H : Hp} {as : List Addr} {LL : List (List Int)} (h : Els ob H as LL) {i : Nat} {a : Addr} (ha : as[i]? = some a) : ∃ l, LL[i]? = some l ∧ H a = some (ob (l.map V.int)) := by
  have hi : i < LL.length := by rw [← h.1]; exact (List.getElem?_eq_some_iff.mp ha).1
  exact ⟨_, List.getElem?_eq_getElem hi, h.2 i a _ ha (List.getElem?_eq_getElem hi)⟩
theorem SetsO.kp {ob : List V → HO} {H H' : Hp} {r : Addr} {LL : List (List Int)} (h : SetsO ob H r LL) (k : Kp [] H H') : SetsO ob H' r LL := by
  obtain ⟨as, h1, h2⟩ := h
  exact ⟨as, k.k _ _ h1 (by simp), h2.kp k⟩
theorem lt_line {n : Nat} (h : n ≤ 100000) : n < sizeLine := Nat.lt_of_le_of_lt h (by decide)
theorem fl_no {α : Type} {l : List α} {i : Nat} {x : α} {p : α → Bool} (h : l[i]? = some x) (hp : p x = false) : (l.take (i + 1)).filter p = (l.take i).filter p := by
  rw [takeS h, List.filter_append, List.filter_cons, hp, if_neg Bool.false_ne_true, List.filter_nil, List.append_nil]
theorem fl_yes {α : Type} {l : List α} {i : Nat} {x : α} {p : α → Bool} (h : l[i]? = some x) (hp : p x = true) : (l.take (i + 1)).filter p = (l.take i).filter p ++ [x] := by
  rw [takeS h, List.filter_append, List.filter_cons, if_pos hp, List.filter_nil]
theorem any_take {α : Type} {p : α → Bool} {l : List α} {i : Nat} {x : α} (h : l[i]? = some x) : (l.take (i + 1)).map p = (l.take i).map p ++ [p x] := by
  rw [takeS h, List.map_append]
  rfl
section
variable {X : Cx} {K : PySem.W.Frag} {e : Expr} {ta : TE}
theorem bx_plist {tg : Expr} (hK : X.K = K) (hl : PE X e ta) : PI X tg e (iList K ta) := hK ▸ pi_list hl
theorem bx_pitup {tg : Expr} (hK : X.K = K) (hl : PE X e ta) : PI X tg e (iTup K ta) := hK ▸ pi_tup hl
theorem bx_all (hK : X.K = K) (hc : X.calm = true) : CallR X (.builtin "all") (rAll K) := hK ▸ cr_all hc
theorem bx_any (hK : X.K = K) (hc : X.calm = true) : CallR X (.builtin "any") (rAny K) := hK ▸ cr_any hc
end
/-- a set as a key -/
def keyDL (S : List Int) : PyData := .tuple [.int S.length, .list (S.map .int)]
theorem keyDL_dp (S : List Int) : (keyDL S).depth ≤ 10 := by
  unfold keyDL
  simp only [PyData.depth, PyData.depthAll]
  have : PyData.depthAll (S.map .int) = 0 := PySem.W.depth_ints S
  rw [this]
  decide
theorem keyDL_al (S T : List Int) : PySem.W.alike (keyDL S) (keyDL T) = true := by
  unfold keyDL
  have := PySem.W.alike_ints S T
  simp only [PySem.W.alike, PySem.W.alikeAll, this, Bool.and_self]
def spKeyL : Sp := fun vs H Q _ => ∃ (l : Addr) (T : List Int), vs = [.ref l] ∧ H l = some (.lst (T.map V.int)) ∧ ∀ p, H p = none → Q (.ref p) (upd H p (.tup [.int T.length, .ref l]))
def spWitL : Sp := fun vs H Q _ => ∃ (a b : Addr) (S T : List Int), vs = [.ref a, .ref b] ∧ H a = some (.lst (S.map V.int)) ∧ H b = some (.lst (T.map V.int)) ∧ S.length ≤ 900 ∧ ∀ G, Kp [] H G → Q (.bl (wit S T)) G
def spLeastL : Sp := fun vs H Q _ => ∃ (r : Addr) (LL : List (List Int)), vs = [.ref r] ∧ SetsO .lst H r LL ∧ LL.length ≤ 100000 ∧ (∀ l ∈ LL, l.length ≤ 900) ∧ ∀ (p : Addr) (G : Hp), H p = none → Kp [] H G → SetsO .lst G p (lsts LL) → Q (.ref p) G
/-- what sorted(r, key=..) asks -/
theorem sort_byL {H : Hp} {r : Addr} {LL : List (List Int)} {Q : VK} (hL : SetsO .lst H r LL) (q : ∀ (G : Hp) (p : Addr), Kp [] H G → H p = none → SetsO .lst G p (LL.mergeSort setLe) → Q (.ref p) G) : rSF spKeyL (.ref r) H Q := by
  obtain ⟨as, hr, hl, hs⟩ := hL
  have hz : ∀ b ∈ (as.zip LL), H b.1 = some (.lst (b.2.map V.int)) := fun b hb => by
    obtain ⟨i, hi⟩ := List.mem_iff_getElem?.mp hb
    obtain ⟨h1, h2⟩ := List.getElem?_zip_eq_some.mp hi
    exact hs i b.1 b.2 h1 h2
  obtain ⟨cs, hcs⟩ : ∃ cs, as.zip LL = cs := ⟨_, rfl⟩
  have e1 : cs.map Prod.fst = as := by rw [← hcs]; exact zip_fst hl
  have e2 : cs.map Prod.snd = LL := by rw [← hcs]; exact zip_snd hl
  rw [hcs] at hz
  have ms : ((cs.map fun c => (V.ref c.1, keyDL c.2)).mergeSort (PySem.W.dataLe false Prod.snd)) = (cs.mergeSort fun a b => setLe a.2 b.2).map fun c => (V.ref c.1, keyDL c.2) := by
    refine (List.map_mergeSort (r := fun a b => setLe a.2 b.2) (s := PySem.W.dataLe false Prod.snd) (f := fun c : Addr × List Int => (V.ref c.1, keyDL c.2)) fun a _ b _ => ?_).symm
    show setLe a.2 b.2 = !PySem.W.dataLt (keyDL b.2) (keyDL a.2)
    unfold setLe keyDL
    rw [lt_set]
  have ms2 : (cs.mergeSort fun a b => setLe a.2 b.2).map Prod.snd = LL.mergeSort setLe := by
    rw [← e2]
    exact List.map_mergeSort (r := fun a b : Addr × List Int => setLe a.2 b.2) (s := setLe) (f := Prod.snd) fun a _ b _ => rfl
  refine ⟨r, cs.map fun c => (.ref c.1, keyDL c.2), rfl, ?_, ?_, ?_, ?_, ?_, fun G p kG hp hpG => ?_⟩
  · rw [hr, List.map_map, ← e1, List.map_map]
    rfl
  · intro d hd d' hd'
    rw [List.map_map] at hd hd'
    obtain ⟨b, _, rfl⟩ := List.mem_map.mp hd
    obtain ⟨b', _, rfl⟩ := List.mem_map.mp hd'
    exact keyDL_al ..
  · refine .inl fun d hd => ?_
    rw [List.map_map] at hd
    obtain ⟨b, _, rfl⟩ := List.mem_map.mp hd
    exact ⟨_, _, rfl⟩
  · intro b hb
    obtain ⟨c, _, rfl⟩ := List.mem_map.mp hb
    exact keyDL_dp _
  · intro b hb G kG
    obtain ⟨c, hc, rfl⟩ := List.mem_map.mp hb
    have h := kG.k _ _ (hz c hc) (by simp)
    exact ⟨c.1, c.2, rfl, h, fun p hp => ⟨.new hp, .tup upd_same (.cons (.int _) (.cons (.lst ((Kp.new (M := []) hp).k _ _ h (by simp)) (has_ints _)) .nil))⟩⟩
  · refine q _ p (kG.newer hpG) hp ⟨(cs.mergeSort fun a b => setLe a.2 b.2).map Prod.fst, ?_, ?_, fun i a l ha hl2 => ?_⟩
    · rw [upd_same, ms, List.map_map, List.map_map]
      rfl
    · rw [← ms2, List.length_map, List.length_map]
    · rw [← ms2] at hl2
      rw [List.getElem?_map] at ha hl2
      cases e : (cs.mergeSort fun a b => setLe a.2 b.2)[i]? with
      | none => rw [e] at ha; cases ha
      | some c =>
        rw [e] at ha hl2
        cases ha
        cases hl2
        have hc := (List.mergeSort_perm cs _).mem_iff.mp (List.mem_of_getElem? e)
        have h := kG.k _ _ (hz c hc) (by simp)
        rw [upd_ne (ne_of_none h hpG)]
        exact h
section
variable {P : Program} {w : World} {K : PySem.W.Frag} {mg : Str → Option Value} {base : Heap}
structure TLeastL (mg : Str → Option Value) : Prop where
  n_len : mg "len" = none
  n_all : mg "all" = none
  n_any : mg "any" = none
  n_sorted : mg "sorted" = none
theorem ok_keyL (D : GD K mg "_law_set_key" sD_Lset_key ["members"]) (T : TLeastL mg) : Cal P w K mg base 1 "_law_set_key" spKeyL [] := by
  refine D.cal sc_Lset_key (fun vs H Q E h => ?_) (fun f cdv A outer s0 H vs Q E hr h => ?_)
  · obtain ⟨l, S, rfl, _⟩ := h
    rfl
  obtain ⟨l, S, rfl, hl, q⟩ := h
  refine ⟨_, (pss_one (ps_ret (pe_tup (pa_cons (pe_callB call_len_seq (by rfl) T.n_len (by decide +kernel) (pa_cons (pv 0) pa_nil)) (pa_cons (pv 0) pa_nil))))), ?_⟩
  refine ⟨_, rfl, l, _, rfl, .inl (SqL.of hl), _, rfl, (by show 2 ≤ sizeLine; decide), fun p hp => ?_⟩
  rw [List.length_map]
  exact q p hp
theorem ok_witL (D : GD K mg "_law_within" sD_Lwithin ["part", "whole"]) (T : TLeastL mg) : Cal P w K mg base 1 "_law_within" spWitL [] := by
  refine D.cal sc_Lwithin (fun vs H Q E h => ?_) (fun f cdv A outer s0 H vs Q E hr h => ?_)
  · obtain ⟨a, b, S, S', rfl, _⟩ := h
    rfl
  obtain ⟨a, b, S, S', rfl, ha, hb, lS, q⟩ := h
  refine ⟨_, (pss_one (ps_ret (pe_callB (cr_all rfl) (by rfl) T.n_all (by decide +kernel) (pa_cons (pe_lc (own := [("member", 2)]) (g := gName 2) (tt := tYes) rfl sc_Lwithin.nd (pi_list (pv 0)) (blkOk_by (own := [("member", 2)]) (N := ["part", "whole", "member"]) (sc := defScope sD_Lwithin) (by decide +kernel)) (fun _ _ _ _ _ => (pg_name (i := 2) sc_Lwithin.nd rfl (Or.inl rfl))) (fun _ _ _ _ _ => pts_nil) (fun _ _ _ _ _ => (bx_in (K := K) rfl (pv 2) (pv 1)))) pa_nil)))), ?_⟩
  refine ⟨_, rfl, a, rfl, ⟨_, SqL.of ha⟩, fun D hD => lc_list (K := K) (a := a) (xs := S.map V.int) (fun j G => Kp [] H G ∧ G D = some (.lst (((S.take j).map fun y => decide (y ∈ S')).map V.bl))) ⟨.new hD, upd_same⟩ (fun j G _ p => SqL.of (p.1.k _ _ ha (by simp))) (fun j x G hj p => ?_) (fun G p => ?_)⟩
  · obtain ⟨e, he, rfl⟩ := mapAt hj
    obtain ⟨kG, hG⟩ := p
    refine ⟨rfl, iteT (B := True) ?_⟩
    refine ⟨_, rfl, _, rfl, b, _, rfl, .inl (SqL.of (kG.k _ _ hb (by simp))), rfl, flat_ints S', ?_⟩
    rw [if_neg Bool.false_ne_true, inV_ints]
    refine ⟨_, hG, small1000 ?_, kG.mt hD, ?_⟩
    · rw [List.length_map, List.length_map]
      exact Nat.le_trans (List.length_take_le' _ _) (by omega)
    · rw [any_take he, List.map_append]
      exact upd_same
  obtain ⟨kG, hG⟩ := p
  rw [List.length_map, List.take_length] at hG
  refine ⟨D, _, rfl, SqL.of hG, ?_⟩
  rw [List.all_map]
  exact q G kG
end
section
variable {P : Program} {w : World} {K : PySem.W.Frag} {mg : Str → Option Value} {base : Heap}
theorem ok_leastL (D : GD K mg "_law_least" sD_Lleast ["sets"]) (T : TLeastL mg) (c_Lset_key : Cal P w K mg base 1 "_law_set_key" spKeyL []) (c_Lwithin : Cal P w K mg base 1 "_law_within" spWitL []) :
    Cal P w K mg base 4 "_law_least" spLeastL [] := by
  refine D.cal sc_Lleast (fun vs H Q E h => ?_) (fun f cdv A outer s0 H vs Q E hr h => ?_)
  · obtain ⟨r, LL, rfl, _⟩ := h
    rfl
  obtain ⟨r, LL, rfl, hL, lL, lE, q⟩ := h
  refine ⟨_, (pss_cons (ps_set (i := 1) sc_Lleast.nd rfl (Or.inl rfl) (pe_sortedF c_Lset_key hr (by omega) (by rfl) T.n_sorted (by decide +kernel) (by rfl) (pa_cons (pv 0) pa_nil)))
    (pss_cons (ps_set (i := 2) sc_Lleast.nd rfl (Or.inl rfl) (pe_lst pa_nil))
    (pss_cons (ps_for PassesOwn.never rfl (pi_list (pv 1)) (pg_name (i := 3) sc_Lleast.nd rfl (Or.inr rfl)) (pss_one (ps_if (pt_not (pt_val (pe_callB (cr_any rfl) (by rfl) T.n_any (by decide +kernel) (pa_cons (pe_lc (own := [("known", 4)]) (g := gName 4) (tt := tYes) rfl sc_Lleast.nd (pi_list (pv 2)) (blkOk_by (own := [("known", 4)]) (N := ["sets", "ordered", "found", "members", "known"]) (sc := defScope sD_Lleast) (by decide +kernel)) (fun _ _ _ _ _ => (pg_name (i := 4) sc_Lleast.nd rfl (Or.inl rfl))) (fun _ _ _ _ _ => pts_nil) (fun _ _ _ _ _ => (pe_c c_Lwithin hr (by omega) rfl (pa_cons (pv 4) (pa_cons (pv 3) pa_nil))))) pa_nil)))) (pss_one (ps_expr (pe_bm PySem.F.plainAttrs_list PySem.F.slot_list_append PySem.F.type_list_append mt_append (pv 2) (pa_cons (pv 3) pa_nil)))) pss_nil)))
    (pss_one (ps_ret (pv 2)))))), ?_⟩
  refine ⟨_, rfl, _, rfl, sort_byL hL fun H1 p k1 hp hL1 => ?_⟩
  refine ⟨(by show 0 ≤ sizeLine; decide), fun fo hfo => ?_⟩
  obtain ⟨as, hp1, hal⟩ := hL1
  have k2 : Kp [] H1 (upd H1 fo (.lst [])) := .new hfo
  have hp2 := k2.k _ _ hp1 (by simp)
  have hal2 := hal.kp k2
  have ho2 : (upd H1 fo (.lst [])) fo = some (.lst []) := upd_same
  obtain ⟨H2, hH2⟩ : ∃ H2, upd H1 fo (.lst []) = H2 := ⟨_, rfl⟩
  rw [hH2] at k2 hp2 hal2 ho2 ⊢
  have fo0 : H fo = none := k1.free hfo (by simp)
  have pfo : p ≠ fo := fun z => by rw [z, hfo] at hp1; cases hp1
  refine ⟨_, rfl, p, rfl, ⟨_, SqL.of hp2⟩, for_list (K := K) (a := p) (xs := as.map V.ref) (fun i σ H' => ∃ (v3 : Option V) (bs : List Addr), σ = [some (.ref r), some (.ref p), some (.ref fo), v3, none] ∧ Kp [] H1 H' ∧ H' fo = some (.lst (bs.map V.ref)) ∧ Els .lst H1 bs (((LL.mergeSort setLe).take i).foldl lstep []))
    ⟨none, [], rfl, k2, ho2, .nil⟩ (fun i σ H' _ p => ?_) ?_ ?_⟩
  · obtain ⟨v3, bs, rfl, k, _⟩ := p
    exact SqL.of (k.k _ _ hp1 (by simp))
  · rintro i x σ H3 hi ⟨v3, bs, rfl, k3, h3, e3⟩
    obtain ⟨c', hc', rfl⟩ := mapAt hi
    obtain ⟨l, hl, hcl⟩ := hal2.at hc'
    have hcl3 : H3 c' = some (.lst (l.map V.int)) := k3.k _ _ ((hal.at hc').elim fun l2 z => by rw [hl] at z; rw [Option.some.inj z.1]; exact z.2) (by simp)
    have his := (List.getElem?_eq_some_iff.mp hl).1
    rw [List.length_mergeSort] at his
    have ll : l.length ≤ 900 := lE l ((List.mergeSort_perm LL setLe).mem_iff.mp (List.mem_of_getElem? hl))
    obtain ⟨acc, hacc⟩ : ∃ acc, ((LL.mergeSort setLe).take i).foldl lstep [] = acc := ⟨_, rfl⟩
    have stp := fold_take hl
    have lacc : acc.length ≤ i := by
      have := fold_len ((LL.mergeSort setLe).take i) []
      rw [hacc, List.length_nil] at this
      exact Nat.le_trans this (by rw [Nat.zero_add]; exact List.length_take_le ..)
    have eacc : ∀ o ∈ acc, o.length ≤ 900 := fun o ho => by
      rw [← hacc] at ho
      have : ∀ (MM A : List (List Int)), (∀ o ∈ MM, o.length ≤ 900) → (∀ o ∈ A, o.length ≤ 900) → ∀ o ∈ MM.foldl lstep A, o.length ≤ 900 := fun MM => by
        induction MM with
        | nil => exact fun A _ h => h
        | cons m MM ih =>
          refine fun A h h2 => ih _ (fun o ho => h o (List.mem_cons_of_mem _ ho)) fun o ho => ?_
          unfold lstep at ho
          split at ho
          · exact h2 o ho
          · exact (List.mem_append.mp ho).elim (h2 o) fun z => by rw [List.mem_singleton.mp z]; exact h m List.mem_cons_self
      exact this _ [] (fun o ho => lE o ((List.mergeSort_perm LL setLe).mem_iff.mp (List.mem_of_mem_take ho))) (fun o ho => by cases ho) o ho
    rw [hacc] at e3
    rw [stp, hacc]
    have lb : bs.length = acc.length := e3.1
    refine ⟨_, rfl, fo, rfl, ⟨_, SqL.of h3⟩, fun D hD => lc_list (K := K) (a := fo) (xs := bs.map V.ref) (fun j G => Kp [] H3 G ∧ G D = some (.lst (((acc.take j).map fun o => wit o l).map V.bl))) ⟨.new hD, upd_same⟩ (fun j G _ p => SqL.of (p.1.k _ _ h3 (by simp))) (fun j x G hj p => ?_) (fun G p => ?_)⟩
    · obtain ⟨b, hb, rfl⟩ := mapAt hj
      obtain ⟨kG, hG⟩ := p
      obtain ⟨o, ho, hbo⟩ := e3.at hb
      have hbG : G b = some (.lst (o.map V.int)) := kG.k _ _ (k3.k _ _ hbo (by simp)) (by simp)
      refine ⟨rfl, iteT (B := True) ?_⟩
      refine ⟨_, rfl, _, rfl, b, c', o, l, rfl, hbG, kG.k _ _ hcl3 (by simp), eacc o (List.mem_of_getElem? ho), fun G2 kG2 => ?_⟩
      refine ⟨_, kG2.k _ _ hG (by simp), lt_line ?_, (kG.trans kG2).mt hD, ?_⟩
      · rw [List.length_map, List.length_map]
        exact Nat.le_trans (List.length_take_le' _ _) (by omega)
      · rw [any_take ho, List.map_append]
        exact upd_same
    obtain ⟨kG, hG⟩ := p
    rw [List.length_map, lb, List.take_length] at hG
    have h3G := kG.k _ _ h3 (by simp)
    have k3G : Kp [] H1 G := k3.trans kG
    refine ⟨D, _, rfl, SqL.of hG, ?_⟩
    have ea : ((acc.map fun o => wit o l).any id) = acc.any fun o => wit o l := by rw [List.any_map]; rfl
    rw [ea]
    unfold lstep
    by_cases c : (acc.any fun o => wit o l) = true
    · rw [c, if_pos rfl]
      exact ⟨_, rfl, iteF ⟨_, bs, rfl, k3G, h3G, e3⟩⟩
    · rw [if_neg c]
      refine ⟨_, rfl, iteT_of (by rw [(Bool.eq_false_iff).mpr c]; rfl) ?_⟩
      refine ⟨_, rfl, .inl ⟨rfl, _, SqL.of h3G⟩, _, rfl, fo, _, _, rfl, rfl, h3G, lt_line (by rw [List.length_map]; omega), ?_⟩
      refine ⟨_, bs ++ [c'], rfl, k3G.mt hfo, by rw [upd_same, List.map_append]; rfl, e3.snoc ((hal.at hc').elim fun l2 z => by rw [hl] at z; rw [Option.some.inj z.1]; exact z.2)⟩
  · rintro σ H3 ⟨v3, bs, rfl, k3, h3, e3⟩
    rw [List.length_map, hal.1, List.take_length] at e3
    exact ⟨_, rfl, q fo H3 fo0 (k1.trans k3) ⟨bs, h3, e3.1, fun i a l x y => k3.k _ _ (e3.2 i a l x y) (by simp)⟩⟩
end
/-- a set as a key -/
def keyDT (S : List Int) : PyData := .tuple [.int S.length, .tuple (S.map .int)]
theorem keyDT_dp (S : List Int) : (keyDT S).depth ≤ 10 := by
  unfold keyDT
  simp only [PyData.depth, PyData.depthAll]
  have : PyData.depthAll (S.map .int) = 0 := PySem.W.depth_ints S
  rw [this]
  decide
theorem keyDT_al (S T : List Int) : PySem.W.alike (keyDT S) (keyDT T) = true := by
  unfold keyDT
  have := PySem.W.alike_ints S T
  simp only [PySem.W.alike, PySem.W.alikeAll, this, Bool.and_self]
def spKeyT : Sp := fun vs H Q _ => ∃ (l : Addr) (T : List Int), vs = [.ref l] ∧ H l = some (.tup (T.map V.int)) ∧ ∀ p, H p = none → Q (.ref p) (upd H p (.tup [.int T.length, .ref l]))
def spWitT : Sp := fun vs H Q _ => ∃ (a b : Addr) (S T : List Int), vs = [.ref a, .ref b] ∧ H a = some (.tup (S.map V.int)) ∧ H b = some (.tup (T.map V.int)) ∧ S.length ≤ 900 ∧ ∀ G, Kp [] H G → Q (.bl (wit S T)) G
def spLeastT : Sp := fun vs H Q _ => ∃ (r : Addr) (LL : List (List Int)), vs = [.ref r] ∧ SetsO .tup H r LL ∧ LL.length ≤ 100000 ∧ (∀ l ∈ LL, l.length ≤ 900) ∧ ∀ (p : Addr) (G : Hp), H p = none → Kp [] H G → SetsO .tup G p (lsts LL) → Q (.ref p) G
/-- what sorted(r, key=..) asks -/
theorem sort_byT {H : Hp} {r : Addr} {LL : List (List Int)} {Q : VK} (hL : SetsO .tup H r LL) (q : ∀ (G : Hp) (p : Addr), Kp [] H G → H p = none → SetsO .tup G p (LL.mergeSort setLe) → Q (.ref p) G) : rSF spKeyT (.ref r) H Q := by
  obtain ⟨as, hr, hl, hs⟩ := hL
  have hz : ∀ b ∈ (as.zip LL), H b.1 = some (.tup (b.2.map V.int)) := fun b hb => by
    obtain ⟨i, hi⟩ := List.mem_iff_getElem?.mp hb
    obtain ⟨h1, h2⟩ := List.getElem?_zip_eq_some.mp hi
    exact hs i b.1 b.2 h1 h2
  obtain ⟨cs, hcs⟩ : ∃ cs, as.zip LL = cs := ⟨_, rfl⟩
  have e1 : cs.map Prod.fst = as := by rw [← hcs]; exact zip_fst hl
  have e2 : cs.map Prod.snd = LL := by rw [← hcs]; exact zip_snd hl
  rw [hcs] at hz
  have ms : ((cs.map fun c => (V.ref c.1, keyDT c.2)).mergeSort (PySem.W.dataLe false Prod.snd)) = (cs.mergeSort fun a b => setLe a.2 b.2).map fun c => (V.ref c.1, keyDT c.2) := by
    refine (List.map_mergeSort (r := fun a b => setLe a.2 b.2) (s := PySem.W.dataLe false Prod.snd) (f := fun c : Addr × List Int => (V.ref c.1, keyDT c.2)) fun a _ b _ => ?_).symm
    show setLe a.2 b.2 = !PySem.W.dataLt (keyDT b.2) (keyDT a.2)
    unfold setLe keyDT
    rw [lt_setT]
  have ms2 : (cs.mergeSort fun a b => setLe a.2 b.2).map Prod.snd = LL.mergeSort setLe := by
    rw [← e2]
    exact List.map_mergeSort (r := fun a b : Addr × List Int => setLe a.2 b.2) (s := setLe) (f := Prod.snd) fun a _ b _ => rfl
  refine ⟨r, cs.map fun c => (.ref c.1, keyDT c.2), rfl, ?_, ?_, ?_, ?_, ?_, fun G p kG hp hpG => ?_⟩
  · rw [hr, List.map_map, ← e1, List.map_map]
    rfl
  · intro d hd d' hd'
    rw [List.map_map] at hd hd'
    obtain ⟨b, _, rfl⟩ := List.mem_map.mp hd
    obtain ⟨b', _, rfl⟩ := List.mem_map.mp hd'
    exact keyDT_al ..
  · refine .inl fun d hd => ?_
    rw [List.map_map] at hd
    obtain ⟨b, _, rfl⟩ := List.mem_map.mp hd
    exact ⟨_, _, rfl⟩
  · intro b hb
    obtain ⟨c, _, rfl⟩ := List.mem_map.mp hb
    exact keyDT_dp _
  · intro b hb G kG
    obtain ⟨c, hc, rfl⟩ := List.mem_map.mp hb
    have h := kG.k _ _ (hz c hc) (by simp)
    exact ⟨c.1, c.2, rfl, h, fun p hp => ⟨.new hp, .tup upd_same (.cons (.int _) (.cons (.tup ((Kp.new (M := []) hp).k _ _ h (by simp)) (has_ints _)) .nil))⟩⟩
  · refine q _ p (kG.newer hpG) hp ⟨(cs.mergeSort fun a b => setLe a.2 b.2).map Prod.fst, ?_, ?_, fun i a l ha hl2 => ?_⟩
    · rw [upd_same, ms, List.map_map, List.map_map]
      rfl
    · rw [← ms2, List.length_map, List.length_map]
    · rw [← ms2] at hl2
      rw [List.getElem?_map] at ha hl2
      cases e : (cs.mergeSort fun a b => setLe a.2 b.2)[i]? with
      | none => rw [e] at ha; cases ha
      | some c =>
        rw [e] at ha hl2
        cases ha
        cases hl2
        have hc := (List.mergeSort_perm cs _).mem_iff.mp (List.mem_of_getElem? e)
        have h := kG.k _ _ (hz c hc) (by simp)
        rw [upd_ne (ne_of_none h hpG)]
        exact h

/-! ### tables of truth, by the text -/
def Tbs (H : Hp) (as : List Addr) (L : List (List Bool)) : Prop := as.length = L.length ∧ ∀ (i : Nat) (a : Addr) (l : List Bool), as[i]? = some a → L[i]? = some l → H a = some (.tup (l.map V.bl))
theorem Tbs.kp {M : List Addr} {H H' : Hp} {as : List Addr} {L : List (List Bool)} (h : Tbs H as L) (k : Kp M H H') : Tbs H' as L := ⟨h.1, fun i a l x y => k.t _ _ (h.2 i a l x y)⟩
theorem Tbs.nil {H : Hp} : Tbs H [] [] := ⟨rfl, fun i a l x => by simp at x⟩
theorem Tbs.one {H : Hp} {a : Addr} {l : List Bool} (h : H a = some (.tup (l.map V.bl))) : Tbs H [a] [l] := ⟨rfl, fun i b m x y => by
  cases i with
  | zero => cases x; cases y; exact h
  | succ i => simp at x⟩
theorem Tbs.snoc {H : Hp} {as : List Addr} {L : List (List Bool)} {a : Addr} {l : List Bool} (h : Tbs H as L) (ha : H a = some (.tup (l.map V.bl))) : Tbs H (as ++ [a]) (L ++ [l]) := by
  refine ⟨by rw [List.length_append, List.length_append, h.1]; rfl, fun i b x p q => ?_⟩
  by_cases hi : i < as.length
  · rw [List.getElem?_append_left hi] at p
    rw [List.getElem?_append_left (by rw [← h.1]; exact hi)] at q
    exact h.2 i b x p q
  · have hl := (List.getElem?_eq_some_iff.mp p).1
    rw [List.length_append, List.length_singleton] at hl
    have ei : i = as.length := by omega
    subst ei
    rw [List.getElem?_append_right (Nat.le_refl _), Nat.sub_self] at p
    rw [h.1, List.getElem?_append_right (Nat.le_refl _), Nat.sub_self] at q
    cases p
    cases q
    exact ha
/-- the last one apart -/
theorem Tbs.last {H : Hp} {as : List Addr} {L : List (List Bool)} (h : Tbs H as L) (ne : as ≠ []) : ∃ bs b M t, as = bs ++ [b] ∧ L = M ++ [t] ∧ Tbs H bs M ∧ H b = some (.tup (t.map V.bl)) := by
  have neL : L ≠ [] := fun z => ne (List.length_eq_zero_iff.mp (by rw [h.1, z]; rfl))
  have e1 := List.dropLast_concat_getLast ne
  have e2 := List.dropLast_concat_getLast neL
  have l1 : as.dropLast.length = L.dropLast.length := by rw [List.length_dropLast, List.length_dropLast, h.1]
  refine ⟨as.dropLast, as.getLast ne, L.dropLast, L.getLast neL, e1.symm, e2.symm, ⟨l1, fun i a l x y => ?_⟩, ?_⟩
  · have hi := (List.getElem?_eq_some_iff.mp x).1
    have hi2 := (List.getElem?_eq_some_iff.mp y).1
    refine h.2 i a l ?_ ?_
    · rw [← e1, List.getElem?_append_left hi]; exact x
    · rw [← e2, List.getElem?_append_left hi2]; exact y
  · refine h.2 as.dropLast.length _ _ ?_ ?_
    · rw [List.length_dropLast, ← List.getLast?_eq_getElem?, List.getLast?_eq_some_getLast ne]
    · rw [l1, List.length_dropLast, ← List.getLast?_eq_getElem?, List.getLast?_eq_some_getLast neL]
def tbD (l : List Bool) : PyData := .tuple (l.map .bool)
theorem bls_lay : ∀ l : List Bool, PyData.canLayAll0 (l.map PyData.bool) = true
  | [] => by simp [PyData.canLayAll0]
  | _ :: l => by
    show PyData.canLayAll0 (.bool _ :: l.map PyData.bool) = true
    rw [PyData.canLayAll0, bls_lay l]
    simp [PyData.canLay0]
theorem bls_dp : ∀ l : List Bool, PyData.depthAll (l.map PyData.bool) = 0
  | [] => by simp [PyData.depthAll]
  | b :: l => by
    have h := bls_dp l
    show PyData.depthAll (.bool b :: l.map PyData.bool) = 0
    rw [PyData.depthAll, h]
    simp [PyData.depth]
theorem tbD_shaped (l : List Bool) : SeqAt.shaped (tbD l) = true := by
  have h : (tbD l).depth = 1 := by
    unfold tbD
    simp only [PyData.depth]
    rw [bls_dp]
  show ((tbD l).canLay0 && decide ((tbD l).depth ≤ 64)) = true
  rw [Bool.and_eq_true]
  exact ⟨by unfold tbD; simp only [PyData.canLay0]; exact bls_lay l, decide_eq_true (by omega)⟩
theorem tbDs_lay : ∀ L : List (List Bool), PyData.canLayAll0 (L.map tbD) = true
  | [] => by simp [PyData.canLayAll0]
  | l :: L => by
    rw [List.map_cons, PyData.canLayAll0, tbDs_lay L]
    unfold tbD
    simp only [PyData.canLay0, bls_lay, Bool.and_self]
theorem tbDs_dp : ∀ L : List (List Bool), PyData.depthAll (L.map tbD) ≤ 1
  | [] => by simp [PyData.depthAll]
  | l :: L => by
    have h1 := tbDs_dp L
    have h : (tbD l).depth = 1 := by
      unfold tbD
      simp only [PyData.depth]
      rw [bls_dp]
    rw [List.map_cons, PyData.depthAll]
    omega
theorem tbDs_shaped (L : List (List Bool)) : SeqAt.shaped (.list (L.map tbD)) = true := by
  have h1 := tbDs_dp L
  have h2 : PyData.depth (.list (L.map tbD)) ≤ 64 := by
    simp only [PyData.depth]
    omega
  show (PyData.canLay0 (.list (L.map tbD)) && decide (PyData.depth (.list (L.map tbD)) ≤ 64)) = true
  rw [Bool.and_eq_true]
  exact ⟨by simp only [PyData.canLay0]; exact tbDs_lay L, decide_eq_true h2⟩
theorem tbD_eqv : ∀ a b : List Bool, PyData.eqv (tbD a) (tbD b) = decide (a = b) := by
  have all : ∀ a b : List Bool, PyData.eqvAll (a.map .bool) (b.map .bool) = decide (a = b) := by
    intro a
    induction a with
    | nil => intro b; cases b <;> simp [PyData.eqvAll]
    | cons x a ih =>
      intro b
      cases b with
      | nil => simp [PyData.eqvAll]
      | cons y b =>
        show PyData.eqvAll (.bool x :: a.map .bool) (.bool y :: b.map .bool) = _
        rw [PyData.eqvAll, ih b]
        simp only [PyData.eqv]
        by_cases h : x = y <;> by_cases k : a = b <;> simp [h, k]
  intro a b
  unfold tbD
  simp only [PyData.eqv]
  exact all a b
theorem dp_bls {K : PySem.W.Frag} {H : Hp} : ∀ l : List Bool, DpAll K H (l.map V.bl) (l.map PyData.bool)
  | [] => .nil
  | _ :: l => .cons (.bl _) (dp_bls l)
theorem dp_tab {K : PySem.W.Frag} {H : Hp} {a : Addr} {l : List Bool} (h : H a = some (.tup (l.map V.bl))) : Dp K H (.ref a) (tbD l) := .tup (SqT.of h) (dp_bls l)
theorem dp_tabs {K : PySem.W.Frag} {H : Hp} : ∀ {as : List Addr} {L : List (List Bool)}, Tbs H as L → DpAll K H (as.map V.ref) (L.map tbD)
  | [], [], _ => .nil
  | [], _ :: _, h => by cases h.1
  | _ :: _, [], h => by cases h.1
  | a :: as, l :: L, h => .cons (dp_tab (h.2 0 a l rfl rfl)) (dp_tabs ⟨Nat.succ.inj h.1, fun i a' l' x y => h.2 (i + 1) a' l' x y⟩)
def spTruth : Sp := fun vs H Q _ => ∃ (rt ea : Addr) (t : Tr) (E : List Int), vs = [.ref rt, .ref ea] ∧ TreeAt H t rt ∧ t.depth ≤ 4 ∧ H ea = some (.lst (E.map V.int)) ∧ E.length ≤ 5 ∧
  ∀ (p : Addr) (G : Hp), H p = none → Kp [] H G → G p = some (.tup ((tab E t.ev).map V.bl)) → Q (.ref p) G
def spFixed : Sp := fun vs H Q _ => ∃ (ta : Addr) (E : List Int) (h : (Int → Bool) → Bool) (k : Nat) (e : Int) (b : Nat), vs = [.ref ta, .int k, .int b] ∧ H ta = some (.tup ((tab E h).map V.bl)) ∧ E[k]? = some e ∧ E.Nodup ∧ E.length ≤ 5 ∧ b < 2 ∧
  ∀ (p : Addr) (G : Hp), H p = none → Kp [] H G → G p = some (.tup ((tab E (fx e (decide (b = 1)) h)).map V.bl)) → Q (.ref p) G
def spTop : Sp := fun vs H Q _ => ∃ (ta : Addr) (E : List Int) (h : (Int → Bool) → Bool) (n : Nat), vs = [.ref ta, .int n] ∧ n = E.length ∧ H ta = some (.tup ((tab E h).map V.bl)) ∧ E.Pairwise (· < ·) ∧ E.length ≤ 5 ∧ Only E h ∧
  ∀ (v : V) (G : Hp), Kp [] H G → ((∃ (k : Nat) (e : Int), v = .int k ∧ TopAt E h k e) ∨ (v = .non ∧ ∀ k e, ¬ TopAt E h k e)) → Q v G
def spDiagrams : Sp := fun vs H Q _ => ∃ (ua ta : Addr) (E : List Int) (g : (Int → Bool) → Bool) (n : Nat), vs = [.ref ua, .int n] ∧ n = E.length ∧ H ua = some (.lst [.ref ta]) ∧ H ta = some (.tup ((tab E g).map V.bl)) ∧ E.Pairwise (· < ·) ∧ E.length ≤ 5 ∧ Only E g ∧
  ∀ (r : Addr) (G : Hp) (as : List Addr) (L : List (List Bool)), H r = none → Kp [] H G → G r = some (.lst (as.map V.ref)) → Tbs G as L → L.Nodup → (∀ t, t ∈ L ↔ ∃ h, (Cof E g h ∧ ∃ k e, TopAt E h k e) ∧ t = tab E h) → Q (.ref r) G
structure TDiag (mg : Str → Option Value) : Prop where
  n_len : mg "len" = none
  n_range : mg "range" = none
  n_tuple : mg "tuple" = none
  n_list : mg "list" = none
section
variable {P : Program} {w : World} {K : PySem.W.Frag} {mg : Str → Option Value} {base : Heap}
theorem ok_truth (D : GD K mg "_law_truth" sD_Ltruth ["tree", "entries"]) (T : TDiag mg) (c_Lsubsets : Cal P w K mg base 1 "_law_subsets" (spSubsetsN K) []) (c_Ltrue : Cal P w K mg base 5 "_law_true" (spTrue K 5) []) : Cal P w K mg base 6 "_law_truth" spTruth [] := by
  refine D.cal sc_Ltruth (fun vs H Q E h => ?_) (fun f cdv A outer s0 H vs Q E hr h => ?_)
  · obtain ⟨rt, ea, t, E, rfl, _⟩ := h
    rfl
  obtain ⟨rt, ea, t, E, rfl, ta, td, hea, lE, q⟩ := h
  refine ⟨_, (pss_one (ps_ret (pe_callTy call_tuple_of (by rfl) T.n_tuple (by decide +kernel) (pa_cons (pe_lc (own := [("part", 2)]) (g := gName 2) (tt := tYes) rfl sc_Ltruth.nd (pi_list (pe_c c_Lsubsets hr (by omega) rfl (pa_cons (pv 1) pa_nil))) (blkOk_by (own := [("part", 2)]) (N := ["tree", "entries", "part"]) (sc := defScope sD_Ltruth) (by decide +kernel)) (fun _ _ _ _ _ => (pg_name (i := 2) sc_Ltruth.nd rfl (Or.inl rfl))) (fun _ _ _ _ _ => pts_nil) (fun _ _ _ _ _ => (pe_c c_Ltrue hr (by omega) rfl (pa_cons (pv 0) (pa_cons (pv 2) pa_nil))))) pa_nil)))), ?_⟩
  refine ⟨_, rfl, ea, E, rfl, SqL.of hea, by omega, fun sr H2 hsr k2 L2 => ?_⟩
  obtain ⟨bs, hs2, hal, hls, _⟩ := L2
  have ls : (subs E).length ≤ 32 := by
    rw [subs_len]
    exact Nat.le_trans (Nat.pow_le_pow_right (by omega) lE) (by decide)
  refine ⟨sr, rfl, ⟨_, SqL.of hs2⟩, fun D hD => lc_list (K := K) (a := sr) (xs := bs.map V.ref) (fun j G => Kp [] H2 G ∧ G D = some (.lst ((((subs E).take j).map fun p => t.ev (memf p)).map V.bl))) ⟨.new hD, upd_same⟩ (fun j G _ p => SqL.of (p.1.k _ _ hs2 (by simp))) (fun j x G hj p => ?_) (fun G p => ?_)⟩
  · obtain ⟨c', hc', rfl⟩ := mapAt hj
    obtain ⟨kG, hG⟩ := p
    have his : j < (subs E).length := by have := (List.getElem?_eq_some_iff.mp hc').1; omega
    have hl : (subs E)[j]? = some (subs E)[j] := List.getElem?_eq_getElem his
    generalize (subs E)[j] = l at hl
    refine ⟨rfl, iteT (B := True) ?_⟩
    refine ⟨_, rfl, _, rfl, t, rt, c', l, rfl, TreeAt.kp (k2.trans kG) t rt ta, SqL.of (kG.k _ _ (hls j c' l hc' hl) (by simp)), by omega, ?_⟩
    refine ⟨_, hG, small1000 ?_, kG.mt hD, ?_⟩
    · rw [List.length_map, List.length_map]
      exact Nat.le_trans (List.length_take_le' _ _) (by omega)
    · rw [any_take hl, List.map_append]
      exact upd_same
  obtain ⟨kG, hG⟩ := p
  rw [List.length_map, hal, List.take_length] at hG
  refine ⟨D, _, rfl, .inl ⟨SqL.of hG, fun l hl => ?_⟩⟩
  exact q l _ ((k2.trans kG).free hl (by simp)) ((k2.trans kG).newer hl) upd_same
theorem ok_fixed (D : GD K mg "_law_fixed" sD_Lfixed ["truth", "k", "there"]) (T : TDiag mg) : Cal P w K mg base 1 "_law_fixed" spFixed [] := by
  refine D.cal sc_Lfixed (fun vs H Q E h => ?_) (fun f cdv A outer s0 H vs Q E hr h => ?_)
  · obtain ⟨ta, E, h, k, e, b, rfl, _⟩ := h
    rfl
  obtain ⟨ta, E, h, k, e, b, rfl, hta, he, nd, lE, hb, q⟩ := h
  refine ⟨_, (pss_cons (ps_set (i := 3) sc_Lfixed.nd rfl (Or.inl rfl) pe_int)
    (pss_cons (ps_for PassesOwn.never rfl (pi_range1 (by rfl) T.n_range (pa_cons (pv 1) pa_nil)) (pg_name (i := 4) sc_Lfixed.nd rfl (Or.inl rfl)) (pss_one (ps_set (i := 3) sc_Lfixed.nd rfl (Or.inl rfl) (pe_op op_mul (pv 3) pe_int))))
    (pss_cons (ps_set (i := 5) sc_Lfixed.nd rfl (Or.inl rfl) (pe_lst pa_nil))
    (pss_cons (ps_for PassesOwn.never rfl (pi_range1 (by rfl) T.n_range (pa_cons (pe_callB call_len_seq (by rfl) T.n_len (by decide +kernel) (pa_cons (pv 0) pa_nil)) pa_nil)) (pg_name (i := 6) sc_Lfixed.nd rfl (Or.inl rfl)) (pss_cons (ps_set (i := 7) sc_Lfixed.nd rfl (Or.inl rfl) (pe_ifExp (pt_cmpR op_eq (pe_op op_mod (pe_op op_fdiv (pv 6) (pv 3)) pe_int) pe_int (nomark _)) (pe_op op_sub (pv 6) (pv 3)) (pv 6)))
    (pss_one (ps_expr (pe_bm PySem.F.plainAttrs_list PySem.F.slot_list_append PySem.F.type_list_append mt_append (pv 5) (pa_cons (pe_ix ix_tup (pv 0) (pe_op op_add (pv 7) (pe_op op_mul (pv 3) (pv 2))) (fun _ _ => rfl)) pa_nil))))))
    (pss_one (ps_ret (pe_callTy call_tuple_of (by rfl) T.n_tuple (by decide +kernel) (pa_cons (pv 5) pa_nil)))))))), ?_⟩
  have hk := (List.getElem?_eq_some_iff.mp he).1
  have lt := tab_len E h
  have lt2 := tab_len E (fx e (decide (b = 1)) h)
  have p5 : 2 ^ E.length ≤ 2 ^ 5 := Nat.pow_le_pow_right (by omega) lE
  have pk : 2 ^ k ≤ 2 ^ 5 := Nat.pow_le_pow_right (by omega) (by omega)
  have pk0 := Nat.two_pow_pos k
  refine ⟨_, rfl, _, rfl, by omega, by omega, ?_⟩
  rw [show ((k : Int)).toNat = k by omega]
  refine for_range (lo := 0) (n := k) (fun i σ H' => ∃ v : Option V, σ = [some (.ref ta), some (.int k), some (.int b), some (.int ((2 ^ i : Nat) : Int)), v, none, none, none] ∧ H' = H) ⟨none, rfl, rfl⟩ (fun i σ H' hi p => ?_) (fun σ H' p => ?_)
  · obtain ⟨v, rfl, rfl⟩ := p
    have pi : 2 ^ i ≤ 2 ^ 5 := Nat.pow_le_pow_right (by omega) (by omega)
    refine ⟨_, rfl, _, _, rfl, rfl, .inr ⟨by omega, by omega⟩, ?_⟩
    exact ⟨_, by rw [Nat.pow_succ, Int.natCast_mul]; rfl, rfl⟩
  obtain ⟨v, rfl, rfl⟩ := p
  refine ⟨(by show 0 ≤ sizeLine; decide), fun fo hfo => ?_⟩
  have k1 : Kp [] H' (upd H' fo (.lst [])) := .new hfo
  refine ⟨_, rfl, ta, _, rfl, .inr (SqT.of (k1.t _ _ hta)), _, rfl, by omega, (by rw [List.length_map, lt]; omega), ?_⟩
  rw [List.length_map, lt, show ((((2 ^ E.length : Nat) : Int)).toNat) = 2 ^ E.length by omega]
  refine for_range (lo := 0) (n := 2 ^ E.length) (fun i σ G => ∃ v6 v7 : Option V, σ = [some (.ref ta), some (.int k), some (.int b), some (.int ((2 ^ k : Nat) : Int)), v, some (.ref fo), v6, v7] ∧ Kp [] H' G ∧ G fo = some (.lst (((tab E (fx e (decide (b = 1)) h)).take i).map V.bl))) ⟨none, none, rfl, k1, upd_same⟩ (fun i σ G hi p => ?_) (fun σ G p => ?_)
  · obtain ⟨v6, v7, rfl, kG, hG⟩ := p
    have i1 : i < 2 ^ 5 := by omega
    rw [Int.zero_add]
    have ed : ((i : Int) / ((2 ^ k : Nat) : Int)) % 2 = ((i / 2 ^ k % 2 : Nat) : Int) := by rw [Int.natCast_emod, Int.natCast_ediv]; rfl
    have ge : i / 2 ^ k % 2 = 1 → 2 ^ k ≤ i := fun c => by
      refine Classical.byContradiction fun z => ?_
      rw [Nat.div_eq_of_lt (by omega)] at c
      cases c
    have hfi := fixI_lt hb hk hi
    have hgt : (tab E h)[fixI i k b]? = some (tab E h)[fixI i k b] := List.getElem?_eq_getElem (by rw [lt]; exact hfi)
    generalize (tab E h)[fixI i k b] = y at hgt
    have hgy : (tab E (fx e (decide (b = 1)) h))[i]? = some y := by rw [← tab_fix nd he h hb hi]; exact hgt
    obtain ⟨bs, hbs⟩ : ∃ bs : Nat, (if i / 2 ^ k % 2 = 1 then i - 2 ^ k else i) = bs := ⟨_, rfl⟩
    have efi : fixI i k b = bs + 2 ^ k * b := by unfold fixI; rw [hbs]
    have rest : ∀ (σ : List (Option V)), σ = [some (.ref ta), some (.int k), some (.int b), some (.int ((2 ^ k : Nat) : Int)), v, some (.ref fo), some (.int i), some (.int bs)] → ∃ v6 v7 : Option V, σ = [some (.ref ta), some (.int k), some (.int b), some (.int ((2 ^ k : Nat) : Int)), v, some (.ref fo), v6, v7] := fun σ e => ⟨_, _, e⟩
    have bsl : bs ≤ i := by rw [← hbs]; split <;> omega
    have body : ∀ (Q : Hp → Prop), Q (upd G fo (.lst (((tab E (fx e (decide (b = 1)) h)).take (i + 1)).map V.bl))) → Q (upd G fo (.lst (((tab E (fx e (decide (b = 1)) h)).take i).map V.bl ++ [.bl y]))) := fun Q hQ => by
      rw [takeS hgy, List.map_append] at hQ
      exact hQ
    have pkb : 2 ^ k * b ≤ 2 ^ k * 1 := Nat.mul_le_mul_left _ (by omega)
    have eix : ((bs : Int) + ((2 ^ k : Nat) : Int) * (b : Int)) = ((fixI i k b : Nat) : Int) := by rw [efi, Int.natCast_add, Int.natCast_mul]
    refine ⟨_, rfl, _, rfl, _, _, rfl, rfl, ⟨by show (0 : Int) < ((2 ^ k : Nat) : Int); omega, by show ((2 ^ k : Nat) : Int) < 1073741824; omega⟩, _, _, rfl, rfl, (by show (0 : Int) < 2; decide), rfl, _, rfl, ?_⟩
    by_cases c : i / 2 ^ k % 2 = 1
    · rw [if_pos c] at hbs
      have := ge c
      refine iteT_of (decide_eq_true (congrArg V.int (by rw [ed, c]; rfl))) ⟨_, rfl, _, rfl, _, _, rfl, rfl, ?_⟩
      have eix2 : ((i : Int) - ((2 ^ k : Nat) : Int)) + ((2 ^ k : Nat) : Int) * (b : Int) = ((fixI i k b : Nat) : Int) := by rw [← eix]; omega
      refine ⟨_, rfl, .inl ⟨rfl, _, SqL.of hG⟩, _, rfl, _, rfl, _, rfl, _, rfl, _, _, rfl, rfl, .inr ⟨by omega, by omega⟩, _, _, rfl, rfl, ta, _, _, _, rfl, rfl, SqT.of (kG.t _ _ hta), by rw [eix2]; exact atI_nat (by rw [List.getElem?_map, hgt]; rfl), fo, _, _, rfl, rfl, hG, small1000 ?_, ?_⟩
      · rw [List.length_map]
        exact Nat.le_trans (List.length_take_le' _ _) (by rw [lt2]; omega)
      · exact ⟨_, _, rfl, kG.mt hfo, by rw [upd_same, takeS hgy, List.map_append]; rfl⟩
    · rw [if_neg c] at hbs
      subst hbs
      refine iteF_of (decide_eq_false fun z => c (by have := V.int.inj z; rw [ed] at this; omega)) ⟨_, rfl, ?_⟩
      refine ⟨_, rfl, .inl ⟨rfl, _, SqL.of hG⟩, _, rfl, _, rfl, _, rfl, _, rfl, _, _, rfl, rfl, .inr ⟨by omega, by omega⟩, _, _, rfl, rfl, ta, _, _, _, rfl, rfl, SqT.of (kG.t _ _ hta), by rw [eix]; exact atI_nat (by rw [List.getElem?_map, hgt]; rfl), fo, _, _, rfl, rfl, hG, small1000 ?_, ?_⟩
      · rw [List.length_map]
        exact Nat.le_trans (List.length_take_le' _ _) (by rw [lt2]; omega)
      · exact ⟨_, _, rfl, kG.mt hfo, by rw [upd_same, takeS hgy, List.map_append]; rfl⟩
  obtain ⟨v6, v7, rfl, kG, hG⟩ := p
  rw [← lt2, List.take_length] at hG
  refine ⟨_, rfl, fo, _, rfl, .inl ⟨SqL.of hG, fun l hl => ?_⟩⟩
  exact q l _ (kG.free hl (by simp)) (kG.newer hl) upd_same
theorem top_ne {E : List Int} {h : (Int → Bool) → Bool} (up : E.Pairwise (· < ·)) (o : Only E h) (e : Int) : tab E (fx e false h) = tab E (fx e true h) ↔ Ind1 h e := ⟨fun z => tab_inj up (o.fx _ _) (o.fx _ _) z, fun z => by rw [z]⟩
theorem ok_top (D : GD K mg "_law_top" sD_Ltop ["truth", "count"]) (T : TDiag mg) (c_Lfixed : Cal P w K mg base 1 "_law_fixed" spFixed []) : Cal P w K mg base 2 "_law_top" spTop [] := by
  refine D.cal sc_Ltop (fun vs H Q E h => ?_) (fun f cdv A outer s0 H vs Q E hr h => ?_)
  · obtain ⟨ta, E, h, n, rfl, _⟩ := h
    rfl
  obtain ⟨ta, E, h, n, rfl, hn, hta, up, lE, o, q⟩ := h
  have nd : E.Nodup := up.imp fun h e => by omega
  refine ⟨_, (pss_cons (ps_for PassesOwn.never rfl (pi_range1 (by rfl) T.n_range (pa_cons (pv 1) pa_nil)) (pg_name (i := 2) sc_Ltop.nd rfl (Or.inl rfl)) (pss_one (ps_if (pt_cmpR (op_neD hr.units) (pe_c c_Lfixed hr (by omega) rfl (pa_cons (pv 0) (pa_cons (pv 2) (pa_cons pe_int pa_nil)))) (pe_c c_Lfixed hr (by omega) rfl (pa_cons (pv 0) (pa_cons (pv 2) (pa_cons pe_int pa_nil)))) (nomark _)) (pss_one (ps_ret (pv 2))) pss_nil)))
    (pss_one (ps_ret pe_non))), ?_⟩
  refine ⟨_, rfl, _, rfl, by omega, by omega, ?_⟩
  rw [show ((n : Int)).toNat = n by omega]
  refine for_range (lo := 0) (n := n) (fun i σ H' => ∃ v : Option V, σ = [some (.ref ta), some (.int n), v] ∧ Kp [] H H' ∧ ∀ (j : Nat) (e' : Int), j < i → E[j]? = some e' → Ind1 h e') ⟨none, rfl, .refl, fun j e' hj => absurd hj (Nat.not_lt_zero _)⟩ (fun i σ H' hi p => ?_) (fun σ H' p => ?_)
  · obtain ⟨v, rfl, kH, low⟩ := p
    rw [Int.zero_add]
    have he : E[i]? = some E[i] := List.getElem?_eq_getElem (by omega)
    generalize E[i] = e at he
    refine ⟨_, rfl, _, rfl, ta, E, h, i, e, 0, rfl, kH.t _ _ hta, he, nd, lE, by omega, fun p1 G1 hp1 k1 h1 => ?_⟩
    refine ⟨_, rfl, _, rfl, ta, E, h, i, e, 1, rfl, k1.t _ _ (kH.t _ _ hta), he, nd, lE, by omega, fun p2 G2 hp2 k2 h2 => ?_⟩
    refine ⟨_, _, dp_tab (k2.t _ _ h1), dp_tab h2, tbD_shaped _, tbD_shaped _, _, rfl, ?_⟩
    rw [tbD_eqv]
    have kk := (kH.trans k1).trans k2
    by_cases c : tab E (fx e (decide (0 = 1)) h) = tab E (fx e (decide (1 = 1)) h)
    · refine iteF_of (by rw [decide_eq_true c]; rfl) ⟨_, rfl, kk, fun j e' hj he' => ?_⟩
      by_cases ej : j = i
      · subst ej
        rw [he] at he'
        cases he'
        exact (top_ne up o e).mp c
      · exact low j e' (by omega) he'
    · refine iteT_of (by rw [decide_eq_false c]; rfl) ⟨_, rfl, q _ _ kk (.inl ⟨i, e, rfl, he, fun z => c ((top_ne up o e).mpr z), low⟩)⟩
  obtain ⟨v, rfl, kH, low⟩ := p
  exact q _ _ kH (.inr ⟨rfl, fun k e t => t.dep (low k e (by have := (List.getElem?_eq_some_iff.mp t.at_).1; omega) t.at_)⟩)
end

/-! ### the tables of a diagram's nodes, by the text -/
theorem hv65 {k : Nat} {A : Around} (r : Room k A) : A.units + 65 < cLine := by have := r.un; omega
def Gd (E : List Int) (L M : List (List Bool)) (h : (Int → Bool) → Bool) : Prop := tab E h ∈ L ∨ tab E h ∈ M ∨ ∀ k e, ¬ TopAt E h k e
structure DgI (E : List Int) (g : (Int → Bool) → Bool) (L M : List (List Bool)) : Prop where
  nd : L.Nodup
  inL : ∀ t ∈ L, ∃ h, (Cof E g h ∧ ∃ k e, TopAt E h k e) ∧ t = tab E h
  inM : ∀ t ∈ M, ∃ h, Cof E g h ∧ t = tab E h
  st : Gd E L M g
  cl : ∀ (h : (Int → Bool) → Bool) (k : Nat) (e : Int) (b : Bool), Cof E g h → tab E h ∈ L → TopAt E h k e → Gd E L M (fx e b h)
  len : M.length ≤ 2 * L.length + 1
section
variable {E : List Int} {g h : (Int → Bool) → Bool} {L M : List (List Bool)}
theorem DgI.drop (I : DgI E g L (M ++ [tab E h])) (up : E.Pairwise (· < ·)) (o : Only E g) (c : Cof E g h) (d : tab E h ∈ L ∨ ∀ k e, ¬ TopAt E h k e) : DgI E g L M := by
  have gd : ∀ {x : (Int → Bool) → Bool}, Cof E g x → Gd E L (M ++ [tab E h]) x → Gd E L M x := fun {x} cx q => by
    rcases q with q | q | q
    · exact .inl q
    · rcases List.mem_append.mp q with q | q
      · exact .inr (.inl q)
      · have e := tab_inj up (cx.only o) (c.only o) (List.mem_singleton.mp q)
        rw [e]
        exact d.imp id .inr
    · exact .inr (.inr q)
  refine ⟨I.nd, I.inL, fun t ht => I.inM t (List.mem_append_left _ ht), gd .refl I.st, fun x k e b cx m t => gd (.step b cx t) (I.cl x k e b cx m t), ?_⟩
  have := I.len
  rw [List.length_append, List.length_singleton] at this
  omega
theorem DgI.put {k : Nat} {e : Int} (I : DgI E g L (M ++ [tab E h])) (up : E.Pairwise (· < ·)) (o : Only E g) (c : Cof E g h) (t : TopAt E h k e) (n : tab E h ∉ L) : DgI E g (L ++ [tab E h]) (M ++ [tab E (fx e false h)] ++ [tab E (fx e true h)]) := by
  have gd : ∀ {x : (Int → Bool) → Bool}, Gd E L (M ++ [tab E h]) x → Gd E (L ++ [tab E h]) (M ++ [tab E (fx e false h)] ++ [tab E (fx e true h)]) x := fun {x} q => by
    rcases q with q | q | q
    · exact .inl (List.mem_append_left _ q)
    · rcases List.mem_append.mp q with q | q
      · exact .inr (.inl (List.mem_append_left _ (List.mem_append_left _ q)))
      · exact .inl (List.mem_append_right _ q)
    · exact .inr (.inr q)
  refine ⟨List.nodup_append.mpr ⟨I.nd, by simp, fun a ha b hb z => n (by rw [← List.mem_singleton.mp hb, ← z]; exact ha)⟩, fun x hx => ?_, fun x hx => ?_, gd I.st, fun x k' e' b cx m t' => ?_, ?_⟩
  · rcases List.mem_append.mp hx with hx | hx
    · exact I.inL x hx
    · exact ⟨h, ⟨c, k, e, t⟩, List.mem_singleton.mp hx⟩
  · rcases List.mem_append.mp hx with hx | hx
    · rcases List.mem_append.mp hx with hx | hx
      · exact I.inM x (List.mem_append_left _ hx)
      · exact ⟨_, .step false c t, List.mem_singleton.mp hx⟩
    · exact ⟨_, .step true c t, List.mem_singleton.mp hx⟩
  · rcases List.mem_append.mp m with m | m
    · exact gd (I.cl x k' e' b cx m t')
    · have ex := tab_inj up (cx.only o) (c.only o) (List.mem_singleton.mp m)
      subst ex
      obtain ⟨_, rfl⟩ := t.uniq t'
      cases b
      · exact .inr (.inl (by simp))
      · exact .inr (.inl (by simp))
  · have := I.len
    simp only [List.length_append, List.length_singleton] at this ⊢
    omega
theorem DgI.done (I : DgI E g L []) (t : List Bool) : t ∈ L ↔ ∃ h, (Cof E g h ∧ ∃ k e, TopAt E h k e) ∧ t = tab E h := by
  refine ⟨I.inL t, ?_⟩
  rintro ⟨h, ⟨c, k, e, tp⟩, rfl⟩
  have all : ∀ x, Cof E g x → Gd E L [] x := fun x cx => by
    induction cx with
    | refl => exact I.st
    | @step y k e b cy ty ih =>
      rcases ih with q | q | q
      · exact I.cl y k e b cy q ty
      · cases q
      · exact absurd ty (q k e)
  rcases all h c with q | q | q
  · exact q
  · cases q
  · exact absurd tp (q k e)
end
section
variable {P : Program} {w : World} {K : PySem.W.Frag} {mg : Str → Option Value} {base : Heap}
theorem ok_diagrams (D : GD K mg "_law_diagrams" sD_Ldiagrams ["truths", "count"]) (T : TDiag mg) (c_Lfixed : Cal P w K mg base 1 "_law_fixed" spFixed []) (c_Ltop : Cal P w K mg base 2 "_law_top" spTop []) : Cal P w K mg base 3 "_law_diagrams" spDiagrams [] := by
  refine D.cal sc_Ldiagrams (fun vs H Q E h => ?_) (fun f cdv A outer s0 H vs Q E hr h => ?_)
  · obtain ⟨ua, ta, E, g, n, rfl, _⟩ := h
    rfl
  obtain ⟨ua, ta, E, g, n, rfl, hn, hua, hta, up, lE, o, q⟩ := h
  have nd : E.Nodup := up.imp fun h e => by omega
  refine ⟨_, (pss_cons (ps_set (i := 2) sc_Ldiagrams.nd rfl (Or.inl rfl) (pe_lst pa_nil))
    (pss_cons (ps_set (i := 3) sc_Ldiagrams.nd rfl (Or.inl rfl) (pe_callTy call_list_of (by rfl) T.n_list (by decide +kernel) (pa_cons (pv 0) pa_nil)))
    (pss_cons (ps_while PassesOwn.never (pt_truth (pv 3) (by intro _; rfl)) (pss_cons (ps_set (i := 4) sc_Ldiagrams.nd rfl (Or.inl rfl) (pe_bm0 PySem.F.plainAttrs_list PySem.F.slot_list_pop PySem.F.type_list_pop mt_pop (pv 3)))
    (pss_cons (ps_set (i := 5) sc_Ldiagrams.nd rfl (Or.inl rfl) (pe_c c_Ltop hr (by omega) rfl (pa_cons (pv 4) (pa_cons (pv 1) pa_nil))))
    (pss_one (ps_if (PW.pt (pw_and (pt_cmp (pc_notN (pv 5))) (pw_and1 (pt_cmpR (op_notInD (hv65 hr)) (pv 4) (pv 2) (by rfl))))) (pss_cons (ps_expr (pe_bm PySem.F.plainAttrs_list PySem.F.slot_list_append PySem.F.type_list_append mt_append (pv 2) (pa_cons (pv 4) pa_nil)))
    (pss_cons (ps_expr (pe_bm PySem.F.plainAttrs_list PySem.F.slot_list_append PySem.F.type_list_append mt_append (pv 3) (pa_cons (pe_c c_Lfixed hr (by omega) rfl (pa_cons (pv 4) (pa_cons (pv 5) (pa_cons pe_int pa_nil)))) pa_nil)))
    (pss_one (ps_expr (pe_bm PySem.F.plainAttrs_list PySem.F.slot_list_append PySem.F.type_list_append mt_append (pv 3) (pa_cons (pe_c c_Lfixed hr (by omega) rfl (pa_cons (pv 4) (pa_cons (pv 5) (pa_cons pe_int pa_nil)))) pa_nil)))))) pss_nil)))))
    (pss_one (ps_ret (pv 2)))))), ?_⟩
  refine ⟨(by show 0 ≤ sizeLine; decide), fun fo hfo => ?_⟩
  have k1 : Kp [] H (upd H fo (.lst [])) := .new hfo
  refine ⟨_, rfl, ua, _, rfl, .inl (SqL.of (k1.k _ _ hua (by simp))), fun wo hwo => ?_⟩
  have k2 := k1.newer (o := .lst [.ref ta]) hwo
  have nfw : fo ≠ wo := ne_of_none upd_same hwo
  obtain ⟨W, hW⟩ : ∃ W : Nat → List (Option V) → Hp → Prop, (fun m σ H' => ∃ (as bs : List Addr) (L M : List (List Bool)) (v4 v5 : Option V), σ = [some (.ref ua), some (.int n), some (.ref fo), some (.ref wo), v4, v5] ∧ Kp [] H H' ∧ H' fo = some (.lst (as.map V.ref)) ∧ H' wo = some (.lst (bs.map V.ref)) ∧ Tbs H' as L ∧ Tbs H' bs M ∧ DgI E g L M ∧ m = 3 * (64 - L.length) + M.length) = W := ⟨_, rfl⟩
  refine ⟨W, ⟨_, by rw [← hW]; exact ⟨[], [ta], [], [tab E g], none, none, rfl, k2, by rw [upd_ne nfw, upd_same]; rfl, upd_same, .nil, .one (k2.t _ _ hta), ⟨.nil, fun t h => (by cases h), fun t h => ⟨g, .refl, List.mem_singleton.mp h⟩, .inr (.inl (by simp)), fun h k e b _ m => (by cases m), by simp⟩, rfl⟩⟩, fun m σ H1 hh => ?_⟩
  rw [← hW] at hh
  obtain ⟨as, bs, L, M, v4, v5, rfl, k3, hf, hw, tL, tM, I, hm⟩ := hh
  have fewL : ∀ {L' M' : List (List Bool)}, DgI E g L' M' → L'.length ≤ 64 := fun {L' M'} I' => tabs_few nd lE I'.nd fun t ht => let ⟨h, c, e⟩ := I'.inL t ht; ⟨h, c.1, e⟩
  refine ⟨_, rfl, _, .inl ⟨_, SqL.of hw, rfl⟩, ?_⟩
  by_cases ne : bs = []
  · subst ne
    have eM : M = [] := List.length_eq_zero_iff.mp tM.1.symm
    subst eM
    exact iteF_of rfl ⟨_, rfl, q fo H1 as L hfo k3 hf tL I.nd I.done⟩
  · refine iteT_of (by
      cases bs with
      | nil => exact absurd rfl ne
      | cons x l => rfl) ?_
    obtain ⟨bs0, b, M0, t, rfl, rfl, tM0, hb⟩ := tM.last ne
    obtain ⟨h, ch, rfl⟩ := I.inM t (by simp)
    have oh := ch.only o
    refine ⟨fun σ' H' => ∃ m', m' < m ∧ W m' σ' H', fun σ' H' h => h, ?_⟩
    refine ⟨_, rfl, .inl ⟨rfl, _, SqL.of hw⟩, wo, _, V.ref b, rfl, rfl, hw, by rw [List.map_append, List.length_append, List.length_map]; simp, ?_⟩
    have edl : ((bs0 ++ [b]).map V.ref).dropLast = bs0.map V.ref := by rw [List.map_append]; exact List.dropLast_concat
    rw [edl]
    obtain ⟨H2, hH2⟩ : ∃ H2, upd H1 wo (.lst (bs0.map V.ref)) = H2 := ⟨_, rfl⟩
    have kp : Kp [wo] H1 H2 := by rw [← hH2]; exact .put (by simp) hw fun xs z => by cases z
    have k4 : Kp [] H H2 := by rw [← hH2]; exact k3.mt (k1.free hwo (by simp))
    have hw2 : H2 wo = some (.lst (bs0.map V.ref)) := by rw [← hH2]; exact upd_same
    have hf2 : H2 fo = some (.lst (as.map V.ref)) := by rw [← hH2, upd_ne nfw]; exact hf
    rw [hH2]
    have tL2 := tL.kp kp
    have tM2 := tM0.kp kp
    have hb2 := kp.t _ _ hb
    have lI := I.len
    rw [List.length_append, List.length_singleton] at lI
    have fL := fewL I
    refine ⟨_, rfl, _, rfl, b, E, h, n, rfl, hn, hb2, up, lE, oh, fun v G kG hv => ?_⟩
    have hfG := kG.k _ _ hf2 (by simp)
    have hwG := kG.k _ _ hw2 (by simp)
    have tLG := tL2.kp kG
    have tMG := tM2.kp kG
    have hbG := kG.t _ _ hb2
    have drop : (tab E h ∈ L ∨ ∀ k e, ¬ TopAt E h k e) → ∃ m', m' < m ∧ W m' [some (.ref ua), some (.int n), some (.ref fo), some (.ref wo), some (.ref b), some v] G := fun d => by
      rw [← hW]
      refine ⟨_, ?_, as, bs0, L, M0, _, _, rfl, k4.trans kG, hfG, hwG, tLG, tMG, I.drop up o ch d, rfl⟩
      rw [hm, List.length_append, List.length_singleton]
      omega
    rcases hv with ⟨k, e, rfl, tp⟩ | ⟨rfl, no⟩
    · refine ⟨_, rfl, _, rfl, iteT_of (by rw [decide_eq_false nofun]; rfl) ?_⟩
      refine ⟨_, rfl, _, rfl, tbD (tab E h), L.map tbD, dp_tab hbG, .lst (SqL.of hfG) (dp_tabs tLG), tbD_shaped _, tbDs_shaped _, _, rfl, ?_⟩
      have ea : ((L.map tbD).any fun z => PyData.eqv z (tbD (tab E h))) = decide (tab E h ∈ L) := by
        rw [List.any_map]
        by_cases c : tab E h ∈ L
        · rw [decide_eq_true c]
          exact List.any_eq_true.mpr ⟨_, c, by show PyData.eqv (tbD _) (tbD _) = true; rw [tbD_eqv]; exact decide_eq_true rfl⟩
        · rw [decide_eq_false c]
          refine List.any_eq_false.mpr fun z hz => ?_
          show ¬ PyData.eqv (tbD z) (tbD (tab E h)) = true
          rw [tbD_eqv]
          exact fun q => c (by rw [← of_decide_eq_true q]; exact hz)
      rw [ea]
      by_cases c : tab E h ∈ L
      · exact iteF_of (by rw [decide_eq_true c]; rfl) (drop (.inl c))
      · refine iteT_of (by rw [decide_eq_false c]; rfl) ?_
        have I2 := I.put up o ch tp c
        have fL2 := fewL I2
        rw [List.length_append, List.length_singleton] at fL2
        refine ⟨_, rfl, .inl ⟨rfl, _, SqL.of hfG⟩, _, rfl, fo, _, _, rfl, rfl, hfG, small1000 (by rw [List.length_map, tLG.1]; omega), ?_⟩
        have kf : Kp [fo] G (upd G fo (.lst (as.map V.ref ++ [.ref b]))) := .put (by simp) hfG fun xs z => by cases z
        have kH1 : Kp [] H (upd G fo (.lst (as.map V.ref ++ [.ref b]))) := (k4.trans kG).mt hfo
        have hw3 : (upd G fo (.lst (as.map V.ref ++ [.ref b]))) wo = some (.lst (bs0.map V.ref)) := by rw [upd_ne nfw.symm]; exact hwG
        have hf3 : (upd G fo (.lst (as.map V.ref ++ [.ref b]))) fo = some (.lst ((as ++ [b]).map V.ref)) := by rw [upd_same, List.map_append]; rfl
        have tL3 : Tbs (upd G fo (.lst (as.map V.ref ++ [.ref b]))) (as ++ [b]) (L ++ [tab E h]) := (tLG.kp kf).snoc (kf.t _ _ hbG)
        have tM3 := tMG.kp kf
        have hb3 := kf.t _ _ hbG
        generalize upd G fo (.lst (as.map V.ref ++ [.ref b])) = G3 at kH1 hw3 hf3 tL3 tM3 hb3 ⊢
        refine ⟨_, rfl, .inl ⟨rfl, _, SqL.of hw3⟩, _, rfl, _, rfl, b, E, h, k, e, 0, rfl, hb3, tp.at_, nd, lE, by omega, fun p4 G4 hp4 k4' h4 => ?_⟩
        have hw4 := k4'.k _ _ hw3 (by simp)
        refine ⟨wo, _, _, rfl, rfl, hw4, small1000 (by rw [List.length_map, tM0.1]; omega), ?_⟩
        have kw : Kp [wo] G4 (upd G4 wo (.lst (bs0.map V.ref ++ [.ref p4]))) := .put (by simp) hw4 fun xs z => by cases z
        have kH5 : Kp [] H (upd G4 wo (.lst (bs0.map V.ref ++ [.ref p4]))) := (kH1.trans k4').mt (k1.free hwo (by simp))
        have hw5 : (upd G4 wo (.lst (bs0.map V.ref ++ [.ref p4]))) wo = some (.lst ((bs0 ++ [p4]).map V.ref)) := by rw [upd_same, List.map_append]; rfl
        have hf5 : (upd G4 wo (.lst (bs0.map V.ref ++ [.ref p4]))) fo = some (.lst ((as ++ [b]).map V.ref)) := by rw [upd_ne nfw]; exact k4'.k _ _ hf3 (by simp)
        have tL5 := (tL3.kp k4').kp kw
        have tM5 : Tbs (upd G4 wo (.lst (bs0.map V.ref ++ [.ref p4]))) (bs0 ++ [p4]) (M0 ++ [tab E (fx e (decide (0 = 1)) h)]) := ((tM3.kp k4').kp kw).snoc (kw.t _ _ h4)
        have hb5 := kw.t _ _ (k4'.t _ _ hb3)
        generalize upd G4 wo (.lst (bs0.map V.ref ++ [.ref p4])) = G5 at kH5 hw5 hf5 tL5 tM5 hb5 ⊢
        refine ⟨_, rfl, .inl ⟨rfl, _, SqL.of hw5⟩, _, rfl, _, rfl, b, E, h, k, e, 1, rfl, hb5, tp.at_, nd, lE, by omega, fun p6 G6 hp6 k6 h6 => ?_⟩
        have hw6 := k6.k _ _ hw5 (by simp)
        refine ⟨wo, _, _, rfl, rfl, hw6, small1000 (by rw [List.length_map, List.length_append, List.length_singleton, tM0.1]; omega), ?_⟩
        have kv : Kp [wo] G6 (upd G6 wo (.lst ((bs0 ++ [p4]).map V.ref ++ [.ref p6]))) := .put (by simp) hw6 fun xs z => by cases z
        rw [← hW]
        refine ⟨_, ?_, as ++ [b], bs0 ++ [p4] ++ [p6], L ++ [tab E h], M0 ++ [tab E (fx e false h)] ++ [tab E (fx e true h)], _, _, rfl, (kH5.trans k6).mt (k1.free hwo (by simp)), by rw [upd_ne nfw]; exact k6.k _ _ hf5 (by simp), by rw [upd_same, List.map_append (l₁ := bs0 ++ [p4])]; rfl, (tL5.kp k6).kp kv, ((tM5.kp k6).kp kv).snoc (kv.t _ _ h6), I2, rfl⟩
        rw [hm]
        simp only [List.length_append, List.length_singleton]
        omega
    · exact ⟨_, rfl, _, rfl, iteF_of (by rw [decide_eq_true rfl]; rfl) (drop (.inr no))⟩
end

/-! ### only the draw's list changes -/
theorem StoAt.kd {C : Addr} {E : List Int} {s : SA} {H H' : Hp} {ns : List Node} {b : Nat} {d : Addr} {xs : List V} (S : StoAt C E s H ns b) (hd : H d = some (.lst xs)) (dM : d ∉ s.M) (k : Kp [d] H H') : StoAt C E s H' ns b := by
  refine S.kp k ?_ ?_ ?_ ?_
  · intro m
    have := S.ob
    rw [List.mem_singleton.mp m, hd] at this
    cases this
  · exact fun m => dM (by rw [← List.mem_singleton.mp m]; simp)
  · exact fun m => dM (by rw [← List.mem_singleton.mp m]; simp)
  · exact fun m => dM (by rw [← List.mem_singleton.mp m]; simp)
theorem Drw.dl {d sc : Addr} {H : Hp} (D : Drw d sc H) : ∃ xs, H d = some (.lst xs) := let ⟨_, _, _, _, e, _⟩ := D; ⟨_, e⟩
theorem Drw.noI {d sc b : Addr} {H : Hp} {L : List Int} (D : Drw d sc H) (e : H b = some (.lst (L.map V.int))) : b ≠ d := fun z => by
  obtain ⟨_, _, _, _, e2, _⟩ := D
  rw [z, e2] at e
  have h := HO.lst.inj (Option.some.inj e)
  cases L with
  | nil => cases h
  | cons x l => cases (List.cons.inj h).1
theorem Drw.noR {d sc b : Addr} {H : Hp} {L : List Addr} (D : Drw d sc H) (e : H b = some (.lst (L.map V.ref))) : b ≠ d := fun z => by
  obtain ⟨_, _, _, _, e2, _⟩ := D
  rw [z, e2] at e
  have h := HO.lst.inj (Option.some.inj e)
  cases L with
  | nil => cases h
  | cons x l =>
    cases l with
    | nil => cases (List.cons.inj h).2
    | cons y l => cases (List.cons.inj (List.cons.inj h).2).1

/-! ### costs -/
section
variable {X : Cx} {K : PySem.W.Frag}
theorem bx_slT (hK : X.K = K) : SlR X (rSlA K) := hK ▸ sl_tupA
theorem bx_eqD (hK : X.K = K) (hu : X.A.units + 64 < cLine) : OpR X (compareOp .Eq) (rEqD K) := hK ▸ op_eqD hu
end
theorem hu65 {k : Nat} {A : Around} (r : Room k A) : A.units + 65 < cLine := by have := r.un; omega
theorem ck_congr {E : List Int} {f g : Int → Int} (h : ∀ e ∈ E, f e = g e) : ck E f = ck E g := List.map_congr_left fun e he => by rw [h e he]
/-- the costs of those of E that may be turned -/
def spCosts : Sp := fun vs H Q _ => ∃ (d sc ea : Addr) (E : List Int), vs = [.ref d, .ref ea] ∧ Drw d sc H ∧ H ea = some (.lst (E.map V.int)) ∧ ea ≠ d ∧ E.Nodup ∧ E.length ≤ 1000 ∧
  ∀ (cs : Int → Int) (al : Int → Bool) (r : Addr) (H' : Hp), (∀ e, 0 ≤ cs e ∧ cs e ≤ 1001) → H r = none → Kp [d] H H' → Drw d sc H' → H' r = some (.dK (ck (E.filter al) cs)) → Q (.ref r) H'
section
variable {P : Program} {w : World} {K : PySem.W.Frag} {mg : Str → Option Value} {base : Heap}
theorem ok_costs (D : GD K mg "_law_costs" sD_Lcosts ["draw", "entries"]) (c_Lnext : Cal P w K mg base 1 "_law_next" spNext []) : Cal P w K mg base 2 "_law_costs" spCosts [] := by
  refine D.cal sc_Lcosts (fun vs H Q E h => ?_) (fun f cdv A outer s0 H vs Q E hr h => ?_)
  · obtain ⟨d, sc, ea, E, rfl, _⟩ := h
    rfl
  obtain ⟨d, sc, ea, E, rfl, dr, he, ne, nd, hE, q⟩ := h
  have hu := hu_of hr
  refine ⟨_, (pss_cons (ps_set (i := 2) sc_Lcosts.nd rfl (Or.inl rfl) pe_dnewK)
    (pss_cons (ps_for PassesOwn.never rfl (pi_list (pv 1)) (pg_name (i := 3) sc_Lcosts.nd rfl (Or.inl rfl)) (pss_one (ps_if (pt_truth (pe_c c_Lnext hr (by omega) rfl (pa_cons (pv 0) (pa_cons pe_int pa_nil))) (by intro _; rfl)) (pss_one (ps_dput hu (pv 2) (pv 3) (pe_ifExp (pt_truth (pe_c c_Lnext hr (by omega) rfl (pa_cons (pv 0) (pa_cons pe_int pa_nil))) (by intro _; rfl)) (pe_c c_Lnext hr (by omega) rfl (pa_cons (pv 0) (pa_cons pe_int pa_nil))) (pe_c c_Lnext hr (by omega) rfl (pa_cons (pv 0) (pa_cons pe_int pa_nil)))) rfl)) pss_nil)))
    (pss_one (ps_ret (pv 2))))), ?_⟩
  refine fun r hr' => ?_
  obtain ⟨n1, n2⟩ := dr.ne_new hr'
  have ner : ea ≠ r := ne_of_none he hr'
  have nem : ∀ {H' : Hp}, Kp [d] H H' → H' ea = some (.lst (E.map V.int)) := fun k => k.k _ _ he (by simpa using ne)
  refine ⟨_, rfl, ea, rfl, ⟨_, SqL.of (nem (Kp.new hr'))⟩, for_list (K := K) (a := ea) (xs := E.map V.int) (fun i σ H' => ∃ (cs : Int → Int) (al : Int → Bool) (v3 : Option V), σ = [some (.ref d), some (.ref ea), some (.ref r), v3] ∧ Drw d sc H' ∧ Kp [d] H H' ∧
    H' r = some (.dK (ck ((E.take i).filter al) cs)) ∧ ∀ e, 0 ≤ cs e ∧ cs e ≤ 1001) ⟨fun _ => 0, fun _ => false, none, rfl, dr.put n1 n2, .new hr', upd_same, fun e => ⟨Int.le_refl _, by show (0 : Int) ≤ 1001; decide⟩⟩ (fun i σ H' _ p => ?_) ?_ ?_⟩
  · obtain ⟨cs, al, v3, rfl, _, k, _⟩ := p
    exact SqL.of (nem k)
  · rintro i x σ H1 hi ⟨cs, al, v3, rfl, dr1, k1, hr1, hcs⟩
    obtain ⟨e, he', rfl⟩ := mapAt hi
    have hie := (List.getElem?_eq_some_iff.mp he').1
    have nin := nin_take nd he'
    have same : ∀ (b : Bool), (E.take i).filter (fun y => if y = e then b else al y) = (E.take i).filter al := fun b => List.filter_congr fun y hy => if_neg fun z : y = e => nin (z ▸ hy)
    have nrd : r ≠ d := fun z => by obtain ⟨_, _, _, _, y, _⟩ := dr1; rw [← z, hr1] at y; cases y
    refine ⟨_, rfl, d, sc, 5, rfl, by decide, by decide, dr1, fun z o z0 z5 no dr2 => ⟨_, rfl, ?_⟩⟩
    have k2 : Kp [d] H1 (upd H1 d o) := dr1.step
    have hr2 : (upd H1 d o) r = some (.dK (ck ((E.take i).filter al) cs)) := by rw [upd_ne nrd]; exact hr1
    refine ite2 (fun cz => ?_) (fun cz => ?_)
    · have fin : ∀ (v : Int) (H3 : Hp), 0 ≤ v → v ≤ 1001 → Drw d sc H3 → Kp [d] H1 H3 → H3 r = some (.dK (ck ((E.take i).filter al) cs)) → ∀ (N : L2.St → Hp → Prop), (∀ σ H', (∃ (cs : Int → Int) (al : Int → Bool) (v3 : Option V), σ = [some (.ref d), some (.ref ea), some (.ref r), v3] ∧ Drw d sc H' ∧ Kp [d] H H' ∧
          H' r = some (.dK (ck ((E.take (i + 1)).filter al) cs)) ∧ ∀ e, 0 ≤ cs e ∧ cs e ≤ 1001) → N σ H') →
          ∃ a H4, V.ref r = .ref a ∧ DPut H3 a (.int e) (.int v) H4 ∧ N [some (.ref d), some (.ref ea), some (.ref r), some (.int e)] H4 := fun v H3 v0 v1 dr3 k3 hr3 N hN => by
        have nf : e ∉ (E.take i).filter al := fun m => nin (List.mem_filter.mp m).1
        obtain ⟨m1, m2⟩ := dr.ne_new hr'
        refine ⟨r, _, rfl, DPut.k (k := Sum.inl e) hr3 ?_, hN _ _ ⟨fun y => if y = e then v else cs y, fun y => if y = e then true else al y, _, rfl, dr3.put n1 n2, (k1.trans k3).mt hr', ?_, fun y => ?_⟩⟩
        · rw [ck_len]
          exact small1000 (Nat.le_trans (List.length_filter_le _ _) (Nat.le_trans (List.length_take_le' _ _) hE))
        · rw [upd_same, ck_put cs v nf, takeS he', List.filter_append, same true, List.filter_cons, if_pos (by simp), List.filter_nil]
        · show 0 ≤ (if y = e then v else cs y) ∧ (if y = e then v else cs y) ≤ 1001
          by_cases ey : y = e
          · rw [if_pos ey]; exact ⟨v0, v1⟩
          · rw [if_neg ey]; exact hcs y
      refine ⟨_, rfl, d, sc, 4, rfl, by decide, by decide, dr2, fun z2 o2 z20 z25 no2 dr3 => ⟨_, rfl, ?_⟩⟩
      have k3 : Kp [d] H1 (upd (upd H1 d o) d o2) := k2.trans dr2.step
      have hr3 : (upd (upd H1 d o) d o2) r = some (.dK (ck ((E.take i).filter al) cs)) := by rw [upd_ne nrd]; exact hr2
      refine ite2 (fun cz2 => ?_) (fun cz2 => ?_)
      · refine ⟨_, rfl, d, sc, 4, rfl, by decide, by decide, dr3, fun v o3 v0 v5 no3 dr4 => ⟨_, rfl, _, rfl, fin v _ v0 (by omega) dr4 (k3.trans dr3.step) (by rw [upd_ne nrd]; exact hr3) _ fun _ _ h => h⟩⟩
      · refine ⟨_, rfl, d, sc, 1001, rfl, by decide, by decide, dr3, fun v o3 v0 v5 no3 dr4 => ⟨_, rfl, _, rfl, fin v _ v0 (by omega) dr4 (k3.trans dr3.step) (by rw [upd_ne nrd]; exact hr3) _ fun _ _ h => h⟩⟩
    · refine ⟨cs, fun y => if y = e then false else al y, _, rfl, dr2, k1.trans k2, ?_, hcs⟩
      rw [takeS he', List.filter_append, same false, List.filter_cons, if_neg (by simp), List.filter_nil, List.append_nil]
      exact hr2
  · rintro σ H1 ⟨cs, al, v3, rfl, dr1, k1, hr1, hcs⟩
    rw [List.length_map, List.take_length] at hr1
    exact ⟨_, rfl, q cs al r H1 hcs hr' k1 dr1 hr1⟩
end

/-! ### lists of ints as data -/
def inD (l : List Int) : PyData := .list (l.map .int)
theorem ints_lay : ∀ l : List Int, PyData.canLayAll0 (l.map PyData.int) = true
  | [] => by simp [PyData.canLayAll0]
  | _ :: l => by
    show PyData.canLayAll0 (.int _ :: l.map PyData.int) = true
    rw [PyData.canLayAll0, ints_lay l]
    simp [PyData.canLay0]
theorem inD_dp (l : List Int) : (inD l).depth = 1 := by
  unfold inD
  simp only [PyData.depth]
  rw [PySem.W.depth_ints]
theorem inD_shaped (l : List Int) : SeqAt.shaped (inD l) = true := by
  have h := inD_dp l
  show ((inD l).canLay0 && decide ((inD l).depth ≤ 64)) = true
  rw [Bool.and_eq_true]
  exact ⟨by unfold inD; simp only [PyData.canLay0]; exact ints_lay l, decide_eq_true (by omega)⟩
theorem inDs_lay : ∀ L : List (List Int), PyData.canLayAll0 (L.map inD) = true
  | [] => by simp [PyData.canLayAll0]
  | l :: L => by
    rw [List.map_cons, PyData.canLayAll0, inDs_lay L]
    unfold inD
    simp only [PyData.canLay0, ints_lay, Bool.and_self]
theorem inDs_dp : ∀ L : List (List Int), PyData.depthAll (L.map inD) ≤ 1
  | [] => by simp [PyData.depthAll]
  | l :: L => by
    have h1 := inDs_dp L
    have h2 := inD_dp l
    rw [List.map_cons, PyData.depthAll]
    omega
theorem inDs_shaped (L : List (List Int)) : SeqAt.shaped (.list (L.map inD)) = true := by
  have h1 := inDs_dp L
  have h2 : PyData.depth (.list (L.map inD)) ≤ 64 := by
    simp only [PyData.depth]
    omega
  show (PyData.canLay0 (.list (L.map inD)) && decide (PyData.depth (.list (L.map inD)) ≤ 64)) = true
  rw [Bool.and_eq_true]
  exact ⟨by simp only [PyData.canLay0]; exact inDs_lay L, decide_eq_true h2⟩
theorem inD_eqv : ∀ a b : List Int, PyData.eqv (inD a) (inD b) = decide (a = b) := by
  have all : ∀ a b : List Int, PyData.eqvAll (a.map .int) (b.map .int) = decide (a = b) := by
    intro a
    induction a with
    | nil => intro b; cases b <;> simp [PyData.eqvAll]
    | cons x a ih =>
      intro b
      cases b with
      | nil => simp [PyData.eqvAll]
      | cons y b =>
        show PyData.eqvAll (.int x :: a.map .int) (.int y :: b.map .int) = _
        rw [PyData.eqvAll, ih b]
        simp only [PyData.eqv]
        by_cases h : x = y <;> by_cases k : a = b <;> simp [h, k]
  intro a b
  unfold inD
  simp only [PyData.eqv]
  exact all a b
theorem dp_ints {K : PySem.W.Frag} {H : Hp} : ∀ l : List Int, DpAll K H (l.map V.int) (l.map PyData.int)
  | [] => .nil
  | _ :: l => .cons (.int _) (dp_ints l)
theorem dp_lists {K : PySem.W.Frag} {H : Hp} : ∀ {as : List Addr} {L : List (List Int)}, as.length = L.length → (∀ (i : Nat) (a : Addr) (l : List Int), as[i]? = some a → L[i]? = some l → H a = some (.lst (l.map V.int))) → DpAll K H (as.map V.ref) (L.map inD)
  | [], [], _, _ => .nil
  | [], _ :: _, h, _ => by cases h
  | _ :: _, [], h, _ => by cases h
  | a :: as, l :: L, hl, f => .cons (.lst (SqL.of (f 0 a l rfl rfl)) (dp_ints l)) (dp_lists (Nat.succ.inj hl) fun i a' l' p q => f (i + 1) a' l' p q)
theorem idx_first {α : Type} [BEq α] [LawfulBEq α] {e : α} : ∀ {o : List α} {m : Nat} {x : α}, o[m]? = some x → m < o.idxOf e → x ≠ e
  | [], m, x, h, _ => by simp at h
  | y :: o, m, x, h, hm => by
    rw [List.idxOf_cons] at hm
    by_cases q : y = e
    · rw [show (y == e) = true from by simp [q]] at hm
      exact absurd hm (Nat.not_lt_zero _)
    · rw [show (y == e) = false from by simp [q]] at hm
      cases m with
      | zero => cases h; exact q
      | succ m => exact idx_first (o := o) (m := m) (by simpa using h) (Nat.lt_of_succ_lt_succ hm)

/-! ### the best change, as the law finds it -/
/-- the changes found, their lists new behind H0 -/
def CRows (H0 H : Hp) (r : Addr) (L : List (Int × List Int)) : Prop :=
  ∃ as : List Addr, H r = some (.lst (as.map V.ref)) ∧ as.length = L.length ∧ ∀ (i : Nat) (a : Addr) (p : Int × List Int), as[i]? = some a → L[i]? = some p → ∃ l, H a = some (.tup [.int p.1, .ref l]) ∧ H l = some (.lst (p.2.map V.int)) ∧ l ≠ r ∧ H0 l = none
theorem CRows.new {H0 H H' : Hp} {r : Addr} {L : List (Int × List Int)} (h : CRows H0 H r L) (k : Kp [] H H') : CRows H0 H' r L := by
  obtain ⟨as, h1, h2, h3⟩ := h
  refine ⟨as, k.k _ _ h1 (by simp), h2, fun i a p x y => ?_⟩
  obtain ⟨l, a1, a2, a3⟩ := h3 i a p x y
  exact ⟨l, k.t _ _ a1, k.k _ _ a2 (by simp), a3⟩
theorem CRows.snoc {H0 H : Hp} {r t l : Addr} {as : List Addr} {L : List (Int × List Int)} {e : Int} {T : List Int} (h : CRows H0 H r L) (hr : H r = some (.lst (as.map V.ref))) (ht : H t = some (.tup [.int e, .ref l])) (hl : H l = some (.lst (T.map V.int))) (ne : l ≠ r) (n0 : H0 l = none) :
    CRows H0 (upd H r (.lst (as.map V.ref ++ [V.ref t]))) r (L ++ [(e, T)]) := by
  obtain ⟨bs, h1, h2, h3⟩ := h
  rw [hr] at h1
  have eab : as.map V.ref = bs.map V.ref := HO.lst.inj (Option.some.inj h1)
  have tup_ne : ∀ {a : Addr} {xs : List V}, H a = some (.tup xs) → a ≠ r := fun q z => by rw [z, hr] at q; cases q
  refine ⟨bs ++ [t], by rw [upd_same, eab, List.map_append]; rfl, by rw [List.length_append, List.length_append, h2]; rfl, fun i a p x y => ?_⟩
  by_cases hi : i < bs.length
  · rw [List.getElem?_append_left hi] at x
    rw [List.getElem?_append_left (by omega)] at y
    obtain ⟨l', a1, a2, a3, a4⟩ := h3 i a p x y
    exact ⟨l', by rw [upd_ne (tup_ne a1)]; exact a1, by rw [upd_ne a3]; exact a2, a3, a4⟩
  · have hl' := (List.getElem?_eq_some_iff.mp x).1
    rw [List.length_append, List.length_singleton] at hl'
    have ei : i = bs.length := by omega
    subst ei
    rw [List.getElem?_append_right (Nat.le_refl _), Nat.sub_self] at x
    rw [h2, List.getElem?_append_right (Nat.le_refl _), Nat.sub_self] at y
    cases x
    cases y
    exact ⟨l, by rw [upd_ne (tup_ne ht)]; exact ht, by rw [upd_ne ne]; exact hl, ne, n0⟩
/-- the least of some changes is the best one -/
theorem best_of {g : (Int → Bool) → Bool} {pf al : Int → Bool} {cs : Int → Int} {E : List Int} (up : E.Pairwise (· < ·)) (hal : ∀ e, al e = true → e ∈ E) {tst : List Int → Bool} (htst : ∀ p, tst p = (p.all al && g (trn pf p))) :
    (∀ L, (subs E).filter tst = L → L = [] → BestF g pf al cs none) ∧ ∀ T, T ∈ (subs E).filter tst → (∀ S ∈ (subs E).filter tst, ¬ chLt (cst cs S, S) (cst cs T, T)) → BestF g pf al cs (some T) := by
  have inS : ∀ p, p ∈ (subs E).filter tst ↔ p.Pairwise (· < ·) ∧ (∀ y ∈ p, al y = true) ∧ g (trn pf p) = true := fun p => by
    rw [List.mem_filter, subs_iff, htst, Bool.and_eq_true, List.all_eq_true]
    exact ⟨fun h => ⟨up.sublist h.1, h.2.1, h.2.2⟩, fun h => ⟨asc_sub up h.1 fun y hy => hal y (h.2.1 y hy), h.2.1, h.2.2⟩⟩
  refine ⟨fun L hL h T h1 h2 => ?_, fun T hT h => ?_⟩
  · cases hv : g (trn pf T) with
    | false => rfl
    | true =>
      have := (inS T).mpr ⟨h1, h2, hv⟩
      rw [hL, h] at this
      cases this
  · obtain ⟨a1, a2, a3⟩ := (inS T).mp hT
    exact ⟨a1, a2, a3, fun S h1 h2 h3 => h S ((inS S).mpr ⟨h1, h2, h3⟩)⟩
/-- the first of the least, of changes -/
def bstZ (cs : Int → Int) (b : Addr × List Int) (l : List (Addr × List Int)) : Addr × List Int := l.foldl (fun b x => if chLt (cst cs x.2, x.2) (cst cs b.2, b.2) then x else b) b
def datZ (cs : Int → Int) (z : Addr × List Int) : V × PyData := (.ref z.1, chgD cs z.2)
theorem bstD_map (cs : Int → Int) : ∀ (l : List (Addr × List Int)) (b : Addr × List Int), bstD (datZ cs b) (l.map (datZ cs)) = datZ cs (bstZ cs b l)
  | [], b => rfl
  | y :: l, b => by
    have e : PySem.W.dataLt (datZ cs y).2 (datZ cs b).2 = decide (chLt (cst cs y.2, y.2) (cst cs b.2, b.2)) := lt_ch (cst cs y.2, y.2) (cst cs b.2, b.2)
    show bstD (if PySem.W.dataLt (datZ cs y).2 (datZ cs b).2 = true then datZ cs y else datZ cs b) (l.map (datZ cs)) = datZ cs (bstZ cs (if chLt (cst cs y.2, y.2) (cst cs b.2, b.2) then y else b) l)
    rw [e]
    by_cases c : chLt (cst cs y.2, y.2) (cst cs b.2, b.2)
    · rw [if_pos (decide_eq_true c), if_pos c]
      exact bstD_map cs l y
    · rw [if_neg (by rw [decide_eq_false c]; decide), if_neg c]
      exact bstD_map cs l b
theorem bstZ_mem (cs : Int → Int) : ∀ (l : List (Addr × List Int)) (b : Addr × List Int), bstZ cs b l ∈ b :: l
  | [], b => List.mem_cons_self
  | y :: l, b => by
    show bstZ cs (if chLt (cst cs y.2, y.2) (cst cs b.2, b.2) then y else b) l ∈ _
    by_cases c : chLt (cst cs y.2, y.2) (cst cs b.2, b.2)
    · rw [if_pos c]
      exact List.mem_cons_of_mem _ (bstZ_mem cs l y)
    · rw [if_neg c]
      rcases List.mem_cons.mp (bstZ_mem cs l b) with h | h
      · rw [h]; exact List.mem_cons_self
      · exact List.mem_cons_of_mem _ (List.mem_cons_of_mem _ h)
theorem bstZ_least (cs : Int → Int) : ∀ (l : List (Addr × List Int)) (b : Addr × List Int), ∀ x ∈ b :: l, ¬ chLt (cst cs x.2, x.2) (cst cs (bstZ cs b l).2, (bstZ cs b l).2)
  | [], b, x, hx => by
    rw [List.mem_singleton.mp hx]
    exact chLt_irr _
  | y :: l, b, x, hx => by
    show ¬ chLt _ (cst cs (bstZ cs (if chLt (cst cs y.2, y.2) (cst cs b.2, b.2) then y else b) l).2, (bstZ cs (if chLt (cst cs y.2, y.2) (cst cs b.2, b.2) then y else b) l).2)
    by_cases c : chLt (cst cs y.2, y.2) (cst cs b.2, b.2)
    · rw [if_pos c]
      have ih := bstZ_least cs l y
      rcases List.mem_cons.mp hx with rfl | hx
      · intro z
        exact ih y List.mem_cons_self (chLt_trans c z)
      · exact ih x hx
    · rw [if_neg c]
      have ih := bstZ_least cs l b
      rcases List.mem_cons.mp hx with rfl | hx
      · exact ih x List.mem_cons_self
      · rcases List.mem_cons.mp hx with rfl | hx
        · intro z
          have hb2 := ih b List.mem_cons_self
          by_cases c2 : chLt (cst cs b.2, b.2) (cst cs x.2, x.2)
          · exact hb2 (chLt_trans c2 z)
          · rw [chLt_tri c c2] at z
            exact hb2 z
        · exact ih x (List.mem_cons_of_mem _ hx)

def spBest : Sp := fun vs H Q _ => ∃ (ta ea pa ca : Addr) (g : (Int → Bool) → Bool) (E PP : List Int) (kvs : List (Key × V)) (cs : Int → Int) (al : Int → Bool), vs = [.ref ta, .ref ea, .ref pa, .ref ca] ∧ H ta = some (.lst (((subs E).map fun p => g (memf p)).map V.bl)) ∧ H ea = some (.lst (E.map V.int)) ∧
  H pa = some (.lst (PP.map V.int)) ∧ H ca = some (.dK kvs) ∧ (∀ e ∈ E, valV kvs (Sum.inl e : Key) = if al e then some (.int (cs e)) else none) ∧ (∀ e, al e = true → e ∈ E) ∧ E.Pairwise (· < ·) ∧ PP.Pairwise (· < ·) ∧ (∀ e ∈ PP, e ∈ E) ∧ E.length ≤ 5 ∧
  ∀ v G r, Kp [] H G → BestF g (fun y => decide (y ∈ PP)) al cs r → ChV G cs v r → (∀ (t l : Addr) (k : V), v = .ref t → G t = some (.tup [k, .ref l]) → H l = none) → Q v G
structure TBest (mg : Str → Option Value) : Prop extends TCheap mg where
  n_all : mg "all" = none
  n_sum : mg "sum" = none
section
variable {P : Program} {w : World} {K : PySem.W.Frag} {mg : Str → Option Value} {base : Heap}
theorem ok_Lchange_key (D : GD K mg "_law_change_key" sD_Lchange_key ["change"]) (T : TCheap mg) : Cal P w K mg base 1 "_law_change_key" spChangeKey [] := by
  refine D.cal sc_Lchange_key (fun vs H Q E h => ?_) (fun f cdv A outer s0 H vs Q E hr h => ?_)
  · obtain ⟨t, l, k, S, rfl, _⟩ := h
    rfl
  obtain ⟨t, l, k, S, rfl, ht, hl, q⟩ := h
  refine ⟨_, (pss_one (ps_ret (pe_tup (pa_cons (pe_ix ix_tup (pv 0) pe_int (fun _ _ => rfl)) (pa_cons (pe_callB call_len_seq (by rfl) T.n_len (by decide +kernel) (pa_cons (pe_ix ix_tup (pv 0) pe_int (fun _ _ => rfl)) pa_nil)) (pa_cons (pe_ix ix_tup (pv 0) pe_int (fun _ _ => rfl)) pa_nil)))))), ?_⟩
  refine ⟨_, rfl, t, _, _, _, rfl, rfl, SqT.of ht, rfl, _, rfl, t, _, _, _, rfl, rfl, SqT.of ht, rfl, l, _, rfl, .inl (SqL.of hl), _, rfl, t, _, _, _, rfl, rfl, SqT.of ht, rfl, (by show 3 ≤ sizeLine; decide), fun p hp => ?_⟩
  rw [List.length_map]
  exact q p hp
theorem ok_best (D : GD K mg "_law_best" sD_Lbest ["truth", "entries", "present", "costs"]) (T : TBest mg) (c_Lsubsets : Cal P w K mg base 1 "_law_subsets" (spSubsetsN K) []) (c_Lturned : Cal P w K mg base 1 "_law_turned" spTurned []) (c_Lchange_key : Cal P w K mg base 1 "_law_change_key" spChangeKey []) :
    Cal P w K mg base 3 "_law_best" spBest [] := by
  refine D.cal sc_Lbest (fun vs H Q E h => ?_) (fun f cdv A outer s0 H vs Q E hr h => ?_)
  · obtain ⟨ta, ea, pa, ca, g, E, PP, kvs, cs, al, rfl, _⟩ := h
    rfl
  obtain ⟨ta, ea, pa, ca, g, E, PP, kvs, cs, al, rfl, hta, hea, hpa, hca, hkv, hal, upE, upP, hPE, lE, q⟩ := h
  have hu := hu_of hr
  refine ⟨_, (pss_cons (ps_set (i := 4) sc_Lbest.nd rfl (Or.inl rfl) (pe_c c_Lsubsets hr (by omega) rfl (pa_cons (pv 1) pa_nil)))
    (pss_cons (ps_set (i := 5) sc_Lbest.nd rfl (Or.inl rfl) (pe_lst pa_nil))
    (pss_cons (ps_for PassesOwn.never rfl (pi_list (pv 4)) (pg_name (i := 6) sc_Lbest.nd rfl (Or.inl rfl)) (pss_one (ps_if (PW.pt (pw_and (pt_val (pe_callB (cr_all rfl) (by rfl) T.n_all (by decide +kernel) (pa_cons (pe_lc (own := [("entry", 7)]) (g := gName 7) (tt := tYes) rfl sc_Lbest.nd (pi_list (pv 6)) (blkOk_by (own := [("entry", 7)]) (N := ["truth", "entries", "present", "costs", "subsets", "changes", "part", "entry"]) (sc := defScope sD_Lbest) (by decide +kernel)) (fun _ _ _ _ _ => (pg_name (i := 7) sc_Lbest.nd rfl (Or.inl rfl))) (fun _ _ _ _ _ => pts_nil) (fun _ _ _ _ _ => (pe_cmp (pc_din hu (pv 7) (pv 3))))) pa_nil))) (pw_and1 (pt_val (pe_ix ix_list (pv 0) (pe_bm PySem.F.plainAttrs_list PySem.F.slot_list_index PySem.F.type_list_index (mt_indexD (hu65 hr)) (pv 4) (pa_cons (pe_c c_Lturned hr (by omega) rfl (pa_cons (pv 2) (pa_cons (pv 6) pa_nil))) pa_nil)) (fun _ _ => rfl)))))) (pss_one (ps_expr (pe_bm PySem.F.plainAttrs_list PySem.F.slot_list_append PySem.F.type_list_append mt_append (pv 5) (pa_cons (pe_tup (pa_cons (pe_callB (cr_sum rfl) (by rfl) T.n_sum (by decide +kernel) (pa_cons (pe_lc (own := [("entry", 7)]) (g := gName 7) (tt := tYes) rfl sc_Lbest.nd (pi_list (pv 6)) (blkOk_by (own := [("entry", 7)]) (N := ["truth", "entries", "present", "costs", "subsets", "changes", "part", "entry"]) (sc := defScope sD_Lbest) (by decide +kernel)) (fun _ _ _ _ _ => (pg_name (i := 7) sc_Lbest.nd rfl (Or.inl rfl))) (fun _ _ _ _ _ => pts_nil) (fun _ _ _ _ _ => (pe_dget hu (pv 3) (pv 7) (fun _ _ => rfl)))) pa_nil)) (pa_cons (pv 6) pa_nil))) pa_nil)))) pss_nil)))
    (pss_one (ps_ret (pe_ifExp (pt_truth (pv 5) (by intro _; rfl)) (pe_minF c_Lchange_key hr (by omega) (fun Fn hr hb => by intro _ _ _ _ _ _ _ I r h; exact cr_minF1 Fn hr hb I r h) (by rfl) T.n_min (by decide +kernel) (by rfl) (pa_cons (pv 5) pa_nil)) pe_non)))))), ?_⟩
  obtain ⟨pf, hpf⟩ : ∃ pf : Int → Bool, (fun y => decide (y ∈ PP)) = pf := ⟨_, rfl⟩
  have ndP : PP.Nodup := upP.imp fun h e => by omega
  have lP : PP.length ≤ 5 := Nat.le_trans (asc_sub upE upP hPE).length_le lE
  have ls8 : (subs E).length ≤ 256 := by
    rw [subs_len]
    exact Nat.le_trans (Nat.pow_le_pow_right (by omega) (show E.length ≤ 8 by omega)) (by decide)
  refine ⟨_, rfl, ea, E, rfl, SqL.of hea, by omega, fun sr H2 hsr k2 L2 => ?_⟩
  obtain ⟨as, hs2, hal2, hls, hnw⟩ := L2
  refine ⟨(by show 0 ≤ sizeLine; decide), fun ch hch => ?_⟩
  have hchH : H ch = none := k2.free hch (by simp)
  have kc : Kp [] H2 (upd H2 ch (.lst [])) := .new hch
  have nas : ∀ (i : Nat) (a : Addr), as[i]? = some a → a ≠ ch := fun i a ha z => by
    have hi : i < (subs E).length := by rw [← hal2]; exact (List.getElem?_eq_some_iff.mp ha).1
    have := hls i a _ ha (List.getElem?_eq_getElem hi)
    rw [z, hch] at this
    cases this
  have nsr : sr ≠ ch := fun z => by rw [z, hch] at hs2; cases hs2
  obtain ⟨tst, htst⟩ : ∃ tst : List Int → Bool, (fun p => (p.all al && g (trn pf p))) = tst := ⟨_, rfl⟩
  refine ⟨_, rfl, sr, rfl, ⟨_, SqL.of (kc.k _ _ hs2 (by simp))⟩, for_list (K := K) (a := sr) (xs := as.map V.ref) (fun i σ H' => ∃ (v6 : Option V), σ = [some (.ref ta), some (.ref ea), some (.ref pa), some (.ref ca), some (.ref sr), some (.ref ch), v6, none] ∧ Kp [] H H' ∧ Kp [ch] H2 H' ∧
      CRows H H' ch ((((subs E).take i).filter tst).map fun p => (cst cs p, p)))
    ⟨_, rfl, k2.trans kc, kc.wide (fun b m => absurd m List.not_mem_nil), [], upd_same, rfl, fun i a p x => by simp at x⟩ (fun i σ H' _ p => ?_) ?_ ?_⟩
  · obtain ⟨v6, rfl, _, k, _⟩ := p
    exact SqL.of (k.k _ _ hs2 (by simpa using nsr))
  · rintro i x σ H3 hi ⟨v6, rfl, k03, k3, rows⟩
    obtain ⟨c', hc', rfl⟩ := mapAt hi
    have his : i < (subs E).length := by have := (List.getElem?_eq_some_iff.mp hc').1; omega
    have hl : (subs E)[i]? = some (subs E)[i] := List.getElem?_eq_getElem his
    generalize (subs E)[i] = l at hl
    have hlm := List.mem_of_getElem? hl
    have nc := nas i c' hc'
    have hcl : H3 c' = some (.lst (l.map V.int)) := k3.k _ _ (hls i c' l hc' hl) (by simpa using nc)
    have hsub := subs_iff.mp hlm
    have ll : l.length ≤ 5 := Nat.le_trans hsub.length_le lE
    have upl := upE.sublist hsub
    have ndl : l.Nodup := upl.imp fun h e => by omega
    have hca3 : H3 ca = some (.dK kvs) := k03.k _ _ hca (by simp)
    have getk : ∀ (G : Hp), G ca = some (.dK kvs) → ∀ e ∈ l, DGet G ca (.int e) (if al e then some (.int (cs e)) else none) := fun G hG e he => by
      rw [← hkv e (hsub.subset he)]
      exact DGet.k (k := Sum.inl e) hG
    refine ⟨_, rfl, c', rfl, ⟨_, SqL.of hcl⟩, fun D hD => lc_list (K := K) (a := c') (xs := l.map V.int) (fun j G => Kp [] H3 G ∧ G D = some (.lst (((l.take j).map al).map V.bl))) ⟨.new hD, upd_same⟩ (fun j G _ p => SqL.of (p.1.k _ _ hcl (by simp))) (fun j x G hj p => ?_) (fun G p => ?_)⟩
    · obtain ⟨e, he, rfl⟩ := mapAt hj
      obtain ⟨kG, hG⟩ := p
      have gg := getk G (kG.k _ _ hca3 (by simp)) e (List.mem_of_getElem? he)
      refine ⟨rfl, iteT (B := True) ?_⟩
      refine ⟨_, rfl, _, rfl, ca, _, rfl, gg, _, hG, small1000 ?_, kG.mt hD, ?_⟩
      · rw [List.length_map, List.length_map]
        exact Nat.le_trans (List.length_take_le' _ _) (by omega)
      · have eb : (if al e = true then some (V.int (cs e)) else none).isSome = al e := by cases al e <;> rfl
        rw [upd_same, takeS he, List.map_append, List.map_append, eb]
        rfl
    obtain ⟨kG, hG⟩ := p
    rw [List.length_map, List.take_length] at hG
    have rowsG := rows.new kG
    have k0G := k03.trans kG
    have k2G : Kp [ch] H2 G := k3.trans (kG.wide fun b m => absurd m List.not_mem_nil)
    have hcG := kG.k _ _ hcl (by simp)
    refine ⟨D, l.map al, rfl, SqL.of hG, _, rfl, ?_⟩
    by_cases ca1 : l.all al = true
    · have e1 : (l.map al).all id = true := by rw [List.all_map]; exact ca1
      refine iteT_of e1 ?_
      refine ⟨_, rfl, _, rfl, .inl ⟨rfl, _, SqL.of (k2G.k _ _ hs2 (by simpa using nsr))⟩, _, rfl, _, rfl, pa, c', PP, l, rfl, k0G.k _ _ hpa (by simp), hcG, ndP, ndl, by omega, by omega, fun N r H4 upN mN lN hr4 k4 hN => ?_⟩
      rw [hpf] at mN
      have hNE : N.Sublist E := asc_sub upE upN fun y hy => by
        have := (mN y).mp hy
        unfold trn at this
        by_cases yl : y ∈ l
        · exact hsub.subset yl
        · rw [decide_eq_false yl] at this
          refine hPE y ?_
          have h2 : pf y = true := by simpa using this
          rw [← hpf] at h2
          exact of_decide_eq_true h2
      have hNm : N ∈ subs E := subs_iff.mpr hNE
      have hj := List.idxOf_lt_length_of_mem hNm
      have hat : (subs E)[(subs E).idxOf N]? = some N := by rw [List.getElem?_eq_getElem hj, List.getElem_idxOf hj]
      have k24 : Kp [ch] H2 H4 := k2G.trans (k4.wide fun b m => absurd m List.not_mem_nil)
      have dpl : Dp K H4 (.ref sr) (.list ((subs E).map inD)) := .lst (SqL.of (k24.k _ _ hs2 (by simpa using nsr))) (dp_lists hal2 fun n a l' x y => k24.k _ _ (hls n a l' x y) (by simpa using nas n a x))
      refine ⟨sr, _, inD N, (subs E).map inD, (subs E).idxOf N, inD N, rfl, rfl, dpl, .lst (SqL.of hN) (dp_ints N), inDs_shaped _, inD_shaped _, by rw [List.getElem?_map, hat]; rfl, by rw [inD_eqv]; exact decide_eq_true rfl, fun m z' hm hz => ?_, ?_⟩
      · rw [List.getElem?_map] at hz
        cases ez : (subs E)[m]? with
        | none => rw [ez] at hz; cases hz
        | some l' =>
          rw [ez] at hz
          cases hz
          rw [inD_eqv]
          exact decide_eq_false (idx_first ez hm)
      have evN : g (memf N) = g (trn pf l) := by
        congr 1
        funext y
        cases c : trn pf l y with
        | true => exact decide_eq_true ((mN y).mpr c)
        | false => exact decide_eq_false fun z => by rw [(mN y).mp z] at c; cases c
      refine ⟨ta, _, _, _, rfl, rfl, SqL.of ((k0G.trans k4).k _ _ hta (by simp)), atI_nat (j := (subs E).idxOf N) (by rw [List.getElem?_map, List.getElem?_map, hat]; rfl), _, rfl, ?_⟩
      have k04 := k0G.trans k4
      have rows4 := rowsG.new k4
      obtain ⟨bs, hb4, hbl, _⟩ := id rows4
      have hc4 := k4.k _ _ hcG (by simp)
      by_cases cg : g (trn pf l) = true
      · refine iteT_of (evN.trans cg) ?_
        have tl : tst l = true := by rw [← htst]; simp only [Bool.and_eq_true]; exact ⟨ca1, cg⟩
        have alE : ∀ e ∈ l, al e = true := List.all_eq_true.mp ca1
        refine ⟨_, rfl, .inl ⟨rfl, _, SqL.of hb4⟩, _, rfl, c', rfl, ⟨_, SqL.of hc4⟩, fun D5 hD5 => lc_list (K := K) (a := c') (xs := l.map V.int) (fun j G5 => Kp [] H4 G5 ∧ G5 D5 = some (.lst (((l.take j).map cs).map V.int))) ⟨.new hD5, upd_same⟩ (fun j G5 _ p => SqL.of (p.1.k _ _ hc4 (by simp))) (fun j x G5 hj p => ?_) (fun G5 p => ?_)⟩
        · obtain ⟨e, he, rfl⟩ := mapAt hj
          obtain ⟨kG5, hG5⟩ := p
          have hm := List.mem_of_getElem? he
          have gg := getk G5 ((k4.trans kG5).k _ _ (kG.k _ _ hca3 (by simp)) (by simp)) e hm
          rw [if_pos (alE e hm)] at gg
          refine ⟨rfl, iteT (B := True) ?_⟩
          refine ⟨_, rfl, _, rfl, ca, _, rfl, gg, _, hG5, small1000 ?_, kG5.mt hD5, ?_⟩
          · rw [List.length_map, List.length_map]
            exact Nat.le_trans (List.length_take_le' _ _) (by omega)
          · rw [upd_same, takeS he, List.map_append, List.map_append]
            rfl
        obtain ⟨kG5, hG5⟩ := p
        rw [List.length_map, List.take_length] at hG5
        refine ⟨D5, l.map cs, rfl, SqL.of hG5, _, rfl, (by show 2 ≤ sizeLine; decide), fun t2 ht2 => ?_⟩
        have k45 : Kp [] H4 (upd G5 t2 (.tup [.int (l.map cs).sum, .ref c'])) := kG5.newer ht2
        have hb5 := k45.k _ _ hb4 (by simp)
        refine ⟨ch, _, _, rfl, rfl, hb5, small1000 ?_, ?_⟩
        · rw [List.length_map, hbl, List.length_map]
          exact Nat.le_trans (List.length_filter_le _ _) (Nat.le_trans (List.length_take_le' _ _) (by omega))
        refine ⟨_, rfl, (k04.trans k45).mt hchH, (k24.trans (k45.wide fun b m => absurd m List.not_mem_nil)).trans (.put (by simp) hb5 fun xs z => by cases z), ?_⟩
        rw [takeS hl, List.filter_append, List.filter_cons, if_pos tl, List.filter_nil, List.map_append]
        exact (rows4.new k45).snoc hb5 upd_same (k45.k _ _ hc4 (by simp)) nc (hnw c' (List.mem_of_getElem? hc'))
      · have cg2 : g (trn pf l) = false := by simpa using cg
        refine iteF_of (evN.trans cg2) ⟨_, rfl, k04, k24, ?_⟩
        rw [takeS hl, List.filter_append, List.filter_cons, if_neg (by rw [← htst]; simp only [Bool.and_eq_true]; exact fun z => cg z.2), List.filter_nil, List.append_nil]
        exact rows4
    · have e1 : (l.map al).all id = false := by rw [List.all_map]; simpa using ca1
      refine iteF_of e1 ⟨_, rfl, k0G, k2G, ?_⟩
      rw [takeS hl, List.filter_append, List.filter_cons, if_neg (by rw [← htst]; simp only [Bool.and_eq_true]; exact fun z => ca1 z.1), List.filter_nil, List.append_nil]
      exact rowsG
  · rintro σ H3 ⟨v6, rfl, k03, k3, rows⟩
    rw [List.length_map, hal2, List.take_length] at rows
    obtain ⟨b1, b2⟩ := best_of (g := g) (pf := pf) (cs := cs) upE hal fun p => congrFun htst.symm p
    obtain ⟨ts, hts, htl, hti⟩ := id rows
    rw [List.length_map] at htl
    refine ⟨_, rfl, _, .inl ⟨_, SqL.of hts, rfl⟩, ?_⟩
    rw [hpf] at q
    cases hL : (subs E).filter tst with
    | nil =>
      rw [hL] at htl
      have : ts = [] := List.length_eq_zero_iff.mp htl
      subst this
      exact iteF (q _ _ none k03 (b1 _ hL rfl) rfl fun _ _ _ z => by cases z)
    | cons T0 R =>
      have hne : ts ≠ [] := fun z => by rw [z, hL] at htl; cases htl
      obtain ⟨t0, ts', rfl⟩ : ∃ t0 ts', ts = t0 :: ts' := by
        cases ts with
        | nil => exact absurd rfl hne
        | cons a b => exact ⟨a, b, rfl⟩
      refine iteT ?_
      obtain ⟨L, hLL⟩ : ∃ L, (subs E).filter tst = L := ⟨_, rfl⟩
      rw [hLL] at hti htl b2
      have l256 : L.length ≤ 256 := by rw [← hLL]; exact Nat.le_trans (List.length_filter_le _ _) ls8
      obtain ⟨zs, hzs⟩ : ∃ zs, (t0 :: ts').zip L = zs := ⟨_, rfl⟩
      have e1 : zs.map Prod.fst = t0 :: ts' := by rw [← hzs]; exact zip_fst htl
      have e2 : zs.map Prod.snd = L := by rw [← hzs]; exact zip_snd htl
      have hz : ∀ z ∈ zs, ∃ l, H3 z.1 = some (.tup [.int (cst cs z.2), .ref l]) ∧ H3 l = some (.lst (z.2.map V.int)) ∧ l ≠ ch ∧ H l = none := fun z hz => by
        rw [← hzs] at hz
        obtain ⟨i, hi⟩ := List.mem_iff_getElem?.mp hz
        obtain ⟨h1, h2⟩ := List.getElem?_zip_eq_some.mp hi
        exact hti i z.1 (cst cs z.2, z.2) h1 (by rw [List.getElem?_map, h2]; rfl)
      cases zs with
      | nil => cases e1
      | cons z0 zs =>
        have ez0 : z0.1 = t0 := (List.cons.inj e1).1
        have key : ∀ z ∈ z0 :: zs, ∀ G : Hp, Kp [] H3 G → spChangeKey [.ref z.1] G (fun v G' => Kp [] G G' ∧ Has G' v (chgD cs z.2)) C8.E0 := fun z hzm G kG => by
          obtain ⟨l, a1, a2, _, _⟩ := hz z hzm
          have a1' := kG.t _ _ a1
          have a2' := kG.k _ _ a2 (by simp)
          exact ⟨z.1, l, _, z.2, rfl, a1', a2', fun p hp => ⟨.new hp, .tup upd_same (.cons (.int _) (.cons (.int _) (.cons (.lst ((Kp.new (M := []) hp).k _ _ a2' (by simp)) (has_ints _)) .nil)))⟩⟩
        have mm : ∀ b ∈ (z0 :: zs).map (fun z => ((V.ref z.1, chgD cs z.2) : V × PyData)), ∃ z ∈ z0 :: zs, b = (V.ref z.1, chgD cs z.2) := fun b hb => by
          obtain ⟨z, hz, rfl⟩ := List.mem_map.mp hb
          exact ⟨z, hz, rfl⟩
        refine ⟨_, rfl, ch, (.ref z0.1, chgD cs z0.2), zs.map fun z => (.ref z.1, chgD cs z.2), rfl, ?_, ?_, ?_, ?_, ?_, fun G kG => ?_⟩
        · rw [hts, ← e1, List.map_cons, List.map_cons, List.map_cons, List.map_map, List.map_map]
          rfl
        · intro d hd d' hd'
          rw [← List.map_cons (f := fun z : Addr × List Int => ((V.ref z.1, chgD cs z.2) : V × PyData)), List.map_map] at hd hd'
          obtain ⟨z, _, rfl⟩ := List.mem_map.mp hd
          obtain ⟨z', _, rfl⟩ := List.mem_map.mp hd'
          exact chgD_al ..
        · intro b hb
          obtain ⟨z, _, rfl⟩ := mm b hb
          exact nofun
        · intro b hb
          obtain ⟨z, _, rfl⟩ := mm b hb
          exact chgD_dp ..
        · intro b hb G kG
          obtain ⟨z, hzm, rfl⟩ := mm b hb
          exact key z hzm G kG
        · have bm := bstD_map cs zs z0
          show Q (bstD (datZ cs z0) (zs.map (datZ cs))).1 G
          rw [bm]
          obtain ⟨zb, hzb⟩ : ∃ zb, bstZ cs z0 zs = zb := ⟨_, rfl⟩
          have hm := bstZ_mem cs zs z0
          have hle := bstZ_least cs zs z0
          rw [hzb] at hm hle ⊢
          obtain ⟨l, a1, a2, a3, a4⟩ := hz zb hm
          have inL : zb.2 ∈ L := by rw [← e2]; exact List.mem_map.mpr ⟨zb, hm, rfl⟩
          have l5 : zb.2.length ≤ 9 := by
            rw [← hLL] at inL
            have := (subs_iff.mp (List.mem_filter.mp inL).1).length_le
            omega
          refine q _ G (some zb.2) (k03.trans kG) (b2 zb.2 inL fun S hS => ?_) ⟨zb.1, l, rfl, kG.t _ _ a1, kG.k _ _ a2 (by simp), l5⟩ fun t' l' k' e3 e4 => ?_
          · rw [← e2] at hS
            obtain ⟨z, hz, rfl⟩ := List.mem_map.mp hS
            exact hle z hz
          · cases e3
            rw [kG.t _ _ a1] at e4
            cases e4
            exact a4
end

/-! ### rows with a list -/
/-- rows (e, T), new tuples with lists -/
def BRows (H : Hp) (r : Addr) (L : List (Int × List Int)) : Prop :=
  ∃ as : List Addr, H r = some (.lst (as.map V.ref)) ∧ as.length = L.length ∧ ∀ (i : Nat) (a : Addr) (p : Int × List Int), as[i]? = some a → L[i]? = some p → ∃ l, H a = some (.tup [.int p.1, .ref l]) ∧ H l = some (.lst (p.2.map V.int)) ∧ l ≠ r
theorem BRows.kp {M : List Addr} {H H' : Hp} {r : Addr} {L : List (Int × List Int)} (h : BRows H r L) (k : Kp M H H') (hr : r ∉ M) (hM : ∀ (a : Addr) (L : List Int), H a = some (.lst (L.map V.int)) → a ∉ M) : BRows H' r L := by
  obtain ⟨as, h1, h2, h3⟩ := h
  refine ⟨as, k.k _ _ h1 hr, h2, fun i a p x y => ?_⟩
  obtain ⟨l, a1, a2, a3⟩ := h3 i a p x y
  exact ⟨l, k.t _ _ a1, k.k _ _ a2 (hM _ _ a2), a3⟩
theorem BRows.new {H H' : Hp} {r : Addr} {L : List (Int × List Int)} (h : BRows H r L) (k : Kp [] H H') : BRows H' r L := h.kp k (by simp) fun _ _ _ => by simp
theorem BRows.nil {H : Hp} {r : Addr} (h : H r = some (.lst [])) : BRows H r [] := ⟨[], h, rfl, fun i a p x => by simp at x⟩
theorem BRows.snoc {H : Hp} {r t l : Addr} {as : List Addr} {L : List (Int × List Int)} {e : Int} {T : List Int} (h : BRows H r L) (hr : H r = some (.lst (as.map V.ref))) (ht : H t = some (.tup [.int e, .ref l])) (hl : H l = some (.lst (T.map V.int))) (ne : l ≠ r) :
    BRows (upd H r (.lst (as.map V.ref ++ [V.ref t]))) r (L ++ [(e, T)]) := by
  obtain ⟨bs, h1, h2, h3⟩ := h
  rw [hr] at h1
  have eab : as.map V.ref = bs.map V.ref := HO.lst.inj (Option.some.inj h1)
  have tup_ne : ∀ {a : Addr} {xs : List V}, H a = some (.tup xs) → a ≠ r := fun q z => by rw [z, hr] at q; cases q
  refine ⟨bs ++ [t], by rw [upd_same, eab, List.map_append]; rfl, by rw [List.length_append, List.length_append, h2]; rfl, fun i a p x y => ?_⟩
  by_cases hi : i < bs.length
  · rw [List.getElem?_append_left hi] at x
    rw [List.getElem?_append_left (by omega)] at y
    obtain ⟨l', a1, a2, a3⟩ := h3 i a p x y
    exact ⟨l', by rw [upd_ne (tup_ne a1)]; exact a1, by rw [upd_ne a3]; exact a2, a3⟩
  · have hl' := (List.getElem?_eq_some_iff.mp x).1
    rw [List.length_append, List.length_singleton] at hl'
    have ei : i = bs.length := by omega
    subst ei
    rw [List.getElem?_append_right (Nat.le_refl _), Nat.sub_self] at x
    rw [h2, List.getElem?_append_right (Nat.le_refl _), Nat.sub_self] at y
    cases x
    cases y
    exact ⟨l, by rw [upd_ne (tup_ne ht)]; exact ht, by rw [upd_ne ne]; exact hl, ne⟩
def brD (p : Int × List Int) : PyData := .tuple [.int p.1, .list (p.2.map .int)]
theorem brows_all {H : Hp} : ∀ {as : List Addr} {L : List (Int × List Int)}, as.length = L.length → (∀ (i : Nat) (a : Addr) (p : Int × List Int), as[i]? = some a → L[i]? = some p → ∃ l, H a = some (.tup [.int p.1, .ref l]) ∧ H l = some (.lst (p.2.map V.int))) → HasAll H (as.map V.ref) (L.map brD)
  | [], [], _, _ => .nil
  | [], p :: L, h, _ => by cases h
  | a :: as, [], h, _ => by cases h
  | a :: as, p :: L, hl, f => by
    obtain ⟨l, h1, h2⟩ := f 0 a p rfl rfl
    exact .cons (.tup h1 (.cons (.int _) (.cons (.lst h2 (has_ints _)) .nil))) (brows_all (Nat.succ.inj hl) fun i a' p' x y => f (i + 1) a' p' x y)
theorem BRows.has {H : Hp} {r : Addr} {L : List (Int × List Int)} (h : BRows H r L) : Has H (.ref r) (.list (L.map brD)) := by
  obtain ⟨as, h1, h2, h3⟩ := h
  exact .lst h1 (brows_all h2 fun i a p x y => let ⟨l, a1, a2, _⟩ := h3 i a p x y; ⟨l, a1, a2⟩)

/-! ### candidates -/
def pairD (p : Int × Int) : PyData := .tuple [.int p.1, .int p.2]
theorem pairD_shaped (p : Int × Int) : SeqAt.shaped (pairD p) = true := by
  unfold pairD SeqAt.shaped
  simp [PyData.canLay0, PyData.canLayAll0, PyData.depth, PyData.depthAll]
theorem pairDs_shaped (L : List (Int × Int)) : SeqAt.shaped (.list (L.map pairD)) = true := by
  have h1 : ∀ L : List (Int × Int), PyData.canLayAll0 (L.map pairD) = true := by
    intro L
    induction L with
    | nil => simp [PyData.canLayAll0]
    | cons p L ih =>
      rw [List.map_cons, PyData.canLayAll0, ih]
      unfold pairD
      simp [PyData.canLay0, PyData.canLayAll0]
  have h2 : ∀ L : List (Int × Int), PyData.depthAll (L.map pairD) ≤ 1 := by
    intro L
    induction L with
    | nil => simp [PyData.depthAll]
    | cons p L ih =>
      rw [List.map_cons, PyData.depthAll]
      have : (pairD p).depth = 1 := by unfold pairD; simp [PyData.depth, PyData.depthAll]
      omega
  have h3 : PyData.depth (.list (L.map pairD)) ≤ 64 := by
    have := h2 L
    simp only [PyData.depth]
    omega
  show (PyData.canLay0 (.list (L.map pairD)) && decide (PyData.depth (.list (L.map pairD)) ≤ 64)) = true
  rw [Bool.and_eq_true]
  exact ⟨by simp only [PyData.canLay0]; exact h1 L, decide_eq_true h3⟩
/-- pairs in a list -/
def PRows (H : Hp) (r : Addr) (L : List (Int × Int)) : Prop :=
  ∃ as : List Addr, H r = some (.lst (as.map V.ref)) ∧ as.length = L.length ∧ ∀ (i : Nat) (a : Addr) (p : Int × Int), as[i]? = some a → L[i]? = some p → H a = some (.tup [.int p.1, .int p.2])
theorem PRows.kp {M : List Addr} {H H' : Hp} {r : Addr} {L : List (Int × Int)} (h : PRows H r L) (k : Kp M H H') (hr : r ∉ M) : PRows H' r L := by
  obtain ⟨as, h1, h2, h3⟩ := h
  exact ⟨as, k.k _ _ h1 hr, h2, fun i a p x y => k.t _ _ (h3 i a p x y)⟩
theorem PRows.snoc {H : Hp} {r t : Addr} {as : List Addr} {L : List (Int × Int)} {p : Int × Int} (h : PRows H r L) (hr : H r = some (.lst (as.map V.ref))) (ht : H t = some (.tup [.int p.1, .int p.2])) : PRows (upd H r (.lst (as.map V.ref ++ [V.ref t]))) r (L ++ [p]) := by
  obtain ⟨bs, h1, h2, h3⟩ := h
  rw [hr] at h1
  have eab : as.map V.ref = bs.map V.ref := HO.lst.inj (Option.some.inj h1)
  have tup_ne : ∀ {a : Addr} {xs : List V}, H a = some (.tup xs) → a ≠ r := fun q z => by rw [z, hr] at q; cases q
  refine ⟨bs ++ [t], by rw [upd_same, eab, List.map_append]; rfl, by rw [List.length_append, List.length_append, h2]; rfl, fun i a q x y => ?_⟩
  by_cases hi : i < bs.length
  · rw [List.getElem?_append_left hi] at x
    rw [List.getElem?_append_left (by omega)] at y
    have := h3 i a q x y
    rw [upd_ne (tup_ne this)]
    exact this
  · have hl' := (List.getElem?_eq_some_iff.mp x).1
    rw [List.length_append, List.length_singleton] at hl'
    have ei : i = bs.length := by omega
    subst ei
    rw [List.getElem?_append_right (Nat.le_refl _), Nat.sub_self] at x
    rw [h2, List.getElem?_append_right (Nat.le_refl _), Nat.sub_self] at y
    cases x
    cases y
    rw [upd_ne (tup_ne ht)]
    exact ht
theorem dp_pairs {K : PySem.W.Frag} {H : Hp} : ∀ {as : List Addr} {L : List (Int × Int)}, as.length = L.length → (∀ (i : Nat) (a : Addr) (p : Int × Int), as[i]? = some a → L[i]? = some p → H a = some (.tup [.int p.1, .int p.2])) → DpAll K H (as.map V.ref) (L.map pairD)
  | [], [], _, _ => .nil
  | [], _ :: _, h, _ => by cases h
  | _ :: _, [], h, _ => by cases h
  | a :: as, p :: L, hl, f => .cons (.tup (SqT.of (f 0 a p rfl rfl)) (.cons (.int _) (.cons (.int _) .nil))) (dp_pairs (Nat.succ.inj hl) fun i a' l' p q => f (i + 1) a' l' p q)
/-- rows with their trees -/
def TRows (H : Hp) (r : Addr) (L : List ((Int × Int) × Tr)) : Prop :=
  ∃ as : List Addr, H r = some (.lst (as.map V.ref)) ∧ as.length = L.length ∧ ∀ (i : Nat) (a : Addr) (p : (Int × Int) × Tr), as[i]? = some a → L[i]? = some p → ∃ x t : Addr, H a = some (.tup [.ref x, .ref t]) ∧ H x = some (.tup [.int p.1.1, .int p.1.2]) ∧ TreeAt H p.2 t
theorem TRows.kp {M : List Addr} {H H' : Hp} {r : Addr} {L : List ((Int × Int) × Tr)} (h : TRows H r L) (k : Kp M H H') (hr : r ∉ M) : TRows H' r L := by
  obtain ⟨as, h1, h2, h3⟩ := h
  refine ⟨as, k.k _ _ h1 hr, h2, fun i a p x y => ?_⟩
  obtain ⟨w, t, a1, a2, a3⟩ := h3 i a p x y
  exact ⟨w, t, k.t _ _ a1, k.t _ _ a2, TreeAt.kp k _ _ a3⟩
theorem TRows.snoc {H : Hp} {r u x t : Addr} {as : List Addr} {L : List ((Int × Int) × Tr)} {p : Int × Int} {tr : Tr} (h : TRows H r L) (hr : H r = some (.lst (as.map V.ref))) (hu : H u = some (.tup [.ref x, .ref t])) (hx : H x = some (.tup [.int p.1, .int p.2])) (ht : TreeAt H tr t) :
    TRows (upd H r (.lst (as.map V.ref ++ [V.ref u]))) r (L ++ [(p, tr)]) := by
  have k : Kp [r] H (upd H r (.lst (as.map V.ref ++ [V.ref u]))) := .put (by simp) hr fun xs z => by cases z
  obtain ⟨bs, h1, h2, h3⟩ := h
  rw [hr] at h1
  have eab : as.map V.ref = bs.map V.ref := HO.lst.inj (Option.some.inj h1)
  refine ⟨bs ++ [u], by rw [upd_same, eab, List.map_append]; rfl, by rw [List.length_append, List.length_append, h2]; rfl, fun i a q y z => ?_⟩
  by_cases hi : i < bs.length
  · rw [List.getElem?_append_left hi] at y
    rw [List.getElem?_append_left (by omega)] at z
    obtain ⟨w', t', a1, a2, a3⟩ := h3 i a q y z
    exact ⟨w', t', k.t _ _ a1, k.t _ _ a2, TreeAt.kp k _ _ a3⟩
  · have hl' := (List.getElem?_eq_some_iff.mp y).1
    rw [List.length_append, List.length_singleton] at hl'
    have ei : i = bs.length := by omega
    subst ei
    rw [List.getElem?_append_right (Nat.le_refl _), Nat.sub_self] at y
    rw [h2, List.getElem?_append_right (Nat.le_refl _), Nat.sub_self] at z
    cases y
    cases z
    exact ⟨x, t, k.t _ _ hu, k.t _ _ hx, TreeAt.kp k _ _ ht⟩
def spCandidates (C : Addr) : Sp := fun vs H Q _ => ∃ (d sc ea : Addr) (E : List Int) (s : SA) (ns : List Node) (b : Nat), vs = [.ref d, .ref s.p, .ref ea] ∧ Drw d sc H ∧ H ea = some (.lst (E.map V.int)) ∧ E ≠ [] ∧ E.length ≤ 8 ∧ ea ≠ d ∧ StoAt C E s H ns b ∧ b + 100000 ≤ 1000000 ∧ d ∉ s.M ∧ sc ∉ s.M ∧
  ∀ (r : Addr) (H' : Hp) (ns' : List Node) (L : List ((Int × Int) × Tr)), H r = none → Kp (d :: s.M) H H' → Drw d sc H' → StoAt C E s H' ns' (b + 100000) → Pre ns ns' → TRows H' r L → L.length ≤ 5 → (∀ p ∈ L, p.2.depth ≤ 3 ∧ p.2.In E) → (∀ p ∈ L, p.1.1.natAbs < 1000 ∧ p.1.2.natAbs < 1000) → Q (.ref r) H'
structure TCand (mg : Str → Option Value) : Prop where
  n_range : mg "range" = none
  n_sorted : mg "sorted" = none
section
variable {P : Program} {w : World} {K : PySem.W.Frag} {mg : Str → Option Value} {base : Heap} {C : Addr}
theorem ok_candidates (D : GD K mg "_law_candidates" sD_Lcandidates ["draw", "store", "entries"]) (T : TCand mg) (c_Lnext : Cal P w K mg base 1 "_law_next" spNext []) (c_Ltree : Cal P w K mg base 5 "_law_tree" (spTree 5) []) (c_Lbuild : Cal P w K mg base 36 "_law_build" (spBuild C 36) []) :
    Cal P w K mg base 37 "_law_candidates" (spCandidates C) [] := by
  refine D.cal sc_Lcandidates (fun vs H Q E h => ?_) (fun f cdv A outer s0 H vs Q E hr h => ?_)
  · obtain ⟨d, sc, ea, E, s, ns, b, rfl, _⟩ := h
    rfl
  obtain ⟨d, sc, ea, E, s, ns, b, rfl, dr, hea, neE, lE, ned, S, hb, dM, scM, q⟩ := h
  refine ⟨_, (pss_cons (ps_set (i := 3) sc_Lcandidates.nd rfl (Or.inl rfl) (pe_lst pa_nil))
    (pss_cons (ps_set (i := 4) sc_Lcandidates.nd rfl (Or.inl rfl) (pe_lst pa_nil))
    (pss_cons (ps_for PassesOwn.never rfl (pi_range1 (by rfl) T.n_range (pa_cons (pe_c c_Lnext hr (by omega) rfl (pa_cons (pv 0) (pa_cons pe_int pa_nil))) pa_nil)) (pg_name (i := 5) sc_Lcandidates.nd rfl (Or.inl rfl)) (pss_cons (ps_set (i := 6) sc_Lcandidates.nd rfl (Or.inl rfl) (pe_tup (pa_cons (pe_c c_Lnext hr (by omega) rfl (pa_cons (pv 0) (pa_cons pe_int pa_nil))) (pa_cons (pe_c c_Lnext hr (by omega) rfl (pa_cons (pv 0) (pa_cons pe_int pa_nil))) pa_nil))))
    (pss_cons (ps_set (i := 7) sc_Lcandidates.nd rfl (Or.inl rfl) (pe_c c_Ltree hr (by omega) rfl (pa_cons (pv 0) (pa_cons (pv 2) (pa_cons (pe_c c_Lnext hr (by omega) rfl (pa_cons (pv 0) (pa_cons pe_int pa_nil))) pa_nil)))))
    (pss_one (ps_if (PW.pt (pw_and (pt_cmpR (op_notInD (hu65 hr)) (pv 6) (pv 4) (by rfl)) (pw_and1 (pt_cmpR op_ne (pe_c c_Lbuild hr (by omega) rfl (pa_cons (pv 1) (pa_cons (pv 7) pa_nil))) pe_int (nomark _))))) (pss_one (ps_expr (pe_bm PySem.F.plainAttrs_list PySem.F.slot_list_append PySem.F.type_list_append mt_append (pv 4) (pa_cons (pv 6) pa_nil)))) pss_nil)))))
    (pss_cons (ps_for PassesOwn.never rfl (pi_list (pe_callB cr_sortedP (by rfl) T.n_sorted (by decide +kernel) (pa_cons (pv 4) pa_nil))) (pg_name (i := 6) sc_Lcandidates.nd rfl (Or.inl rfl)) (pss_cons (ps_set (i := 7) sc_Lcandidates.nd rfl (Or.inl rfl) (pe_c c_Ltree hr (by omega) rfl (pa_cons (pv 0) (pa_cons (pv 2) (pa_cons (pe_c c_Lnext hr (by omega) rfl (pa_cons (pv 0) (pa_cons pe_int pa_nil))) pa_nil)))))
    (pss_one (ps_if (pt_cmpR op_ne (pe_c c_Lbuild hr (by omega) rfl (pa_cons (pv 1) (pa_cons (pv 7) pa_nil))) pe_int (nomark _)) (pss_one (ps_expr (pe_bm PySem.F.plainAttrs_list PySem.F.slot_list_append PySem.F.type_list_append mt_append (pv 3) (pa_cons (pe_tup (pa_cons (pv 6) (pa_cons (pv 7) pa_nil))) pa_nil)))) pss_nil))))
    (pss_one (ps_ret (pv 3))))))), ?_⟩
  refine ⟨(by show 0 ≤ sizeLine; decide), fun tr htr => ⟨(by show 0 ≤ sizeLine; decide), fun rw' hrw => ?_⟩⟩
  have k1 : Kp [] H (upd H tr (.lst [])) := .new htr
  have hrwH : H rw' = none := k1.free hrw (by simp)
  have k2 := k1.newer (o := .lst []) hrw
  obtain ⟨H2, hH2⟩ : ∃ H2, upd (upd H tr (.lst [])) rw' (.lst []) = H2 := ⟨_, rfl⟩
  have htr2 : H2 tr = some (.lst []) := by rw [← hH2]; exact (Kp.new (M := []) hrw).k _ _ upd_same (by simp)
  have hrw2 : H2 rw' = some (.lst []) := by rw [← hH2]; exact upd_same
  have ntr : tr ≠ rw' := by
    intro z
    rw [z] at hrw
    rw [upd_same] at hrw
    cases hrw
  have dr2 : Drw d sc H2 := dr.kp (M := []) (by rw [← hH2]; exact k2) (by simp) (by simp)
  rw [hH2] at k2 ⊢
  have eaM : ea ∉ s.M := S.out.2.1 _ _ hea
  have trM : tr ∉ s.M := S.out.2.2 tr htr
  have rwM : rw' ∉ s.M := S.out.2.2 rw' hrwH
  have ntd : tr ≠ d := fun z => by obtain ⟨xs, e⟩ := dr.dl; rw [← z, htr] at e; cases e
  have nrd : rw' ≠ d := fun z => by obtain ⟨xs, e⟩ := dr.dl; rw [← z, hrwH] at e; cases e
  have scd := dr
  refine ⟨_, rfl, d, sc, 6, rfl, by decide, by decide, dr2, fun m o m0 m6 no dr3 => ?_⟩
  obtain ⟨mn, rfl⟩ : ∃ mn : Nat, m = mn := ⟨m.toNat, by omega⟩
  refine ⟨_, rfl, by omega, by omega, ?_⟩
  have k3 : Kp [d] H2 (upd H2 d o) := dr2.step
  rw [show ((mn : Nat) : Int).toNat = mn by omega]
  have wide1 : ∀ {H3 H4 : Hp}, Kp [] H3 H4 → Kp (d :: s.M) H3 H4 := fun k => k.wide fun b m => absurd m List.not_mem_nil
  have wide2 : ∀ {H3 H4 : Hp}, Kp [d] H3 H4 → Kp (d :: s.M) H3 H4 := fun k => k.wide fun b m => by rw [List.mem_singleton.mp m]; exact List.mem_cons_self
  have wide3 : ∀ {H3 H4 : Hp}, Kp s.M H3 H4 → Kp (d :: s.M) H3 H4 := fun k => k.wide fun b m => List.mem_cons_of_mem _ m
  have drM : ∀ {H3 H4 : Hp}, Drw d sc H3 → Kp s.M H3 H4 → Drw d sc H4 := fun D k => D.kp k dM scM
  have trd : tr ∉ d :: s.M := not_cons ntd trM
  have rwd : rw' ∉ d :: s.M := not_cons nrd rwM
  refine for_range (lo := 0) (n := mn) (fun i σ H' => ∃ (v5 v6 v7 : Option V) (ns' : List Node) (L : List (Int × Int)), σ = [some (.ref d), some (.ref s.p), some (.ref ea), some (.ref tr), some (.ref rw'), v5, v6, v7] ∧ Kp (d :: s.M) H H' ∧ Drw d sc H' ∧ StoAt C E s H' ns' (b + 8000 * i) ∧ Pre ns ns' ∧
      H' tr = some (.lst []) ∧ PRows H' rw' L ∧ L.length ≤ i ∧ ∀ p ∈ L, p.1.natAbs < 1000 ∧ p.2.natAbs < 1000) ⟨none, none, none, ns, [], rfl, (wide1 k2).trans (wide2 k3), dr3, (S.new k2).kd (dr2.dl.choose_spec) dM k3, .refl _, by rw [upd_ne ntd]; exact htr2, ⟨[], by rw [upd_ne nrd]; exact hrw2, rfl, fun i a p x => by simp at x⟩, Nat.le_refl _, fun p h => by cases h⟩ (fun i σ H' hi p => ?_) (fun σ H' p => ?_)
  · obtain ⟨v5, v6, v7, ns5, L, rfl, k5, dr5, S5, p5, htr5, rows5, lL, bL⟩ := p
    refine ⟨_, rfl, d, sc, 2, rfl, by decide, by decide, dr5, fun x o1 x0 x2 no1 dr6 => ⟨_, rfl, d, sc, 3, rfl, by decide, by decide, dr6, fun y o2 y0 y3 no2 dr7 => ⟨(by show 2 ≤ sizeLine; decide), fun xa hxa => ?_⟩⟩⟩
    have k57 : Kp [d] H' (upd (upd H' d o1) d o2) := dr5.step.trans dr6.step
    have kx := Kp.new (M := []) (o := .tup [.int x, .int y]) hxa
    obtain ⟨H8, hH8⟩ : ∃ H8, upd (upd (upd H' d o1) d o2) xa (.tup [.int x, .int y]) = H8 := ⟨_, rfl⟩
    have hxa8 : H8 xa = some (.tup [.int x, .int y]) := by rw [← hH8]; exact upd_same
    rw [hH8] at kx ⊢
    have dr8 : Drw d sc H8 := dr7.kp kx (by simp) (by simp)
    have k58 : Kp [d] H' H8 := k57.trans (kx.wide fun b m => absurd m List.not_mem_nil)
    refine ⟨_, rfl, _, rfl, _, rfl, d, sc, 4, rfl, by decide, by decide, dr8, fun z o3 z0 z4 no3 dr9 => ?_⟩
    obtain ⟨zn, rfl⟩ : ∃ zn : Nat, z = zn := ⟨z.toNat, by omega⟩
    have k89 : Kp [d] H8 (upd H8 d o3) := dr8.step
    have k59 := k58.trans k89
    have hea9 := ((k5.trans (wide2 k59))).k _ _ hea (not_cons ned eaM)
    refine ⟨d, sc, ea, E, zn, rfl, by omega, dr9, hea9, neE, by omega, ned, fun t rt HA td ti ta kA drA => ?_⟩
    have k5A := k59.trans kA
    have SA := S5.kd (dr5.dl.choose_spec) dM k5A
    have rowsA := rows5.kp k5A (by simpa using nrd)
    obtain ⟨as, hrwA, hasl, hasi⟩ := id rowsA
    have hxaA : HA xa = some (.tup [.int x, .int y]) := (k89.trans kA).t _ _ hxa8
    have htrA := k5A.k _ _ htr5 (by simpa using ntd)
    have kHA := k5.trans (wide2 k5A)
    have hsz := t.size_le
    have hpw : 2 ^ (t.depth + 1) ≤ 2 ^ 4 := Nat.pow_le_pow_right (by decide) (by omega)
    have p16 : (2 : Nat) ^ 4 = 16 := by decide
    refine ⟨_, rfl, _, rfl, pairD (x, y), L.map pairD, .tup (SqT.of hxaA) (.cons (.int _) (.cons (.int _) .nil)), .lst (SqL.of hrwA) (dp_pairs hasl hasi), pairD_shaped _, pairDs_shaped _, _, rfl, ?_⟩
    cases hin : !((L.map pairD).any fun z => PyData.eqv z (pairD (x, y))) with
    | false => exact iteF ⟨_, _, _, ns5, L, rfl, kHA, drA, SA.mono (by omega), p5, htrA, rowsA, by omega, bL⟩
    | true =>
      refine iteT ?_
      refine ⟨_, rfl, _, rfl, E, s, ns5, _, t, rt, rfl, SA, ta, ti, by omega, by omega, by omega, fun HB nsB c kB SB pB hcB evB => ?_⟩
      have rowsB := rowsA.kp kB rwM
      have hrwB := kB.k _ _ hrwA rwM
      have kHB := kHA.trans (wide3 kB)
      have htrB := kB.k _ _ htrA trM
      refine ⟨rfl, _, rfl, ?_⟩
      by_cases c0 : (c : Int) = 0
      · refine iteF_of (by rw [c0, decide_eq_true rfl]; rfl) ⟨_, _, _, nsB, L, rfl, kHB, drM drA kB, SB.mono (by omega), p5.trans pB, htrB, rowsB, by omega, bL⟩
      · refine iteT_of (by rw [decide_eq_false fun z => c0 (V.int.inj z)]; rfl) ?_
        refine ⟨_, rfl, .inl ⟨rfl, _, SqL.of hrwB⟩, _, rfl, rw', _, _, rfl, rfl, hrwB, small1000 (by rw [List.length_map, hasl]; omega), ?_⟩
        have kput : Kp [rw'] HB (upd HB rw' (.lst (as.map V.ref ++ [V.ref xa]))) := .put (by simp) hrwB fun xs z => by cases z
        refine ⟨_, _, _, nsB, L ++ [(x, y)], rfl, kHB.mt hrwH, (drM drA kB).put nrd.symm (fun z => by obtain ⟨_, _, _, _, _, e, _⟩ := dr; rw [z, hrwH] at e; cases e), (SB.mono (by omega)).kd hrwB rwM kput, p5.trans pB, by rw [upd_ne ntr]; exact htrB, rowsB.snoc hrwB (kB.t _ _ hxaA), by rw [List.length_append, List.length_singleton]; omega, fun p hp => (List.mem_append.mp hp).elim (bL p) fun z => by rw [List.mem_singleton.mp z]; show x.natAbs < 1000 ∧ y.natAbs < 1000; omega⟩
  · obtain ⟨v5, v6, v7, ns5, L, rfl, k5, dr5, S5, p5, htr5, rows5, lL, bL⟩ := p
    obtain ⟨as, hrw5, hasl, hasi⟩ := id rows5
    have m5 : mn ≤ 5 := by omega
    refine ⟨_, rfl, rw', _, rfl, SqL.of hrw5, fun x hx => ?_, fun ys pa perm hpa => ?_⟩
    · obtain ⟨a, ha, rfl⟩ := List.mem_map.mp hx
      obtain ⟨i, hi⟩ := List.mem_iff_getElem?.mp ha
      have hil : i < L.length := by rw [← hasl]; exact (List.getElem?_eq_some_iff.mp hi).1
      exact ⟨a, _, _, rfl, hasi i a _ hi (List.getElem?_eq_getElem hil)⟩
    have kp := Kp.new (M := []) (o := .lst ys) hpa
    obtain ⟨H6, hH6⟩ : ∃ H6, upd H' pa (.lst ys) = H6 := ⟨_, rfl⟩
    have hpa6 : H6 pa = some (.lst ys) := by rw [← hH6]; exact upd_same
    rw [hH6] at kp ⊢
    have paM : pa ∉ s.M := S5.out.2.2 pa hpa
    have npd : pa ≠ d := fun z => by obtain ⟨xs, e⟩ := dr5.dl; rw [← z, hpa] at e; cases e
    have npt : pa ≠ tr := fun z => by rw [z, htr5] at hpa; cases hpa
    have ysl : ys.length ≤ 5 := by rw [perm.length_eq, List.length_map]; omega
    have hys : ∀ y ∈ ys, ∃ (a : Addr) (i j : Int), y = .ref a ∧ H6 a = some (.tup [.int i, .int j]) ∧ i.natAbs < 1000 ∧ j.natAbs < 1000 := fun y hy => by
      obtain ⟨a, ha, rfl⟩ := List.mem_map.mp (perm.mem_iff.mp hy)
      obtain ⟨i, hi⟩ := List.mem_iff_getElem?.mp ha
      have hil : i < L.length := by rw [← hasl]; exact (List.getElem?_eq_some_iff.mp hi).1
      exact ⟨a, _, _, rfl, kp.t _ _ (hasi i a _ hi (List.getElem?_eq_getElem hil)), (bL _ (List.getElem_mem hil)).1, (bL _ (List.getElem_mem hil)).2⟩
    refine ⟨pa, rfl, ⟨_, SqL.of hpa6⟩, for_list (K := K) (a := pa) (xs := ys) (fun i σ H' => ∃ (v5 v6 v7 : Option V) (ns' : List Node) (L : List ((Int × Int) × Tr)), σ = [some (.ref d), some (.ref s.p), some (.ref ea), some (.ref tr), some (.ref rw'), v5, v6, v7] ∧ Kp (d :: s.M) H H' ∧ Kp (tr :: d :: s.M) H6 H' ∧ Drw d sc H' ∧ StoAt C E s H' ns' (b + 50000 + 8000 * i) ∧ Pre ns ns' ∧
        TRows H' tr L ∧ L.length ≤ i ∧ (∀ p ∈ L, p.2.depth ≤ 3 ∧ p.2.In E) ∧ ∀ p ∈ L, p.1.1.natAbs < 1000 ∧ p.1.2.natAbs < 1000)
      ⟨_, _, _, ns5, [], rfl, k5.trans (wide1 kp), .refl, dr5.kp kp (by simp) (by simp), (S5.new kp).mono (by omega), p5, ⟨[], kp.k _ _ htr5 (by simp), rfl, fun i a p x => by simp at x⟩, Nat.le_refl _, (fun p h => by cases h), fun p h => by cases h⟩ (fun i σ H' _ p => ?_) ?_ ?_⟩
    · obtain ⟨v5, v6, v7, ns', L, rfl, _, k, _⟩ := p
      exact SqL.of (k.k _ _ hpa6 (not_cons npt (not_cons npd paM)))
    · rintro i x σ H7 hi ⟨v5, v6, v7, ns7, L7, rfl, k7, k67, dr7, S7, p7, rows7, lL7, hL7, bL7⟩
      obtain ⟨xa, xi, xj, rfl, hxa6, bxi, bxj⟩ := hys x (List.mem_of_getElem? hi)
      have hil : i < ys.length := (List.getElem?_eq_some_iff.mp hi).1
      have hxa7 := k67.t _ _ hxa6
      refine ⟨_, rfl, _, rfl, _, rfl, d, sc, 4, rfl, by decide, by decide, dr7, fun z o3 z0 z4 no3 dr9 => ?_⟩
      obtain ⟨zn, rfl⟩ : ∃ zn : Nat, z = zn := ⟨z.toNat, by omega⟩
      have k79 : Kp [d] H7 (upd H7 d o3) := dr7.step
      have hea9 := ((k7.trans (wide2 k79))).k _ _ hea (not_cons ned eaM)
      refine ⟨d, sc, ea, E, zn, rfl, by omega, dr9, hea9, neE, by omega, ned, fun t rt HA td ti ta kA drA => ?_⟩
      have k7A := k79.trans kA
      have SA := S7.kd (dr7.dl.choose_spec) dM k7A
      have rowsA := rows7.kp k7A (by simpa using ntd)
      have hsz := t.size_le
      have hpw : 2 ^ (t.depth + 1) ≤ 2 ^ 4 := Nat.pow_le_pow_right (by decide) (by omega)
      have p16 : (2 : Nat) ^ 4 = 16 := by decide
      refine ⟨_, rfl, _, rfl, E, s, ns7, _, t, rt, rfl, SA, ta, ti, by omega, by omega, by omega, fun HB nsB c kB SB pB hcB evB => ?_⟩
      have rowsB := rowsA.kp kB trM
      obtain ⟨bs, htrB, hbl, _⟩ := id rowsB
      have kHB := (k7.trans (wide2 k7A)).trans (wide3 kB)
      have k6B : Kp (tr :: d :: s.M) H6 HB := k67.trans (((wide2 k7A).trans (wide3 kB)).wide fun b m => List.mem_cons_of_mem _ m)
      refine ⟨rfl, _, rfl, ?_⟩
      by_cases c0 : (c : Int) = 0
      · exact iteF_of (by rw [c0, decide_eq_true rfl]; rfl) ⟨_, _, _, nsB, L7, rfl, kHB, k6B, drM drA kB, SB.mono (by omega), p7.trans pB, rowsB, by omega, hL7, bL7⟩
      · refine iteT_of (by rw [decide_eq_false fun z => c0 (V.int.inj z)]; rfl) ?_
        refine ⟨_, rfl, .inl ⟨rfl, _, SqL.of htrB⟩, _, rfl, _, rfl, (by show 2 ≤ sizeLine; decide), fun u hu => ?_⟩
        have kU := Kp.new (M := []) (o := .tup [.ref xa, .ref rt]) hu
        have htrC := kU.k _ _ htrB (by simp)
        refine ⟨tr, _, _, rfl, rfl, htrC, small1000 (by rw [List.length_map, hbl]; omega), ?_⟩
        have kput : Kp [tr] (upd HB u (.tup [.ref xa, .ref rt])) (upd (upd HB u (.tup [.ref xa, .ref rt])) tr (.lst (bs.map V.ref ++ [V.ref u]))) := .put (by simp) htrC fun xs z => by cases z
        have dC := (drM drA kB).kp kU (by simp) (by simp)
        refine ⟨_, _, _, nsB, L7 ++ [((xi, xj), t)], rfl, (kHB.trans (wide1 kU)).mt htr, (k6B.trans (kU.wide fun b m => absurd m List.not_mem_nil)).trans (kput.wide fun b m => by rw [List.mem_singleton.mp m]; exact List.mem_cons_self),
          dC.put ntd.symm (fun z => by obtain ⟨_, _, _, _, _, e, _⟩ := dr; rw [z, htr] at e; cases e), ((SB.new kU).mono (by omega)).kd htrC trM kput, p7.trans pB, ?_, by rw [List.length_append, List.length_singleton]; omega, fun p hp => ?_, fun p hp => (List.mem_append.mp hp).elim (bL7 p) fun z => by rw [List.mem_singleton.mp z]; exact ⟨bxi, bxj⟩⟩
        · exact (rowsB.kp kU (by simp)).snoc htrC upd_same (kU.t _ _ ((kB.t _ _ (k7A.t _ _ hxa7)))) (TreeAt.kp (kB.trans (kU.wide fun b m => absurd m List.not_mem_nil)) _ _ ta)
        · rcases List.mem_append.mp hp with hp | hp
          · exact hL7 p hp
          · rw [List.mem_singleton.mp hp]
            exact ⟨by show t.depth ≤ 3; omega, ti⟩
    · rintro σ H7 ⟨v5, v6, v7, ns7, L7, rfl, k7, k67, dr7, S7, p7, rows7, lL7, hL7, bL7⟩
      exact ⟨_, rfl, q tr H7 ns7 L7 htr k7 dr7 (S7.mono (by omega)) p7 rows7 (by omega) hL7 bL7⟩
end

/-! ### outcomes -/
def begins (pre : List Int) (p : Int × Int) : Bool := decide ([p.1, p.2].take pre.length = pre)
theorem tup_shaped (l : List Int) : SeqAt.shaped (.tuple (l.map .int)) = true := by
  have h : (PyData.tuple (l.map .int)).depth = 1 := by
    simp only [PyData.depth]
    rw [PySem.W.depth_ints]
  show ((PyData.tuple (l.map .int)).canLay0 && decide ((PyData.tuple (l.map .int)).depth ≤ 64)) = true
  rw [Bool.and_eq_true]
  exact ⟨by simp only [PyData.canLay0]; exact ints_lay l, decide_eq_true (by omega)⟩
theorem tup_eqv (a b : List Int) : PyData.eqv (.tuple (a.map .int)) (.tuple (b.map .int)) = decide (a = b) := by
  have h := inD_eqv a b
  unfold inD at h
  simp only [PyData.eqv] at h ⊢
  exact h
/-- rows with their conditions -/
def HRows (H : Hp) (r : Addr) (L : List ((Int × Int) × Nat)) : Prop :=
  ∃ as : List Addr, H r = some (.lst (as.map V.ref)) ∧ as.length = L.length ∧ ∀ (i : Nat) (a : Addr) (p : (Int × Int) × Nat), as[i]? = some a → L[i]? = some p → ∃ x : Addr, H a = some (.tup [.ref x, .int p.2]) ∧ H x = some (.tup [.int p.1.1, .int p.1.2])
theorem HRows.kp {M : List Addr} {H H' : Hp} {r : Addr} {L : List ((Int × Int) × Nat)} (h : HRows H r L) (k : Kp M H H') (hr : r ∉ M) : HRows H' r L := by
  obtain ⟨as, h1, h2, h3⟩ := h
  refine ⟨as, k.k _ _ h1 hr, h2, fun i a p x y => ?_⟩
  obtain ⟨w, a1, a2⟩ := h3 i a p x y
  exact ⟨w, k.t _ _ a1, k.t _ _ a2⟩
theorem HRows.snoc {H : Hp} {r u x : Addr} {as : List Addr} {L : List ((Int × Int) × Nat)} {p : (Int × Int) × Nat} (h : HRows H r L) (hr : H r = some (.lst (as.map V.ref))) (hu : H u = some (.tup [.ref x, .int p.2])) (hx : H x = some (.tup [.int p.1.1, .int p.1.2])) :
    HRows (upd H r (.lst (as.map V.ref ++ [V.ref u]))) r (L ++ [p]) := by
  have k : Kp [r] H (upd H r (.lst (as.map V.ref ++ [V.ref u]))) := .put (by simp) hr fun xs z => by cases z
  obtain ⟨bs, h1, h2, h3⟩ := h
  rw [hr] at h1
  have eab : as.map V.ref = bs.map V.ref := HO.lst.inj (Option.some.inj h1)
  refine ⟨bs ++ [u], by rw [upd_same, eab, List.map_append]; rfl, by rw [List.length_append, List.length_append, h2]; rfl, fun i a q y z => ?_⟩
  by_cases hi : i < bs.length
  · rw [List.getElem?_append_left hi] at y
    rw [List.getElem?_append_left (by omega)] at z
    obtain ⟨w', a1, a2⟩ := h3 i a q y z
    exact ⟨w', k.t _ _ a1, k.t _ _ a2⟩
  · have hl' := (List.getElem?_eq_some_iff.mp y).1
    rw [List.length_append, List.length_singleton] at hl'
    have ei : i = bs.length := by omega
    subst ei
    rw [List.getElem?_append_right (Nat.le_refl _), Nat.sub_self] at y
    rw [h2, List.getElem?_append_right (Nat.le_refl _), Nat.sub_self] at z
    cases y
    cases z
    exact ⟨x, k.t _ _ hu, k.t _ _ hx⟩
/-- rows with what they cost -/
def ORows (H : Hp) (r : Addr) (L : List ((Int × Int) × (Int × List Int))) : Prop :=
  ∃ as : List Addr, H r = some (.lst (as.map V.ref)) ∧ as.length = L.length ∧ ∀ (i : Nat) (a : Addr) (p : (Int × Int) × (Int × List Int)), as[i]? = some a → L[i]? = some p → ∃ x l : Addr, H a = some (.tup [.ref x, .int p.2.1, .ref l]) ∧ H x = some (.tup [.int p.1.1, .int p.1.2]) ∧ H l = some (.lst (p.2.2.map V.int)) ∧ l ≠ r
theorem ORows.kp {M : List Addr} {H H' : Hp} {r : Addr} {L : List ((Int × Int) × (Int × List Int))} (h : ORows H r L) (k : Kp M H H') (hr : r ∉ M) (hM : ∀ (a : Addr) (L : List Int), H a = some (.lst (L.map V.int)) → a ∉ M) : ORows H' r L := by
  obtain ⟨as, h1, h2, h3⟩ := h
  refine ⟨as, k.k _ _ h1 hr, h2, fun i a p x y => ?_⟩
  obtain ⟨w, l, a1, a2, a3, a4⟩ := h3 i a p x y
  exact ⟨w, l, k.t _ _ a1, k.t _ _ a2, k.k _ _ a3 (hM _ _ a3), a4⟩
theorem ORows.new {H H' : Hp} {r : Addr} {L : List ((Int × Int) × (Int × List Int))} (h : ORows H r L) (k : Kp [] H H') : ORows H' r L := h.kp k (by simp) fun _ _ _ => by simp
theorem ORows.snoc {H : Hp} {r u x l : Addr} {as : List Addr} {L : List ((Int × Int) × (Int × List Int))} {p : (Int × Int) × (Int × List Int)} (h : ORows H r L) (hr : H r = some (.lst (as.map V.ref))) (hu : H u = some (.tup [.ref x, .int p.2.1, .ref l])) (hx : H x = some (.tup [.int p.1.1, .int p.1.2]))
    (hl : H l = some (.lst (p.2.2.map V.int))) (ne : l ≠ r) : ORows (upd H r (.lst (as.map V.ref ++ [V.ref u]))) r (L ++ [p]) := by
  have k : Kp [r] H (upd H r (.lst (as.map V.ref ++ [V.ref u]))) := .put (by simp) hr fun xs z => by cases z
  obtain ⟨bs, h1, h2, h3⟩ := h
  rw [hr] at h1
  have eab : as.map V.ref = bs.map V.ref := HO.lst.inj (Option.some.inj h1)
  refine ⟨bs ++ [u], by rw [upd_same, eab, List.map_append]; rfl, by rw [List.length_append, List.length_append, h2]; rfl, fun i a q y z => ?_⟩
  by_cases hi : i < bs.length
  · rw [List.getElem?_append_left hi] at y
    rw [List.getElem?_append_left (by omega)] at z
    obtain ⟨w', l', a1, a2, a3, a4⟩ := h3 i a q y z
    exact ⟨w', l', k.t _ _ a1, k.t _ _ a2, by rw [upd_ne a4]; exact a3, a4⟩
  · have hl' := (List.getElem?_eq_some_iff.mp y).1
    rw [List.length_append, List.length_singleton] at hl'
    have ei : i = bs.length := by omega
    subst ei
    rw [List.getElem?_append_right (Nat.le_refl _), Nat.sub_self] at y
    rw [h2, List.getElem?_append_right (Nat.le_refl _), Nat.sub_self] at z
    cases y
    cases z
    exact ⟨x, l, k.t _ _ hu, k.t _ _ hx, by rw [upd_ne ne]; exact hl, ne⟩
noncomputable def orow (pf al : Int → Bool) (cs : Int → Int) (row : Int × Int) (g : (Int → Bool) → Bool) : List ((Int × Int) × (Int × List Int)) := (bst1 g pf al cs).toList.map fun T => (row, cst cs T, T)
def spBeginning : Sp := fun vs H Q _ => ∃ (ca xa : Addr) (L : List ((Int × Int) × Nat)) (pre : List Int), vs = [.ref ca, .ref xa] ∧ HRows H ca L ∧ H xa = some (.tup (pre.map V.int)) ∧ L.length ≤ 5 ∧ pre.length ≤ 2 ∧
  ∀ (r : Addr) (H' : Hp), H r = none → Kp [] H H' → HRows H' r (L.filter fun p => begins pre p.1) → Q (.ref r) H'
structure TOut (mg : Str → Option Value) : Prop where
  n_len : mg "len" = none
section
variable {P : Program} {w : World} {K : PySem.W.Frag} {mg : Str → Option Value} {base : Heap} {C : Addr}
theorem ok_beginning (D : GD K mg "beginning" sD_beginning ["candidates", "prefix"]) (T : TOut mg) : Cal P w K mg base 1 "beginning" spBeginning [] := by
  refine D.cal sc_beginning (fun vs H Q E h => ?_) (fun f cdv A outer s0 H vs Q E hr h => ?_)
  · obtain ⟨ca, xa, L, pre, rfl, _⟩ := h
    rfl
  obtain ⟨ca, xa, L, pre, rfl, rows, hxa, lL, lp, q⟩ := h
  refine ⟨_, (pss_one (ps_ret (pe_lc (own := [("row", 2), ("condition", 3)]) rfl sc_beginning.nd (pi_list (pv 0)) (blkOk_by (own := [("row", 2), ("condition", 3)]) (N := ["candidates", "prefix", "row", "condition"]) (sc := defScope sD_beginning) (by decide +kernel)) (fun _ _ _ _ _ => (bx_ptup (K := K) (n := 2) rfl rfl (pgs_cons (pg_name (i := 2) sc_beginning.nd rfl (Or.inl rfl)) (pgs_cons (pg_name (i := 3) sc_beginning.nd rfl (Or.inl rfl)) pgs_nil)))) (fun _ _ _ _ _ => (pts_one (pt_cmpR (bx_eqD (K := K) rfl hr.units) (pe_slice (bx_slT (K := K) rfl) (pv 2) po_none (po_some (bx_len (K := K) rfl (by rfl) T.n_len (by decide +kernel) (pa_cons (pv 1) pa_nil)))) (pv 1) (nomark _)))) (fun _ _ _ _ _ => (pe_tup (pa_cons (pv 2) (pa_cons (pv 3) pa_nil))))))), ?_⟩
  obtain ⟨as, hca, hasl, hasi⟩ := id rows
  refine ⟨_, rfl, ca, rfl, ⟨_, SqL.of hca⟩, fun D hD => lc_list (K := K) (a := ca) (xs := as.map V.ref) (fun j G => Kp [] H G ∧ HRows G D ((L.take j).filter fun p => begins pre p.1)) ⟨.new hD, [], upd_same, rfl, fun i a p x => by simp at x⟩ (fun j G _ p => SqL.of (p.1.k _ _ hca (by simp))) (fun j y G hj pp => ?_) (fun G p => ?_)⟩
  · obtain ⟨a, ha, rfl⟩ := mapAt hj
    obtain ⟨kG, rowsG⟩ := pp
    have hjl : j < L.length := by have := (List.getElem?_eq_some_iff.mp ha).1; omega
    have hp : L[j]? = some L[j] := List.getElem?_eq_getElem hjl
    generalize L[j] = p at hp
    obtain ⟨x, h1, h2⟩ := hasi j a p ha hp
    have ha' := kG.t _ _ h1
    have hx := kG.t _ _ h2
    refine ⟨a, _, rfl, SqT.of ha', rfl, _, _, rfl, _, _, rfl, rfl, rfl, ?_⟩
    refine ⟨_, rfl, _, rfl, xa, _, rfl, .inr (SqT.of (kG.t _ _ hxa)), _, rfl, x, _, rfl, SqT.of hx, fun hw => ?_, fun hw sl hsl => ?_⟩
    · have kS : Kp [] G G := .refl
      have hn : pre.length = 2 := by
        have := hw.2
        rw [HT.sIx_nat] at this
        simp only [List.length_map, List.length_cons, List.length_nil] at this
        omega
      have hsl2 : G x = some (.tup (([p.1.1, p.1.2].take pre.length).map V.int)) := by rw [hn]; exact hx
      refine ⟨_, rfl, .tuple (([p.1.1, p.1.2].take pre.length).map .int), .tuple (pre.map .int), .tup (SqT.of hsl2) (dp_ints _), .tup (SqT.of (kS.t _ _ (kG.t _ _ hxa))) (dp_ints _), tup_shaped _, tup_shaped _, _, rfl, ?_⟩
      rw [tup_eqv]
      by_cases cb : ([p.1.1, p.1.2].take pre.length) = pre
      · have bp : begins pre p.1 = true := decide_eq_true cb
        refine iteT_of (decide_eq_true cb) ⟨_, rfl, _, rfl, (by show 2 ≤ sizeLine; decide), fun u hu => ?_⟩
        have kU := kS.newer (o := .tup [.ref x, .int p.2]) hu
        obtain ⟨bs, hbs, hbl, hbi⟩ := rowsG.kp kU (by simp)
        refine ⟨_, hbs, small1000 (by rw [List.length_map, hbl]; exact Nat.le_trans (List.length_filter_le _ _) (Nat.le_trans (List.length_take_le' _ _) (by omega))), (kG.trans kU).mt hD, ?_⟩
        rw [takeS hp, List.filter_append, List.filter_cons, if_pos bp, List.filter_nil]
        exact HRows.snoc (p := p) ⟨bs, hbs, hbl, hbi⟩ hbs upd_same (kU.t _ _ hx)
      · have bp : ¬ begins pre p.1 = true := fun z => cb (of_decide_eq_true z)
        refine iteF_of (decide_eq_false cb) ⟨kG.trans kS, ?_⟩
        rw [takeS hp, List.filter_append, List.filter_cons, if_neg bp, List.filter_nil, List.append_nil]
        exact rowsG.kp kS (by simp)
    · have kS : Kp [] G (upd G sl (.tup (cutV [.int p.1.1, .int p.1.2] none (some ((pre.map V.int).length : Int))))) := .new hsl
      have hsl2 : (upd G sl (.tup (cutV [.int p.1.1, .int p.1.2] none (some ((pre.map V.int).length : Int))))) sl = some (.tup (([p.1.1, p.1.2].take pre.length).map V.int)) := by
        rw [upd_same, cut_take, List.length_map, List.map_take]
        rfl
      refine ⟨_, rfl, .tuple (([p.1.1, p.1.2].take pre.length).map .int), .tuple (pre.map .int), .tup (SqT.of hsl2) (dp_ints _), .tup (SqT.of (kS.t _ _ (kG.t _ _ hxa))) (dp_ints _), tup_shaped _, tup_shaped _, _, rfl, ?_⟩
      rw [tup_eqv]
      by_cases cb : ([p.1.1, p.1.2].take pre.length) = pre
      · have bp : begins pre p.1 = true := decide_eq_true cb
        refine iteT_of (decide_eq_true cb) ⟨_, rfl, _, rfl, (by show 2 ≤ sizeLine; decide), fun u hu => ?_⟩
        have kU := kS.newer (o := .tup [.ref x, .int p.2]) hu
        obtain ⟨bs, hbs, hbl, hbi⟩ := rowsG.kp kU (by simp)
        refine ⟨_, hbs, small1000 (by rw [List.length_map, hbl]; exact Nat.le_trans (List.length_filter_le _ _) (Nat.le_trans (List.length_take_le' _ _) (by omega))), (kG.trans kU).mt hD, ?_⟩
        rw [takeS hp, List.filter_append, List.filter_cons, if_pos bp, List.filter_nil]
        exact HRows.snoc (p := p) ⟨bs, hbs, hbl, hbi⟩ hbs upd_same (kU.t _ _ hx)
      · have bp : ¬ begins pre p.1 = true := fun z => cb (of_decide_eq_true z)
        refine iteF_of (decide_eq_false cb) ⟨kG.trans kS, ?_⟩
        rw [takeS hp, List.filter_append, List.filter_cons, if_neg bp, List.filter_nil, List.append_nil]
        exact rowsG.kp kS (by simp)
  obtain ⟨kG, rowsG⟩ := p
  rw [List.length_map, hasl, List.take_length] at rowsG
  exact q D G hD kG rowsG
end

/-! ### errors of the text -/
/-- the class of errors x at D, under LineError at L; SourceError, at S, is another one -/
structure ErrT (K : PySem.W.Frag) (mg : Str → Option Value) (x : Str) (D L S : Addr) : Prop where
  gD : mg x = some (.ref D)
  xD : PySem.W.excIn K D [.type "ValueError", .type "Exception", .type "BaseException", .type "object"] "ValueError.__new__" = true
  kD : PySem.W.keepIn K (.ref D) = true
  bD : PySem.W.subIn K (.ref D) (.type "BaseException") = some true
  tD : PySem.W.typeIn K (.ref D) = some (.type "type")
  lD : PySem.W.subIn K (.ref D) (.ref L) = some true
  sD : PySem.W.subIn K (.ref D) (.ref S) = some false
  gL : mg "LineError" = some (.ref L)
  bL : PySem.W.subIn K (.ref L) (.type "BaseException") = some true
  tL : PySem.W.typeIn K (.ref L) = some (.type "type")
  dL : PySem.W.hasDictIn K L = true
  gS : mg "SourceError" = some (.ref S)
  tS : PySem.W.typeIn K (.ref S) = some (.type "type")
  iS : PySem.W.isClsIn K S = true
  ec : ExcC K D
theorem ErrT.ne {K : PySem.W.Frag} {mg : Str → Option Value} {x : Str} {D L S : Addr} (e : ErrT K mg x D L S) : PySem.W.kitOne K (.ref D) (.ref D) = some true := by
  unfold PySem.W.kitOne
  rw [if_pos (by simp)]
theorem ErrT.no {K : PySem.W.Frag} {mg : Str → Option Value} {x : Str} {D L S : Addr} (e : ErrT K mg x D L S) (ne : D ≠ S) : PySem.W.kitOne K (.ref D) (.ref S) = some false := by
  have h1 : ((Value.ref D == Value.ref S) = true) = False := by simpa using ne
  have h2 : ((PySem.W.clsIn K S).isSome && PySem.W.typeIn K (.ref S) == some (.type "type")) = true := by
    rw [show (PySem.W.clsIn K S).isSome = true from e.iS, e.tS]
    rfl
  unfold PySem.W.kitOne
  simp only [h1, if_false]
  show (if ((PySem.W.clsIn K S).isSome && PySem.W.typeIn K (.ref S) == some (.type "type")) = true then PySem.W.subIn K (.ref D) (.ref S) else none) = some false
  rw [if_pos h2]
  exact e.sD
theorem ErrT.met {K : PySem.W.Frag} {mg : Str → Option Value} {x : Str} {D L S : Addr} (e : ErrT K mg x D L S) : PySem.W.exmOne K (.ref D) (.ref L) = some true := PySem.W.exm_ref e.bL e.dL e.tL e.lD
/-- isinstance(e, c), e the error that a suite holds -/
def rIsG (K : PySem.W.Frag) (a : Addr) (cls : Value) (d : Option Addr) : List V → Hp → VK → Prop := fun xs H Q => ∃ D : Addr, cls = .ref D ∧ d = none ∧ ExcC K D ∧ rIsE K D a xs H Q
theorem bx_isE {X : Cx} {K : PySem.W.Frag} {a : Addr} {oe : Obj} {cls : Value} {d : Option Addr} {pn : List (Addr × Obj)} (hK : X.K = K) (hz : Zc cls d oe) (hf : ∃ vs, oe.data = .fields vs) : CallR (X.suite a ((a, oe) :: pn)) (.builtin "isinstance") (rIsG K a cls d) := by
  intro pins s σ H xs us Q I r h
  subst hK
  obtain ⟨D, rfl, rfl, C, q⟩ := h
  exact call_isE C hz hf pins s σ H xs us Q I r q
/-- f(e, .., k = v, ..), where what is raised is wished for at the caller's slots -/
def tCallNS (n m : Nat) (sp : Sp) (gV : List V → List V → List V) (E : List (Option V) → XK) (t tk : TA) : TE := fun σ H Q => t σ H fun xs G => tk σ G fun ys G2 => xs.length = n ∧ ys.length = m ∧ sp (gV xs ys) G2 Q (E σ)
theorem pe_callNS {X : Cx} {CX : CXT} {k n : Nat} {f : Addr} {fd : FuncData} {ps ks : List Str} {sp : Sp} {E : List (Option V) → XK} {x : Str} {p pos : Pos} {e : Expr} {es : List Expr} {kws : List Keyword} {t tk : TA} {g : List Value → List Value → List Value} {gV : List V → List V → List V}
    (Fn : FnOk X.prog X.w X.K X.mg X.base CX k f fd ps sp) (hr : Room k X.A) (hg : Gl X x) (hm : X.mg x = some (.ref f)) (kp : PySem.W.keepIn X.K (.ref f) = true) (kb : KBn X.K fd ps n ks g gV) (pass : ∀ σ, PassesAt CX X σ (E σ)) (ha : PA X (e :: es) t) (hw : PK X kws tk)
    (h1 : (backToKw pos (keywordEach kws X.env)).all (·.1.isSome) = true := by rfl) (h2 : (backToKw pos (keywordEach kws X.env)).filterMap (·.1) = ks := by rfl) (h3 : (x == ("__debug__" : Str)) = false := by decide)
    (h4 : starEach (e :: es) X.env = (false, eval e X.env) :: starEach es X.env := by rfl) (h5 : ((backTo pos (starEach (e :: es) X.env)).any (·.1) || (backToKw pos (keywordEach kws X.env)).any (·.1.isNone)) = false := by rfl) :
    PE X (.Call (.Name x p) (e :: es) kws pos) (tCallNS n ks.length sp gV E t tk) := by
  refine ⟨fun pins s σ H Q I h => wpAny_Call_Name_kw (ld_glob I hg hm ?_ h3)⟩
  refine PySem.W.callWith_KW (h₀ := X.base) I.ok.mod.kin kp h1 (thn (ha.run pos pins s σ H _ I h) fun us s1 ⟨vs, H1, I1, r, q⟩ => thn (hw.run pos pins s1 σ H1 _ I1 q) fun ws s2 ⟨zs, H2, I2, rz, l1, l2, q2⟩ => ⟨I2.kIn, ?_⟩) h5 h4
  rw [h2]
  refine wpAny_call (codeAny_mono (Fn.run X.A X.stack s2 H2 ⟨us, ks.zip ws⟩ (g us ws) (gV vs zs) Q (E σ) hr I2.env0 (kb.to s2 us ws I2.kIn (r.length.symm.trans l1) (rz.length.symm.trans l2)) (kb.rel r rz) q2) fun res s' hq => ?_)
  rcases res with e | fl
  · exact pass σ pins H2 s2 e s' I2 hq
  · cases fl with
    | ret u => exact I2.after hq
    | next => exact hq.elim
    | brk => exact hq.elim
    | cont => exact hq.elim
/-- what a call with keywords wants, of a def that may raise -/
structure KCalX (P : Program) (w : World) (K : PySem.W.Frag) (mg : Str → Option Value) (base : Heap) (k : Nat) (x : Str) (sp : Sp) (ps : List Str) (n : Nat) (ks : List Str) (f : Addr) (fd : FuncData) : Prop where
  F : FnOk P w K mg base (L2.CX P w) k f fd ps sp
  m : mg x = some (.ref f)
  kp : PySem.W.keepIn K (.ref f) = true
  kb : KBn K fd ps n ks (fun us ws => us ++ ws) (fun vs zs => vs ++ zs)
section
variable {P : Program} {w : World} {K : PySem.W.Frag} {mg : Str → Option Value} {base : Heap}
theorem GK.kcalX {x : Str} {st : Stmt} {k : Nat} {sp : Sp} {ps : List Str} {n : Nat} {ks : List Str} {kws : List (Str × V)} {f : Addr} {fd : FuncData} (D : GK K mg x st kws f fd) (F : FnOk P w K mg base (L2.CX P w) k f fd ps sp) (hk : kws ≠ [])
    (h : ∀ (D : Addr) (doc pm : Value) (an : Option Addr) (cdv ct : Value) (us ws : List Value), us.length = n → ws.length = ks.length → bindArgs (PySem.W.fnOf x x (defArgs st) (defBody st) (defScope st) .none (.ref D) doc pm an cdv ct) ⟨us, ks.zip ws⟩ = pure (ps.zip (us ++ ws))) :
    KCalX P w K mg base k x sp ps n ks f fd := by
  refine ⟨F, D.m, D.fn.kp, ⟨fun s us ws _ l1 l2 => ?_, fun r1 r2 => r1.append r2⟩⟩
  obtain ⟨oc, od, dV, kV, doc, pm, an, cdv, ct, osl, rfl, lk, hcd, hD, hK⟩ := D.fn.ex
  rcases hD with ⟨_, rfl⟩ | ⟨e, _⟩
  · rcases hK with e | ⟨Da, rfl, _⟩
    · exact absurd e hk
    · exact .of_eq (h Da doc pm an cdv ct us ws l1 l2)
  · exact absurd rfl e
end

/-! ### methods that may raise, the error's context known -/
structure MetN (P : Program) (w : World) (K : PySem.W.Frag) (mg : Str → Option Value) (base : Heap) (k : Nat) (C : Addr) (m : Str) (sp : Sp) : Prop where
  ex : ∃ (f : Addr) (fd : FuncData) (ps : List Str), Cls K C ∧ Meth K C m f ∧ FnOk P w K mg base (L2N.CX P w) k f fd ps sp ∧ Binds K fd ps []
section
variable {P : Program} {w : World} {K : PySem.W.Frag} {mg : Str → Option Value} {base : Heap}
theorem GM.metN {C : Addr} {m qual : Str} {st : Stmt} {N ps : List Str} {k : Nat} {sp : Sp} (c : Cls K C) (D : GM K C m qual st ps) (S : FnScope N ps (defScope st)) (len : ∀ vs H Q E, sp vs H Q E → vs.length = ps.length)
    (body : ∀ (f : Addr) (cdv : Value) (A : Around) (outer : List Env) (s : Shared) (H : Hp) (vs : List V) (Q : VK) (E : XK), Room k (A.deeper (envOfC qual (defScope st) s.heap.objs.size f cdv)) → sp vs H Q E →
      ∃ t, PSs (cxOf (L2N.CX P w) P w K mg base N qual (defScope st) f cdv A outer s H E) (defBody st) t ∧ t { nx := fun _ H' => Q .non H', rt := Q } (start N vs) H) : MetN P w K mg base (k + 1) C m sp := by
  obtain ⟨f, fd, F, hm, hb⟩ := D
  obtain ⟨oc, od, kV, doc, pm, an, cdv, ct, osl, rfl, lk, hcd⟩ := F.ex
  exact ⟨f, _, ps, c, hm, fn_of lk hcd S len fun A outer s H vs Q E hr h => body f cdv A outer s H vs Q E hr h, hb⟩
end
theorem pe_mtN {X : Cx} {k j : Nat} {C : Addr} {sp : Sp} {E : XK} {m : Str} {pos apos : Pos} {e o : Expr} {es : List Expr} {ta : TE} {t : TA} {pl : Sem Bool} (c : MetN X.prog X.w X.K X.mg X.base k C m sp) (hr : Room j X.A) (hk : k ≤ j) (hx : Passes (L2N.CX X.prog X.w) X E) (he : PE X o ta) (ha : PA X (e :: es) t)
    (h1 : starEach (e :: es) X.env = (false, eval e X.env) :: starEach es X.env := by rfl) (h2 : (backTo pos (starEach es X.env)).any (·.1) = false := by rfl)
    (h3 : eval (.Call (.Attribute o m apos) (e :: es) [] pos) X.env = (do
      let ov ← eval o X.env
      standAt apos.atName
      let (f, first) ← holding [ov] (getMethod ov m pl)
      callWith pos f first (backTo pos (starEach (e :: es) X.env)) (backToKw pos (keywordEach [] X.env))) := by rfl) :
    PE X (.Call (.Attribute o m apos) (e :: es) [] pos) (tMeth C m sp [] E ta t) := by
  obtain ⟨f, fd, ps, hc, hm, F, b⟩ := c.ex
  exact pe_meth (pl := pl) he hc hm F (hr.mono hk) b .nil hx ha h1 h2 h3
theorem takes0N {X : Cx} : L2N.Takes X (fun _ _ _ _ => False) := fun _ _ h => by
  obtain ⟨_, _, _, _, _, _, _, _, _, _, _, _, _, _, _, _, z⟩ := h
  exact z.elim
/-- what a call with keywords wants, of a def that may raise -/
structure KCalN (P : Program) (w : World) (K : PySem.W.Frag) (mg : Str → Option Value) (base : Heap) (k : Nat) (x : Str) (sp : Sp) (ps : List Str) (n : Nat) (ks : List Str) (f : Addr) (fd : FuncData) : Prop where
  F : FnOk P w K mg base (L2N.CX P w) k f fd ps sp
  m : mg x = some (.ref f)
  kp : PySem.W.keepIn K (.ref f) = true
  kb : KBn K fd ps n ks (fun us ws => us ++ ws) (fun vs zs => vs ++ zs)
theorem GK.kcalN {P : Program} {w : World} {K : PySem.W.Frag} {mg : Str → Option Value} {base : Heap} {x : Str} {st : Stmt} {k : Nat} {sp : Sp} {ps : List Str} {n : Nat} {ks : List Str} {kws : List (Str × V)} {f : Addr} {fd : FuncData} (D : GK K mg x st kws f fd) (F : FnOk P w K mg base (L2N.CX P w) k f fd ps sp) (hk : kws ≠ [])
    (h : ∀ (D : Addr) (doc pm : Value) (an : Option Addr) (cdv ct : Value) (us ws : List Value), us.length = n → ws.length = ks.length → bindArgs (PySem.W.fnOf x x (defArgs st) (defBody st) (defScope st) .none (.ref D) doc pm an cdv ct) ⟨us, ks.zip ws⟩ = pure (ps.zip (us ++ ws))) :
    KCalN P w K mg base k x sp ps n ks f fd := by
  refine ⟨F, D.m, D.fn.kp, ⟨fun s us ws _ l1 l2 => ?_, fun r1 r2 => r1.append r2⟩⟩
  obtain ⟨oc, od, dV, kV, doc, pm, an, cdv, ct, osl, rfl, lk, hcd, hD, hK⟩ := D.fn.ex
  rcases hD with ⟨_, rfl⟩ | ⟨e, _⟩
  · rcases hK with e | ⟨Da, rfl, _⟩
    · exact absurd e hk
    · exact .of_eq (h Da doc pm an cdv ct us ws l1 l2)
  · exact absurd rfl e

/-! ### max(l, default=d), l a list of ints -/
def mxD (d : Int) : List Int → Int
  | [] => d
  | n :: r => r.foldl max n
theorem alike_all (ns : List Int) : PySem.W.AlikeAll (ns.map PyData.int) := by
  refine ⟨fun x hx y hy => ?_, fun x hx => ?_⟩
  · obtain ⟨i, _, rfl⟩ := List.mem_map.mp hx
    obtain ⟨j, _, rfl⟩ := List.mem_map.mp hy
    rfl
  · obtain ⟨i, _, rfl⟩ := List.mem_map.mp hx
    exact nofun
theorem pe_maxDf {X : Cx} {p kp pos : Pos} {e c : Expr} {ta : TA} {d : Int} (cm : X.calm = true) (hu : X.A.units + 65 < cLine) (hg : Gl X "max") (hm : X.mg "max" = none) (hv : bootBuiltins "max" = some (.builtin "max")) (ha : PA X [e] ta) (hc : PE X c (tC (.int d)))
    (h1 : backTo pos (starEach [e] X.env) = (false, eval e X.env) :: backTo pos (starEach [] X.env) := by rfl) (h2 : (backTo pos (starEach [e] X.env)).any (·.1) = false := by rfl)
    (h3 : (backToKw pos (keywordEach [⟨some "default", c, kp⟩] X.env)).all (·.1.isSome) = true := by rfl) (h4 : (backToKw pos (keywordEach [⟨some "default", c, kp⟩] X.env)).any (·.1.isNone) = false := by rfl) (h5 : (backToKw pos (keywordEach [⟨some "default", c, kp⟩] X.env)).filterMap (·.1) = [Str.ofString "default"] := by rfl) :
    PE X (.Call (.Name "max" p) [e] [⟨some "default", c, kp⟩] pos) (fun σ H Q => ta σ H fun vs H1 => ∃ (a : Addr) (ns : List Int), vs = [.ref a] ∧ H1 a = some (.lst (ns.map V.int)) ∧ Q (.int (mxD d ns)) H1) := by
  refine ⟨fun pins s σ H Q I h => wpAny_Call_Name_kw (ld_blt I hg hm hv ?_ (by decide) (by decide))⟩
  have keys : PK X [⟨some "default", c, kp⟩] (tCons (tC (.int d)) tNil) := pk_cons hc pk_nil
  refine PyProof.Rows.callWith_kw (thn (ha.run pos pins s σ H _ I h) fun us s1 ⟨vs, H1, I1, r1, q1⟩ => thn (keys.run pos pins s1 σ H1 (fun zs H2 => zs = [.int d] ∧ H2 = H1) I1 ⟨rfl, rfl⟩) fun ws s2 ⟨zs, H2, I2, r2, ez, eh⟩ => ?_) h1 h2 h3 h4
  rw [h5]
  subst ez eh
  obtain ⟨u, rfl, rd⟩ := vals1 r2
  obtain ⟨a, ns, rfl, hl, q⟩ := q1
  obtain rfl := Vals.ref1 r1
  obtain ⟨its, rv, pl, _⟩ := I2.list (SqL.of hl)
  obtain ⟨as, rs⟩ := HasAll.reads I2.hok _ _ its (has_ints ns) rv
  refine PySem.W.max_list_default (I2.ok.hd cm) pl.isList (by simpa using rs) (alike_all ns) (by rw [PySem.W.depth_ints]; omega) (fun e h' tk k => ?_) fun y ys i v h' tk bs e hv' r k => ?_
  · have e : ns = [] := by simpa using e
    subst e
    exact ⟨.int d, _, I2.kept (t' := tk) k, rd, q⟩
  · cases ns with
    | nil => cases e
    | cons n ns =>
      rw [List.map_cons] at e
      obtain ⟨rfl, rfl⟩ := List.cons.inj e
      rw [PySem.W.maxD_ints] at r
      cases r
      exact ⟨.int _, _, I2.kept (t' := tk) k, ⟨_, rfl⟩, q⟩

/-! ### max(l) where an error is handled -/
section
variable {prog : Program} {w : World} {A : Around} {E : Value → Shared → Prop} {s : Shared}
theorem list_end_hot {it l x1 : Addr} {i : Nat} {items : Array Value} {Q : Option Value → Shared → Prop} (hot : HotX.HotAt A x1 s.heap) (ne : x1 ≠ it) (hit : s.heap.IsListIter it l i) (hl : s.heap.IsList l items) (hx : items[i]? = none)
    (hQ : ∀ h', (∀ b o, b ≠ it → s.heap.get? b = some o → h'.get? b = some o) → Q none { s with heap := h' }) : wpAny (model prog w) A (pyNext (.ref it)) Q E s := by
  obtain ⟨o, ho, hc, hd⟩ := id hit
  obtain ⟨ol, hol, _, nl, hdl⟩ := hl
  obtain ⟨hh, o1, vs1, h1, d1, c1⟩ := hot
  unfold pyNext; refine wpAny_bind (wpAny_attempt (wpAny_callSpecial?_slot (name := Str.ofString "__next__") hit.typeIs slot_listiter_next (wpAny_call_entry slot_listiter_next hit.typeIs entry_listiter_next ?_ (args_listiter_next _))))
  show wpAny _ _ (field (.ref it) 0 >>= _) _ _ s
  refine wpAny_bind (wpAny_field ho hd (x := .ref l) rfl ?_)
  show wpAny _ _ (if (Value.ref l == Value.none) = true then _ else _) _ _ s
  simp only [show (Value.ref l == Value.none) = false from rfl, Bool.false_eq_true, if_false]
  show wpAny _ _ (field (.ref it) 1 >>= _) _ _ s
  refine wpAny_bind (wpAny_field ho hd (x := .int i 0) rfl ?_)
  show wpAny _ _ (seqItems? (.ref l) >>= _) _ _ s
  refine wpAny_bind (wpAny_seqItems hol hdl ?_)
  simp only [Int.toNat_natCast, hx]
  refine wpAny_bind (wpAny_rule (wpAny_bind (wpAny_setField ho hd (by simp) ?_)))
  show wpAny _ _ (newExc (.type "StopIteration") [] >>= _) _ _ _
  refine wpAny_bind ?_
  simp only [newExc, newTuple]; refine wpAny_bind (wpAny_newObj_type ?_ (by size_fits))
  refine wpAny_bind (m := firstArgMember _ _) (wpAny_of_eq (a := Value.none) (by first | rfl | (simp only [firstArgMember]; rfl)) ?_); refine wpAny_newObj_type ?_ (by size_fits)
  have up : ∀ b u, b ≠ it → s.heap.get? b = some u → (s.heap.update it (Obj.mapFields fun x => x.setIfInBounds 0 Value.none)).get? b = some u := fun b u hb e => by
    rw [Heap.get?_update_other _ _ (Ne.symm hb)]
    exact e
  have h1' := Heap.get?_push_of_some { cls := .type "tuple", data := .seq #[] } (up x1 o1 ne h1)
  refine HotX.raiseNew_hot ⟨hh, o1, vs1, Heap.get?_push_of_some _ (Heap.get?_push_of_some _ (up x1 o1 ne h1)), d1, c1⟩ (Nat.ne_of_lt (Heap.lt_size (Heap.get?_push_of_some _ (up x1 o1 ne h1)))) (Heap.get?_push_size _ rfl) rfl (by first | (simp; done) | (simp; omega) | (simp only [Array.size_append]; simp; omega)) ?_
  refine wpAny_bind (wpAny_isInstance (T := "StopIteration") (b := true) ⟨_, Heap.get?_update_self _ (Heap.get?_push_size _ rfl) rfl, rfl⟩ isSubtype_stop ?_)
  refine wpAny_pure (hQ _ fun b u hb e => ?_)
  rw [Heap.get?_update_other _ _ (Nat.ne_of_gt (Heap.lt_size (Heap.get?_push_of_some _ (up b u hb e))))]
  exact Heap.get?_push_of_some _ (Heap.get?_push_of_some _ (up b u hb e))
/-- a list walked where the error at x1 is handled -/
theorem walks_hot {I ax x1 : Addr} (hh : A.handled = some (.ref x1)) (ne : ax ≠ I) (n1 : x1 ≠ I) (items : Array Value) :
    Walks prog w A I [I, ax, x1] [I] items.size (fun i v => items[i]? = some v) (fun i h => (h.IsListIter I ax i ∧ h.IsList ax items) ∧ ∃ o vs, h.get? x1 = some o ∧ o.data = .fields vs ∧ vs[2]? = some .none) where
  sub := fun b hb => by simp at hb; simp [hb]
  frame := fun _ _ _ st hk => ⟨⟨st.1.1.at fun o e => hk I (by simp) o e, st.1.2.at fun o e => hk ax (by simp) o e⟩, let ⟨o, vs, e, d, c⟩ := st.2; ⟨o, vs, hk x1 (by simp) o e, d, c⟩⟩
  item := fun i s Q E hi st hQ => wpAny_pyNext_list_item st.1.1 st.1.2 (x := items[i]) (by simp [hi]) fun h' hit' hs' =>
    hQ _ h' s.toks (by simp [hi]) ⟨⟨hit', st.1.2.extBut hs'.extBut ne⟩, let ⟨o, vs, e, d, c⟩ := st.2; ⟨o, vs, hs'.extBut x1 o n1 e, d, c⟩⟩ fun b o hb e => hs'.extBut b o (fun h => hb (by simp [h])) e
  done := fun s Q E st hQ => list_end_hot ⟨hh, st.2⟩ n1 st.1.1 st.1.2 (by simp) fun h' he' => hQ h' s.toks fun b o hb e => he' b o (fun h => hb (by simp [h])) e
  self := fun _ _ _ _ st hQ => wpAny_pyIter_listiter st.1.1 hQ
theorem max_hot {l x1 : Addr} {vs : Array Value} {x : PyData} {xs : List PyData} {as : List Addr} {Q : Value → Shared → Prop} (hot : HotX.HotAt A x1 s.heap) (hl : s.heap.IsList l vs) (hr : ReadsAll s.heap vs.toList (x :: xs) as) (ha : PySem.W.AlikeAll (x :: xs)) (hu : A.units + 1 + PyData.depthAll (x :: xs) < cLine)
    (h : ∀ (i : Nat) v h' tk bs, vs[i]? = some v → Reads h' v (PySem.W.maxD x xs) bs → (∀ b o, s.heap.get? b = some o → h'.get? b = some o) → Q v { s with heap := h', toks := tk }) : wpAny (model prog w) A (call (.builtin "max") [.ref l]) Q E s := by
  have hn : vs.size = xs.length + 1 := PySem.W.readsAll_len hr
  obtain ⟨hh, o1, vs1, h1, d1, c1⟩ := hot
  have lt_l : l < s.heap.objs.size := by obtain ⟨_, e, _⟩ := hl; exact Heap.lt_size e
  have lt_1 := Heap.lt_size h1
  refine call_max_walkH (wpAny_pyIter_list hl ?_)
  refine ⟨s.heap.objs.size, [s.heap.objs.size, l, x1], [s.heap.objs.size], (fun a b => b = a), vs.size, (fun i v => vs[i]? = some v), _, s.heap, _, rfl, (walks_hot (A := A.in1) (I := s.heap.objs.size) (ax := l) (x1 := x1) hh (Nat.ne_of_lt lt_l) (Nat.ne_of_lt lt_1) vs).toS, ?_, fun b hb => ?_, by omega, fun b o e hb => ?_, fun b o e => Heap.get?_push_of_some _ e, PySem.W.cmpIn_gt (A := A.in1) hr ha (by show A.units + 1 + _ < _; exact hu), fun v s' hP m => ?_⟩
  · exact ⟨⟨⟨_, Heap.get?_push_size _ rfl, rfl, rfl⟩, hl.push _⟩, o1, vs1, Heap.get?_push_of_some _ h1, d1, c1⟩
  · show b < (s.heap.push _).objs.size
    rw [Heap.size_push]
    simp only [List.mem_cons, List.not_mem_nil, or_false] at hb
    rcases hb with rfl | rfl | rfl
    · exact Nat.lt_succ_self _
    · exact Nat.lt_succ_of_lt lt_l
    · exact Nat.lt_succ_of_lt lt_1
  · have := Heap.lt_size e
    rw [List.mem_singleton.mp hb] at this
    exact Nat.lt_irrefl _ this
  · obtain ⟨h', tk, rfl, hk'⟩ := PySem.W.moved_old rfl rfl m
    obtain ⟨bs, r, _, _, _⟩ := PySem.W.readsAll_atA hr _ v hP
    have e1 : vs.size - 1 = xs.length := by omega
    have e2 := (PySem.W.argBest_fold (fun a b => PySem.W.dataLt b a) PyData.none x xs xs.length (Nat.le_refl _)).2
    rw [List.take_length] at e2
    rw [e1] at r
    exact h _ v h' tk bs hP (PySem.W.reads_keeps hk' (by unfold PySem.W.maxD; rw [← e2]; exact r)) hk'
end
/-- max(l), l a list of ints, in an except suite -/
def rMaxHot : List V → Hp → VK → Prop := fun vs H Q => ∃ (a : Addr) (n : Int) (ns : List Int), vs = [.ref a] ∧ H a = some (.lst ((n :: ns).map V.int)) ∧ Q (.int (ns.foldl max n)) H
theorem cr_maxHot {X : Cx} {a : Addr} {oe : Obj} {cls : Value} {d : Option Addr} {pn : List (Addr × Obj)} (hu : X.A.units + 65 < cLine) (hz : L2N.Zn cls d oe) (hf : ∃ vs, oe.data = .fields vs) : CallR (X.suite a ((a, oe) :: pn)) (.builtin "max") rMaxHot := by
  intro pins s σ H xs us Q I r h
  obtain ⟨l, n, ns, rfl, hl, q⟩ := h
  obtain rfl := Vals.ref1 r
  obtain ⟨vs, hv⟩ := hf
  obtain ⟨hget, _⟩ := I.pin (a, oe) (List.mem_append.mpr (.inl List.mem_cons_self))
  have hot : HotX.HotAt (X.suite a ((a, oe) :: pn)).A a s.heap := ⟨rfl, oe, vs, hget, hv, hz.2.2 vs hv⟩
  obtain ⟨its, rv, pl, _⟩ := I.list (SqL.of hl)
  obtain ⟨as, rs⟩ := HasAll.reads I.hok _ _ its (has_ints (n :: ns)) rv
  refine max_hot (x := .int n) (xs := ns.map .int) hot pl.isList (by simpa using rs) (alike_all (n :: ns)) ?_ fun i v h' tk bs hv' r k => ?_
  · have e : PyData.depthAll (.int n :: ns.map .int) = 0 := PySem.W.depth_ints (n :: ns)
    rw [e]
    show X.A.units + 1 + 0 < cLine
    omega
  · rw [PySem.W.maxD_ints] at r
    cases r
    exact ⟨.int _, _, I.kept (t' := tk) k, ⟨_, rfl⟩, q⟩
theorem bx_max {X : Cx} {K : PySem.W.Frag} (hK : X.K = K) (hc : X.calm = true) : CallR X (.builtin "max") (rMax K) := hK ▸ cr_max hc

/-! ### a store with limits -/
def wf (p : Addr) (mo : Int) : List (Str × V) := putF "most_nodes" (.int mo) (putF "most_rows" (.int 0) (putF "store" (.ref p) []))
theorem wf_all (p : Addr) (mo : Int) : (wf p mo).lookup ("store" : Str) = some (.ref p) ∧ (wf p mo).lookup ("most_nodes" : Str) = some (.int mo) ∧ (wf p mo).lookup ("meet" : Str) = none ∧ (wf p mo).lookup ("meet_any" : Str) = none := ⟨rfl, rfl, rfl, rfl⟩
/-- how many nodes a condition has -/
def Nsz (E : List Int) (g : (Int → Bool) → Bool) (m : Nat) : Prop := ∃ L : List (List Bool), L.Nodup ∧ (∀ t, t ∈ L ↔ ∃ h, (Cof E g h ∧ ∃ k e, TopAt E h k e) ∧ t = tab E h) ∧ L.length = m
theorem Nsz.uniq {E : List Int} {g : (Int → Bool) → Bool} {m n : Nat} : Nsz E g m → Nsz E g n → m = n := by
  rintro ⟨L, a, b, rfl⟩ ⟨M, c, d, rfl⟩
  exact Nat.le_antisymm (nd_len a fun t ht => (d t).mpr ((b t).mp ht)) (nd_len c fun t ht => (b t).mpr ((d t).mp ht))
theorem nsz_reached {E : List Int} {ns : List Node} {c : Nat} {R : List Nat} (up : E.Pairwise (· < ·)) (ok : NOk E ns) (hc : c < ns.length + 2) (hR : Reached ns [c] R) : Nsz E (fun f => ev ns f c) R.length := by
  have rch : ∀ x, x ∈ R ↔ Rch ns c x ∧ 2 ≤ x := fun x => by
    constructor
    · intro h
      obtain ⟨a, c', hc', r⟩ := hR.mem x h
      rw [List.mem_singleton.mp hc'] at r
      exact ⟨r, a⟩
    · rintro ⟨r, x2⟩
      have := r.le ok
      obtain ⟨n, hn⟩ := nod_some (show x < ns.length + 2 by omega) x2
      exact hR.all r hn
  have only : ∀ x, Rch ns c x → Only E fun f => ev ns f x := fun x r f f' h => ev_congr ok x (by have := r.le ok; omega) fun y _ n hn => h n.1 (ok.en y n hn)
  refine ⟨R.map fun x => tab E fun f => ev ns f x, ?_, fun t => ?_, List.length_map ..⟩
  · unfold List.Nodup
    rw [List.pairwise_map]
    refine List.Pairwise.imp_of_mem (fun {a b} ha hb ne e => ne ?_) hR.nd
    have ra := ((rch a).mp ha).1
    have rb := ((rch b).mp hb).1
    have la := ra.le ok
    have lb := rb.le ok
    have ef := tab_inj up (only a ra) (only b rb) e
    exact canon ok _ a b (Nat.le_refl _) (by omega) (by omega) fun f => congrFun ef f
  · rw [List.mem_map]
    constructor
    · rintro ⟨x, hx, rfl⟩
      obtain ⟨r, x2⟩ := (rch x).mp hx
      exact ⟨_, (cof_node up ok hc _).mpr ⟨x, r, x2, rfl⟩, rfl⟩
    · rintro ⟨h, hh, rfl⟩
      obtain ⟨x, r, x2, rfl⟩ := (cof_node up ok hc h).mp hh
      exact ⟨x, (rch x).mpr ⟨r, x2⟩, rfl⟩
/-- one of the last k of the conditions holds -/
def orK (ns : List Node) (cs : List Nat) (k : Nat) : (Int → Bool) → Bool := fun f => (cs.drop (cs.length - k)).any fun c => ev ns f c
theorem orK_zero (ns : List Node) (cs : List Nat) : orK ns cs 0 = fun _ => false := by
  funext f
  unfold orK
  rw [Nat.sub_zero, List.drop_length]
  rfl
theorem orK_succ {ns : List Node} {cs : List Nat} {i : Nat} {c : Nat} (hc : cs[cs.length - 1 - i]? = some c) (hi : i < cs.length) (f : Int → Bool) : orK ns cs (i + 1) f = (ev ns f c || orK ns cs i f) := by
  unfold orK
  have hj : cs.length - (i + 1) < cs.length := by omega
  have e1 : cs.drop (cs.length - (i + 1)) = c :: cs.drop (cs.length - i) := by
    rw [List.drop_eq_getElem_cons hj]
    have e2 : cs[cs.length - (i + 1)] = c := by
      have := (List.getElem?_eq_some_iff.mp hc).2
      rw [← this]
      congr 1
      omega
    rw [e2, show cs.length - (i + 1) + 1 = cs.length - i by omega]
  rw [e1, List.any_cons]
theorem orK_all (ns : List Node) (cs : List Nat) (f : Int → Bool) : orK ns cs cs.length f = cs.any fun c => ev ns f c := by
  unfold orK
  rw [Nat.sub_self, List.drop_zero]
def spWinit (CW : Addr) : Sp := fun vs H Q _ => ∃ (p dx sp : Addr) (mo : Int), vs = [.ref p, .ref sp, .int 0, .int mo] ∧ H p = some (.ins CW dx []) ∧ Q .non (upd H p (.ins CW dx (wf sp mo)))
def spSize (K : PySem.W.Frag) (C : Addr) : Sp := fun vs H Q _ => ∃ (E : List Int) (s : SA) (ns : List Node) (b : Nat) (cs : List Nat) (a : Addr), vs = [.ref s.p, .ref a] ∧ StoAt C E s H ns b ∧ SqL K H a (cs.map vI) ∧ (∀ c ∈ cs, c < ns.length + 2) ∧ b ≤ 1000000 ∧
  ∀ (R : List Nat) (G : Hp), Reached ns cs R → Kp [] H G → Q (.int (R.length : Int)) G
def spMeet (C CW DE : Addr) : Sp := fun vs H Q EX => ∃ (E : List Int) (s : SA) (ns : List Node) (b c : Nat) (wp dx : Addr) (mo : Int), vs = [.ref wp, .int c] ∧ StoAt C E s H ns b ∧ c < ns.length + 2 ∧ b ≤ 1000000 ∧ E.Pairwise (· < ·) ∧ H wp = some (.ins CW dx (wf s.p mo)) ∧
  ∀ (m : Nat) (G : Hp), Kp [] H G → Nsz E (fun f => ev ns f c) m → ((m : Int) ≤ mo → Q (.int c) G) ∧ (mo < (m : Int) → EX (.ref DE) none G)
def spMeetAny (C CW DE : Addr) : Sp := fun vs H Q EX => ∃ (E : List Int) (s : SA) (ns : List Node) (b : Nat) (wp dx la : Addr) (mo : Int) (cs : List Nat), vs = [.ref wp, .ref la] ∧ StoAt C E s H ns b ∧ (∀ c ∈ cs, c < ns.length + 2) ∧ H la = some (.lst (cs.map vI)) ∧ cs.length ≤ 5 ∧ b + 4096 ≤ 1000000 ∧ E.Pairwise (· < ·) ∧ E.length ≤ 8 ∧ H wp = some (.ins CW dx (wf s.p mo)) ∧
  (∀ (H' : Hp) (ns' : List Node) (r : Nat), Kp s.M H H' → StoAt C E s H' ns' (b + 2560) → Pre ns ns' → r < ns'.length + 2 → (∀ f, ev ns' f r = cs.any fun c => ev ns f c) → (∀ k m, 1 ≤ k → k ≤ cs.length → Nsz E (orK ns cs k) m → (m : Int) ≤ mo) → Q (.int r) H') ∧
  ∀ (H' : Hp) (ns' : List Node) (k m : Nat), Kp s.M H H' → StoAt C E s H' ns' (b + 2560) → Pre ns ns' → 1 ≤ k → k ≤ cs.length → Nsz E (orK ns cs k) m → mo < (m : Int) → EX (.ref DE) none H'
theorem StoAt.no_ins {C : Addr} {E : List Int} {s : SA} {H : Hp} {ns : List Node} {b : Nat} (S : StoAt C E s H ns b) {a D dx : Addr} {fs : List (Str × V)} (h : H a = some (.ins D dx fs)) : a ∉ s.M := by
  obtain ⟨as, a1, _⟩ := S.ls
  obtain ⟨kvs, b1, _⟩ := S.nu
  obtain ⟨kvs', c1, _⟩ := S.re
  intro m
  simp only [SA.M, List.mem_cons, List.not_mem_nil, or_false] at m
  rcases m with e | e | e
  · rw [e, a1] at h; cases h
  · rw [e, b1] at h; cases h
  · rw [e, c1] at h; cases h
structure TWay (K : PySem.W.Frag) (mg : Str → Option Value) (CW : Addr) : Prop where
  cl : Cls K CW
  a_store : NoAttr K CW "store"
  a_most_rows : NoAttr K CW "most_rows"
  a_most_nodes : NoAttr K CW "most_nodes"
  n_len : mg "len" = none
  n_reversed : mg "reversed" = none
  g_NEVER : ∃ u, mg "NEVER" = some u ∧ RelV (.int 0) u
section
variable {P : Program} {w : World} {K : PySem.W.Frag} {mg : Str → Option Value} {base : Heap} {C CW DE LE SE : Addr}
theorem ok_Winit {f : Addr} {fd : FuncData} (F : Fun K "__init__" "Way.__init__" sD_Way_init f fd) (T : TWay K mg CW) : FnOk P w K mg base CX0 1 f fd ["self", "store", "most_rows", "most_nodes"] (spWinit CW) := by
  refine F.ok sc_Way_init (fun vs H Q E h => ?_) (fun cdv A outer s H vs Q E hr h => ?_)
  · obtain ⟨p, dx, sp, mo, rfl, _⟩ := h
    rfl
  obtain ⟨p, dx, sp, mo, rfl, hp, q⟩ := h
  refine ⟨_, (pss_cons (ps_fld (pv 0) (pv 1) rfl)
    (pss_cons (ps_fld (pv 0) (pv 2) rfl)
    (pss_one (ps_fld (pv 0) (pv 3) rfl)))), ?_⟩
  refine ⟨_, rfl, _, rfl, p, CW, dx, [], rfl, hp, T.cl, T.a_store, (by show 0 < 1000; decide), ?_⟩
  refine ⟨_, rfl, _, rfl, p, CW, dx, _, rfl, upd_same, T.cl, T.a_most_rows, (by show 1 < 1000; decide), ?_⟩
  refine ⟨_, rfl, _, rfl, p, CW, dx, _, rfl, upd_same, T.cl, T.a_most_nodes, (by show 2 < 1000; decide), ?_⟩
  rw [upd_upd, upd_upd]
  exact q
theorem ok_size (D : GM K C "size" "Diagrams.size" sD_Dsize ["self", "conditions"]) (T : TSto K w mg C) (m_reached : Met P w K mg base 2 C "reached" (spReached K C) []) : Met P w K mg base 3 C "size" (spSize K C) [] := by
  refine D.met T.cl sc_Dsize (fun vs H Q E h => ?_) (fun f cdv A outer s0 H vs Q E hr h => ?_)
  · obtain ⟨E, s, ns, b, cs, a, rfl, _⟩ := h
    rfl
  obtain ⟨E, s, ns, b, cs, a, rfl, S, hS, hcs, hb, q⟩ := h
  refine ⟨_, (pss_one (ps_ret (pe_callB call_len_seq (by rfl) T.n_len (by decide +kernel) (pa_cons (pe_mt m_reached hr (by omega) (pv 0) (pa_cons (pv 1) pa_nil)) pa_nil)))), ?_⟩
  refine ⟨_, rfl, s.p, s.dx, _, rfl, S.ob, sf_no _ _ _ (by decide +kernel) (by decide +kernel) (by decide +kernel), _, rfl, E, s, ns, b, cs, a, rfl, S, hS, hcs, hb, fun R r G hR hr0 kG hG => ?_⟩
  refine ⟨r, _, rfl, .inl (SqL.of hG), ?_⟩
  rw [List.length_map]
  exact q R G hR kG
theorem ok_meet (ef : ErrT K mg "TooManyQuestions" DE LE SE) (D : GM K CW "meet" "Way.meet" sD_Way_meet ["self", "condition"]) (T : TWay K mg CW) (m_size : Met P w K mg base 3 C "size" (spSize K C) []) : MetN P w K mg base 4 CW "meet" (spMeet C CW DE) := by
  refine D.metN T.cl sc_Way_meet (fun vs H Q E h => ?_) (fun f cdv A outer s0 H vs Q EX hr h => ?_)
  · obtain ⟨E, s, ns, b, c, wp, dx, mo, rfl, _⟩ := h
    rfl
  obtain ⟨E, s, ns, b, c, wp, dx, mo, rfl, S, hc, hb, up, hw, q⟩ := h
  refine ⟨_, (pss_cons (ps_if (pt_cmpR op_gt (pe_mt m_size hr (by omega) (pe_fld (pv 0) rfl) (pa_cons (pe_lst (pa_cons (pv 1) pa_nil)) pa_nil)) (pe_fld (pv 0) rfl) (nomark _)) (pss_one (L2N.ps_raise rfl (L2N.takes_of rfl rfl rfl rfl) (L2N.pmk_own PySem.F.excBase_ValueError ef.xD ef.gD ef.kD (raises_own ef.bD ef.tD) rfl))) pss_nil)
    (pss_one (ps_ret (pv 1)))), ?_⟩
  obtain ⟨w1, w2, _, _⟩ := wf_all s.p mo
  refine ⟨_, rfl, wp, CW, dx, _, _, rfl, hw, T.cl, T.a_store, w1, s.p, s.dx, _, rfl, S.ob, sf_no _ _ _ (by decide +kernel) (by decide +kernel) (by decide +kernel), _, rfl, (by show 1 ≤ sizeLine; decide), fun la hla => ?_⟩
  have k1 := Kp.new (M := []) (o := .lst [.int c]) hla
  refine ⟨E, s, ns, b, [c], la, rfl, S.new k1, SqL.of upd_same, fun x hx => by rw [List.mem_singleton.mp hx]; exact hc, hb, fun R G hR kG => ?_⟩
  have k2 := k1.trans kG
  obtain ⟨q1, q2⟩ := q R.length G k2 (nsz_reached up S.ok hc hR)
  refine ⟨_, rfl, wp, CW, dx, _, _, rfl, k2.k _ _ hw (by simp), T.cl, T.a_most_nodes, w2, _, _, rfl, rfl, _, rfl, ?_⟩
  by_cases big : mo < (R.length : Int)
  · exact iteT_of (decide_eq_true big) (q2 big)
  · exact iteF_of (decide_eq_false big) ⟨_, rfl, q1 (by omega)⟩
theorem ok_meet_any (ef : ErrT K mg "TooManyQuestions" DE LE SE) (D : GM K CW "meet_any" "Way.meet_any" sD_Way_meet_any ["self", "conditions"]) (T : TWay K mg CW) (n_meet : MetN P w K mg base 4 CW "meet" (spMeet C CW DE)) (m_disjunction : Met P w K mg base 31 C "disjunction" (spOp C .or) []) :
    MetN P w K mg base 32 CW "meet_any" (spMeetAny C CW DE) := by
  refine D.metN T.cl sc_Way_meet_any (fun vs H Q E h => ?_) (fun f cdv A outer s0 H vs Q EX hr h => ?_)
  · obtain ⟨E, s, ns, b, wp, dx, la, mo, cs, rfl, _⟩ := h
    rfl
  obtain ⟨E, s, ns, b, wp, dx, la, mo, cs, rfl, S, hcs, hla, lcs, hb, up, lE, hw, q, qx⟩ := h
  refine ⟨_, (pss_cons (ps_set (i := 2) sc_Way_meet_any.nd rfl (Or.inl rfl) (pe_gc rfl T.g_NEVER))
    (pss_cons (ps_for (passes_of rfl) rfl (pi_reversed (by rfl) T.n_reversed (pa_cons (pv 1) pa_nil)) (pg_name (i := 3) sc_Way_meet_any.nd rfl (Or.inl rfl)) (pss_one (ps_set (i := 2) sc_Way_meet_any.nd rfl (Or.inl rfl) (pe_mtN n_meet hr (by omega) (L2N.passes_call (L2N.takes_of rfl rfl rfl rfl) fun _ _ _ _ h => h) (pv 0) (pa_cons (pe_mt m_disjunction hr (by omega) (pe_fld (pv 0) rfl) (pa_cons (pv 3) (pa_cons (pv 2) pa_nil))) pa_nil)))))
    (pss_one (ps_ret (pv 2))))), ?_⟩
  obtain ⟨w1, _, w3, _⟩ := wf_all s.p mo
  have wM := S.no_ins hw
  have laM : la ∉ s.M := S.out.2.1 la (cs.map fun c : Nat => (c : Int)) (by rw [hla, List.map_map]; rfl)
  refine ⟨_, rfl, la, cs.map vI, rfl, SqL.of hla, ?_⟩
  refine RT.for_Itv (K := K) (a := la) (xs := cs.map vI) (fun i σ H' => ∃ (r : Nat) (ns' : List Node) (v3 : Option V), σ = [some (.ref wp), some (.ref la), some (.int r), v3] ∧ Kp s.M H H' ∧ StoAt C E s H' ns' (b + 512 * i) ∧ Pre ns ns' ∧ r < ns'.length + 2 ∧ (∀ f, ev ns' f r = orK ns cs i f) ∧ ∀ k m, 1 ≤ k → k ≤ i → Nsz E (orK ns cs k) m → (m : Int) ≤ mo)
    ⟨0, ns, none, rfl, .refl, by simpa using S, .refl _, by omega, fun f => by rw [ev_zero, orK_zero], fun k m h1 h2 => by omega⟩ (fun i σ H' p => ?_) (fun i x σ H1 hi hx p => ?_) (fun σ H1 p => ?_)
  · obtain ⟨r, ns', v3, rfl, k, _⟩ := p
    exact SqL.of (k.k _ _ hla laM)
  · obtain ⟨r, ns1, v3, rfl, k1, S1, p1, hr1, ev1, le1⟩ := p
    rw [List.length_map] at hi
    obtain ⟨c, hc, rfl⟩ := mapAt hx
    rw [List.length_map] at hc
    have hc1 : c < ns1.length + 2 := by have := hcs c (List.mem_of_getElem? hc); have := p1.len; omega
    have hw1 := k1.k _ _ hw wM
    refine ⟨_, rfl, wp, dx, _, rfl, hw1, w3, ?_⟩
    refine ⟨_, rfl, wp, CW, dx, _, _, rfl, hw1, T.cl, T.a_store, w1, s.p, s.dx, _, rfl, S1.ob, sf_no _ _ _ (by decide +kernel) (by decide +kernel) (by decide +kernel), _, rfl, _, rfl, E, s, ns1, _, c, r, rfl, S1, hc1, hr1, lE, by omega, fun H2 ns2 r2 k2 S2 p2 good => ?_⟩
    have hr2 : r2 < ns2.length + 2 := (good.2.2.1 E.length (.all good.1) (.all good.2.1)).1
    have p12 := p1.trans p2
    have k12 := k1.trans k2
    have ev2 : ∀ f, ev ns2 f r2 = orK ns cs (i + 1) f := fun f => by
      rw [good.2.2.2 f, p2.ev S1.ok S2.ok f c hc1, p2.ev S1.ok S2.ok f r hr1, ev1 f, orK_succ hc hi f, p1.ev S.ok S1.ok f c (hcs c (List.mem_of_getElem? hc))]
      rfl
    refine ⟨E, s, ns2, _, r2, wp, dx, mo, rfl, S2, hr2, by omega, up, k12.k _ _ hw wM, fun m G kG hm => ?_⟩
    rw [show (fun f => ev ns2 f r2) = orK ns cs (i + 1) from funext ev2] at hm
    have kHG := k12.trans (kG.wide fun b m => absurd m List.not_mem_nil)
    have SG := S2.new kG
    refine ⟨fun le => ?_, fun big => qx G ns2 (i + 1) m kHG (SG.mono (by omega)) p12 (by omega) (by omega) hm big⟩
    refine ⟨r2, ns2, _, rfl, kHG, by rw [show b + 512 * (i + 1) = b + 512 * i + 512 by omega]; exact SG, p12, hr2, ev2, fun k m' h1 h2 hk => ?_⟩
    by_cases e : k = i + 1
    · subst e
      rw [hk.uniq hm]
      exact le
    · exact le1 k m' h1 (by omega) hk
  · obtain ⟨r, ns1, v3, rfl, k1, S1, p1, hr1, ev1, le1⟩ := p
    rw [List.length_map] at S1 ev1 le1
    exact ⟨_, rfl, q H1 ns1 r k1 (S1.mono (by omega)) p1 hr1 (fun f => by rw [ev1, orK_all]) le1⟩
end

/-! ### none of the rows -/
def spNone (C DE : Addr) : Sp := fun vs H Q EX => ∃ (E : List Int) (s : SA) (ns : List Node) (b : Nat) (ca xa pa cd : Addr) (L : List ((Int × Int) × Nat)) (pre PP : List Int) (kvs : List (Key × V)) (csf : Int → Int) (al : Int → Bool) (mo : Int), vs = [.ref s.p, .ref ca, .ref xa, .ref pa, .ref cd, .int mo] ∧ StoAt C E s H ns b ∧ b + 8192 ≤ 1000000 ∧ E.Pairwise (· < ·) ∧ E.length ≤ 8 ∧
  HRows H ca L ∧ (∀ p ∈ L, p.2 < ns.length + 2) ∧ L.length ≤ 5 ∧ H xa = some (.tup (pre.map V.int)) ∧ pre.length ≤ 2 ∧ H pa = some (.lst (PP.map V.int)) ∧ H cd = some (.dK kvs) ∧ (∀ e ∈ E, valV kvs (Sum.inl e : Key) = if al e then some (.int (csf e)) else none) ∧ (∀ e, al e = true → e ∈ E) ∧ (∀ e, 0 ≤ csf e) ∧
  (∀ (v : V) (G : Hp) (ns' : List Node) (r : Option (List Int)), Kp s.M H G → StoAt C E s G ns' (b + 4096) → Pre ns ns' → BestF (fun f => !((L.filter fun p => begins pre p.1).map Prod.snd).any fun c => ev ns f c) (fun y => decide (y ∈ PP)) al csf r → ChV G csf v r →
    (∀ k m, 1 ≤ k → k ≤ (L.filter fun p => begins pre p.1).length → Nsz E (orK ns ((L.filter fun p => begins pre p.1).map Prod.snd) k) m → (m : Int) ≤ mo) → Q v G) ∧
  ∀ (G : Hp) (ns' : List Node) (k m : Nat), Kp s.M H G → StoAt C E s G ns' (b + 4096) → Pre ns ns' → 1 ≤ k → k ≤ (L.filter fun p => begins pre p.1).length → Nsz E (orK ns ((L.filter fun p => begins pre p.1).map Prod.snd) k) m → mo < (m : Int) → EX (.ref DE) none G
structure TNone (K : PySem.W.Frag) (mg : Str → Option Value) (CW fI : Addr) (fdI : FuncData) : Prop where
  g_Way : mg "Way" = some (.ref CW)
  M_Way : Mk K CW fI
  b_Way_init : Binds K fdI ["self", "store", "most_rows", "most_nodes"] []
section
variable {P : Program} {w : World} {K : PySem.W.Frag} {mg : Str → Option Value} {base : Heap} {C CW DE LE SE : Addr}
theorem fn_none {f fI : Addr} {fd fdI : FuncData} (D : GK K mg "none_of" sD_none_of [("most_nodes", .int 500)] f fd) (T : TNone K mg CW fI fdI) (G_Way_init : FnOk P w K mg base CX0 1 fI fdI ["self", "store", "most_rows", "most_nodes"] (spWinit CW)) (n_meet_any : MetN P w K mg base 32 CW "meet_any" (spMeetAny C CW DE))
    (c_beginning : Cal P w K mg base 1 "beginning" spBeginning []) (c_cheapest : Cal P w K mg base 4 "cheapest" (spCheapest C) []) (m_negation : Met P w K mg base 32 C "negation" (spNeg C) []) : FnOk P w K mg base (L2N.CX P w) 33 f fd ["store", "candidates", "prefix", "present", "costs", "most_nodes"] (spNone C DE) := by
  refine D.fn.ok sc_none_of (fun vs H Q E h => ?_) (fun cdv A outer s0 H vs Q EX hr h => ?_)
  · obtain ⟨E, s, ns, b, ca, xa, pa, cd, L, pre, PP, kvs, csf, al, mo, rfl, _⟩ := h
    rfl
  obtain ⟨E, s, ns, b, ca, xa, pa, cd, L, pre, PP, kvs, csf, al, mo, rfl, S, hb, upE, lE, rows, hcL, lL, hxa, lp, hpa, hcd, hkv, hal, h0, q, qx⟩ := h
  refine ⟨_, (pss_cons (ps_set (i := 6) sc_none_of.nd rfl (Or.inl rfl) (pe_make T.M_Way G_Way_init (hr.mono (by omega)) rfl T.g_Way T.b_Way_init .nil pass0 (pa_cons (pv 0) (pa_cons pe_int (pa_cons (pv 5) pa_nil)))))
    (pss_cons (ps_set (i := 7) sc_none_of.nd rfl (Or.inl rfl) (pe_mtN n_meet_any hr (by omega) (L2N.passes_call (L2N.takes_of rfl rfl rfl rfl) fun _ _ _ _ h => h) (pv 6) (pa_cons (pe_lc (own := [("row", 8), ("held", 9)]) (tt := tYes) rfl sc_none_of.nd (pi_list (pe_c c_beginning hr (by omega) rfl (pa_cons (pv 1) (pa_cons (pv 2) pa_nil)))) (blkOk_by (own := [("row", 8), ("held", 9)]) (N := ["store", "candidates", "prefix", "present", "costs", "most_nodes", "way", "condition", "row", "held"]) (sc := defScope sD_none_of) (by decide +kernel)) (fun _ _ _ _ _ => (bx_ptup (K := K) (n := 2) rfl rfl (pgs_cons (pg_name (i := 8) sc_none_of.nd rfl (Or.inl rfl)) (pgs_cons (pg_name (i := 9) sc_none_of.nd rfl (Or.inl rfl)) pgs_nil)))) (fun _ _ _ _ _ => pts_nil) (fun _ _ _ _ _ => (pv 9))) pa_nil)))
    (pss_one (ps_ret (pe_c c_cheapest hr (by omega) rfl (pa_cons (pv 0) (pa_cons (pe_mt m_negation hr (by omega) (pv 0) (pa_cons (pv 7) pa_nil)) (pa_cons (pv 3) (pa_cons (pv 4) pa_nil))))))))), ?_⟩
  obtain ⟨_, _, _, w4⟩ := wf_all s.p mo
  refine ⟨_, rfl, _, rfl, fun wp dxw hwp hdx ne => ⟨wp, dxw, s.p, mo, rfl, upd_same, rfl, ?_⟩⟩
  rw [upd_upd]
  have kW1 := Kp.new (M := []) (o := .own wp) hdx
  have kW : Kp [] H (upd (upd H dxw (.own wp)) wp (.ins CW dxw (wf s.p mo))) := kW1.newer (by rw [upd_ne ne.symm]; exact hwp)
  have hW : (upd (upd H dxw (.own wp)) wp (.ins CW dxw (wf s.p mo))) wp = some (.ins CW dxw (wf s.p mo)) := upd_same
  obtain ⟨H1, hH1⟩ : ∃ H1, upd (upd H dxw (.own wp)) wp (.ins CW dxw (wf s.p mo)) = H1 := ⟨_, rfl⟩
  rw [hH1] at kW hW ⊢
  refine ⟨_, rfl, wp, dxw, _, rfl, hW, w4, ?_⟩
  refine ⟨_, rfl, _, rfl, ca, xa, L, pre, rfl, rows.kp kW (by simp), kW.t _ _ hxa, lL, lp, fun r H2 hr1 k2 rows2 => ?_⟩
  obtain ⟨F, hF⟩ : ∃ F, (L.filter fun p => begins pre p.1) = F := ⟨_, rfl⟩
  rw [hF] at rows2 q qx
  have lF : F.length ≤ 5 := by rw [← hF]; exact Nat.le_trans (List.length_filter_le _ _) lL
  have hcF : ∀ c ∈ F.map Prod.snd, c < ns.length + 2 := fun c hc => by
    obtain ⟨p, hp, rfl⟩ := List.mem_map.mp hc
    rw [← hF] at hp
    exact hcL p (List.mem_filter.mp hp).1
  obtain ⟨as, har, hasl, hasi⟩ := rows2
  have k02 := kW.trans k2
  refine ⟨r, rfl, ⟨_, SqL.of har⟩, fun Dl hD => lc_list (K := K) (a := r) (xs := as.map V.ref) (fun i G => Kp [] H2 G ∧ G Dl = some (.lst (((F.take i).map Prod.snd).map vI))) ⟨.new hD, upd_same⟩ (fun i G _ p => SqL.of (p.1.k _ _ har (by simp))) (fun i x G hi p => ?_) (fun G p => ?_)⟩
  · obtain ⟨a, ha, rfl⟩ := mapAt hi
    obtain ⟨kG, hG⟩ := p
    have hil : i < F.length := by have := (List.getElem?_eq_some_iff.mp ha).1; omega
    have hp : F[i]? = some F[i] := List.getElem?_eq_getElem hil
    generalize F[i] = p at hp
    obtain ⟨x, h1, h2⟩ := hasi i a p ha hp
    refine ⟨a, _, rfl, SqT.of (kG.t _ _ h1), rfl, _, _, rfl, _, _, rfl, rfl, rfl, iteT (B := True) ?_⟩
    refine ⟨_, rfl, _, hG, small1000 ?_, kG.mt hD, ?_⟩
    · rw [List.length_map, List.length_map]
      exact Nat.le_trans (List.length_take_le' _ _) (by omega)
    · rw [upd_same, takeS hp, List.map_append, List.map_append]
      rfl
  obtain ⟨kG, hG⟩ := p
  rw [List.length_map, hasl, List.take_length] at hG
  have k0G := k02.trans kG
  have lFm : (F.map Prod.snd).length = F.length := List.length_map ..
  have wide : ∀ {A B : Hp}, Kp [] A B → Kp s.M A B := fun k => k.wide fun b m => absurd m List.not_mem_nil
  refine ⟨E, s, ns, b, wp, dxw, Dl, mo, F.map Prod.snd, rfl, S.new k0G, hcF, hG, by omega, by omega, upE, lE, (k2.trans kG).k _ _ hW (by simp), fun H3 ns3 r3 k3 S3 p3 hr3 ev3 le3 => ?_, fun H3 ns3 k m k3 S3 p3 h1 h2 hm big => qx H3 ns3 k m ((wide k0G).trans k3) (S3.mono (by omega)) p3 h1 (by omega) hm big⟩
  have SG := S.new k0G
  obtain ⟨oC, oL, oN⟩ := SG.out
  refine ⟨_, rfl, _, rfl, s.p, s.dx, _, rfl, S3.ob, sf_no _ _ _ (by decide +kernel) (by decide +kernel) (by decide +kernel), _, rfl, E, s, ns3, _, r3, rfl, S3, hr3, lE, by omega, fun H4 ns4 r4 k4 S4 p4 good hneg => ?_⟩
  have hr4 : r4 < ns4.length + 2 := (good.2.2.1 E.length (.all good.1) (.all good.2.1)).1
  have k34 := k3.trans k4
  have hpaG := k0G.k _ _ hpa (by simp)
  have hcdG := k0G.k _ _ hcd (by simp)
  refine ⟨_, rfl, _, rfl, E, s, ns4, _, r4, pa, cd, PP, kvs, csf, al, rfl, S4, by omega, hr4, upE, lE, k34.k _ _ hpaG (oL _ _ hpaG), k34.k _ _ hcdG (oC _ _ hcdG), hkv, hal, h0, fun v G5 r5 k5 b5 c5 n5 => ?_⟩
  refine q v G5 ns4 r5 (((wide k0G).trans k34).trans (wide k5)) ((S4.new k5).mono (by omega)) (p3.trans p4) (b5.toF fun f => ?_) c5 fun k m h1 h2 hm => le3 k m h1 (by omega) hm
  rw [hneg, p4.ev S3.ok S4.ok f r3 hr3, ev3]
theorem kb_none {f : Addr} {fd : FuncData} {sp : Sp} {k : Nat} (D : GK K mg "none_of" sD_none_of [("most_nodes", .int 500)] f fd) (F : FnOk P w K mg base (L2N.CX P w) k f fd ["store", "candidates", "prefix", "present", "costs", "most_nodes"] sp) :
    KCalN P w K mg base k "none_of" sp ["store", "candidates", "prefix", "present", "costs", "most_nodes"] 5 ["most_nodes"] f fd :=
  D.kcalN F (by simp) fun Da doc pm an cdv ct us ws l1 l2 => match us, ws, l1, l2 with | [_, _, _, _, _], [_], _, _ => rfl
end

/-! ### repr of tracked data -/
def keyD : Key → PyData
  | .inl i => .int i
  | .inr x => .str x
/-- v stands for the data -/
inductive Shw (S : Prop) (H : Hp) : V → PyData → Prop
  | non : Shw S H .non .none
  | bl (b : Bool) : Shw S H (.bl b) (.bool b)
  | int (i : Int) : Shw S H (.int i) (.int i)
  | str (x : Str) : Shw S H (.str x) (.str x)
  | lst {a : Addr} {xs : List V} {ds : List PyData} : S ∨ a ≠ sysModules → H a = some (.lst xs) → xs.length = ds.length → (∀ (i : Nat) (x : V) (d : PyData), xs[i]? = some x → ds[i]? = some d → Shw S H x d) → Shw S H (.ref a) (.list ds)
  | tup {a : Addr} {xs : List V} {ds : List PyData} : H a = some (.tup xs) → xs.length = ds.length → (∀ (i : Nat) (x : V) (d : PyData), xs[i]? = some x → ds[i]? = some d → Shw S H x d) → Shw S H (.ref a) (.tuple ds)
  | dct {a : Addr} {kvs : List (Key × V)} {ds : List (Key × PyData)} : H a = some (.dK kvs) → kvs.map (·.1) = ds.map (·.1) → (∀ (i : Nat) (x : Key × V) (d : Key × PyData), kvs[i]? = some x → ds[i]? = some d → Shw S H x.2 d.2) →
      Shw S H (.ref a) (.dict (ds.map fun kv => (keyD kv.1, kv.2)))
def RdsAt (S : Prop) (h : Heap) (u : Value) (d : PyData) : Prop := ∃ as : List Addr, Reads h u d as ∧ (¬ S → sysModules ∉ as)
theorem rds_all {S : Prop} {h : Heap} {xs : List V} {us : List Value} (rv : Vals xs us) : ∀ {ds : List PyData}, xs.length = ds.length → (∀ (i : Nat) (x : V) (d : PyData), xs[i]? = some x → ds[i]? = some d → ∀ u, RelV x u → RdsAt S h u d) →
    ∃ as : List Addr, ReadsAll h us ds as ∧ (¬ S → sysModules ∉ as) := by
  induction rv with
  | nil =>
    intro ds hl _
    have : ds = [] := List.length_eq_zero_iff.mp hl.symm
    subst this
    exact ⟨[], .nil, fun _ => by simp⟩
  | cons r t ih =>
    intro ds hl f
    cases ds with
    | nil => cases hl
    | cons d ds =>
      obtain ⟨as, h1, h2⟩ := f 0 _ d rfl rfl _ r
      obtain ⟨bs, h3, h4⟩ := ih (Nat.succ.inj hl) fun i x e p q => f (i + 1) x e p q
      exact ⟨as ++ bs, .cons h1 h3, fun n m => (List.mem_append.mp m).elim (h2 n) (h4 n)⟩
theorem rds_kv {S : Prop} {P : Program} {w : World} {h : Heap} {es : List DictEntry} {vs : List (Key × Value)} (ps : Pairs (mixKind P w) es vs) : ∀ {kvs : List (Key × V)} {ds : List (Key × PyData)}, KV kvs vs → kvs.map (·.1) = ds.map (·.1) →
    (∀ (i : Nat) (x : Key × V) (d : Key × PyData), kvs[i]? = some x → ds[i]? = some d → ∀ u, RelV x.2 u → RdsAt S h u d.2) →
    ∃ as bs : List Addr, ReadsAll h (es.map (·.key)) ((ds.map fun kv => (keyD kv.1, kv.2)).map (·.1)) as ∧ ReadsAll h (es.map (·.val)) ((ds.map fun kv => (keyD kv.1, kv.2)).map (·.2)) bs ∧ (¬ S → sysModules ∉ as) ∧ (¬ S → sysModules ∉ bs) := by
  induction ps with
  | nil =>
    intro kvs ds rel hk _
    cases rel
    have : ds = [] := List.map_eq_nil_iff.mp hk.symm
    subst this
    exact ⟨[], [], .nil, .nil, fun _ => by simp, fun _ => by simp⟩
  | @cons e kv es vs hkey hval _ ih =>
    intro kvs ds rel hk f
    cases rel with
    | cons r t =>
      cases ds with
      | nil => cases hk
      | cons d ds =>
        obtain ⟨e1, e2⟩ := List.cons.inj hk
        obtain ⟨as, bs, h1, h2, h3, h4⟩ := ih t e2 fun i x e p q => f (i + 1) x e p q
        obtain ⟨cs, g1, g2⟩ := f 0 _ d rfl rfl _ r.2
        have hk1 : Reads h e.key (keyD d.1) [] := by
          have e3 : kv.1 = d.1 := r.1.symm.trans e1
          rw [← e3]
          rcases keyIs_shape hkey with ⟨i, t, x1, x2⟩ | ⟨i, t, x1, x2⟩
          · rw [x1, x2]; exact .int i t
          · rw [x1, x2]; exact .str i t
        have hv1 : Reads h e.val d.2 cs := by rw [hval]; exact g1
        exact ⟨[] ++ as, cs ++ bs, .cons hk1 h1, .cons hv1 h2, by simpa using h3, fun n m => (List.mem_append.mp m).elim (g2 n) (h4 n)⟩
theorem Shw.rds {S : Prop} {P : Program} {w : World} {H : Hp} {h : Heap} (ok : HOk P w H h) {v : V} {d : PyData} (r : Shw S H v d) : ∀ u, RelV v u → RdsAt S h u d := by
  induction r with
  | non => intro u hu; cases (show u = Value.none from hu); exact ⟨[], .none, fun _ => by simp⟩
  | bl b => intro u hu; cases (show u = Value.bool b from hu); exact ⟨[], .bool b, fun _ => by simp⟩
  | int i => intro u hu; obtain ⟨t, rfl⟩ := (show ∃ t, u = Value.int i t from hu); exact ⟨[], .int i t, fun _ => by simp⟩
  | str x => intro u hu; obtain ⟨t, rfl⟩ := (show ∃ t, u = Value.str x t from hu); exact ⟨[], .str x t, fun _ => by simp⟩
  | @lst a xs ds hs e hl _ ih =>
    intro u hu
    cases (show u = Value.ref a from hu)
    obtain ⟨_, its, n, rv, g⟩ := (show ObjOk P w H h a (.lst xs) from ok a _ e)
    obtain ⟨as, h1, h2⟩ := rds_all rv hl ih
    exact ⟨a :: as, .list g rfl rfl (by simpa using h1), fun n m => (List.mem_cons.mp m).elim (fun z => hs.elim n fun q => q z.symm) (h2 n)⟩
  | @tup a xs ds e hl _ ih =>
    intro u hu
    cases (show u = Value.ref a from hu)
    obtain ⟨_, its, rv, g⟩ := (show ObjOk P w H h a (.tup xs) from ok a _ e)
    obtain ⟨as, h1, h2⟩ := rds_all rv hl ih
    obtain ⟨o, g1, g2, n, g3⟩ := g
    exact ⟨as, .tuple g1 g2 g3 (by simpa using h1), h2⟩
  | @dct a kvs ds e hk _ ih =>
    intro u hu
    cases (show u = Value.ref a from hu)
    obtain ⟨_, hsm, vs, rel, o, es, ep, g, ex, dat, _, prs, _⟩ := (show ObjOk P w H h a (.dK kvs) from ok a _ e)
    obtain ⟨as, bs, h1, h2, h3, h4⟩ := rds_kv prs rel hk ih
    refine ⟨a :: as ++ bs, .dict g ex.1 dat h1 h2, fun n m => ?_⟩
    rcases List.mem_append.mp m with m | m
    · exact (List.mem_cons.mp m).elim (fun z => beq_eq_false_iff_ne.mp hsm z.symm) (h3 n)
    · exact h4 n m
/-- small data: what repr wants of it -/
structure Fits (d : PyData) : Prop where
  s : d.showable = true
  l : d.leavesShort 13 = true
  b : d.bulk ≤ 1048576
  d : d.depth ≤ 50
theorem Fits.len {d : PyData} (h : Fits d) : d.shown.length ≤ sizeLine := PyData.shown_fits_bulk (by decide) (by decide) h.l h.b
def rRepr : List V → Hp → VK → Prop := fun xs H Q => ∃ (a : Addr) (d : PyData) (S : Prop), xs = [.ref a] ∧ Shw S H (.ref a) d ∧ (S → d.hasDict = false) ∧ Fits d ∧ Q (.str d.shown) H
theorem cr_repr {X : Cx} (hg : X.A.guards = some []) (hu : X.A.units + 1 < cLine - 100) : CallR X (.builtin "repr") rRepr := by
  intro pins s σ H xs us Q I r h
  obtain ⟨a, d, S, rfl, sh, nD, ft, q⟩ := h
  obtain ⟨u, rfl, rx⟩ := vals1 r
  obtain rfl : u = Value.ref a := rx
  obtain ⟨as, h1, h2⟩ := sh.rds I.hok (.ref a) rfl
  exact PySem.repr_of_reads' h1 ft.s (fun hd => h2 fun z => by rw [nD z] at hd; cases hd) hg (by have := ft.d; omega) (fun b o e => e) (fun h' u tk hk => ⟨.str d.shown, H, I.kept hk, ⟨u, rfl⟩, q⟩) ft.len
theorem int_fits {i : Int} (h : i.natAbs < 1000000000000) : (PyData.int i).showable = true ∧ (PyData.int i).leavesShort 13 = true := by
  constructor
  · unfold PyData.showable
    refine decide_eq_true (Nat.lt_of_le_of_lt (show _ ≤ 40 from ?_) (by decide))
    by_cases z : i.natAbs = 0
    · rw [z]; decide
    · exact Nat.le_of_lt_succ ((Nat.log2_lt z).mpr (Nat.lt_of_lt_of_le h (by decide)))
  · unfold PyData.leavesShort
    refine decide_eq_true ?_
    have := int_text_length_le10 (a := i) (k := 12) (by decide) h
    show (Str.ofString (toString i)).length ≤ 13
    rw [PySem.ofString_length]
    exact this
/-- a dict of ints -/
def ckD (E : List Int) (f : Int → Int) : List (Key × PyData) := E.map fun e => ((Sum.inl e : Key), PyData.int (f e))
theorem ck_shw {S : Prop} {H : Hp} {a : Addr} {E : List Int} {f : Int → Int} (h : H a = some (.dK (ck E f))) : Shw S H (.ref a) (.dict ((ckD E f).map fun kv => (keyD kv.1, kv.2))) := by
  refine .dct h (by unfold ck ckD; rw [List.map_map, List.map_map]; rfl) fun i x d hx hd => ?_
  unfold ck at hx
  unfold ckD at hd
  rw [List.getElem?_map] at hx hd
  cases e : E[i]? with
  | none => rw [e] at hx; cases hx
  | some y =>
    rw [e] at hx hd
    cases hx
    cases hd
    exact .int _
theorem ck_kv (f : Int → Int) : ∀ E : List Int, (∀ e ∈ E, e.natAbs < 1000000000000 ∧ (f e).natAbs < 1000000000000) → PyData.showableKv ((ckD E f).map fun kv => (keyD kv.1, kv.2)) = true ∧ PyData.leavesShortKv 13 ((ckD E f).map fun kv => (keyD kv.1, kv.2)) = true ∧
    PyData.bulkKv ((ckD E f).map fun kv => (keyD kv.1, kv.2)) = 2 * E.length ∧ PyData.depthKv ((ckD E f).map fun kv => (keyD kv.1, kv.2)) = 0
  | [], _ => ⟨rfl, rfl, rfl, rfl⟩
  | e :: E, h => by
    obtain ⟨h1, h2, h3, h4⟩ := ck_kv f E fun x hx => h x (List.mem_cons_of_mem _ hx)
    obtain ⟨q1, q2⟩ := h e List.mem_cons_self
    obtain ⟨a1, a2⟩ := int_fits q1
    obtain ⟨b1, b2⟩ := int_fits q2
    have ec : ((ckD (e :: E) f).map fun kv => (keyD kv.1, kv.2)) = (PyData.int e, PyData.int (f e)) :: ((ckD E f).map fun kv => (keyD kv.1, kv.2)) := rfl
    rw [ec]
    unfold PyData.showableKv PyData.leavesShortKv PyData.bulkKv PyData.depthKv
    refine ⟨by rw [a1, b1, h1]; rfl, by rw [a2, b2, h2]; rfl, ?_, ?_⟩
    · rw [h3]
      show 0 + 0 + 2 + 2 * E.length = 2 * (E.length + 1)
      omega
    · rw [h4]; rfl
theorem ck_fits {E : List Int} {f : Int → Int} (hE : E.length ≤ 1000) (h : ∀ e ∈ E, e.natAbs < 1000000000000 ∧ (f e).natAbs < 1000000000000) : Fits (.dict ((ckD E f).map fun kv => (keyD kv.1, kv.2))) := by
  obtain ⟨h1, h2, h3, h4⟩ := ck_kv f E h
  refine ⟨by unfold PyData.showable; exact h1, by unfold PyData.leavesShort; exact h2, by unfold PyData.bulk; omega, by unfold PyData.depth; omega⟩

/-! ### repr of a written list of tracked data -/
def ElemAt (h : Heap) (u : Value) (d : PyData) : Prop := ∃ as : List Addr, Reads h u d as ∧ (d.hasDict = true → sysModules ∉ as)
theorem elems_k {P : Program} {w : World} {h : Heap} : ∀ {us : List Value} {ds : List PyData}, us.length = ds.length → (∀ (i : Nat) (u : Value) (d : PyData), us[i]? = some u → ds[i]? = some d → ElemAt h u d) → PyData.showableAll ds = true → (∀ t ∈ PyData.shownAll ds, t.length ≤ sizeLine) →
    (∃ as, ReadsAll h us ds as) ∧ ∃ bs, ReadAtMost h (PyData.depthAll ds) bs ∧ ReprAllK P w bs h (PyData.depthAll ds) us (PyData.shownAll ds)
  | [], [], _, _, _, _ => ⟨⟨[], .nil⟩, [], fun b m => absurd m List.not_mem_nil, by unfold PyData.shownAll; exact .nil⟩
  | u :: us, d :: ds, hl, f, hs, hz => by
    unfold PyData.showableAll at hs
    obtain ⟨s1, s2⟩ := Bool.and_eq_true_iff.mp hs
    unfold PyData.shownAll at hz
    obtain ⟨as, r, n⟩ := f 0 u d rfl rfl
    obtain ⟨b1, m1, k1⟩ := ReprK.of_reads (prog := P) (w := w) r s1 n (hz _ List.mem_cons_self)
    obtain ⟨⟨as2, r2⟩, b2, m2, k2⟩ := elems_k (P := P) (w := w) (Nat.succ.inj hl) (fun i x e p q => f (i + 1) x e p q) s2 fun t ht => hz t (List.mem_cons_of_mem _ ht)
    refine ⟨⟨as ++ as2, .cons r r2⟩, b1 ++ b2, fun b m => ?_, ?_⟩
    · unfold PyData.depthAll
      rcases List.mem_append.mp m with q | q
      · obtain ⟨x, y, z, l⟩ := m1 b q
        exact ⟨x, y, z, by omega⟩
      · obtain ⟨x, y, z, l⟩ := m2 b q
        exact ⟨x, y, z, by omega⟩
    · unfold PyData.depthAll PyData.shownAll
      exact .cons ((k1.more fun b m => List.mem_append_left b2 m).level_le (by omega)) (k2.more_le (fun b m => List.mem_append_right b1 m) (by omega))
def rReprL : List V → Hp → VK → Prop := fun xs H Q => ∃ (a : Addr) (vs : List V) (ds : List PyData), xs = [.ref a] ∧ H a = some (.lst vs) ∧ vs ≠ [] ∧ vs.length = ds.length ∧
  (∀ (i : Nat) (x : V) (d : PyData), vs[i]? = some x → ds[i]? = some d → ∃ S : Prop, Shw S H x d ∧ (S → d.hasDict = false)) ∧ Fits (.list ds) ∧ Q (.str (PyData.list ds).shown) H
theorem cr_reprL {X : Cx} (hg : X.A.guards = some []) (hu : X.A.units + 1 < cLine - 100) : CallR X (.builtin "repr") rReprL := by
  intro pins s σ H xs us Q I r h
  obtain ⟨a, vs, ds, rfl, e, ne, hl, f, ft, q⟩ := h
  obtain ⟨u, rfl, rx⟩ := vals1 r
  obtain rfl : u = Value.ref a := rx
  obtain ⟨_, its, n, rv, g⟩ := (show ObjOk X.prog X.w H s.heap a (.lst vs) from I.hok a _ e)
  have li : its.length = vs.length := rv.length.symm
  have hz := ft.len
  have hs := ft.s
  unfold PyData.showable at hs
  unfold PyData.shown at hz
  obtain ⟨⟨as, ra⟩, bs, mb, kb⟩ := elems_k (P := X.prog) (w := X.w) (h := s.heap) (us := its) (ds := ds) (by omega) (fun i u d p2 q2 => by
    have hi : i < vs.length := by have := (List.getElem?_eq_some_iff.mp p2).1; omega
    have p1 : vs[i]? = some vs[i] := List.getElem?_eq_getElem hi
    obtain ⟨S, sh, nD⟩ := f i _ d p1 q2
    obtain ⟨w', hw, rw'⟩ := rv.get p1
    rw [p2] at hw
    cases hw
    obtain ⟨as, h1, h2⟩ := sh.rds I.hok _ rw'
    exact ⟨as, h1, fun hd => h2 fun z => by rw [nD z] at hd; cases hd⟩) hs fun t ht => Nat.le_trans (listText_mem_le ht) hz
  have rl : Reads s.heap (.ref a) (.list ds) (a :: as) := .list g rfl rfl (by simpa using ra)
  have dp : (PyData.list ds).depth = PyData.depthAll ds + 1 := by conv => lhs; unfold PyData.depth
  have nm : a ∉ bs := not_mem_of_deeper rl (by rw [dp]; omega) mb
  have hdp := ft.d
  rw [dp] at hdp
  cases its with
  | nil =>
    exact absurd (List.length_eq_zero_iff.mp li.symm) ne
  | cons y l =>
    refine PySem.call_repr_slot (T := "list") (idr := "list.__repr__") (by omega) ⟨_, g, rfl⟩ F.slot_list_repr.toG ?_
    refine call_list_reprK g rfl rfl nm (by simpa using kb.length_eq) (fun i y' e' => kb.item i y' (by simpa using e')) hg (fun b _ => Clear.nil b) (by show X.A.units + 1 + _ < cLine; omega) (fun b o e' => e') (fun h' u tk hk => ⟨_, _, rfl, .str (PyData.list ds).shown, H, I.kept hk, ⟨u, by unfold PyData.shown; rfl⟩, q⟩) hz
theorem ints_shw {S : Prop} {H : Hp} {a : Addr} {L : List Int} (hS : S) (h : H a = some (.lst (L.map V.int))) : Shw S H (.ref a) (.list (L.map PyData.int)) := by
  refine .lst (.inl hS) h (by rw [List.length_map, List.length_map]) fun i x d hx hd => ?_
  rw [List.getElem?_map] at hx hd
  cases e : L[i]? with
  | none => rw [e] at hx; cases hx
  | some y =>
    rw [e] at hx hd
    cases hx
    cases hd
    exact .int _
theorem ints_all : ∀ L : List Int, (∀ e ∈ L, e.natAbs < 1000000000000) → PyData.showableAll (L.map PyData.int) = true ∧ PyData.leavesShortAll 13 (L.map PyData.int) = true ∧ PyData.bulkAll (L.map PyData.int) = L.length ∧ PyData.depthAll (L.map PyData.int) = 0 ∧ PyData.hasDictAll (L.map PyData.int) = false
  | [], _ => ⟨rfl, rfl, rfl, rfl, rfl⟩
  | e :: L, h => by
    obtain ⟨h1, h2, h3, h4, h5⟩ := ints_all L fun x hx => h x (List.mem_cons_of_mem _ hx)
    obtain ⟨a1, a2⟩ := int_fits (h e List.mem_cons_self)
    rw [List.map_cons]
    unfold PyData.showableAll PyData.leavesShortAll PyData.bulkAll PyData.depthAll PyData.hasDictAll
    refine ⟨by rw [a1, h1]; rfl, by rw [a2, h2]; rfl, ?_, by rw [h4]; rfl, by rw [h5]; rfl⟩
    rw [h3, List.length_cons]
    show 0 + 1 + L.length = L.length + 1
    omega
theorem ints_no {L : List Int} (h : ∀ e ∈ L, e.natAbs < 1000000000000) : (PyData.list (L.map PyData.int)).hasDict = false := by
  unfold PyData.hasDict
  exact (ints_all L h).2.2.2.2
/-- what stands together fits, if each does -/
theorem fits_list {ds : List PyData} (hn : ds.length ≤ 10) (h : ∀ d ∈ ds, Fits d ∧ d.bulk ≤ 50000 ∧ d.depth ≤ 40) : Fits (.list ds) := by
  have q : ∀ ds : List PyData, (∀ d ∈ ds, Fits d ∧ d.bulk ≤ 50000 ∧ d.depth ≤ 40) → PyData.showableAll ds = true ∧ PyData.leavesShortAll 13 ds = true ∧ PyData.bulkAll ds ≤ 50001 * ds.length ∧ PyData.depthAll ds ≤ 40 := by
    intro ds
    induction ds with
    | nil => exact fun _ => ⟨rfl, rfl, Nat.zero_le _, Nat.zero_le _⟩
    | cons d r ih =>
      intro h
      obtain ⟨h1, h2, h3, h4⟩ := ih fun x hx => h x (List.mem_cons_of_mem _ hx)
      obtain ⟨f, b, e⟩ := h d List.mem_cons_self
      unfold PyData.showableAll PyData.leavesShortAll PyData.bulkAll PyData.depthAll
      refine ⟨by rw [f.s, h1]; rfl, by rw [f.l, h2]; rfl, ?_, by omega⟩
      rw [List.length_cons]
      omega
  obtain ⟨h1, h2, h3, h4⟩ := q ds h
  refine ⟨by unfold PyData.showable; exact h1, by unfold PyData.leavesShort; exact h2, ?_, by unfold PyData.depth; omega⟩
  unfold PyData.bulk
  omega
theorem ints_fits {L : List Int} (hL : L.length ≤ 1000) (h : ∀ e ∈ L, e.natAbs < 1000000000000) : Fits (.list (L.map PyData.int)) ∧ (PyData.list (L.map PyData.int)).bulk ≤ 50000 ∧ (PyData.list (L.map PyData.int)).depth ≤ 40 := by
  obtain ⟨h1, h2, h3, h4, _⟩ := ints_all L h
  refine ⟨⟨by unfold PyData.showable; exact h1, by unfold PyData.leavesShort; exact h2, by unfold PyData.bulk; omega, by unfold PyData.depth; omega⟩, by unfold PyData.bulk; omega, by unfold PyData.depth; omega⟩

/-! ### rows as data -/
def orD (p : (Int × Int) × (Int × List Int)) : PyData := .tuple [.tuple [.int p.1.1, .int p.1.2], .int p.2.1, .list (p.2.2.map .int)]
theorem orows_all {H : Hp} : ∀ {as : List Addr} {L : List ((Int × Int) × (Int × List Int))}, as.length = L.length → (∀ (i : Nat) (a : Addr) (p : (Int × Int) × (Int × List Int)), as[i]? = some a → L[i]? = some p → ∃ x l : Addr, H a = some (.tup [.ref x, .int p.2.1, .ref l]) ∧ H x = some (.tup [.int p.1.1, .int p.1.2]) ∧ H l = some (.lst (p.2.2.map V.int))) → HasAll H (as.map V.ref) (L.map orD)
  | [], [], _, _ => .nil
  | [], _ :: _, h, _ => by cases h
  | _ :: _, [], h, _ => by cases h
  | a :: as, p :: L, hl, f => by
    obtain ⟨x, l, h1, h2, h3⟩ := f 0 a p rfl rfl
    exact .cons (.tup h1 (.cons (.tup h2 (.cons (.int _) (.cons (.int _) .nil))) (.cons (.int _) (.cons (.lst h3 (has_ints _)) .nil)))) (orows_all (Nat.succ.inj hl) fun i a' p' x y => f (i + 1) a' p' x y)
theorem ORows.has {H : Hp} {r : Addr} {L : List ((Int × Int) × (Int × List Int))} (h : ORows H r L) : Has H (.ref r) (.list (L.map orD)) := by
  obtain ⟨as, h1, h2, h3⟩ := h
  exact .lst h1 (orows_all h2 fun i a p x y => let ⟨w, l, a1, a2, a3, _⟩ := h3 i a p x y; ⟨w, l, a1, a2, a3⟩)
theorem ints_fit (n : Nat) : ∀ T : List Int, fitsAll n (T.map PyData.int)
  | [] => trivial
  | _ :: T => ⟨trivial, ints_fit n T⟩
/-- handed rows as data -/
def hdD (q : (Int × Int) × Nat) : PyData := .tuple [.tuple [.int q.1.1, .int q.1.2], .int q.2]
theorem hrows_shw {S : Prop} {H : Hp} {r : Addr} {L : List ((Int × Int) × Nat)} (hS : S) (h : HRows H r L) : Shw S H (.ref r) (.list (L.map hdD)) := by
  obtain ⟨as, h1, h2, h3⟩ := h
  refine .lst (.inl hS) h1 (by rw [List.length_map, List.length_map, h2]) fun i x d hx hd => ?_
  rw [List.getElem?_map] at hx hd
  cases ea : as[i]? with
  | none => rw [ea] at hx; cases hx
  | some a =>
    cases eq : L[i]? with
    | none => rw [eq] at hd; cases hd
    | some q =>
      rw [ea] at hx
      rw [eq] at hd
      cases hx
      cases hd
      obtain ⟨w, a1, a2⟩ := h3 i a q ea eq
      refine .tup a1 rfl fun j y e hy he => ?_
      match j, hy, he with
      | 0, hy, he =>
        cases hy
        cases he
        refine .tup a2 rfl fun j y e hy he => ?_
        match j, hy, he with
        | 0, hy, he => cases hy; cases he; exact .int _
        | 1, hy, he => cases hy; cases he; exact .int _
      | 1, hy, he => cases hy; cases he; exact .int _
theorem tup_shw {S : Prop} {H : Hp} {a : Addr} {L : List Int} (h : H a = some (.tup (L.map V.int))) : Shw S H (.ref a) (.tuple (L.map PyData.int)) := by
  refine .tup h (by rw [List.length_map, List.length_map]) fun i x d hx hd => ?_
  rw [List.getElem?_map] at hx hd
  cases e : L[i]? with
  | none => rw [e] at hx; cases hx
  | some y =>
    rw [e] at hx hd
    cases hx
    cases hd
    exact .int _
theorem tup_fits {L : List Int} (hL : L.length ≤ 1000) (h : ∀ e ∈ L, e.natAbs < 1000000000000) : (Fits (.tuple (L.map PyData.int)) ∧ (PyData.tuple (L.map PyData.int)).bulk ≤ 50000 ∧ (PyData.tuple (L.map PyData.int)).depth ≤ 40) ∧ (PyData.tuple (L.map PyData.int)).hasDict = false := by
  obtain ⟨h1, h2, h3, h4, h5⟩ := ints_all L h
  refine ⟨⟨⟨by unfold PyData.showable; exact h1, by unfold PyData.leavesShort; exact h2, by unfold PyData.bulk; omega, by unfold PyData.depth; omega⟩, by unfold PyData.bulk; omega, by unfold PyData.depth; omega⟩, by unfold PyData.hasDict; exact h5⟩
theorem hds_all : ∀ L : List ((Int × Int) × Nat), (∀ q ∈ L, q.1.1.natAbs < 1000000000000 ∧ q.1.2.natAbs < 1000000000000 ∧ q.2 < 1000000000000) → PyData.showableAll (L.map hdD) = true ∧ PyData.leavesShortAll 13 (L.map hdD) = true ∧ PyData.bulkAll (L.map hdD) ≤ 100 * L.length ∧ PyData.depthAll (L.map hdD) ≤ 2 ∧ PyData.hasDictAll (L.map hdD) = false
  | [], _ => ⟨rfl, rfl, Nat.le_refl _, Nat.zero_le _, rfl⟩
  | q :: L, h => by
    obtain ⟨h1, h2, h3, h4, h5⟩ := hds_all L fun x hx => h x (List.mem_cons_of_mem _ hx)
    obtain ⟨g1, g2, g3⟩ := h q List.mem_cons_self
    obtain ⟨a1, a2, a3, a4, a5⟩ := ints_all [q.1.1, q.1.2] fun e he => by
      rcases List.mem_cons.mp he with rfl | he
      · exact g1
      · rw [List.mem_singleton.mp he]; exact g2
    obtain ⟨b1, b2⟩ := int_fits (i := (q.2 : Int)) (by omega)
    have c1 : (hdD q).showable = true := by
      unfold hdD PyData.showable PyData.showableAll PyData.showableAll PyData.showableAll
      rw [b1]
      have : (PyData.tuple [.int q.1.1, .int q.1.2]).showable = true := by unfold PyData.showable; exact a1
      rw [this]
      rfl
    have c2 : (hdD q).leavesShort 13 = true := by
      unfold hdD PyData.leavesShort PyData.leavesShortAll PyData.leavesShortAll PyData.leavesShortAll
      rw [b2]
      have : (PyData.tuple [.int q.1.1, .int q.1.2]).leavesShort 13 = true := by unfold PyData.leavesShort; exact a2
      rw [this]
      rfl
    have c3 : (hdD q).bulk ≤ 50 := by
      unfold hdD
      simp [PyData.bulk, PyData.bulkAll]
    have c4 : (hdD q).depth = 2 := by
      unfold hdD
      simp [PyData.depth, PyData.depthAll]
    have c5 : (hdD q).hasDict = false := by
      unfold hdD
      simp [PyData.hasDict, PyData.hasDictAll]
    rw [List.map_cons]
    unfold PyData.showableAll PyData.leavesShortAll PyData.bulkAll PyData.depthAll PyData.hasDictAll
    refine ⟨by rw [c1, h1]; rfl, by rw [c2, h2]; rfl, ?_, by rw [c4]; omega, by rw [c5, h5]; rfl⟩
    rw [List.length_cons]
    omega
theorem flat_pair {α β γ : Type} {f : α → List γ} {g : β → List γ} : ∀ {l : List α} {m : List β}, l.length = m.length → (∀ (i : Nat) (a : α) (b : β), l[i]? = some a → m[i]? = some b → f a = g b) → l.flatMap f = m.flatMap g
  | [], [], _, _ => rfl
  | [], _ :: _, h, _ => by cases h
  | _ :: _, [], h, _ => by cases h
  | a :: l, b :: m, h, k => by
    rw [List.flatMap_cons, List.flatMap_cons, k 0 a b rfl rfl, flat_pair (Nat.succ.inj h) fun i a' b' x y => k (i + 1) a' b' x y]
theorem flat_if {α β : Type} (p : α → Bool) (f : α → List β) : ∀ l : List α, (l.filter p).flatMap f = l.flatMap fun x => if p x = true then f x else []
  | [] => rfl
  | x :: l => by
    rw [List.flatMap_cons, List.filter_cons, ← flat_if p f l]
    by_cases c : p x = true
    · rw [if_pos c, if_pos c, List.flatMap_cons]
    · rw [if_neg c, if_neg c, List.nil_append]

/-! ### the end: the law's def is run where no repr is under way -/
/-- the law's body, run on the script, answers True -/
def LawAt (P : Program) (w : World) (K : PySem.W.Frag) (mg : Str → Option Value) (base : Heap) (most : Nat) (N : List Str) (st : Stmt) (f : Addr) : Prop :=
  ∀ (cdv : Value) (s : Shared) (H : Hp) (a : Addr) (ns : List Int), ns.length ≤ most → SqL K H a (ns.map V.int) →
    ∃ t, PSs (cxOf CX0 P w K mg base N "law" (defScope st) f cdv callerA [] s H E0).nox (defBody st) t ∧ t { nx := fun _ _ => False, rt := fun v _ => v = V.bl true } (start N [V.ref a]) H
section
variable {P : Program} {w : World} {K : PySem.W.Frag} {mg : Str → Option Value} {base : Heap}
theorem LawAt.run {most : Nat} {N : List Str} {st : Stmt} {f a : Addr} {fd : FuncData} {s : Shared} {H : Hp} {ns : List Int} (L : LawAt P w K mg base most N st f) (D : Fun K "law" "law" st f fd) (S : FnScope N ["script"] (defScope st))
    (e0 : Env0 P w K mg base callerA [] s H) (hb : ∀ (s : Shared) (u : Value), BindsTo s fd ⟨[u], []⟩ [("script", u)]) (hl : ns.length ≤ most) (hS : SqL K H a (ns.map V.int)) :
    codeAny (model P w) callerA (.call (.ref f) ⟨[.ref a], []⟩) (CR CX0 [] P w H s (fun v _ => v = V.bl true) E0) s := by
  obtain ⟨oc, od, kV, doc, pm, an, cdv, ct, osl, rfl, at_f, rec_f⟩ := D.ex
  have inK : K.In s.heap := e0.mod.kin.keeps fun b o z => (e0.bs b o z).1
  have noL : s.heap.NoLimit := e0.mod.nolimit.keeps fun b o z => (e0.bs b o z).1
  have kinds : ∀ y ∈ ([("script", Value.ref a)] : List (Str × Value)), (defScope st).names.lookup y.1 = some .local ∨ ((defScope st).names.lookup y.1 = some .cell ∧ ((cellsFrom (s.heap.objs.size + 1) (defScope st).names []).lookup y.1).isSome = true) := by
    rintro ⟨x, v⟩ hy
    rcases S.par x (by rw [(Prod.mk.inj (List.mem_singleton.mp hy)).1]; exact List.mem_cons_self) with c | c
    · exact Or.inl c
    · exact Or.inr ⟨c, PySem.W.cellsFrom_some _ _ _ (Or.inl c)⟩
  refine codeAny_call_function (show (callerA).depth < recursionLimit by decide) (inK _ _ at_f) rfl S.co S.gen rfl (PySem.W.codeRec_of inK rec_f) (hb s (.ref a) _ _ _ _ ?_)
  refine wpAny_newFunctionEnv_cells S.kind kinds fun env hE s1 x => ?_
  subst hE
  refine ⟨noL.keeps x.toInCall.keep, codeAny_func ?_⟩
  obtain ⟨t, ht, q⟩ := L cdv s H a ns hl hS
  have J : Inv (cxOf CX0 P w K mg base N "law" (defScope st) f cdv callerA [] s H E0) [] (start N [V.ref a]) H s1 := inv_start S rfl e0 rfl (show Vals [V.ref a] [Value.ref a] from .cons rfl .nil) x
  refine wpAny_mono (ht.nox.run [] s1 _ H _ J q) (fun fl s2 z => ?_) fun e s2 z => z
  cases fl with
  | ret u =>
    obtain ⟨v, τ, H2, J2, rv, q2⟩ := z
    exact ⟨v, H2, J2.os, J2.bare, J2.base, J2.hok, rv, q2⟩
  | next => obtain ⟨_, _, _, no⟩ := z; exact no.elim
  | brk => obtain ⟨_, _, _, no⟩ := z; exact no.elim
  | cont => obtain ⟨_, _, _, no⟩ := z; exact no.elim
/-- the script, where it is no object of the module -/
def scr (K : PySem.W.Frag) (a : Addr) (vs : List Value) (ns : List Int) : Hp := fun b => if b = a ∧ (K.lookup a).isNone = true then some (.frz { cls := .type "list", data := .seq vs.toArray } (.lst (ns.map V.int))) else none
theorem scr_some {a b : Addr} {vs : List Value} {ns : List Int} {o : HO} (h : scr K a vs ns b = some o) : b = a ∧ K.lookup a = none ∧ o = .frz { cls := .type "list", data := .seq vs.toArray } (.lst (ns.map V.int)) := by
  unfold scr at h
  split at h
  · rename_i c
    exact ⟨c.1, Option.isNone_iff_eq_none.mp c.2, (Option.some.inj h).symm⟩
  · cases h
end
theorem walk_at {l : PySem.W.OpenLaw} {n : Nat} {q : Program} {loose : List Str} {XP : (Str → Option Value) → Heap → Prop} {YP : World → Heap → Prop} {d : DefRec} {K : Params → PySem.W.Frag} {N : List Str} {st : Stmt}
    (hn : l.most = some n) (hn2 : n ≤ sizeLine) (hdf : d.params.defaults = []) (S : FnScope N ["script"] (defScope st)) (hY : ∀ (w : World) (h : Heap), YP w h → (K w.params).In h)
    (F : ∀ (w : World) (mg : Str → Option Value) (fa : Addr) (h : Heap), (K w.params).In h → h.Ns mainGlobals mg → mg d.name = some (.ref fa) →
      ∃ fd : FuncData, Fun (K w.params) "law" "law" st fa fd ∧ (∀ (s : Shared) (u : Value), BindsTo s fd ⟨[u], []⟩ [("script", u)]) ∧ ∀ base : Heap, (K w.params).In base → base.Ns mainGlobals mg → LawAt l.prog w (K w.params) mg base n N st fa) :
    PySem.W.WalkO q loose XP YP l.row.toRowW d [] (fun f vs => PySem.call f vs) := by
  refine Att.attach_call hn hdf fun w s₀ s mg mb fa o pm cd doc a vs ns G Y ho hod hcd hmg ha hi hlen hgens => ?_
  have inK := hY w _ Y
  obtain ⟨fd, D, hb, hL⟩ := F w mg fa _ inK G.T.g hmg
  have rv := vals_ints hi
  have ok : HOk l.prog w (scr (K w.params) a vs ns) s.heap := fun b u z => by
    obtain ⟨rfl, _, rfl⟩ := scr_some z
    exact ⟨ha, by rw [List.length_map]; exact Nat.le_trans hlen hn2, vs, _, rv, ha⟩
  have hide : ∀ {b : Addr} {u : Obj}, s.heap.get? b = some u → (∀ z, scr (K w.params) a vs ns b = some z → False) → (hidT s.heap (scr (K w.params) a vs ns)).get? b = some u := fun {b u} e no => hidT_get e (by
    cases z : scr (K w.params) a vs ns b with
    | none => rfl
    | some v => exact (no v z).elim)
  have names : ∀ {b : Addr} {m : Str → Option Value}, s.heap.Ns b m → (hidT s.heap (scr (K w.params) a vs ns)).Ns b m := by
    rintro b m ⟨u, es, ep, e, dt, r⟩
    refine ⟨u, es, ep, hide e fun v z => ?_, dt, r⟩
    obtain ⟨rfl, _, _⟩ := scr_some z
    rw [ha] at e
    cases e
    have no : Data.seq vs.toArray _ = Data.dict es ep := dt
    cases no
  have inB : (K w.params).In (hidT s.heap (scr (K w.params) a vs ns)) := fun b u e => hide (inK b u e) fun v z => by
    obtain ⟨rfl, no, _⟩ := scr_some z
    rw [no] at e
    cases e
  have md : Mod (K w.params) mg (hidT s.heap (scr (K w.params) a vs ns)) := ⟨inB, names G.T.g, ⟨mb, names G.T.b, G.T.builtins⟩, by obtain ⟨mc, m1, m2⟩ := G.T.nolimit; exact ⟨mc, names m1, m2⟩⟩
  have sq : SqL (K w.params) (scr (K w.params) a vs ns) a (ns.map V.int) := by
    cases hk : (K w.params).lookup a with
    | some u =>
      have e := inK a u hk
      rw [ha] at e
      cases e
      exact Or.inr ⟨_, vs.toArray, _, hk, rfl, rfl, rfl, by rw [List.size_toArray, hi.length]; omega, by simpa using rv⟩
    | none => exact Or.inl (Or.inr ⟨_, if_pos ⟨rfl, by rw [hk]; rfl⟩⟩)
  have e0 : Env0 l.prog w (K w.params) mg (hidT s.heap (scr (K w.params) a vs ns)) callerA [] s (scr (K w.params) a vs ns) :=
    ⟨rfl, md, fun b u z => of_hidT z, Nat.le_of_eq (hidT_size _ _), trivial, fun b z => absurd (show b ∈ ([] : List Addr) from z) List.not_mem_nil, ok, AllBare.of_eq hgens⟩
  refine codeAny_mono ((hL _ inB (names G.T.g)).run D S e0 hb hlen sq) fun r s2 z => ?_
  cases r with
  | error e => exact False.elim z
  | ok fl =>
    cases fl with
    | next => exact False.elim z
    | brk => exact False.elim z
    | cont => exact False.elim z
    | ret u =>
      obtain ⟨v, H2, os2, bare2, un, ok2, ru, isT⟩ := z
      have isT : v = V.bl true := isT
      subst isT
      obtain rfl : u = Value.bool true := ru
      refine ⟨rfl, OldK.of_keep fun b u e => ?_, os2, bare2⟩
      cases hz : scr (K w.params) a vs ns b with
      | none => exact un.keep b u e hz (fun m => absurd (show b ∈ ([] : List Addr) from m) List.not_mem_nil) List.not_mem_nil
      | some v =>
        obtain ⟨rfl, _, rfl⟩ := scr_some hz
        obtain ⟨e2, _⟩ := ok2 _ _ (un.frzs _ _ _ hz)
        rw [ha] at e
        cases e
        exact e2

/-! ### the law -/
structure TAll (mg : Str → Option Value) (K : PySem.W.Frag) (C fI DE SE : Addr) (fdI : FuncData) : Prop where
  n_repr : mg "repr" = none
  n_len : mg "len" = none
  n_max : mg "max" = none
  n_tuple : mg "tuple" = none
  n_range : mg "range" = none
  n_isinstance : mg "isinstance" = none
  g_TooManyQuestions : ∃ w, mg "TooManyQuestions" = some w ∧ RelV (.ref DE) w
  g_SourceError : ∃ w, mg "SourceError" = some w ∧ RelV (.ref SE) w
  g_Diagrams : mg "Diagrams" = some (.ref C)
  M_Diagrams : Mk K C fI
  b_Diagrams_init : Binds K fdI ["self"] []
/-- one of the last k of them -/
def gK (hs : List ((Int → Bool) → Bool)) (k : Nat) : (Int → Bool) → Bool := fun f => (hs.drop (hs.length - k)).any fun h => h f
theorem gK_zero (hs : List ((Int → Bool) → Bool)) : gK hs 0 = fun _ => false := by
  funext f
  unfold gK
  rw [Nat.sub_zero, List.drop_length]
  rfl
theorem gK_succ {hs : List ((Int → Bool) → Bool)} {i : Nat} {h : (Int → Bool) → Bool} (hc : hs[hs.length - 1 - i]? = some h) (hi : i < hs.length) (f : Int → Bool) : gK hs (i + 1) f = (gK hs i f || h f) := by
  unfold gK
  have hj : hs.length - (i + 1) < hs.length := by omega
  have e1 : hs.drop (hs.length - (i + 1)) = h :: hs.drop (hs.length - i) := by
    rw [List.drop_eq_getElem_cons hj]
    have e2 : hs[hs.length - (i + 1)] = h := by
      have := (List.getElem?_eq_some_iff.mp hc).2
      rw [← this]
      congr 1
      omega
    rw [e2, show hs.length - (i + 1) + 1 = hs.length - i by omega]
  rw [e1, List.any_cons, Bool.or_comm]
theorem gK_only {E : List Int} {hs : List ((Int → Bool) → Bool)} (o : ∀ h ∈ hs, Only E h) (k : Nat) : Only E (gK hs k) := fun f f' q => by
  unfold gK
  have : ∀ l : List ((Int → Bool) → Bool), (∀ h ∈ l, Only E h) → (l.any fun h => h f) = l.any fun h => h f' := fun l => by
    induction l with
    | nil => exact fun _ => rfl
    | cons h l ih => exact fun z => by rw [List.any_cons, List.any_cons, z h List.mem_cons_self f f' q, ih fun x hx => z x (List.mem_cons_of_mem _ hx)]
  exact this _ fun h hh => o h (List.mem_of_mem_drop hh)
theorem orK_gK (ns : List Node) (cs : List Nat) (k : Nat) : orK ns cs k = gK (cs.map fun c f => ev ns f c) k := by
  funext f
  unfold orK gK
  rw [List.length_map, ← List.map_drop, List.any_map]
  rfl
theorem Tr.only {E : List Int} : ∀ {t : Tr}, t.In E → Only E t.ev
  | .con _, _, _, _, _ => rfl
  | .there e, h, f, f', q => q e h
  | .not t, h, f, f', q => by
    show (!t.ev f) = !t.ev f'
    rw [Tr.only (t := t) h f f' q]
  | .bin fm x y, h, f, f', q => by
    show fm.op (x.ev f) (y.ev f) = fm.op (x.ev f') (y.ev f')
    rw [Tr.only (t := x) h.1 f f' q, Tr.only (t := y) h.2 f f' q]
theorem filt_pair {α β γ δ : Type} {F : α × β → γ} {G : α × δ → γ} (b : α → Bool) : ∀ {L : List (α × δ)} {M : List (α × β)}, M.length = L.length → (∀ (i : Nat) p q, L[i]? = some p → M[i]? = some q → q.1 = p.1 ∧ F q = G p) → (M.filter fun q => b q.1).map F = (L.filter fun p => b p.1).map G
  | [], [], _, _ => rfl
  | [], _ :: _, h, _ => by cases h
  | _ :: _, [], h, _ => by cases h
  | p :: L, q :: M, h, k => by
    obtain ⟨e1, e2⟩ := k 0 p q rfl rfl
    have ih := filt_pair b (Nat.succ.inj h) fun i p' q' x y => k (i + 1) p' q' x y
    rw [List.filter_cons, List.filter_cons, e1]
    by_cases c : b p.1 = true
    · rw [if_pos c, if_pos c, List.map_cons, List.map_cons, e2, ih]
    · rw [if_neg c, if_neg c, ih]
/-- a change as data -/
def chD (cs : Int → Int) : Option (List Int) → PyData
  | none => .none
  | some T => .tuple [.int (cst cs T), .list (T.map .int)]
theorem ChV.has {H : Hp} {cs : Int → Int} {v : V} : ∀ {r : Option (List Int)}, ChV H cs v r → Has H v (chD cs r)
  | none, h => by
    obtain rfl : v = .non := h
    exact .non
  | some T, h => by
    obtain ⟨t, l, rfl, a1, a2, _⟩ := h
    exact .tup a1 (.cons (.int _) (.cons (.lst a2 (has_ints _)) .nil))
theorem chD_fit {H : Hp} {cs : Int → Int} {v : V} : ∀ {r : Option (List Int)}, ChV H cs v r → fitsD 2 (chD cs r)
  | none, _ => trivial
  | some T, h => by
    obtain ⟨t, l, _, _, _, a3⟩ := h
    exact ⟨by show 2 ≤ 1000; decide, trivial, ⟨by rw [List.length_map]; omega, ints_fit _ _⟩, trivial⟩
theorem fmax_le : ∀ (r : List Int) (n : Int), n ≤ r.foldl max n ∧ ∀ k ∈ r, k ≤ r.foldl max n
  | [], n => ⟨Int.le_refl _, fun k h => by cases h⟩
  | k :: r, n => by
    obtain ⟨a, b⟩ := fmax_le r (max n k)
    rw [List.foldl_cons]
    refine ⟨by omega, fun j hj => ?_⟩
    rcases List.mem_cons.mp hj with rfl | hj
    · omega
    · exact b j hj
section
variable {P : Program} {w : World} {K : PySem.W.Frag} {mg : Str → Option Value} {base : Heap} {C DE LE SE : Addr}
theorem ok_law {f fI fC : Addr} {fdI fdC : FuncData} (T : TAll mg K C fI DE SE fdI) (ef : ErrT K mg "TooManyQuestions" DE LE SE) (nDS : DE ≠ SE) (G_Diagrams_init : FnOk P w K mg base CX0 1 fI fdI ["self"] (spDinit C))
    (c_Ldraw : Cal P w K mg base 1 "_law_draw" (spDraw K) []) (c_Lnext : Cal P w K mg base 1 "_law_next" spNext []) (c_Lentries : Cal P w K mg base 2 "_law_entries" spEntries []) (c_Lcandidates : Cal P w K mg base 37 "_law_candidates" (spCandidates C) []) (c_Lcosts : Cal P w K mg base 2 "_law_costs" spCosts [])
    (c_Lbuild : Cal P w K mg base 36 "_law_build" (spBuild C 36) []) (c_Lsubsets : Cal P w K mg base 1 "_law_subsets" (spSubsetsN K) []) (c_Ltruth : Cal P w K mg base 6 "_law_truth" spTruth []) (c_Ldiagrams : Cal P w K mg base 3 "_law_diagrams" spDiagrams []) (c_Lbest : Cal P w K mg base 3 "_law_best" spBest []) (c_Lsame : Cal P w K mg base 4 "_law_same" (spSame 4) [])
    (k_none_of : KCalN P w K mg base 33 "none_of" (spNone C DE) ["store", "candidates", "prefix", "present", "costs", "most_nodes"] 5 ["most_nodes"] fC fdC) :
    LawAt P w K mg base 63 ["script", "draw", "entries", "store", "trees", "present", "costs", "prefix", "chosen", "some", "sizes", "k", "more", "due", "handed", "most", "kept", "found", "e", "entry", "row", "tree", "part", "one", "j"] sD_law f := by
  intro cdv s0 H a ns hlen hS
  have hr : Room 39 (callerA.deeper (envOfC "law" (defScope sD_law) s0.heap.objs.size f cdv)) := (⟨rfl, by decide, by decide⟩ : Room 40 callerA).deeper _
  have hu := hu_of hr
  have hg : ∀ e : Env, (callerA.deeper e).guards = some [] := fun _ => rfl
  have hun : ∀ e : Env, (callerA.deeper e).units + 1 < cLine - 100 := fun _ => by show (callerA.units + 3) + 1 < cLine - 100; decide
  refine ⟨_, (pss_cons (ps_set (i := 1) sc_law.nd rfl (Or.inr rfl) (pe_c c_Ldraw hr (by omega) rfl (pa_cons (pv 0) pa_nil)))
    (pss_cons (ps_set (i := 2) sc_law.nd rfl (Or.inl rfl) (pe_c c_Lentries hr (by omega) rfl (pa_cons (pv 1) (pa_cons pe_int pa_nil))))
    (pss_cons (ps_set (i := 3) sc_law.nd rfl (Or.inr rfl) (pe_make0 T.M_Diagrams G_Diagrams_init (hr.mono (by omega)) rfl T.g_Diagrams T.b_Diagrams_init .nil pass0))
    (pss_cons (ps_set (i := 4) sc_law.nd rfl (Or.inl rfl) (pe_c c_Lcandidates hr (by omega) rfl (pa_cons (pv 1) (pa_cons (pv 3) (pa_cons (pv 2) pa_nil)))))
    (pss_cons (ps_setLc (i := 5) (own := [("entry", 19)]) (g := gName 19) rfl sc_law.nd rfl rfl (sw_true rfl rfl rfl (by decide +kernel)) (pi_list (pv 2)) (blkOk_by (own := [("entry", 19)]) (N := ["script", "draw", "entries", "store", "trees", "present", "costs", "prefix", "chosen", "some", "sizes", "k", "more", "due", "handed", "most", "kept", "found", "e", "entry", "row", "tree", "part", "one", "j"]) (sc := defScope sD_law) (by decide +kernel)) (fun _ _ _ _ _ => (pg_name (i := 19) sc_law.nd rfl (Or.inl rfl))) (fun _ _ _ _ _ => (pts_one (bt_truth (K := K) rfl (pe_c c_Lnext hr (by omega) rfl (pa_cons (pv 1) (pa_cons pe_int pa_nil))) (by intro _; rfl)))) (fun _ _ _ _ _ => (pv 19)))
    (pss_cons (ps_set (i := 6) sc_law.nd rfl (Or.inl rfl) (pe_c c_Lcosts hr (by omega) rfl (pa_cons (pv 1) (pa_cons (pv 2) pa_nil))))
    (pss_cut (ps_set (i := 7) sc_law.nd rfl (Or.inr rfl) (pe_slice sl_tupA (pe_tup (pa_cons (pe_c c_Lnext hr (by omega) rfl (pa_cons (pv 1) (pa_cons pe_int pa_nil))) (pa_cons (pe_c c_Lnext hr (by omega) rfl (pa_cons (pv 1) (pa_cons pe_int pa_nil))) pa_nil))) po_none (po_some (pe_c c_Lnext hr (by omega) rfl (pa_cons (pv 1) (pa_cons pe_int pa_nil))))))
    (pss_cons (ps_setLc (i := 8) (own := [("row", 20), ("tree", 21)]) rfl sc_law.nd rfl rfl (sw_true rfl rfl rfl (by decide +kernel)) (pi_list (pv 4)) (blkOk_by (own := [("row", 20), ("tree", 21)]) (N := ["script", "draw", "entries", "store", "trees", "present", "costs", "prefix", "chosen", "some", "sizes", "k", "more", "due", "handed", "most", "kept", "found", "e", "entry", "row", "tree", "part", "one", "j"]) (sc := defScope sD_law) (by decide +kernel)) (fun _ _ _ _ _ => (bx_ptup (K := K) (n := 2) rfl rfl (pgs_cons (pg_name (i := 20) sc_law.nd rfl (Or.inl rfl)) (pgs_cons (pg_name (i := 21) sc_law.nd rfl (Or.inl rfl)) pgs_nil)))) (fun _ _ _ _ _ => (pts_one (pt_cmpR (bx_eqD (K := K) rfl hr.units) (pe_slice (bx_slT (K := K) rfl) (pv 20) po_none (po_some (bx_len (K := K) rfl (by rfl) T.n_len (by decide +kernel) (pa_cons (pv 7) pa_nil)))) (pv 7) (nomark _)))) (fun _ _ _ _ _ => (pv 21)))
    (pss_cons (ps_set (i := 9) sc_law.nd rfl (Or.inr rfl) (pe_callTy call_tuple_of (by rfl) T.n_tuple (by decide +kernel) (pa_cons (pe_lc (own := [("part", 22)]) (g := gName 22) (tt := tYes) rfl sc_law.nd (pi_list (pe_c c_Lsubsets hr (by omega) rfl (pa_cons (pv 2) pa_nil))) (blkOk_by (own := [("part", 22)]) (N := ["script", "draw", "entries", "store", "trees", "present", "costs", "prefix", "chosen", "some", "sizes", "k", "more", "due", "handed", "most", "kept", "found", "e", "entry", "row", "tree", "part", "one", "j"]) (sc := defScope sD_law) (by decide +kernel)) (fun _ _ _ _ _ => (pg_name (i := 22) sc_law.nd rfl (Or.inl rfl))) (fun _ _ _ _ _ => pts_nil) (fun _ _ _ _ _ => pe_bl)) pa_nil)))
    (pss_cons (ps_set (i := 10) sc_law.nd rfl (Or.inl rfl) (pe_lst (pa_cons pe_int pa_nil)))
    (pss_cons (ps_for PassesOwn.never rfl (pi_range1 (by rfl) T.n_range (pa_cons (pe_callB call_len_seq (by rfl) T.n_len (by decide +kernel) (pa_cons (pv 8) pa_nil)) pa_nil)) (pg_name (i := 11) sc_law.nd rfl (Or.inl rfl)) (pss_cons (ps_set (i := 12) sc_law.nd rfl (Or.inr rfl) (pe_c c_Ltruth hr (by omega) rfl (pa_cons (pe_ix ix_list (pv 8) (pe_op op_sub (pe_op op_sub (pe_callB call_len_seq (by rfl) T.n_len (by decide +kernel) (pa_cons (pv 8) pa_nil)) pe_int) (pv 11)) (fun _ _ => rfl)) (pa_cons (pv 2) pa_nil))))
    (pss_cons (ps_set (i := 9) sc_law.nd rfl (Or.inr rfl) (pe_callTy call_tuple_of (by rfl) T.n_tuple (by decide +kernel) (pa_cons (pe_lc (own := [("j", 24)]) (g := gName 24) (tt := tYes) rfl sc_law.nd (pi_range1 (by rfl) T.n_range (pa_cons (pe_callB call_len_seq (by rfl) T.n_len (by decide +kernel) (pa_cons (pv 9) pa_nil)) pa_nil)) (blkOk_by (own := [("j", 24)]) (N := ["script", "draw", "entries", "store", "trees", "present", "costs", "prefix", "chosen", "some", "sizes", "k", "more", "due", "handed", "most", "kept", "found", "e", "entry", "row", "tree", "part", "one", "j"]) (sc := defScope sD_law) (by decide +kernel)) (fun _ _ _ _ _ => (pg_name (i := 24) sc_law.nd rfl (Or.inl rfl))) (fun _ _ _ _ _ => pts_nil) (fun _ _ _ _ _ => (pe_or (bx_tup (K := K) rfl (pv 9) (pv 24) (fun _ _ => rfl)) (pe_one (bx_tup (K := K) rfl (pv 12) (pv 24) (fun _ _ => rfl)))))) pa_nil)))
    (pss_one (ps_expr (pe_bm PySem.F.plainAttrs_list PySem.F.slot_list_append PySem.F.type_list_append mt_append (pv 10) (pa_cons (pe_callB call_len_seq (by rfl) T.n_len (by decide +kernel) (pa_cons (pe_c c_Ldiagrams hr (by omega) rfl (pa_cons (pe_lst (pa_cons (pv 9) pa_nil)) (pa_cons (pe_callB call_len_seq (by rfl) T.n_len (by decide +kernel) (pa_cons (pv 2) pa_nil)) pa_nil))) pa_nil)) pa_nil)))))))
    (pss_cons (ps_set (i := 13) sc_law.nd rfl (Or.inl rfl) (pe_c c_Lbest hr (by omega) rfl (pa_cons (pe_lc (own := [("one", 23)]) (g := gName 23) (tt := tYes) rfl sc_law.nd (pi_tup (pv 9)) (blkOk_by (own := [("one", 23)]) (N := ["script", "draw", "entries", "store", "trees", "present", "costs", "prefix", "chosen", "some", "sizes", "k", "more", "due", "handed", "most", "kept", "found", "e", "entry", "row", "tree", "part", "one", "j"]) (sc := defScope sD_law) (by decide +kernel)) (fun _ _ _ _ _ => (pg_name (i := 23) sc_law.nd rfl (Or.inl rfl))) (fun _ _ _ _ _ => pts_nil) (fun _ _ _ _ _ => (pe_not (pv 23)))) (pa_cons (pv 2) (pa_cons (pv 5) (pa_cons (pv 6) pa_nil))))))
    (pss_cons (ps_setLc (i := 14) (own := [("row", 20), ("tree", 21)]) (tt := tYes) rfl sc_law.nd rfl rfl (sw_true rfl rfl rfl (by decide +kernel)) (pi_list (pv 4)) (blkOk_by (own := [("row", 20), ("tree", 21)]) (N := ["script", "draw", "entries", "store", "trees", "present", "costs", "prefix", "chosen", "some", "sizes", "k", "more", "due", "handed", "most", "kept", "found", "e", "entry", "row", "tree", "part", "one", "j"]) (sc := defScope sD_law) (by decide +kernel)) (fun _ _ _ _ _ => (bx_ptup (K := K) (n := 2) rfl rfl (pgs_cons (pg_name (i := 20) sc_law.nd rfl (Or.inl rfl)) (pgs_cons (pg_name (i := 21) sc_law.nd rfl (Or.inl rfl)) pgs_nil)))) (fun _ _ _ _ _ => pts_nil) (fun _ _ _ _ _ => (pe_tup (pa_cons (pv 20) (pa_cons (pe_c c_Lbuild hr (by omega) rfl (pa_cons (pv 3) (pa_cons (pv 21) pa_nil))) pa_nil)))))
    (pss_cons (ps_for PassesOwn.never rfl (pi_tup (pe_tup (pa_cons pe_int (pa_cons (pe_c c_Lnext hr (by omega) rfl (pa_cons (pv 1) (pa_cons pe_int pa_nil))) pa_nil)))) (pg_name (i := 15) sc_law.nd rfl (Or.inl rfl)) (pss_cons (ps_set (i := 16) sc_law.nd rfl (Or.inl rfl) (pe_callB (cr_reprL (hg _) (hun _)) (by rfl) T.n_repr (by decide +kernel) (pa_cons (pe_lst (pa_cons (pv 14) (pa_cons (pv 7) (pa_cons (pv 5) (pa_cons (pv 6) pa_nil))))) pa_nil)))
    (pss_cut (L2N.ps_try_as (i := 18) rfl rfl sc_law.nd rfl rfl ⟨rfl, by decide, .inl ef.gL⟩ takes0N (fun W pn xe tk _ => (pss_cons (ps_set (i := 17) sc_law.nd rfl (Or.inl rfl) (pe_callNS k_none_of.F (hr.mono (by omega)) rfl k_none_of.m k_none_of.kp k_none_of.kb (fun σ => L2N.passAt tk σ) (pa_cons (pv 3) (pa_cons (pv 14) (pa_cons (pv 7) (pa_cons (pv 5) (pa_cons (pv 6) pa_nil))))) (pk_cons (pv 15) pk_nil)))
    (pss_one (ps_if (PW.pt (pw_or (pt_cmpR op_gt (pe_callB (bx_max (K := K) rfl rfl) (by rfl) T.n_max (by decide +kernel) (pa_cons (pv 10) pa_nil)) (pv 15) (nomark _)) (pw_or1 (pt_not (pt_val (pe_c c_Lsame hr (by omega) rfl (pa_cons (pv 17) (pa_cons (pv 13) pa_nil)))))))) (pss_one (ps_ret pe_bl)) pss_nil)))) (fun a oe cls d pn hz hf => (pss_one (ps_if (PW.pt (pw_or (pt_cmpR op_le (pe_callB (cr_maxHot (hv65 hr) hz hf) (by rfl) T.n_max (by decide +kernel) (pa_cons (pv 10) pa_nil)) (pv 15) (nomark _)) (pw_or (pt_not (pt_val (pe_callB (bx_isE (K := K) rfl hz.zc hf) (by rfl) T.n_isinstance (by decide +kernel) (pa_cons (pv 18) (pa_cons (pe_gc rfl T.g_TooManyQuestions) pa_nil))))) (pw_or1 (pt_val (pe_callB (bx_isE (K := K) rfl hz.zc hf) (by rfl) T.n_isinstance (by decide +kernel) (pa_cons (pv 18) (pa_cons (pe_gc rfl T.g_SourceError) pa_nil)))))))) (pss_one (ps_ret pe_bl)) pss_nil))))
    (pss_one (ps_if (pt_cmpR op_ne (pe_callB (cr_reprL (hg _) (hun _)) (by rfl) T.n_repr (by decide +kernel) (pa_cons (pe_lst (pa_cons (pv 14) (pa_cons (pv 7) (pa_cons (pv 5) (pa_cons (pv 6) pa_nil))))) pa_nil)) (pv 16) (nomark _)) (pss_one (ps_ret pe_bl)) pss_nil)))))
    (pss_one (ps_ret pe_bl)))))))))))))))), ?_⟩
  refine ⟨_, rfl, a, ns, rfl, hS, fun d sc H1 same _ _ dr1 => ?_⟩
  refine ⟨_, rfl, d, sc, 4, rfl, by decide, by decide, dr1, fun E ea H2 en hea k2 dr2 he2 => ?_⟩
  have ned : ea ≠ d := by
    obtain ⟨_, _, _, _, z, _⟩ := dr1
    intro e
    rw [e, z] at hea
    cases hea
  have lE := en.len
  have ndE := en.nd
  refine fun p dx hp hdx ne => ⟨p, dx, rfl, upd_same, fun s H5 es hl h1 h2 St keep => ⟨rfl, ?_⟩⟩
  subst es
  have hn : ∀ {b : Addr}, (upd (upd H2 dx (.own s.p)) s.p (.ins C dx [])) b = none → H2 b = none := fun {b} h => by
    have n1 : b ≠ s.p := fun e => by rw [e, upd_same] at h; cases h
    rw [upd_ne n1] at h
    have n2 : b ≠ dx := fun e => by rw [e, upd_same] at h; cases h
    rwa [upd_ne n2] at h
  have k5 : Kp [] H2 H5 := by
    have kb : ∀ b o, H2 b = some o → H5 b = some o := fun b o e => by
      have n1 : b ≠ s.p := fun z => by rw [z, hp] at e; cases e
      have n2 : b ≠ dx := fun z => by rw [z, hdx] at e; cases e
      exact keep b o (by rw [upd_ne n1, upd_ne n2]; exact e) n1
    exact ⟨fun b o e _ => kb b o e, fun b xs e => kb b _ e⟩
  have fresh : ∀ {b : Addr} {o : HO}, H2 b = some o → b ∉ s.M := fun {b o} e m => by
    simp only [SA.M, List.mem_cons, List.not_mem_nil, or_false] at m
    rcases m with m | m | m
    · rw [m, hn hl] at e; cases e
    · rw [m, hn h1] at e; cases e
    · rw [m, hn h2] at e; cases e
  have dM : d ∉ s.M := fresh dr2.dl.choose_spec
  have scM : sc ∉ s.M := by
    obtain ⟨_, _, _, _, _, e, _⟩ := dr2
    exact fresh e
  have dr5 := dr2.kp k5 (by simp) (by simp)
  have he5 := k5.k _ _ he2 (by simp)
  have eaM : ea ∉ s.M := fresh he2
  refine ⟨_, rfl, _, rfl, _, rfl, d, sc, ea, E, s, [], 0, rfl, dr5, he5, en.ne, by omega, ned, St E, by omega, dM, scM, fun tr H6 ns6 L htr k6 dr6 S6 p6 rows6 lL hL bL => ?_⟩
  have he6 := k6.k _ _ he5 (not_cons ned eaM)
  have trM : tr ∉ s.M := (St E).out.2.2 tr htr
  have ntd : tr ≠ d := fun z => by obtain ⟨xs, e⟩ := dr5.dl; rw [← z, htr] at e; cases e
  -- present
  refine ⟨_, rfl, ea, rfl, ⟨_, SqL.of he6⟩, fun pa hpa => lc_list (K := K) (a := ea) (xs := E.map V.int) (fun j HL => Drw d sc HL ∧ Kp [d] H6 HL ∧ ∃ PP : List Int, HL pa = some (.lst (PP.map V.int)) ∧ PP.length ≤ j ∧ PP.Sublist (E.take j))
    ⟨dr6.put (dr6.ne_new hpa).1 (dr6.ne_new hpa).2, .new hpa, [], upd_same, Nat.le_refl _, List.nil_sublist _⟩ (fun j HL _ q => SqL.of (q.2.1.k _ _ he6 (by simpa using ned))) (fun j y HL hj q => ?_) (fun HL q => ?_)⟩
  · obtain ⟨e, he, rfl⟩ := mapAt hj
    have hjE := (List.getElem?_eq_some_iff.mp he).1
    obtain ⟨drL, kL, PP, hPP, hPn, hPE⟩ := q
    have nd3 : pa ≠ d := fun z => by obtain ⟨_, _, _, _, y, _⟩ := dr6; rw [← z, hpa] at y; cases y
    refine ⟨rfl, _, rfl, d, sc, 2, rfl, by decide, by decide, drL, fun z o z0 z5 no drM => ⟨_, rfl, ?_⟩⟩
    have kM : Kp [d] HL (upd HL d o) := drL.step
    have hLM : (upd HL d o) pa = some (.lst (PP.map V.int)) := by rw [upd_ne nd3]; exact hPP
    refine ite2 (fun cz => ?_) (fun cz => ?_)
    · refine ⟨_, rfl, _, hLM, small1000 (by rw [List.length_map]; omega), drM.put (dr6.ne_new hpa).1 (dr6.ne_new hpa).2, (kL.trans kM).mt hpa, PP ++ [e], by rw [upd_same, List.map_append]; rfl, by rw [List.length_append, List.length_singleton]; omega, ?_⟩
      rw [takeS he]
      exact List.Sublist.append hPE (List.Sublist.refl _)
    · exact ⟨drM, kL.trans kM, PP, hLM, by omega, by rw [takeS he]; exact hPE.trans (List.sublist_append_left _ _)⟩
  obtain ⟨dr7, k7, PP, hPP, hPn, hPE⟩ := q
  rw [List.length_map] at hPn
  rw [List.length_map, List.take_length] at hPE
  have npd : pa ≠ d := fun z => by obtain ⟨_, _, _, _, y, _⟩ := dr6; rw [← z, hpa] at y; cases y
  have he7 := k7.k _ _ he6 (by simpa using ned)
  have S7 := S6.kd dr6.dl.choose_spec dM k7
  have rows7 := rows6.kp k7 (by simpa using ntd)
  have upP : PP.Pairwise (· < ·) := en.up.sublist hPE
  -- costs
  refine ⟨_, rfl, _, rfl, d, sc, ea, E, rfl, dr7, he7, ned, ndE, by omega, fun cs al cd H8 hcs hcd k8 dr8 hc8 => ?_⟩
  have ncd : cd ≠ d := fun z => by obtain ⟨xs, e⟩ := dr8.dl; rw [← z, hc8] at e; cases e
  have S8 := S7.kd dr7.dl.choose_spec dM k8
  have rows8 := rows7.kp k8 (by simpa using ntd)
  have he8 := k8.k _ _ he7 (by simpa using ned)
  have hPP8 := k8.k _ _ hPP (by simpa using npd)
  -- prefix
  refine ⟨fun σ' H' => ∃ (xa : Addr) (pre : List Int), σ' = [some (.ref a), some (.ref d), some (.ref ea), some (.ref s.p), some (.ref tr), some (.ref pa), some (.ref cd), some (.ref xa), none, none, none, none, none, none, none, none, none, none, none, none, none, none, none, none, none] ∧ Kp [d] H8 H' ∧ H' xa = some (.tup (pre.map V.int)) ∧ pre.length ≤ 2 ∧ (∀ e ∈ pre, e.natAbs < 1000000000000) ∧ Drw d sc H', ?_, ?_⟩
  · refine ⟨_, rfl, d, sc, 2, rfl, by decide, by decide, dr8, fun u o u0 u2 no dr9 => ⟨_, rfl, d, sc, 3, rfl, by decide, by decide, dr9, fun v o2 v0 v3 no2 drA => ⟨(by show 2 ≤ sizeLine; decide), fun pt hpt => ?_⟩⟩⟩
    have kA : Kp [d] H8 (upd (upd H8 d o) d o2) := dr8.step.trans dr9.step
    have kT := Kp.new (M := []) (o := .tup [.int u, .int v]) hpt
    have drB := drA.kp kT (by simp) (by simp)
    refine ⟨_, rfl, d, sc, 3, rfl, by decide, by decide, drB, fun m o3 m0 m3 no3 drC => ?_⟩
    obtain ⟨mn, rfl⟩ : ∃ mn : Nat, m = mn := ⟨m.toNat, by omega⟩
    have kC : Kp [d] H8 (upd (upd (upd (upd H8 d o) d o2) pt (.tup [.int u, .int v])) d o3) := (kA.trans (kT.wide fun b m => absurd m List.not_mem_nil)).trans drB.step
    have hptC : (upd (upd (upd (upd H8 d o) d o2) pt (.tup [.int u, .int v])) d o3) pt = some (.tup [.int u, .int v]) := drB.step.t _ _ upd_same
    refine ⟨_, rfl, pt, _, rfl, SqT.of hptC, fun hw => ?_, fun hw sl hsl => ?_⟩
    · exact ⟨pt, [u, v], rfl, kC, hptC, by simp, (fun e he => by
        rcases List.mem_cons.mp he with rfl | he
        · omega
        · rw [List.mem_singleton.mp he]; omega), drC⟩
    · refine ⟨sl, [u, v].take mn, rfl, kC.newer hsl, ?_, by rw [List.length_take]; simp only [List.length_cons, List.length_nil]; omega, (fun e he => by
        rcases List.mem_cons.mp (List.mem_of_mem_take he) with rfl | he
        · omega
        · rw [List.mem_singleton.mp he]; omega), drC.kp (Kp.new (M := []) hsl) (by simp) (by simp)⟩
      rw [upd_same, cut_take, List.map_take]
      rfl
  rintro σ' H9 ⟨xa, pre, rfl, k9, hxa9, lp, hpre, dr9⟩
  have S9 := S8.kd dr8.dl.choose_spec dM k9
  have rows9 := rows8.kp k9 (by simpa using ntd)
  have he9 := k9.k _ _ he8 (by simpa using ned)
  have hPP9 := k9.k _ _ hPP8 (by simpa using npd)
  have hc9 := k9.k _ _ hc8 (by simpa using ncd)
  obtain ⟨pf, hpf⟩ : ∃ pf : Int → Bool, (fun y => decide (y ∈ PP)) = pf := ⟨_, rfl⟩
  obtain ⟨al2, hal2⟩ : ∃ al2 : Int → Bool, (fun y => decide (y ∈ E.filter al)) = al2 := ⟨_, rfl⟩
  have hkv : ∀ e ∈ E, valV (ck (E.filter al) cs) (Sum.inl e : Key) = if al2 e then some (.int (cs e)) else none := fun e _ => by
    rw [ck_val, ← hal2]
    by_cases m : e ∈ E.filter al
    · rw [if_pos m]
      exact (if_pos (decide_eq_true m)).symm
    · rw [if_neg m]
      exact (if_neg fun z => m (of_decide_eq_true z)).symm
  have halE : ∀ e, al2 e = true → e ∈ E := fun e h => by
    rw [← hal2] at h
    exact (List.mem_filter.mp (of_decide_eq_true h)).1
  have h0 : ∀ e, 0 ≤ cs e := fun e => (hcs e).1
  obtain ⟨Ch, hCh⟩ : ∃ Ch, (L.filter fun p => begins pre p.1) = Ch := ⟨_, rfl⟩
  have lCh : Ch.length ≤ 5 := by rw [← hCh]; exact Nat.le_trans (List.length_filter_le _ _) lL
  obtain ⟨as, htr9, hasl, hasi⟩ := id rows9
  -- chosen
  refine ⟨_, rfl, tr, rfl, ⟨_, SqL.of htr9⟩, fun ch hch => lc_list (K := K) (a := tr) (xs := as.map V.ref) (fun j G => Kp [] H9 G ∧ ∃ bs : List Addr, G ch = some (.lst (bs.map V.ref)) ∧ bs.length = ((L.take j).filter fun p => begins pre p.1).length ∧ ∀ (i : Nat) (b : Addr) (p : (Int × Int) × Tr), bs[i]? = some b → ((L.take j).filter fun p => begins pre p.1)[i]? = some p → TreeAt H9 p.2 b)
    ⟨.new hch, [], upd_same, rfl, fun i b p x => by simp at x⟩ (fun j G _ p => SqL.of (p.1.k _ _ htr9 (by simp))) (fun j y G hj pp => ?_) (fun G p => ?_)⟩
  · obtain ⟨aa, ha, rfl⟩ := mapAt hj
    obtain ⟨kG, bs, hG, hbl, hbs⟩ := pp
    have hjl : j < L.length := by have := (List.getElem?_eq_some_iff.mp ha).1; omega
    have hp : L[j]? = some L[j] := List.getElem?_eq_getElem hjl
    generalize L[j] = p at hp
    obtain ⟨x, rt, g1, g2, g3⟩ := hasi j aa p ha hp
    have hx := kG.t _ _ g2
    refine ⟨aa, _, rfl, SqT.of (kG.t _ _ g1), rfl, _, _, rfl, _, _, rfl, rfl, rfl, ?_⟩
    have fin : ∀ (G2 : Hp) (sl : Addr), Kp [] G G2 → G2 sl = some (.tup (([p.1.1, p.1.2].take pre.length).map V.int)) → ∃ d e, Dp K G2 (.ref sl) d ∧ Dp K G2 (.ref xa) e ∧ SeqAt.shaped d = true ∧ SeqAt.shaped e = true ∧ PyData.eqv d e = begins pre p.1 := fun G2 sl k2 h2 =>
      ⟨.tuple (([p.1.1, p.1.2].take pre.length).map .int), .tuple (pre.map .int), .tup (SqT.of h2) (dp_ints _), .tup (SqT.of (k2.t _ _ (kG.t _ _ hxa9))) (dp_ints _), tup_shaped _, tup_shaped _, tup_eqv _ _⟩
    have turn : ∀ (G2 : Hp), Kp [] G G2 → (begins pre p.1 = true → ∃ acc, G2 ch = some (.lst acc) ∧ acc.length < sizeLine ∧ Kp [] H9 (upd G2 ch (.lst (acc ++ [.ref rt]))) ∧ ∃ bs : List Addr, (upd G2 ch (.lst (acc ++ [.ref rt]))) ch = some (.lst (bs.map V.ref)) ∧ bs.length = ((L.take (j + 1)).filter fun p => begins pre p.1).length ∧ ∀ (i : Nat) (b : Addr) (p : (Int × Int) × Tr), bs[i]? = some b → ((L.take (j + 1)).filter fun p => begins pre p.1)[i]? = some p → TreeAt H9 p.2 b) := fun G2 k2 bp => by
      refine ⟨_, k2.k _ _ hG (by simp), small1000 ?_, (kG.trans k2).mt hch, bs ++ [rt], by rw [upd_same, List.map_append]; rfl, ?_, fun i b q hb hq => ?_⟩
      · rw [List.length_map, hbl]
        exact Nat.le_trans (List.length_filter_le _ _) (Nat.le_trans (List.length_take_le' _ _) (by omega))
      · rw [fl_yes hp bp, List.length_append, List.length_append, hbl]
        rfl
      · rw [fl_yes hp bp] at hq
        by_cases hi : i < bs.length
        · rw [List.getElem?_append_left hi] at hb
          rw [List.getElem?_append_left (by omega)] at hq
          exact hbs i b q hb hq
        · rw [List.getElem?_append_right (by omega)] at hb
          rw [List.getElem?_append_right (by omega), ← hbl] at hq
          have hz := (List.getElem?_eq_some_iff.mp hb).1
          rw [List.length_singleton] at hz
          rw [show i - bs.length = 0 by omega] at hb hq
          cases hb
          cases hq
          exact g3
    have skip : ∀ (G2 : Hp), Kp [] G G2 → begins pre p.1 = false → Kp [] H9 G2 ∧ ∃ bs : List Addr, G2 ch = some (.lst (bs.map V.ref)) ∧ bs.length = ((L.take (j + 1)).filter fun p => begins pre p.1).length ∧ ∀ (i : Nat) (b : Addr) (p : (Int × Int) × Tr), bs[i]? = some b → ((L.take (j + 1)).filter fun p => begins pre p.1)[i]? = some p → TreeAt H9 p.2 b := fun G2 k2 bp => by
      rw [fl_no hp bp]
      exact ⟨kG.trans k2, bs, k2.k _ _ hG (by simp), hbl, hbs⟩
    refine ⟨_, rfl, _, rfl, xa, _, rfl, .inr (SqT.of (kG.t _ _ hxa9)), _, rfl, x, _, rfl, SqT.of hx, fun hw => ?_, fun hw sl hsl => ?_⟩
    · have hn : pre.length = 2 := by
        have := hw.2
        rw [HT.sIx_nat] at this
        simp only [List.length_map, List.length_cons, List.length_nil] at this
        omega
      obtain ⟨d1, e1, a1, a2, a3, a4, a5⟩ := fin G x .refl (by rw [hn]; exact hx)
      refine ⟨_, rfl, d1, e1, a1, a2, a3, a4, _, rfl, ?_⟩
      rw [a5]
      cases bp : begins pre p.1 with
      | true => exact iteT ⟨_, rfl, turn G .refl bp⟩
      | false => exact iteF (skip G .refl bp)
    · have kS := Kp.new (M := []) (o := .tup (cutV [.int p.1.1, .int p.1.2] none (some ((pre.map V.int).length : Int)))) hsl
      obtain ⟨d1, e1, a1, a2, a3, a4, a5⟩ := fin _ sl kS (by
        rw [upd_same, cut_take, List.length_map, List.map_take]
        rfl)
      refine ⟨_, rfl, d1, e1, a1, a2, a3, a4, _, rfl, ?_⟩
      rw [a5]
      cases bp : begins pre p.1 with
      | true => exact iteT ⟨_, rfl, turn _ kS bp⟩
      | false => exact iteF (skip _ kS bp)
  obtain ⟨kC1, chs, hch1, hchl, hchs⟩ := p
  rw [List.length_map, hasl, List.take_length, hCh] at hchl hchs
  -- some, sizes
  refine ⟨_, rfl, ea, E, rfl, SqL.of (kC1.k _ _ he9 (by simp)), by omega, fun sr HB hsr kB LB => ?_⟩
  obtain ⟨ss, hsB, hsl, hsi, _⟩ := LB
  have l16 : 2 ^ E.length ≤ 16 := Nat.le_trans (Nat.pow_le_pow_right (by omega) lE) (by decide)
  have ls16 := subs_len E
  refine ⟨sr, rfl, ⟨_, SqL.of hsB⟩, fun D0 hD0 => lc_list (K := K) (a := sr) (xs := ss.map V.ref) (fun j G => Kp [] HB G ∧ G D0 = some (.lst ((((subs E).take j).map fun _ => false).map V.bl))) ⟨.new hD0, upd_same⟩ (fun j G _ q => SqL.of (q.1.k _ _ hsB (by simp))) (fun j y G hj q => ?_) (fun G q => ?_)⟩
  · obtain ⟨c', hc', rfl⟩ := mapAt hj
    obtain ⟨kG, hG⟩ := q
    have hjs : j < (subs E).length := by have := (List.getElem?_eq_some_iff.mp hc').1; omega
    have hq : (subs E)[j]? = some (subs E)[j] := List.getElem?_eq_getElem hjs
    refine ⟨rfl, iteT (B := True) ?_⟩
    refine ⟨_, hG, small1000 ?_, kG.mt hD0, ?_⟩
    · rw [List.length_map, List.length_map]
      exact Nat.le_trans (List.length_take_le' _ _) (by omega)
    · rw [any_take hq, List.map_append]
      exact upd_same
  obtain ⟨kG, hG⟩ := q
  rw [List.length_map, hsl, List.take_length] at hG
  have k9G := (kC1.trans kB).trans kG
  refine ⟨D0, _, rfl, .inl ⟨SqL.of hG, fun so hso => ?_⟩⟩
  have k9S := k9G.newer (o := .tup (((subs E).map fun _ => false).map V.bl)) hso
  have hsoS : (upd G so (.tup (((subs E).map fun _ => false).map V.bl))) so = some (.tup ((tab E fun _ => false).map V.bl)) := upd_same
  have hchS : (upd G so (.tup (((subs E).map fun _ => false).map V.bl))) ch = some (.lst (chs.map V.ref)) := ((kB.trans kG).newer hso).k _ _ hch1 (by simp)
  obtain ⟨HS, hHS⟩ : ∃ HS, upd G so (.tup (((subs E).map fun _ => false).map V.bl)) = HS := ⟨_, rfl⟩
  rw [hHS] at k9S hsoS hchS ⊢
  refine ⟨(by show 1 ≤ sizeLine; decide), fun sz hsz => ?_⟩
  have kZ := Kp.new (M := []) (o := .lst [.int 0]) hsz
  have hszZ : (upd HS sz (.lst [.int 0])) sz = some (.lst [.int 0]) := upd_same
  have k9Z := k9S.trans kZ
  have hsoZ := kZ.t _ _ hsoS
  have hchZ := kZ.k _ _ hchS (by simp)
  have nsz : ch ≠ sz := fun z => by rw [z, hsz] at hchS; cases hchS
  have sz9 : H9 sz = none := k9S.free hsz (by simp)
  obtain ⟨HZ, hHZ⟩ : ∃ HZ, upd HS sz (.lst [.int 0]) = HZ := ⟨_, rfl⟩
  rw [hHZ] at kZ hszZ k9Z hsoZ hchZ ⊢
  obtain ⟨hs, hhs⟩ : ∃ hs : List ((Int → Bool) → Bool), (Ch.map fun p => p.2.ev) = hs := ⟨_, rfl⟩
  have lhs : hs.length = Ch.length := by rw [← hhs, List.length_map]
  have inCh : ∀ p ∈ Ch, p.2.depth ≤ 3 ∧ p.2.In E := fun p hp => by
    rw [← hCh] at hp
    exact hL p (List.mem_filter.mp hp).1
  have only : ∀ h ∈ hs, Only E h := fun h hh => by
    rw [← hhs] at hh
    obtain ⟨p, hp, rfl⟩ := List.mem_map.mp hh
    exact Tr.only (inCh p hp).2
  have ltab : ∀ h, (tab E h).length = 2 ^ E.length := tab_len E
  refine ⟨_, rfl, ch, _, rfl, .inl (SqL.of hchZ), _, rfl, by omega, (by rw [List.length_map, hchl]; omega), ?_⟩
  rw [List.length_map, hchl, show ((((Ch.length : Nat) : Int)).toNat) = Ch.length by omega]
  refine for_range (lo := 0) (n := Ch.length) (fun i σ G => ∃ (so' : Addr) (v11 v12 : Option V) (NS : List Int), σ = [some (.ref a), some (.ref d), some (.ref ea), some (.ref s.p), some (.ref tr), some (.ref pa), some (.ref cd), some (.ref xa), some (.ref ch), some (.ref so'), some (.ref sz), v11, v12, none, none, none, none, none, none, none, none, none, none, none, none] ∧ Kp [] H9 G ∧ Kp [sz] HZ G ∧
      G so' = some (.tup ((tab E (gK hs i)).map V.bl)) ∧ G sz = some (.lst ((0 :: NS).map V.int)) ∧ NS.length = i ∧ ∀ (j : Nat) (n : Int), NS[j]? = some n → ∃ m : Nat, n = (m : Int) ∧ Nsz E (gK hs (j + 1)) m)
    ⟨so, none, none, [], rfl, k9Z, .refl, by rw [gK_zero]; exact hsoZ, hszZ, rfl, fun j n h => by simp at h⟩ (fun i σ G2 hi p => ?_) (fun σ G2 p => ?_)
  · obtain ⟨so', v11, v12, NS, rfl, k9i, kZi, hsoi, hszi, lNS, hNS⟩ := p
    rw [Int.zero_add]
    have hchi := kZi.k _ _ hchZ (by simpa using nsz)
    have hei := k9i.k _ _ he9 (by simp)
    have hb : chs[Ch.length - 1 - i]? = some chs[Ch.length - 1 - i] := List.getElem?_eq_getElem (by omega)
    generalize chs[Ch.length - 1 - i] = b at hb
    have hp : Ch[Ch.length - 1 - i]? = some Ch[Ch.length - 1 - i] := List.getElem?_eq_getElem (by omega)
    generalize Ch[Ch.length - 1 - i] = p at hp
    have g3 := hchs _ b p hb hp
    obtain ⟨hdep, hin⟩ := inCh p (List.mem_of_getElem? hp)
    have eix : (((chs.map V.ref).length : Nat) : Int) - 1 - (i : Int) = ((Ch.length - 1 - i : Nat) : Int) := by rw [List.length_map, hchl]; omega
    refine ⟨_, rfl, _, rfl, ch, _, rfl, .inl (SqL.of hchi), _, _, rfl, rfl, _, rfl, _, _, rfl, rfl, ch, _, _, _, rfl, rfl, SqL.of hchi, (by rw [eix]; exact atI_nat (by rw [List.getElem?_map, hb]; rfl)), _, rfl, b, ea, p.2, E, rfl, TreeAt.kp k9i _ _ g3, by omega, hei, by omega, fun mt G3 hmt k3 h3 => ?_⟩
    have hso3 := k3.t _ _ hsoi
    refine ⟨_, rfl, so', _, rfl, .inr (SqT.of hso3), _, rfl, by omega, (by rw [List.length_map, ltab]; omega), ?_⟩
    rw [List.length_map, ltab, show ((((2 ^ E.length : Nat) : Int)).toNat) = 2 ^ E.length by omega]
    have hgi : hs[hs.length - 1 - i]? = some p.2.ev := by rw [lhs, ← hhs, List.getElem?_map, hp]; rfl
    have hgk : gK hs (i + 1) = fun f => (gK hs i f || p.2.ev f) := funext fun f => gK_succ hgi (by omega) f
    refine fun D1 hD1 => lc_range (lo := 0) (n := 2 ^ E.length) (fun j G4 => Kp [] G3 G4 ∧ G4 D1 = some (.lst (((tab E (gK hs (i + 1))).take j).map V.bl))) ⟨.new hD1, upd_same⟩ (fun j G4 hj q => ?_) (fun G4 q => ?_)
    · obtain ⟨k4, h4⟩ := q
      have hq : (subs E)[j]? = some (subs E)[j] := List.getElem?_eq_getElem (by omega)
      generalize (subs E)[j] = l at hq
      have at1 : ∀ h : (Int → Bool) → Bool, (tab E h)[j]? = some (h (memf l)) := fun h => by unfold tab; rw [List.getElem?_map, hq]; rfl
      have at2 : ∀ h : (Int → Bool) → Bool, atI ((tab E h).map V.bl) (0 + (j : Int)) = some (.bl (h (memf l))) := fun h => by rw [Int.zero_add]; exact atI_nat (by rw [List.getElem?_map, at1]; rfl)
      have acc : ∀ G5, Kp [] G4 G5 → G5 D1 = some (.lst (((tab E (gK hs (i + 1))).take j).map V.bl)) ∧ (((tab E (gK hs (i + 1))).take j).map V.bl).length < sizeLine ∧ Kp [] G3 (upd G5 D1 (.lst (((tab E (gK hs (i + 1))).take j).map V.bl ++ [.bl (gK hs (i + 1) (memf l))]))) ∧
          (upd G5 D1 (.lst (((tab E (gK hs (i + 1))).take j).map V.bl ++ [.bl (gK hs (i + 1) (memf l))]))) D1 = some (.lst (((tab E (gK hs (i + 1))).take (j + 1)).map V.bl)) := fun G5 k5 =>
        ⟨k5.k _ _ h4 (by simp), small1000 (by rw [List.length_map]; exact Nat.le_trans (List.length_take_le' _ _) (by rw [ltab]; omega)), (k4.trans k5).mt hD1, by rw [upd_same, takeS (at1 _), List.map_append]; rfl⟩
      refine ⟨rfl, iteT (B := True) ?_⟩
      refine ⟨_, rfl, _, rfl, so', _, _, _, rfl, rfl, SqT.of (k4.t _ _ hso3), at2 _, _, rfl, ?_⟩
      have e1 : gK hs (i + 1) (memf l) = (gK hs i (memf l) || p.2.ev (memf l)) := by rw [hgk]
      have acc' := acc G4 .refl
      rw [e1] at acc'
      cases c : gK hs i (memf l) with
      | true =>
        rw [c, Bool.true_or] at acc'
        exact iteT ⟨_, acc'⟩
      | false =>
        rw [c, Bool.false_or] at acc'
        exact iteF ⟨_, rfl, _, rfl, mt, _, _, _, rfl, rfl, SqT.of (k4.t _ _ h3), at2 _, _, acc'⟩
    obtain ⟨k4, h4⟩ := q
    rw [← ltab (gK hs (i + 1)), List.take_length] at h4
    refine ⟨D1, _, rfl, .inl ⟨SqL.of h4, fun sn hsn => ?_⟩⟩
    have k5 := (k3.trans k4).newer (o := .tup ((tab E (gK hs (i + 1))).map V.bl)) hsn
    have hsn5 : (upd G4 sn (.tup ((tab E (gK hs (i + 1))).map V.bl))) sn = some (.tup ((tab E (gK hs (i + 1))).map V.bl)) := upd_same
    obtain ⟨G5, hG5⟩ : ∃ G5, upd G4 sn (.tup ((tab E (gK hs (i + 1))).map V.bl)) = G5 := ⟨_, rfl⟩
    rw [hG5] at k5 hsn5 ⊢
    refine ⟨_, rfl, .inl ⟨rfl, _, SqL.of (k5.k _ _ hszi (by simp))⟩, _, rfl, (by show 1 ≤ sizeLine; decide), fun ua hua => ?_⟩
    have kU := Kp.new (M := []) (o := .lst [.ref sn]) hua
    have k5U := k5.trans kU
    refine ⟨_, rfl, ea, _, rfl, .inl (SqL.of (k5U.k _ _ hei (by simp))), ua, sn, E, gK hs (i + 1), (E.map V.int).length, rfl, List.length_map .., upd_same, kU.t _ _ hsn5, en.up, by omega, gK_only only _, fun rr G7 as7 L7 hrr k7 hrr7 tL ndL iffL => ?_⟩
    have k57 := k5U.trans k7
    have hsz7 := k57.k _ _ hszi (by simp)
    refine ⟨rr, _, rfl, .inl (SqL.of hrr7), sz, _, _, rfl, rfl, hsz7, small1000 (by rw [List.length_map, List.length_cons, lNS]; omega), ?_⟩
    have kput : Kp [sz] G7 (upd G7 sz (.lst ((0 :: NS).map V.int ++ [.int (((as7.map V.ref).length : Nat) : Int)]))) := .put (by simp) hsz7 fun xs z => by cases z
    refine ⟨sn, _, _, NS ++ [(L7.length : Int)], rfl, (k9i.trans k57).mt sz9, (kZi.trans (k57.wide fun b m => absurd m List.not_mem_nil)).trans kput, kput.t _ _ ((kU.trans k7).t _ _ hsn5), ?_, by rw [List.length_append, List.length_singleton, lNS], fun j n hj => ?_⟩
    · rw [upd_same, List.length_map, tL.1]
      simp only [List.map_cons, List.map_append, List.cons_append, List.map_nil]
    · by_cases hjl : j < NS.length
      · rw [List.getElem?_append_left hjl] at hj
        exact hNS j n hj
      · have hz := (List.getElem?_eq_some_iff.mp hj).1
        rw [List.length_append, List.length_singleton] at hz
        have ej : j = NS.length := by omega
        subst ej
        rw [List.getElem?_append_right (Nat.le_refl _), Nat.sub_self] at hj
        cases hj
        rw [lNS]
        exact ⟨L7.length, rfl, L7, ndL, iffL, rfl⟩
  obtain ⟨so', v11, v12, NS, rfl, k9N, kZN, hsoN, hszN, lNS, hNS⟩ := p
  obtain ⟨gN, hgN⟩ : ∃ gN, gK hs Ch.length = gN := ⟨_, rfl⟩
  rw [hgN] at hsoN
  -- due
  refine ⟨_, rfl, so', rfl, ⟨_, SqT.of hsoN⟩, fun D2 hD2 => lc_tup (K := K) (a := so') (xs := (tab E gN).map V.bl) (fun j G => Kp [] G2 G ∧ G D2 = some (.lst (((tab E fun f => !gN f).take j).map V.bl))) ⟨.new hD2, upd_same⟩ (fun j G _ q => SqT.of (q.1.t _ _ hsoN)) (fun j y G hj q => ?_) (fun G q => ?_)⟩
  · obtain ⟨b, hb, rfl⟩ := mapAt hj
    obtain ⟨k4, h4⟩ := q
    have hjs : j < (subs E).length := by have := (List.getElem?_eq_some_iff.mp hb).1; rw [ltab] at this; omega
    have hq : (subs E)[j]? = some (subs E)[j] := List.getElem?_eq_getElem hjs
    generalize (subs E)[j] = l at hq
    have hb' : (tab E gN)[j]? = some (gN (memf l)) := by unfold tab; rw [List.getElem?_map, hq]; rfl
    rw [hb'] at hb
    cases hb
    have hn' : (tab E fun f => !gN f)[j]? = some (!gN (memf l)) := by unfold tab; rw [List.getElem?_map, hq]; rfl
    refine ⟨rfl, iteT (B := True) ?_⟩
    refine ⟨_, rfl, _, rfl, _, h4, small1000 ?_, k4.mt hD2, ?_⟩
    · rw [List.length_map]
      exact Nat.le_trans (List.length_take_le' _ _) (by rw [ltab]; omega)
    · rw [upd_same, takeS hn', List.map_append]
      rfl
  obtain ⟨k4, h4⟩ := q
  rw [List.length_map, ltab, ← ltab (fun f => !gN f), List.take_length] at h4
  have k94 := k9N.trans k4
  refine ⟨_, rfl, _, rfl, _, rfl, D2, ea, pa, cd, (fun f => !gN f), E, PP, _, cs, al2, rfl, h4, k94.k _ _ he9 (by simp), k94.k _ _ hPP9 (by simp), k94.k _ _ hc9 (by simp), hkv, halE, en.up, upP, fun e h => hPE.subset h, by omega, fun bv HA r' kC bB cB nB => ?_⟩
  rw [hpf] at bB
  have k0A := k94.trans kC
  have hszA := (k4.trans kC).k _ _ hszN (by simp)
  have SA := S9.new k0A
  have rowsT := rows9.kp k0A (by simp)
  obtain ⟨at', htrA, hatl, hati⟩ := id rowsT
  -- handed
  refine ⟨_, rfl, tr, rfl, ⟨_, SqL.of htrA⟩, fun D hD => lc_list (K := K) (a := tr) (xs := at'.map V.ref) (fun j G => Kp s.M HA G ∧ ∃ (ns' : List Node) (HL : List ((Int × Int) × Nat)), StoAt C E s G ns' (0 + 100000 + 8000 * j) ∧ HRows G D HL ∧ HL.length = j ∧
      ∀ (i : Nat) (p : (Int × Int) × Tr) (q : (Int × Int) × Nat), L[i]? = some p → HL[i]? = some q → q.1 = p.1 ∧ q.2 < ns'.length + 2 ∧ ∀ f, ev ns' f q.2 = p.2.ev f)
    ⟨(Kp.new hD).wide fun b m => absurd m List.not_mem_nil, ns6, [], SA.new (.new hD), ⟨[], upd_same, rfl, fun i a p x => by simp at x⟩, rfl, fun i p q _ h => by simp at h⟩ (fun j G _ q => SqL.of (q.1.k _ _ htrA trM)) (fun j y G hj q => ?_) (fun G q => ?_)⟩
  · obtain ⟨aa, ha, rfl⟩ := mapAt hj
    obtain ⟨kG, nsj, HL, SG, rowsG, lHL, hHL⟩ := q
    have hjl : j < L.length := by have := (List.getElem?_eq_some_iff.mp ha).1; omega
    have hp : L[j]? = some L[j] := List.getElem?_eq_getElem hjl
    generalize L[j] = p at hp
    obtain ⟨x, rt, g1, g2, g3⟩ := hati j aa p ha hp
    obtain ⟨hdep, hin⟩ := hL p (List.mem_of_getElem? hp)
    have hsz := p.2.size_le
    have hpw : 2 ^ (p.2.depth + 1) ≤ 2 ^ 4 := Nat.pow_le_pow_right (by decide) (by omega)
    have p16 : (2 : Nat) ^ 4 = 16 := by decide
    have DM : D ∉ s.M := SA.out.2.2 D hD
    refine ⟨aa, _, rfl, SqT.of (kG.t _ _ g1), rfl, _, _, rfl, _, _, rfl, rfl, rfl, ?_⟩
    refine iteT (B := True) ?_
    refine ⟨_, rfl, _, rfl, _, rfl, E, s, nsj, _, p.2, rt, rfl, SG, TreeAt.kp kG _ _ g3, hin, by omega, by omega, by omega, fun HB nsB c kB SB pB hcB evB => ?_⟩
    refine ⟨(by show 2 ≤ sizeLine; decide), fun u hu => ?_⟩
    have kU := Kp.new (M := []) (o := .tup [.ref x, .int c]) hu
    have rowsU := (rowsG.kp kB DM).kp kU (by simp)
    obtain ⟨bs, hbs, hbl, _⟩ := id rowsU
    have kput : Kp [D] (upd HB u (.tup [.ref x, .int c])) (upd (upd HB u (.tup [.ref x, .int c])) D (.lst (bs.map V.ref ++ [V.ref u]))) := .put (by simp) hbs fun xs z => by cases z
    refine ⟨_, hbs, small1000 (by rw [List.length_map, hbl]; omega), ((kG.trans kB).trans (kU.wide fun b m => absurd m List.not_mem_nil)).mt hD, nsB, HL ++ [(p.1, c)], ((SB.new kU).mono (by omega)).kd hbs DM kput, rowsU.snoc hbs upd_same (kU.t _ _ ((kG.trans kB).t _ _ g2)), by rw [List.length_append, List.length_singleton, lHL], fun i p' q' hp' hq' => ?_⟩
    by_cases hi : i < HL.length
    · rw [List.getElem?_append_left hi] at hq'
      obtain ⟨b1, b2, b3⟩ := hHL i p' q' hp' hq'
      have := pB.len
      exact ⟨b1, by omega, fun f => by rw [pB.ev SG.ok SB.ok f _ b2]; exact b3 f⟩
    · have hl' := (List.getElem?_eq_some_iff.mp hq').1
      rw [List.length_append, List.length_singleton] at hl'
      have ei : i = HL.length := by omega
      subst ei
      rw [List.getElem?_append_right (Nat.le_refl _), Nat.sub_self] at hq'
      cases hq'
      rw [lHL, hp] at hp'
      cases hp'
      exact ⟨rfl, hcB, evB⟩
  obtain ⟨kG, nsG, HL, SG, rowsG, lHL, hHL⟩ := q
  rw [List.length_map] at lHL SG
  rw [hatl] at lHL SG

  obtain ⟨oC, oL, oN⟩ := SA.out
  have hPPG := kG.k _ _ (k0A.k _ _ hPP9 (by simp)) (oL _ _ (k0A.k _ _ hPP9 (by simp)))
  have hcG := kG.k _ _ (k0A.k _ _ hc9 (by simp)) (oC _ _ (k0A.k _ _ hc9 (by simp)))
  have hxG := kG.t _ _ (k0A.t _ _ hxa9)
  have hszG := kG.k _ _ hszA (oL _ _ hszA)
  have cBG := cB.kp kG oL
  have drG := (dr9.kp k0A (by simp) (by simp)).kp kG dM scM
  have nsl := SG.le
  have hHLc : ∀ q ∈ HL, q.2 < nsG.length + 2 := fun q hq => by
    obtain ⟨i, hi⟩ := List.mem_iff_getElem?.mp hq
    have hil : i < L.length := by rw [← lHL]; exact (List.getElem?_eq_some_iff.mp hi).1
    exact (hHL i _ q (List.getElem?_eq_getElem hil) hi).2.1
  have hlo : ∀ q ∈ HL, q.1.1.natAbs < 1000000000000 ∧ q.1.2.natAbs < 1000000000000 ∧ q.2 < 1000000000000 := fun q hq => by
    have := hHLc q hq
    obtain ⟨i, hi⟩ := List.mem_iff_getElem?.mp hq
    have hil : i < L.length := by rw [← lHL]; exact (List.getElem?_eq_some_iff.mp hi).1
    have e := (hHL i _ q (List.getElem?_eq_getElem hil) hi).1
    have := bL _ (List.getElem_mem hil)
    rw [← e] at this
    omega
  have plo : ∀ e ∈ PP, e.natAbs < 1000000000000 := fun e he => by have := en.lo e (hPE.subset he); omega
  have clo : ∀ e ∈ E.filter al, e.natAbs < 1000000000000 ∧ (cs e).natAbs < 1000000000000 := fun e he => by
    have := en.lo e (List.mem_filter.mp he).1
    have := hcs e
    omega
  have lfE : (E.filter al).length ≤ 1000 := Nat.le_trans (List.length_filter_le _ _) (by omega)
  obtain ⟨q1, q2, q3, q4, q5⟩ := hds_all HL hlo
  have fits : Fits (.list [.list (HL.map hdD), .tuple (pre.map PyData.int), .list (PP.map PyData.int), .dict ((ckD (E.filter al) cs).map fun kv => (keyD kv.1, kv.2))]) := fits_list (by show 4 ≤ 10; decide) fun x hx => by
    rcases List.mem_cons.mp hx with rfl | hx
    · exact ⟨⟨by unfold PyData.showable; exact q1, by unfold PyData.leavesShort; exact q2, by unfold PyData.bulk; omega, by unfold PyData.depth; omega⟩, by unfold PyData.bulk; omega, by unfold PyData.depth; omega⟩
    rcases List.mem_cons.mp hx with rfl | hx
    · exact (tup_fits (by omega) hpre).1
    rcases List.mem_cons.mp hx with rfl | hx
    · exact ints_fits (by omega) plo
    · rw [List.mem_singleton.mp hx]
      obtain ⟨h1, h2, h3, h4⟩ := ck_kv cs (E.filter al) clo
      have l4 := List.length_filter_le al E
      exact ⟨ck_fits lfE clo, by unfold PyData.bulk; omega, by unfold PyData.depth; omega⟩
  have el : ∀ {G : Hp}, HRows G D HL → G xa = some (.tup (pre.map V.int)) → G pa = some (.lst (PP.map V.int)) → G cd = some (.dK (ck (E.filter al) cs)) → ∀ (i : Nat) (x : V) (dd : PyData), [V.ref D, .ref xa, .ref pa, .ref cd][i]? = some x →
      [PyData.list (HL.map hdD), .tuple (pre.map PyData.int), .list (PP.map PyData.int), .dict ((ckD (E.filter al) cs).map fun kv => (keyD kv.1, kv.2))][i]? = some dd → ∃ S : Prop, Shw S G x dd ∧ (S → dd.hasDict = false) := fun {G} g0 g1 g2 g3 i x dd hx hd => by
    match i, hx, hd with
    | 0, hx, hd => cases hx; cases hd; exact ⟨True, hrows_shw trivial g0, fun _ => by unfold PyData.hasDict; exact q5⟩
    | 1, hx, hd => cases hx; cases hd; exact ⟨True, tup_shw g1, fun _ => (tup_fits (by omega) hpre).2⟩
    | 2, hx, hd => cases hx; cases hd; exact ⟨True, ints_shw trivial g2, fun _ => ints_no plo⟩
    | 3, hx, hd => cases hx; cases hd; exact ⟨False, ck_shw g3, nofun⟩

  -- both limits
  refine ⟨_, rfl, d, sc, 7, rfl, by decide, by decide, drG, fun u o u0 u7 no drX => ⟨(by show 2 ≤ sizeLine; decide), fun tp htp => ?_⟩⟩
  have kd : Kp [d] G (upd G d o) := drG.step
  have kT := Kp.new (M := []) (o := .tup [.int 500, .int u]) htp
  have htpT : (upd (upd G d o) tp (.tup [.int 500, .int u])) tp = some (.tup [.int 500, .int u]) := upd_same
  have ST := (SG.kd drG.dl.choose_spec dM kd).new kT
  obtain ⟨asG, hDG, _⟩ := id rowsG
  have nDd : D ≠ d := drG.noR hDG
  have rowsT' := (rowsG.kp kd (by simpa using nDd)).kp kT (by simp)
  have hPPT := kT.k _ _ (kd.k _ _ hPPG (by simpa using drG.noI hPPG)) (by simp)
  have ncd2 : cd ≠ d := fun z => by obtain ⟨xs, e⟩ := drG.dl; rw [← z, hcG] at e; cases e
  have hcT := kT.k _ _ (kd.k _ _ hcG (by simpa using ncd2)) (by simp)
  have hxT := kT.t _ _ (kd.t _ _ hxG)
  have hszT := kT.k _ _ (kd.k _ _ hszG (by simpa using drG.noI hszG)) (by simp)
  have cBT := (cBG.kp kd fun a' L' e => by simpa using drG.noI e).new kT
  obtain ⟨HT, hHT⟩ : ∃ HT, upd (upd G d o) tp (.tup [.int 500, .int u]) = HT := ⟨_, rfl⟩
  rw [hHT] at htpT ST rowsT' hPPT hcT hxT hszT cBT ⊢
  obtain ⟨tC, tL', tN⟩ := ST.out
  obtain ⟨asT, hDT, _⟩ := id rowsT'
  have DMT : D ∉ s.M := ST.out_ref hDT
  have lHL5 : HL.length ≤ 5 := by omega
  refine ⟨tp, rfl, ⟨_, SqT.of htpT⟩, for_tup (K := K) (a := tp) (xs := [.int 500, .int u]) (fun i σ H' => ∃ (v15 v16 v17 : Option V) (nsX : List Node), σ = [some (.ref a), some (.ref d), some (.ref ea), some (.ref s.p), some (.ref tr), some (.ref pa), some (.ref cd), some (.ref xa), some (.ref ch), some (.ref so'), some (.ref sz), v11, v12, some bv, some (.ref D), v15, v16, v17, none, none, none, none, none, none, none] ∧ Kp s.M HT H' ∧ StoAt C E s H' nsX (0 + 100000 + 8000 * L.length + 4096 * i) ∧ Pre nsG nsX)
    ⟨none, none, none, nsG, rfl, .refl, by simpa using ST, .refl _⟩ (fun i σ H' _ p => ?_) (fun i x σ H' hx p => ?_) (fun σ H' p => ?_)⟩
  · obtain ⟨v15, v16, v17, nsX, rfl, k, _⟩ := p
    exact SqT.of (k.t _ _ htpT)
  · obtain ⟨v15, v16, v17, nsX, rfl, kX, SX, pX⟩ := p
    obtain ⟨mo, m0, hi2, rfl⟩ : ∃ mo : Int, 0 ≤ mo ∧ i < 2 ∧ x = .int mo := by
      match i, hx with
      | 0, hx => cases hx; exact ⟨500, by omega, by omega, rfl⟩
      | 1, hx => cases hx; exact ⟨u, u0, by omega, rfl⟩
      | n + 2, hx => simp at hx
    have rowsX := rowsT'.kp kX DMT
    have hPPX := kX.k _ _ hPPT (tL' _ _ hPPT)
    have hcX := kX.k _ _ hcT (tC _ _ hcT)
    have hxX := kX.t _ _ hxT
    have hszX := kX.k _ _ hszT (tL' _ _ hszT)
    have cBX := cBT.kp kX tL'
    refine ⟨_, rfl, _, rfl, _, rfl, _, rfl, (by show 4 ≤ sizeLine; decide), fun pk hpk => ?_⟩
    have kK := Kp.new (M := []) (o := .lst [.ref D, .ref xa, .ref pa, .ref cd]) hpk
    refine ⟨pk, _, _, rfl, upd_same, by simp, rfl, el (rowsX.kp kK (by simp)) (kK.t _ _ hxX) (kK.k _ _ hPPX (by simp)) (kK.k _ _ hcX (by simp)), fits, ?_⟩
    have SK := SX.new kK
    have rowsK := rowsX.kp kK (by simp)
    have hPPK := kK.k _ _ hPPX (by simp)
    have hcK := kK.k _ _ hcX (by simp)
    have hxK := kK.t _ _ hxX
    have hszK := kK.k _ _ hszX (by simp)
    have cBK := cBX.new kK
    obtain ⟨HK, hHK⟩ : ∃ HK, upd H' pk (.lst [.ref D, .ref xa, .ref pa, .ref cd]) = HK := ⟨_, rfl⟩
    rw [hHK] at SK rowsK hPPK hcK hxK hszK cBK kK ⊢
    obtain ⟨uC, uL, uN⟩ := SK.out
    refine ⟨fun σ' HX => ∃ (v17 : Option V) (nsY : List Node), σ' = [some (.ref a), some (.ref d), some (.ref ea), some (.ref s.p), some (.ref tr), some (.ref pa), some (.ref cd), some (.ref xa), some (.ref ch), some (.ref so'), some (.ref sz), v11, v12, some bv, some (.ref D), some (.int mo), some (.str (PyData.list [.list (HL.map hdD), .tuple (pre.map PyData.int), .list (PP.map PyData.int), .dict ((ckD (E.filter al) cs).map fun kv => (keyD kv.1, kv.2))]).shown), v17, none, none, none, none, none, none, none] ∧ Kp s.M HK HX ∧ StoAt C E s HX nsY (0 + 100000 + 8000 * L.length + 4096 * (i + 1)) ∧ Pre nsG nsY, ?_, ?_⟩
    · have hlX := pX.len
      have eF : ((HL.filter fun p => begins pre p.1).map Prod.snd).map (fun c f => ev nsX f c) = hs := by
        rw [List.map_map, ← hhs, ← hCh]
        refine filt_pair (F := fun q : (Int × Int) × Nat => fun f => ev nsX f q.2) (G := fun p : (Int × Int) × Tr => p.2.ev) (fun z => begins pre z) lHL fun i p q hp hq => ?_
        obtain ⟨b1, b2, b3⟩ := hHL i p q hp hq
        exact ⟨b1, funext fun f => by show ev nsX f q.2 = _; rw [pX.ev SG.ok SX.ok f _ b2, b3]⟩
      have eK : ∀ k, orK nsX ((HL.filter fun p => begins pre p.1).map Prod.snd) k = gK hs k := fun k => by rw [orK_gK, eF]
      have eL : (HL.filter fun p => begins pre p.1).length = Ch.length := by
        have := congrArg List.length eF
        rw [List.length_map, List.length_map, lhs] at this
        exact this
      have eA : (fun f => !((HL.filter fun p => begins pre p.1).map Prod.snd).any fun c => ev nsX f c) = fun f => !gN f := by
        funext f
        rw [← orK_all, eK, List.length_map, eL, hgN]
      refine ⟨_, rfl, _, rfl, _, rfl, _, rfl, _, rfl, _, rfl, rfl, rfl, E, s, nsX, _, D, xa, pa, cd, HL, pre, PP, _, cs, al2, mo, rfl, SK, by omega, en.up, by omega, rowsK, fun q hq => by have := hHLc q hq; omega, lHL5, hxK, lp, hPPK, hcK, hkv, halE, h0, fun v GA nsA r5 kA SA' pA b5 c5 le5 => ?_, fun GX nsX' k m kX' SX' pX' h1 h2 hm big => ?_⟩
      · rw [hpf, eA] at b5
        obtain rfl := b5.uniq bB
        have hszA' := kA.k _ _ hszK (uL _ _ hszK)
        have bd : ∀ n ∈ (0 :: NS : List Int), n ≤ mo := fun n hn => by
          rcases List.mem_cons.mp hn with rfl | hn
          · exact m0
          · obtain ⟨j, hj⟩ := List.mem_iff_getElem?.mp hn
            have hjl := (List.getElem?_eq_some_iff.mp hj).1
            obtain ⟨m, rfl, hm⟩ := hNS j n hj
            exact le5 (j + 1) m (by omega) (by omega) (by rw [eK]; exact hm)
        refine ⟨_, rfl, sz, (0 :: NS), rfl, SqL.of hszA', by simp, fun mx hmx hle => ⟨_, rfl, _, _, rfl, rfl, _, rfl, iteF_of (decide_eq_false (by have := bd mx hmx; omega)) ?_⟩⟩
        refine ⟨_, rfl, _, rfl, v, bv, chD cs r5, 2, rfl, c5.has, (cBK.kp kA uL).has, chD_fit c5, by decide, fun HI kI => ⟨_, rfl, iteF ?_⟩⟩
        exact ⟨_, nsA, rfl, kA.trans (kI.wide fun b m => absurd m List.not_mem_nil), (SA'.new kI).mono (by omega), pX.trans pA⟩
      · have hszX' := kX'.k _ _ hszK (uL _ _ hszK)
        rw [eK] at hm
        have hkN : k - 1 < NS.length := by omega
        obtain ⟨m', e', hm'⟩ := hNS (k - 1) _ (List.getElem?_eq_getElem hkN)
        rw [show k - 1 + 1 = k by omega] at hm'
        obtain rfl := hm'.uniq hm
        have big2 : mo < NS.foldl max 0 := by
          have h3 := (fmax_le NS 0).2 _ (List.getElem_mem hkN)
          rw [e'] at h3
          omega
        refine ⟨true, ef.met, fun _ ae hae => ?_, fun z => nomatch z⟩
        refine ⟨_, rfl, sz, 0, NS, rfl, hszX', _, rfl, _, _, rfl, rfl, _, rfl, iteF_of (decide_eq_false (by omega)) ?_⟩
        refine ⟨_, rfl, DE, rfl, rfl, ef.ec, _, _, _, rfl, fun u r => r, ef.ne, _, rfl, iteF ?_⟩
        refine ⟨_, rfl, DE, rfl, rfl, ef.ec, _, _, _, rfl, fun u r => r, ef.no nDS, _, rfl, iteF ?_⟩
        exact ⟨_, nsX', rfl, kX', SX'.mono (by omega), pX.trans pX'⟩
    · rintro σ' HX ⟨v17, nsY, rfl, kY, SY, pY⟩
      have rowsY := rowsK.kp kY (by
        obtain ⟨asK, hDK, _⟩ := id rowsK
        exact SK.out_ref hDK)
      refine ⟨_, rfl, _, rfl, _, rfl, _, rfl, (by show 4 ≤ sizeLine; decide), fun p2 hp2 => ?_⟩
      have k2 := Kp.new (M := []) (o := .lst [.ref D, .ref xa, .ref pa, .ref cd]) hp2
      refine ⟨p2, _, _, rfl, upd_same, by simp, rfl, el (rowsY.kp k2 (by simp)) (k2.t _ _ (kY.t _ _ hxK)) (k2.k _ _ (kY.k _ _ hPPK (uL _ _ hPPK)) (by simp)) (k2.k _ _ (kY.k _ _ hcK (uC _ _ hcK)) (by simp)), fits, _, rfl, rfl, _, rfl, iteF_of (by rw [decide_eq_true rfl]; rfl) ?_⟩
      have wide : ∀ {A B : Hp}, Kp [] A B → Kp s.M A B := fun k => k.wide fun b m => absurd m List.not_mem_nil
      exact ⟨_, _, _, nsY, rfl, ((kX.trans (wide kK)).trans kY).trans (wide k2), SY.new k2, pY⟩
  · obtain ⟨v15, v16, v17, nsX, rfl, _⟩ := p
    rfl
end

/-! ### what the top has written -/
theorem all_mk {P : Program} {w : World} {K : PySem.W.Frag} {h : Heap} {mg : Str → Option Value} {fa C f_Ldraw f_Lnext f_Lentries f_Ltree f_Lbuild f_Ltrue f_Lsubsets f_Ltruth f_Lfixed f_Ltop f_Ldiagrams f_Lturned f_Lcosts f_Lchange_key f_Lbest f_Lcandidates f_Lsame f_change_key f_better f_with_turned f_cheapest f_beginning f_law f_none_of D_none_of f_Dinit f_Dmake f_Dthere f_Dnode f_Dcombined f_Dsplit f_Dconjunction f_Ddisjunction f_Ddiffers f_Dnegation f_Dreached f_Dparts f_Dsize aL f_and_leaf f_or_leaf f_differ_leaf CW f_Way_init f_Way_meet f_Way_meet_any DE LE SE : Addr}
    {od_Ldraw an_Ldraw : Option Addr} {sl_Ldraw : Array (Option Value)} {oc_Ldraw dc_Ldraw pm_Ldraw cd_Ldraw ct_Ldraw : Value}
    {kV_Ldraw : Value}
    {od_Lnext an_Lnext : Option Addr} {sl_Lnext : Array (Option Value)} {oc_Lnext dc_Lnext pm_Lnext cd_Lnext ct_Lnext : Value}
    {kV_Lnext : Value}
    {od_Lentries an_Lentries : Option Addr} {sl_Lentries : Array (Option Value)} {oc_Lentries dc_Lentries pm_Lentries cd_Lentries ct_Lentries : Value}
    {kV_Lentries : Value}
    {od_Ltree an_Ltree : Option Addr} {sl_Ltree : Array (Option Value)} {oc_Ltree dc_Ltree pm_Ltree cd_Ltree ct_Ltree : Value}
    {kV_Ltree : Value}
    {od_Lbuild an_Lbuild : Option Addr} {sl_Lbuild : Array (Option Value)} {oc_Lbuild dc_Lbuild pm_Lbuild cd_Lbuild ct_Lbuild : Value}
    {kV_Lbuild : Value}
    {od_Ltrue an_Ltrue : Option Addr} {sl_Ltrue : Array (Option Value)} {oc_Ltrue dc_Ltrue pm_Ltrue cd_Ltrue ct_Ltrue : Value}
    {kV_Ltrue : Value}
    {od_Lsubsets an_Lsubsets : Option Addr} {sl_Lsubsets : Array (Option Value)} {oc_Lsubsets dc_Lsubsets pm_Lsubsets cd_Lsubsets ct_Lsubsets : Value}
    {kV_Lsubsets : Value}
    {od_Ltruth an_Ltruth : Option Addr} {sl_Ltruth : Array (Option Value)} {oc_Ltruth dc_Ltruth pm_Ltruth cd_Ltruth ct_Ltruth : Value}
    {kV_Ltruth : Value}
    {od_Lfixed an_Lfixed : Option Addr} {sl_Lfixed : Array (Option Value)} {oc_Lfixed dc_Lfixed pm_Lfixed cd_Lfixed ct_Lfixed : Value}
    {kV_Lfixed : Value}
    {od_Ltop an_Ltop : Option Addr} {sl_Ltop : Array (Option Value)} {oc_Ltop dc_Ltop pm_Ltop cd_Ltop ct_Ltop : Value}
    {kV_Ltop : Value}
    {od_Ldiagrams an_Ldiagrams : Option Addr} {sl_Ldiagrams : Array (Option Value)} {oc_Ldiagrams dc_Ldiagrams pm_Ldiagrams cd_Ldiagrams ct_Ldiagrams : Value}
    {kV_Ldiagrams : Value}
    {od_Lturned an_Lturned : Option Addr} {sl_Lturned : Array (Option Value)} {oc_Lturned dc_Lturned pm_Lturned cd_Lturned ct_Lturned : Value}
    {kV_Lturned : Value}
    {od_Lcosts an_Lcosts : Option Addr} {sl_Lcosts : Array (Option Value)} {oc_Lcosts dc_Lcosts pm_Lcosts cd_Lcosts ct_Lcosts : Value}
    {kV_Lcosts : Value}
    {od_Lchange_key an_Lchange_key : Option Addr} {sl_Lchange_key : Array (Option Value)} {oc_Lchange_key dc_Lchange_key pm_Lchange_key cd_Lchange_key ct_Lchange_key : Value}
    {kV_Lchange_key : Value}
    {od_Lbest an_Lbest : Option Addr} {sl_Lbest : Array (Option Value)} {oc_Lbest dc_Lbest pm_Lbest cd_Lbest ct_Lbest : Value}
    {kV_Lbest : Value}
    {od_Lcandidates an_Lcandidates : Option Addr} {sl_Lcandidates : Array (Option Value)} {oc_Lcandidates dc_Lcandidates pm_Lcandidates cd_Lcandidates ct_Lcandidates : Value}
    {kV_Lcandidates : Value}
    {od_Lsame an_Lsame : Option Addr} {sl_Lsame : Array (Option Value)} {oc_Lsame dc_Lsame pm_Lsame cd_Lsame ct_Lsame : Value}
    {kV_Lsame : Value}
    {od_change_key an_change_key : Option Addr} {sl_change_key : Array (Option Value)} {oc_change_key dc_change_key pm_change_key cd_change_key ct_change_key : Value}
    {kV_change_key : Value}
    {od_better an_better : Option Addr} {sl_better : Array (Option Value)} {oc_better dc_better pm_better cd_better ct_better : Value}
    {kV_better : Value}
    {od_with_turned an_with_turned : Option Addr} {sl_with_turned : Array (Option Value)} {oc_with_turned dc_with_turned pm_with_turned cd_with_turned ct_with_turned : Value}
    {kV_with_turned : Value}
    {od_cheapest an_cheapest : Option Addr} {sl_cheapest : Array (Option Value)} {oc_cheapest dc_cheapest pm_cheapest cd_cheapest ct_cheapest : Value}
    {kV_cheapest : Value}
    {od_beginning an_beginning : Option Addr} {sl_beginning : Array (Option Value)} {oc_beginning dc_beginning pm_beginning cd_beginning ct_beginning : Value}
    {kV_beginning : Value}
    {od_law an_law : Option Addr} {sl_law : Array (Option Value)} {oc_law dc_law pm_law cd_law ct_law : Value}
    {kV_law : Value}
    {od_none_of an_none_of : Option Addr} {sl_none_of : Array (Option Value)} {oc_none_of dc_none_of pm_none_of cd_none_of ct_none_of : Value}
    {u_none_of_most_nodes : Value}
    {od_Dinit an_Dinit : Option Addr} {sl_Dinit : Array (Option Value)} {oc_Dinit dc_Dinit pm_Dinit cd_Dinit ct_Dinit : Value}
    {kV_Dinit : Value}
    {od_Dmake an_Dmake : Option Addr} {sl_Dmake : Array (Option Value)} {oc_Dmake dc_Dmake pm_Dmake cd_Dmake ct_Dmake : Value}
    {kV_Dmake : Value}
    {od_Dthere an_Dthere : Option Addr} {sl_Dthere : Array (Option Value)} {oc_Dthere dc_Dthere pm_Dthere cd_Dthere ct_Dthere : Value}
    {kV_Dthere : Value}
    {od_Dnode an_Dnode : Option Addr} {sl_Dnode : Array (Option Value)} {oc_Dnode dc_Dnode pm_Dnode cd_Dnode ct_Dnode : Value}
    {kV_Dnode : Value}
    {od_Dcombined an_Dcombined : Option Addr} {sl_Dcombined : Array (Option Value)} {oc_Dcombined dc_Dcombined pm_Dcombined cd_Dcombined ct_Dcombined : Value}
    {kV_Dcombined : Value}
    {od_Dsplit an_Dsplit : Option Addr} {sl_Dsplit : Array (Option Value)} {oc_Dsplit dc_Dsplit pm_Dsplit cd_Dsplit ct_Dsplit : Value}
    {kV_Dsplit : Value}
    {od_Dconjunction an_Dconjunction : Option Addr} {sl_Dconjunction : Array (Option Value)} {oc_Dconjunction dc_Dconjunction pm_Dconjunction cd_Dconjunction ct_Dconjunction : Value}
    {kV_Dconjunction : Value}
    {od_Ddisjunction an_Ddisjunction : Option Addr} {sl_Ddisjunction : Array (Option Value)} {oc_Ddisjunction dc_Ddisjunction pm_Ddisjunction cd_Ddisjunction ct_Ddisjunction : Value}
    {kV_Ddisjunction : Value}
    {od_Ddiffers an_Ddiffers : Option Addr} {sl_Ddiffers : Array (Option Value)} {oc_Ddiffers dc_Ddiffers pm_Ddiffers cd_Ddiffers ct_Ddiffers : Value}
    {kV_Ddiffers : Value}
    {od_Dnegation an_Dnegation : Option Addr} {sl_Dnegation : Array (Option Value)} {oc_Dnegation dc_Dnegation pm_Dnegation cd_Dnegation ct_Dnegation : Value}
    {kV_Dnegation : Value}
    {od_Dreached an_Dreached : Option Addr} {sl_Dreached : Array (Option Value)} {oc_Dreached dc_Dreached pm_Dreached cd_Dreached ct_Dreached : Value}
    {kV_Dreached : Value}
    {od_Dparts an_Dparts : Option Addr} {sl_Dparts : Array (Option Value)} {oc_Dparts dc_Dparts pm_Dparts cd_Dparts ct_Dparts : Value}
    {kV_Dparts : Value}
    {od_Dsize an_Dsize : Option Addr} {sl_Dsize : Array (Option Value)} {oc_Dsize dc_Dsize pm_Dsize cd_Dsize ct_Dsize : Value}
    {kV_Dsize : Value}
    {esL : Array DictEntry} {nL : Nat}
    {od_and_leaf an_and_leaf : Option Addr} {sl_and_leaf : Array (Option Value)} {oc_and_leaf dc_and_leaf pm_and_leaf cd_and_leaf ct_and_leaf : Value}
    {kV_and_leaf : Value}
    {od_or_leaf an_or_leaf : Option Addr} {sl_or_leaf : Array (Option Value)} {oc_or_leaf dc_or_leaf pm_or_leaf cd_or_leaf ct_or_leaf : Value}
    {kV_or_leaf : Value}
    {od_differ_leaf an_differ_leaf : Option Addr} {sl_differ_leaf : Array (Option Value)} {oc_differ_leaf dc_differ_leaf pm_differ_leaf cd_differ_leaf ct_differ_leaf : Value}
    {kV_differ_leaf : Value}
    {od_Way_init an_Way_init : Option Addr} {sl_Way_init : Array (Option Value)} {oc_Way_init dc_Way_init pm_Way_init cd_Way_init ct_Way_init : Value}
    {kV_Way_init : Value}
    {od_Way_meet an_Way_meet : Option Addr} {sl_Way_meet : Array (Option Value)} {oc_Way_meet dc_Way_meet pm_Way_meet cd_Way_meet ct_Way_meet : Value}
    {kV_Way_meet : Value}
    {od_Way_meet_any an_Way_meet_any : Option Addr} {sl_Way_meet_any : Array (Option Value)} {oc_Way_meet_any dc_Way_meet_any pm_Way_meet_any cd_Way_meet_any ct_Way_meet_any : Value}
    {kV_Way_meet_any : Value}
    {w_NEVER : Value}
    {w_ALWAYS : Value}
    (X : K.In h) (G : h.Ns mainGlobals mg) (hfa : mg "law" = some (.ref fa))
    (aC : PySem.W.nsIn K mainGlobals "Diagrams" = some (some (.ref C)))
    (a_Ldraw : PySem.W.nsIn K mainGlobals "_law_draw" = some (some (.ref f_Ldraw)))
    (l_Ldraw : K.lookup f_Ldraw = some ⟨oc_Ldraw, od_Ldraw, .func (PySem.W.fnOf "_law_draw" "_law_draw" (defArgs sD_Ldraw) (defBody sD_Ldraw) (defScope sD_Ldraw) .none kV_Ldraw dc_Ldraw pm_Ldraw an_Ldraw cd_Ldraw ct_Ldraw), sl_Ldraw⟩)
    (c_Ldraw : PySem.W.codeIn K cd_Ldraw "_law_draw" = true)
    (k_Ldraw : PySem.W.keepIn K (.ref f_Ldraw) = true)
    (a_Lnext : PySem.W.nsIn K mainGlobals "_law_next" = some (some (.ref f_Lnext)))
    (l_Lnext : K.lookup f_Lnext = some ⟨oc_Lnext, od_Lnext, .func (PySem.W.fnOf "_law_next" "_law_next" (defArgs sD_Lnext) (defBody sD_Lnext) (defScope sD_Lnext) .none kV_Lnext dc_Lnext pm_Lnext an_Lnext cd_Lnext ct_Lnext), sl_Lnext⟩)
    (c_Lnext : PySem.W.codeIn K cd_Lnext "_law_next" = true)
    (k_Lnext : PySem.W.keepIn K (.ref f_Lnext) = true)
    (a_Lentries : PySem.W.nsIn K mainGlobals "_law_entries" = some (some (.ref f_Lentries)))
    (l_Lentries : K.lookup f_Lentries = some ⟨oc_Lentries, od_Lentries, .func (PySem.W.fnOf "_law_entries" "_law_entries" (defArgs sD_Lentries) (defBody sD_Lentries) (defScope sD_Lentries) .none kV_Lentries dc_Lentries pm_Lentries an_Lentries cd_Lentries ct_Lentries), sl_Lentries⟩)
    (c_Lentries : PySem.W.codeIn K cd_Lentries "_law_entries" = true)
    (k_Lentries : PySem.W.keepIn K (.ref f_Lentries) = true)
    (a_Ltree : PySem.W.nsIn K mainGlobals "_law_tree" = some (some (.ref f_Ltree)))
    (l_Ltree : K.lookup f_Ltree = some ⟨oc_Ltree, od_Ltree, .func (PySem.W.fnOf "_law_tree" "_law_tree" (defArgs sD_Ltree) (defBody sD_Ltree) (defScope sD_Ltree) .none kV_Ltree dc_Ltree pm_Ltree an_Ltree cd_Ltree ct_Ltree), sl_Ltree⟩)
    (c_Ltree : PySem.W.codeIn K cd_Ltree "_law_tree" = true)
    (k_Ltree : PySem.W.keepIn K (.ref f_Ltree) = true)
    (a_Lbuild : PySem.W.nsIn K mainGlobals "_law_build" = some (some (.ref f_Lbuild)))
    (l_Lbuild : K.lookup f_Lbuild = some ⟨oc_Lbuild, od_Lbuild, .func (PySem.W.fnOf "_law_build" "_law_build" (defArgs sD_Lbuild) (defBody sD_Lbuild) (defScope sD_Lbuild) .none kV_Lbuild dc_Lbuild pm_Lbuild an_Lbuild cd_Lbuild ct_Lbuild), sl_Lbuild⟩)
    (c_Lbuild : PySem.W.codeIn K cd_Lbuild "_law_build" = true)
    (k_Lbuild : PySem.W.keepIn K (.ref f_Lbuild) = true)
    (a_Ltrue : PySem.W.nsIn K mainGlobals "_law_true" = some (some (.ref f_Ltrue)))
    (l_Ltrue : K.lookup f_Ltrue = some ⟨oc_Ltrue, od_Ltrue, .func (PySem.W.fnOf "_law_true" "_law_true" (defArgs sD_Ltrue) (defBody sD_Ltrue) (defScope sD_Ltrue) .none kV_Ltrue dc_Ltrue pm_Ltrue an_Ltrue cd_Ltrue ct_Ltrue), sl_Ltrue⟩)
    (c_Ltrue : PySem.W.codeIn K cd_Ltrue "_law_true" = true)
    (k_Ltrue : PySem.W.keepIn K (.ref f_Ltrue) = true)
    (a_Lsubsets : PySem.W.nsIn K mainGlobals "_law_subsets" = some (some (.ref f_Lsubsets)))
    (l_Lsubsets : K.lookup f_Lsubsets = some ⟨oc_Lsubsets, od_Lsubsets, .func (PySem.W.fnOf "_law_subsets" "_law_subsets" (defArgs sD_Lsubsets) (defBody sD_Lsubsets) (defScope sD_Lsubsets) .none kV_Lsubsets dc_Lsubsets pm_Lsubsets an_Lsubsets cd_Lsubsets ct_Lsubsets), sl_Lsubsets⟩)
    (c_Lsubsets : PySem.W.codeIn K cd_Lsubsets "_law_subsets" = true)
    (k_Lsubsets : PySem.W.keepIn K (.ref f_Lsubsets) = true)
    (a_Ltruth : PySem.W.nsIn K mainGlobals "_law_truth" = some (some (.ref f_Ltruth)))
    (l_Ltruth : K.lookup f_Ltruth = some ⟨oc_Ltruth, od_Ltruth, .func (PySem.W.fnOf "_law_truth" "_law_truth" (defArgs sD_Ltruth) (defBody sD_Ltruth) (defScope sD_Ltruth) .none kV_Ltruth dc_Ltruth pm_Ltruth an_Ltruth cd_Ltruth ct_Ltruth), sl_Ltruth⟩)
    (c_Ltruth : PySem.W.codeIn K cd_Ltruth "_law_truth" = true)
    (k_Ltruth : PySem.W.keepIn K (.ref f_Ltruth) = true)
    (a_Lfixed : PySem.W.nsIn K mainGlobals "_law_fixed" = some (some (.ref f_Lfixed)))
    (l_Lfixed : K.lookup f_Lfixed = some ⟨oc_Lfixed, od_Lfixed, .func (PySem.W.fnOf "_law_fixed" "_law_fixed" (defArgs sD_Lfixed) (defBody sD_Lfixed) (defScope sD_Lfixed) .none kV_Lfixed dc_Lfixed pm_Lfixed an_Lfixed cd_Lfixed ct_Lfixed), sl_Lfixed⟩)
    (c_Lfixed : PySem.W.codeIn K cd_Lfixed "_law_fixed" = true)
    (k_Lfixed : PySem.W.keepIn K (.ref f_Lfixed) = true)
    (a_Ltop : PySem.W.nsIn K mainGlobals "_law_top" = some (some (.ref f_Ltop)))
    (l_Ltop : K.lookup f_Ltop = some ⟨oc_Ltop, od_Ltop, .func (PySem.W.fnOf "_law_top" "_law_top" (defArgs sD_Ltop) (defBody sD_Ltop) (defScope sD_Ltop) .none kV_Ltop dc_Ltop pm_Ltop an_Ltop cd_Ltop ct_Ltop), sl_Ltop⟩)
    (c_Ltop : PySem.W.codeIn K cd_Ltop "_law_top" = true)
    (k_Ltop : PySem.W.keepIn K (.ref f_Ltop) = true)
    (a_Ldiagrams : PySem.W.nsIn K mainGlobals "_law_diagrams" = some (some (.ref f_Ldiagrams)))
    (l_Ldiagrams : K.lookup f_Ldiagrams = some ⟨oc_Ldiagrams, od_Ldiagrams, .func (PySem.W.fnOf "_law_diagrams" "_law_diagrams" (defArgs sD_Ldiagrams) (defBody sD_Ldiagrams) (defScope sD_Ldiagrams) .none kV_Ldiagrams dc_Ldiagrams pm_Ldiagrams an_Ldiagrams cd_Ldiagrams ct_Ldiagrams), sl_Ldiagrams⟩)
    (c_Ldiagrams : PySem.W.codeIn K cd_Ldiagrams "_law_diagrams" = true)
    (k_Ldiagrams : PySem.W.keepIn K (.ref f_Ldiagrams) = true)
    (a_Lturned : PySem.W.nsIn K mainGlobals "_law_turned" = some (some (.ref f_Lturned)))
    (l_Lturned : K.lookup f_Lturned = some ⟨oc_Lturned, od_Lturned, .func (PySem.W.fnOf "_law_turned" "_law_turned" (defArgs sD_Lturned) (defBody sD_Lturned) (defScope sD_Lturned) .none kV_Lturned dc_Lturned pm_Lturned an_Lturned cd_Lturned ct_Lturned), sl_Lturned⟩)
    (c_Lturned : PySem.W.codeIn K cd_Lturned "_law_turned" = true)
    (k_Lturned : PySem.W.keepIn K (.ref f_Lturned) = true)
    (a_Lcosts : PySem.W.nsIn K mainGlobals "_law_costs" = some (some (.ref f_Lcosts)))
    (l_Lcosts : K.lookup f_Lcosts = some ⟨oc_Lcosts, od_Lcosts, .func (PySem.W.fnOf "_law_costs" "_law_costs" (defArgs sD_Lcosts) (defBody sD_Lcosts) (defScope sD_Lcosts) .none kV_Lcosts dc_Lcosts pm_Lcosts an_Lcosts cd_Lcosts ct_Lcosts), sl_Lcosts⟩)
    (c_Lcosts : PySem.W.codeIn K cd_Lcosts "_law_costs" = true)
    (k_Lcosts : PySem.W.keepIn K (.ref f_Lcosts) = true)
    (a_Lchange_key : PySem.W.nsIn K mainGlobals "_law_change_key" = some (some (.ref f_Lchange_key)))
    (l_Lchange_key : K.lookup f_Lchange_key = some ⟨oc_Lchange_key, od_Lchange_key, .func (PySem.W.fnOf "_law_change_key" "_law_change_key" (defArgs sD_Lchange_key) (defBody sD_Lchange_key) (defScope sD_Lchange_key) .none kV_Lchange_key dc_Lchange_key pm_Lchange_key an_Lchange_key cd_Lchange_key ct_Lchange_key), sl_Lchange_key⟩)
    (c_Lchange_key : PySem.W.codeIn K cd_Lchange_key "_law_change_key" = true)
    (k_Lchange_key : PySem.W.keepIn K (.ref f_Lchange_key) = true)
    (a_Lbest : PySem.W.nsIn K mainGlobals "_law_best" = some (some (.ref f_Lbest)))
    (l_Lbest : K.lookup f_Lbest = some ⟨oc_Lbest, od_Lbest, .func (PySem.W.fnOf "_law_best" "_law_best" (defArgs sD_Lbest) (defBody sD_Lbest) (defScope sD_Lbest) .none kV_Lbest dc_Lbest pm_Lbest an_Lbest cd_Lbest ct_Lbest), sl_Lbest⟩)
    (c_Lbest : PySem.W.codeIn K cd_Lbest "_law_best" = true)
    (k_Lbest : PySem.W.keepIn K (.ref f_Lbest) = true)
    (a_Lcandidates : PySem.W.nsIn K mainGlobals "_law_candidates" = some (some (.ref f_Lcandidates)))
    (l_Lcandidates : K.lookup f_Lcandidates = some ⟨oc_Lcandidates, od_Lcandidates, .func (PySem.W.fnOf "_law_candidates" "_law_candidates" (defArgs sD_Lcandidates) (defBody sD_Lcandidates) (defScope sD_Lcandidates) .none kV_Lcandidates dc_Lcandidates pm_Lcandidates an_Lcandidates cd_Lcandidates ct_Lcandidates), sl_Lcandidates⟩)
    (c_Lcandidates : PySem.W.codeIn K cd_Lcandidates "_law_candidates" = true)
    (k_Lcandidates : PySem.W.keepIn K (.ref f_Lcandidates) = true)
    (a_Lsame : PySem.W.nsIn K mainGlobals "_law_same" = some (some (.ref f_Lsame)))
    (l_Lsame : K.lookup f_Lsame = some ⟨oc_Lsame, od_Lsame, .func (PySem.W.fnOf "_law_same" "_law_same" (defArgs sD_Lsame) (defBody sD_Lsame) (defScope sD_Lsame) .none kV_Lsame dc_Lsame pm_Lsame an_Lsame cd_Lsame ct_Lsame), sl_Lsame⟩)
    (c_Lsame : PySem.W.codeIn K cd_Lsame "_law_same" = true)
    (k_Lsame : PySem.W.keepIn K (.ref f_Lsame) = true)
    (a_change_key : PySem.W.nsIn K mainGlobals "change_key" = some (some (.ref f_change_key)))
    (l_change_key : K.lookup f_change_key = some ⟨oc_change_key, od_change_key, .func (PySem.W.fnOf "change_key" "change_key" (defArgs sD_change_key) (defBody sD_change_key) (defScope sD_change_key) .none kV_change_key dc_change_key pm_change_key an_change_key cd_change_key ct_change_key), sl_change_key⟩)
    (c_change_key : PySem.W.codeIn K cd_change_key "change_key" = true)
    (k_change_key : PySem.W.keepIn K (.ref f_change_key) = true)
    (a_better : PySem.W.nsIn K mainGlobals "better" = some (some (.ref f_better)))
    (l_better : K.lookup f_better = some ⟨oc_better, od_better, .func (PySem.W.fnOf "better" "better" (defArgs sD_better) (defBody sD_better) (defScope sD_better) .none kV_better dc_better pm_better an_better cd_better ct_better), sl_better⟩)
    (c_better : PySem.W.codeIn K cd_better "better" = true)
    (k_better : PySem.W.keepIn K (.ref f_better) = true)
    (a_with_turned : PySem.W.nsIn K mainGlobals "with_turned" = some (some (.ref f_with_turned)))
    (l_with_turned : K.lookup f_with_turned = some ⟨oc_with_turned, od_with_turned, .func (PySem.W.fnOf "with_turned" "with_turned" (defArgs sD_with_turned) (defBody sD_with_turned) (defScope sD_with_turned) .none kV_with_turned dc_with_turned pm_with_turned an_with_turned cd_with_turned ct_with_turned), sl_with_turned⟩)
    (c_with_turned : PySem.W.codeIn K cd_with_turned "with_turned" = true)
    (k_with_turned : PySem.W.keepIn K (.ref f_with_turned) = true)
    (a_cheapest : PySem.W.nsIn K mainGlobals "cheapest" = some (some (.ref f_cheapest)))
    (l_cheapest : K.lookup f_cheapest = some ⟨oc_cheapest, od_cheapest, .func (PySem.W.fnOf "cheapest" "cheapest" (defArgs sD_cheapest) (defBody sD_cheapest) (defScope sD_cheapest) .none kV_cheapest dc_cheapest pm_cheapest an_cheapest cd_cheapest ct_cheapest), sl_cheapest⟩)
    (c_cheapest : PySem.W.codeIn K cd_cheapest "cheapest" = true)
    (k_cheapest : PySem.W.keepIn K (.ref f_cheapest) = true)
    (a_beginning : PySem.W.nsIn K mainGlobals "beginning" = some (some (.ref f_beginning)))
    (l_beginning : K.lookup f_beginning = some ⟨oc_beginning, od_beginning, .func (PySem.W.fnOf "beginning" "beginning" (defArgs sD_beginning) (defBody sD_beginning) (defScope sD_beginning) .none kV_beginning dc_beginning pm_beginning an_beginning cd_beginning ct_beginning), sl_beginning⟩)
    (c_beginning : PySem.W.codeIn K cd_beginning "beginning" = true)
    (k_beginning : PySem.W.keepIn K (.ref f_beginning) = true)
    (a_law : PySem.W.nsIn K mainGlobals "law" = some (some (.ref f_law)))
    (l_law : K.lookup f_law = some ⟨oc_law, od_law, .func (PySem.W.fnOf "law" "law" (defArgs sD_law) (defBody sD_law) (defScope sD_law) .none kV_law dc_law pm_law an_law cd_law ct_law), sl_law⟩)
    (c_law : PySem.W.codeIn K cd_law "law" = true)
    (k_law : PySem.W.keepIn K (.ref f_law) = true)
    (a_none_of : PySem.W.nsIn K mainGlobals "none_of" = some (some (.ref f_none_of)))
    (l_none_of : K.lookup f_none_of = some ⟨oc_none_of, od_none_of, .func (PySem.W.fnOf "none_of" "none_of" (defArgs sD_none_of) (defBody sD_none_of) (defScope sD_none_of) .none (.ref D_none_of) dc_none_of pm_none_of an_none_of cd_none_of ct_none_of), sl_none_of⟩)
    (c_none_of : PySem.W.codeIn K cd_none_of "none_of" = true)
    (k_none_of : PySem.W.keepIn K (.ref f_none_of) = true)
    (d_none_of_most_nodes : PySem.W.nsIn K D_none_of "most_nodes" = some (some u_none_of_most_nodes))
    (r_none_of_most_nodes : RelV (.int 500) u_none_of_most_nodes)
    (a_Dinit : PySem.W.findIn K (.ref C) "__init__" = some (some (.ref f_Dinit)))
    (i_Dinit : PySem.W.isFn K (.ref f_Dinit) = true)
    (l_Dinit : K.lookup f_Dinit = some ⟨oc_Dinit, od_Dinit, .func (PySem.W.fnOf "__init__" "Diagrams.__init__" (defArgs sD_Dinit) (defBody sD_Dinit) (defScope sD_Dinit) .none kV_Dinit dc_Dinit pm_Dinit an_Dinit cd_Dinit ct_Dinit), sl_Dinit⟩)
    (c_Dinit : PySem.W.codeIn K cd_Dinit "Diagrams.__init__" = true)
    (k_Dinit : PySem.W.keepIn K (.ref f_Dinit) = true)
    (a_Dmake : PySem.W.findIn K (.ref C) "make" = some (some (.ref f_Dmake)))
    (i_Dmake : PySem.W.isFn K (.ref f_Dmake) = true)
    (l_Dmake : K.lookup f_Dmake = some ⟨oc_Dmake, od_Dmake, .func (PySem.W.fnOf "make" "Diagrams.make" (defArgs sD_Dmake) (defBody sD_Dmake) (defScope sD_Dmake) .none kV_Dmake dc_Dmake pm_Dmake an_Dmake cd_Dmake ct_Dmake), sl_Dmake⟩)
    (c_Dmake : PySem.W.codeIn K cd_Dmake "Diagrams.make" = true)
    (k_Dmake : PySem.W.keepIn K (.ref f_Dmake) = true)
    (a_Dthere : PySem.W.findIn K (.ref C) "there" = some (some (.ref f_Dthere)))
    (i_Dthere : PySem.W.isFn K (.ref f_Dthere) = true)
    (l_Dthere : K.lookup f_Dthere = some ⟨oc_Dthere, od_Dthere, .func (PySem.W.fnOf "there" "Diagrams.there" (defArgs sD_Dthere) (defBody sD_Dthere) (defScope sD_Dthere) .none kV_Dthere dc_Dthere pm_Dthere an_Dthere cd_Dthere ct_Dthere), sl_Dthere⟩)
    (c_Dthere : PySem.W.codeIn K cd_Dthere "Diagrams.there" = true)
    (k_Dthere : PySem.W.keepIn K (.ref f_Dthere) = true)
    (a_Dnode : PySem.W.findIn K (.ref C) "node" = some (some (.ref f_Dnode)))
    (i_Dnode : PySem.W.isFn K (.ref f_Dnode) = true)
    (l_Dnode : K.lookup f_Dnode = some ⟨oc_Dnode, od_Dnode, .func (PySem.W.fnOf "node" "Diagrams.node" (defArgs sD_Dnode) (defBody sD_Dnode) (defScope sD_Dnode) .none kV_Dnode dc_Dnode pm_Dnode an_Dnode cd_Dnode ct_Dnode), sl_Dnode⟩)
    (c_Dnode : PySem.W.codeIn K cd_Dnode "Diagrams.node" = true)
    (k_Dnode : PySem.W.keepIn K (.ref f_Dnode) = true)
    (a_Dcombined : PySem.W.findIn K (.ref C) "_combined" = some (some (.ref f_Dcombined)))
    (i_Dcombined : PySem.W.isFn K (.ref f_Dcombined) = true)
    (l_Dcombined : K.lookup f_Dcombined = some ⟨oc_Dcombined, od_Dcombined, .func (PySem.W.fnOf "_combined" "Diagrams._combined" (defArgs sD_Dcombined) (defBody sD_Dcombined) (defScope sD_Dcombined) .none kV_Dcombined dc_Dcombined pm_Dcombined an_Dcombined cd_Dcombined ct_Dcombined), sl_Dcombined⟩)
    (c_Dcombined : PySem.W.codeIn K cd_Dcombined "Diagrams._combined" = true)
    (k_Dcombined : PySem.W.keepIn K (.ref f_Dcombined) = true)
    (a_Dsplit : PySem.W.findIn K (.ref C) "_split" = some (some (.ref f_Dsplit)))
    (i_Dsplit : PySem.W.isFn K (.ref f_Dsplit) = true)
    (l_Dsplit : K.lookup f_Dsplit = some ⟨oc_Dsplit, od_Dsplit, .func (PySem.W.fnOf "_split" "Diagrams._split" (defArgs sD_Dsplit) (defBody sD_Dsplit) (defScope sD_Dsplit) .none kV_Dsplit dc_Dsplit pm_Dsplit an_Dsplit cd_Dsplit ct_Dsplit), sl_Dsplit⟩)
    (c_Dsplit : PySem.W.codeIn K cd_Dsplit "Diagrams._split" = true)
    (k_Dsplit : PySem.W.keepIn K (.ref f_Dsplit) = true)
    (a_Dconjunction : PySem.W.findIn K (.ref C) "conjunction" = some (some (.ref f_Dconjunction)))
    (i_Dconjunction : PySem.W.isFn K (.ref f_Dconjunction) = true)
    (l_Dconjunction : K.lookup f_Dconjunction = some ⟨oc_Dconjunction, od_Dconjunction, .func (PySem.W.fnOf "conjunction" "Diagrams.conjunction" (defArgs sD_Dconjunction) (defBody sD_Dconjunction) (defScope sD_Dconjunction) .none kV_Dconjunction dc_Dconjunction pm_Dconjunction an_Dconjunction cd_Dconjunction ct_Dconjunction), sl_Dconjunction⟩)
    (c_Dconjunction : PySem.W.codeIn K cd_Dconjunction "Diagrams.conjunction" = true)
    (k_Dconjunction : PySem.W.keepIn K (.ref f_Dconjunction) = true)
    (a_Ddisjunction : PySem.W.findIn K (.ref C) "disjunction" = some (some (.ref f_Ddisjunction)))
    (i_Ddisjunction : PySem.W.isFn K (.ref f_Ddisjunction) = true)
    (l_Ddisjunction : K.lookup f_Ddisjunction = some ⟨oc_Ddisjunction, od_Ddisjunction, .func (PySem.W.fnOf "disjunction" "Diagrams.disjunction" (defArgs sD_Ddisjunction) (defBody sD_Ddisjunction) (defScope sD_Ddisjunction) .none kV_Ddisjunction dc_Ddisjunction pm_Ddisjunction an_Ddisjunction cd_Ddisjunction ct_Ddisjunction), sl_Ddisjunction⟩)
    (c_Ddisjunction : PySem.W.codeIn K cd_Ddisjunction "Diagrams.disjunction" = true)
    (k_Ddisjunction : PySem.W.keepIn K (.ref f_Ddisjunction) = true)
    (a_Ddiffers : PySem.W.findIn K (.ref C) "differs" = some (some (.ref f_Ddiffers)))
    (i_Ddiffers : PySem.W.isFn K (.ref f_Ddiffers) = true)
    (l_Ddiffers : K.lookup f_Ddiffers = some ⟨oc_Ddiffers, od_Ddiffers, .func (PySem.W.fnOf "differs" "Diagrams.differs" (defArgs sD_Ddiffers) (defBody sD_Ddiffers) (defScope sD_Ddiffers) .none kV_Ddiffers dc_Ddiffers pm_Ddiffers an_Ddiffers cd_Ddiffers ct_Ddiffers), sl_Ddiffers⟩)
    (c_Ddiffers : PySem.W.codeIn K cd_Ddiffers "Diagrams.differs" = true)
    (k_Ddiffers : PySem.W.keepIn K (.ref f_Ddiffers) = true)
    (a_Dnegation : PySem.W.findIn K (.ref C) "negation" = some (some (.ref f_Dnegation)))
    (i_Dnegation : PySem.W.isFn K (.ref f_Dnegation) = true)
    (l_Dnegation : K.lookup f_Dnegation = some ⟨oc_Dnegation, od_Dnegation, .func (PySem.W.fnOf "negation" "Diagrams.negation" (defArgs sD_Dnegation) (defBody sD_Dnegation) (defScope sD_Dnegation) .none kV_Dnegation dc_Dnegation pm_Dnegation an_Dnegation cd_Dnegation ct_Dnegation), sl_Dnegation⟩)
    (c_Dnegation : PySem.W.codeIn K cd_Dnegation "Diagrams.negation" = true)
    (k_Dnegation : PySem.W.keepIn K (.ref f_Dnegation) = true)
    (a_Dreached : PySem.W.findIn K (.ref C) "reached" = some (some (.ref f_Dreached)))
    (i_Dreached : PySem.W.isFn K (.ref f_Dreached) = true)
    (l_Dreached : K.lookup f_Dreached = some ⟨oc_Dreached, od_Dreached, .func (PySem.W.fnOf "reached" "Diagrams.reached" (defArgs sD_Dreached) (defBody sD_Dreached) (defScope sD_Dreached) .none kV_Dreached dc_Dreached pm_Dreached an_Dreached cd_Dreached ct_Dreached), sl_Dreached⟩)
    (c_Dreached : PySem.W.codeIn K cd_Dreached "Diagrams.reached" = true)
    (k_Dreached : PySem.W.keepIn K (.ref f_Dreached) = true)
    (a_Dparts : PySem.W.findIn K (.ref C) "_parts" = some (some (.ref f_Dparts)))
    (i_Dparts : PySem.W.isFn K (.ref f_Dparts) = true)
    (l_Dparts : K.lookup f_Dparts = some ⟨oc_Dparts, od_Dparts, .func (PySem.W.fnOf "_parts" "Diagrams._parts" (defArgs sD_Dparts) (defBody sD_Dparts) (defScope sD_Dparts) .none kV_Dparts dc_Dparts pm_Dparts an_Dparts cd_Dparts ct_Dparts), sl_Dparts⟩)
    (c_Dparts : PySem.W.codeIn K cd_Dparts "Diagrams._parts" = true)
    (k_Dparts : PySem.W.keepIn K (.ref f_Dparts) = true)
    (a_Dsize : PySem.W.findIn K (.ref C) "size" = some (some (.ref f_Dsize)))
    (i_Dsize : PySem.W.isFn K (.ref f_Dsize) = true)
    (l_Dsize : K.lookup f_Dsize = some ⟨oc_Dsize, od_Dsize, .func (PySem.W.fnOf "size" "Diagrams.size" (defArgs sD_Dsize) (defBody sD_Dsize) (defScope sD_Dsize) .none kV_Dsize dc_Dsize pm_Dsize an_Dsize cd_Dsize ct_Dsize), sl_Dsize⟩)
    (c_Dsize : PySem.W.codeIn K cd_Dsize "Diagrams.size" = true)
    (k_Dsize : PySem.W.keepIn K (.ref f_Dsize) = true)
    (aLv : PySem.W.nsIn K mainGlobals "LEAVES" = some (some (.ref aL)))
    (lD : K.lookup aL = some ⟨.type "dict", none, .dict esL nL, #[]⟩)
    (kL : PySem.W.KeysLit w.params esL.toList)
    (v_and_leaf : PySem.W.nsIn K aL "and" = some (some (.ref f_and_leaf)))
    (l_and_leaf : K.lookup f_and_leaf = some ⟨oc_and_leaf, od_and_leaf, .func (PySem.W.fnOf "and_leaf" "and_leaf" (defArgs sD_and_leaf) (defBody sD_and_leaf) (defScope sD_and_leaf) .none kV_and_leaf dc_and_leaf pm_and_leaf an_and_leaf cd_and_leaf ct_and_leaf), sl_and_leaf⟩)
    (c_and_leaf : PySem.W.codeIn K cd_and_leaf "and_leaf" = true)
    (k_and_leaf : PySem.W.keepIn K (.ref f_and_leaf) = true)
    (v_or_leaf : PySem.W.nsIn K aL "or" = some (some (.ref f_or_leaf)))
    (l_or_leaf : K.lookup f_or_leaf = some ⟨oc_or_leaf, od_or_leaf, .func (PySem.W.fnOf "or_leaf" "or_leaf" (defArgs sD_or_leaf) (defBody sD_or_leaf) (defScope sD_or_leaf) .none kV_or_leaf dc_or_leaf pm_or_leaf an_or_leaf cd_or_leaf ct_or_leaf), sl_or_leaf⟩)
    (c_or_leaf : PySem.W.codeIn K cd_or_leaf "or_leaf" = true)
    (k_or_leaf : PySem.W.keepIn K (.ref f_or_leaf) = true)
    (v_differ_leaf : PySem.W.nsIn K aL "differ" = some (some (.ref f_differ_leaf)))
    (l_differ_leaf : K.lookup f_differ_leaf = some ⟨oc_differ_leaf, od_differ_leaf, .func (PySem.W.fnOf "differ_leaf" "differ_leaf" (defArgs sD_differ_leaf) (defBody sD_differ_leaf) (defScope sD_differ_leaf) .none kV_differ_leaf dc_differ_leaf pm_differ_leaf an_differ_leaf cd_differ_leaf ct_differ_leaf), sl_differ_leaf⟩)
    (c_differ_leaf : PySem.W.codeIn K cd_differ_leaf "differ_leaf" = true)
    (k_differ_leaf : PySem.W.keepIn K (.ref f_differ_leaf) = true)
    (pg : PySem.W.plainGet K C Str.empty = true)
    (hd : PySem.W.hasDictIn K C = true)
    (po : PySem.W.plainOver K C = true)
    (sa : PySem.W.findIn K (.ref C) "__setattr__" = some (some (.builtin "object.__setattr__")))
    (mk : PySem.W.makesIn K C = true)
    (kc : PySem.W.keepIn K (.ref C) = true)
    (t__nodes : PySem.W.findIn K (.ref C) "_nodes" = some none)
    (t__numbers : PySem.W.findIn K (.ref C) "_numbers" = some none)
    (t__results : PySem.W.findIn K (.ref C) "_results" = some none)
    (aC_CW : PySem.W.nsIn K mainGlobals "Way" = some (some (.ref CW)))
    (a_Way_init : PySem.W.findIn K (.ref CW) "__init__" = some (some (.ref f_Way_init)))
    (i_Way_init : PySem.W.isFn K (.ref f_Way_init) = true)
    (l_Way_init : K.lookup f_Way_init = some ⟨oc_Way_init, od_Way_init, .func (PySem.W.fnOf "__init__" "Way.__init__" (defArgs sD_Way_init) (defBody sD_Way_init) (defScope sD_Way_init) .none kV_Way_init dc_Way_init pm_Way_init an_Way_init cd_Way_init ct_Way_init), sl_Way_init⟩)
    (c_Way_init : PySem.W.codeIn K cd_Way_init "Way.__init__" = true)
    (k_Way_init : PySem.W.keepIn K (.ref f_Way_init) = true)
    (a_Way_meet : PySem.W.findIn K (.ref CW) "meet" = some (some (.ref f_Way_meet)))
    (i_Way_meet : PySem.W.isFn K (.ref f_Way_meet) = true)
    (l_Way_meet : K.lookup f_Way_meet = some ⟨oc_Way_meet, od_Way_meet, .func (PySem.W.fnOf "meet" "Way.meet" (defArgs sD_Way_meet) (defBody sD_Way_meet) (defScope sD_Way_meet) .none kV_Way_meet dc_Way_meet pm_Way_meet an_Way_meet cd_Way_meet ct_Way_meet), sl_Way_meet⟩)
    (c_Way_meet : PySem.W.codeIn K cd_Way_meet "Way.meet" = true)
    (k_Way_meet : PySem.W.keepIn K (.ref f_Way_meet) = true)
    (a_Way_meet_any : PySem.W.findIn K (.ref CW) "meet_any" = some (some (.ref f_Way_meet_any)))
    (i_Way_meet_any : PySem.W.isFn K (.ref f_Way_meet_any) = true)
    (l_Way_meet_any : K.lookup f_Way_meet_any = some ⟨oc_Way_meet_any, od_Way_meet_any, .func (PySem.W.fnOf "meet_any" "Way.meet_any" (defArgs sD_Way_meet_any) (defBody sD_Way_meet_any) (defScope sD_Way_meet_any) .none kV_Way_meet_any dc_Way_meet_any pm_Way_meet_any an_Way_meet_any cd_Way_meet_any ct_Way_meet_any), sl_Way_meet_any⟩)
    (c_Way_meet_any : PySem.W.codeIn K cd_Way_meet_any "Way.meet_any" = true)
    (k_Way_meet_any : PySem.W.keepIn K (.ref f_Way_meet_any) = true)
    (pg_CW : PySem.W.plainGet K CW Str.empty = true)
    (hd_CW : PySem.W.hasDictIn K CW = true)
    (po_CW : PySem.W.plainOver K CW = true)
    (sa_CW : PySem.W.findIn K (.ref CW) "__setattr__" = some (some (.builtin "object.__setattr__")))
    (mk_CW : PySem.W.makesIn K CW = true)
    (kc_CW : PySem.W.keepIn K (.ref CW) = true)
    (t_CW_store : PySem.W.findIn K (.ref CW) "store" = some none)
    (t_CW_most_rows : PySem.W.findIn K (.ref CW) "most_rows" = some none)
    (t_CW_most_nodes : PySem.W.findIn K (.ref CW) "most_nodes" = some none)
    (z_NEVER : PySem.W.nsIn K mainGlobals "NEVER" = some (some w_NEVER))
    (y_NEVER : RelV (.int 0) w_NEVER)
    (z_ALWAYS : PySem.W.nsIn K mainGlobals "ALWAYS" = some (some w_ALWAYS))
    (y_ALWAYS : RelV (.int 1) w_ALWAYS)
    (n_len : PySem.W.nsIn K mainGlobals "len" = some none)
    (n_min : PySem.W.nsIn K mainGlobals "min" = some none)
    (n_max : PySem.W.nsIn K mainGlobals "max" = some none)
    (n_abs : PySem.W.nsIn K mainGlobals "abs" = some none)
    (n_int : PySem.W.nsIn K mainGlobals "int" = some none)
    (n_list : PySem.W.nsIn K mainGlobals "list" = some none)
    (n_range : PySem.W.nsIn K mainGlobals "range" = some none)
    (n_isinstance : PySem.W.nsIn K mainGlobals "isinstance" = some none)
    (n_tuple : PySem.W.nsIn K mainGlobals "tuple" = some none)
    (n_bool : PySem.W.nsIn K mainGlobals "bool" = some none)
    (n_str : PySem.W.nsIn K mainGlobals "str" = some none)
    (n_all : PySem.W.nsIn K mainGlobals "all" = some none)
    (n_sorted : PySem.W.nsIn K mainGlobals "sorted" = some none)
    (n_repr : PySem.W.nsIn K mainGlobals "repr" = some none)
    (n_sum : PySem.W.nsIn K mainGlobals "sum" = some none)
    (n_reversed : PySem.W.nsIn K mainGlobals "reversed" = some none)
    (g_err : PySem.W.nsIn K mainGlobals "TooManyQuestions" = some (some (.ref DE)))
    (g_lin : PySem.W.nsIn K mainGlobals "LineError" = some (some (.ref LE)))
    (g_sou : PySem.W.nsIn K mainGlobals "SourceError" = some (some (.ref SE)))
    (x_err : PySem.W.excIn K DE [.type "ValueError", .type "Exception", .type "BaseException", .type "object"] "ValueError.__new__" = true)
    (k_err : PySem.W.keepIn K (.ref DE) = true)
    (b_err : PySem.W.subIn K (.ref DE) (.type "BaseException") = some true)
    (t_err : PySem.W.typeIn K (.ref DE) = some (.type "type"))
    (l_err : PySem.W.subIn K (.ref DE) (.ref LE) = some true)
    (q_err : PySem.W.subIn K (.ref DE) (.ref SE) = some false)
    (b_lin : PySem.W.subIn K (.ref LE) (.type "BaseException") = some true)
    (v_lin : PySem.W.typeIn K (.ref LE) = some (.type "type"))
    (d_lin : PySem.W.hasDictIn K LE = true)
    (v_sou : PySem.W.typeIn K (.ref SE) = some (.type "type"))
    (i_sou : PySem.W.isClsIn K SE = true)
    (e1 : PySem.W.findIn K (.ref DE) "__getattribute__" = some (some (.builtin "BaseException.__getattribute__")))
    (e2 : PySem.W.findIn K (.ref DE) "__getattr__" = some none)
    (e4 : PySem.W.hasDictIn K DE = true)
    (e5 : PySem.W.findIn K (.ref DE) "__class__" = some (some (.builtin "object.__class__")))
    (e6 : PySem.W.specialIn K (.builtin "object.__class__") "__get__" = some (some (.builtin "getset_descriptor.__get__")))
    (e7 : PySem.W.takesIn K (.builtin "object.__class__") = some true)
    (e8 : PySem.W.mroIn K DE (.type "object") = some true)
    (n_err : DE ≠ SE)
    : ∃ fd : FuncData, Fun K "law" "law" sD_law fa fd ∧ (∀ (s : Shared) (u : Value), BindsTo s fd ⟨[u], []⟩ [("script", u)]) ∧ ∀ base : Heap, K.In base → base.Ns mainGlobals mg → LawAt P w K mg base 63 ["script", "draw", "entries", "store", "trees", "present", "costs", "prefix", "chosen", "some", "sizes", "k", "more", "due", "handed", "most", "kept", "found", "e", "entry", "row", "tree", "part", "one", "j"] sD_law fa := by
  have e := hfa.symm.trans (PySem.W.mg_of X G a_law)
  cases e
  have g_Ldraw : GD K mg "_law_draw" sD_Ldraw ["script"] := ⟨_, _, fun_mk (st := sD_Ldraw) l_Ldraw c_Ldraw k_Ldraw, PySem.W.mg_of X G a_Ldraw, (fun_mk (st := sD_Ldraw) l_Ldraw c_Ldraw k_Ldraw).binds (fun _ _ _ _ _ _ us hl => match us, hl with | [_], _ => rfl)⟩
  have g_Lnext : GD K mg "_law_next" sD_Lnext ["draw", "many"] := ⟨_, _, fun_mk (st := sD_Lnext) l_Lnext c_Lnext k_Lnext, PySem.W.mg_of X G a_Lnext, (fun_mk (st := sD_Lnext) l_Lnext c_Lnext k_Lnext).binds (fun _ _ _ _ _ _ us hl => match us, hl with | [_, _], _ => rfl)⟩
  have g_Lentries : GD K mg "_law_entries" sD_Lentries ["draw", "most"] := ⟨_, _, fun_mk (st := sD_Lentries) l_Lentries c_Lentries k_Lentries, PySem.W.mg_of X G a_Lentries, (fun_mk (st := sD_Lentries) l_Lentries c_Lentries k_Lentries).binds (fun _ _ _ _ _ _ us hl => match us, hl with | [_, _], _ => rfl)⟩
  have g_Ltree : GD K mg "_law_tree" sD_Ltree ["draw", "entries", "depth"] := ⟨_, _, fun_mk (st := sD_Ltree) l_Ltree c_Ltree k_Ltree, PySem.W.mg_of X G a_Ltree, (fun_mk (st := sD_Ltree) l_Ltree c_Ltree k_Ltree).binds (fun _ _ _ _ _ _ us hl => match us, hl with | [_, _, _], _ => rfl)⟩
  have g_Lbuild : GD K mg "_law_build" sD_Lbuild ["store", "tree"] := ⟨_, _, fun_mk (st := sD_Lbuild) l_Lbuild c_Lbuild k_Lbuild, PySem.W.mg_of X G a_Lbuild, (fun_mk (st := sD_Lbuild) l_Lbuild c_Lbuild k_Lbuild).binds (fun _ _ _ _ _ _ us hl => match us, hl with | [_, _], _ => rfl)⟩
  have g_Ltrue : GD K mg "_law_true" sD_Ltrue ["tree", "present"] := ⟨_, _, fun_mk (st := sD_Ltrue) l_Ltrue c_Ltrue k_Ltrue, PySem.W.mg_of X G a_Ltrue, (fun_mk (st := sD_Ltrue) l_Ltrue c_Ltrue k_Ltrue).binds (fun _ _ _ _ _ _ us hl => match us, hl with | [_, _], _ => rfl)⟩
  have g_Lsubsets : GD K mg "_law_subsets" sD_Lsubsets ["entries"] := ⟨_, _, fun_mk (st := sD_Lsubsets) l_Lsubsets c_Lsubsets k_Lsubsets, PySem.W.mg_of X G a_Lsubsets, (fun_mk (st := sD_Lsubsets) l_Lsubsets c_Lsubsets k_Lsubsets).binds (fun _ _ _ _ _ _ us hl => match us, hl with | [_], _ => rfl)⟩
  have g_Ltruth : GD K mg "_law_truth" sD_Ltruth ["tree", "entries"] := ⟨_, _, fun_mk (st := sD_Ltruth) l_Ltruth c_Ltruth k_Ltruth, PySem.W.mg_of X G a_Ltruth, (fun_mk (st := sD_Ltruth) l_Ltruth c_Ltruth k_Ltruth).binds (fun _ _ _ _ _ _ us hl => match us, hl with | [_, _], _ => rfl)⟩
  have g_Lfixed : GD K mg "_law_fixed" sD_Lfixed ["truth", "k", "there"] := ⟨_, _, fun_mk (st := sD_Lfixed) l_Lfixed c_Lfixed k_Lfixed, PySem.W.mg_of X G a_Lfixed, (fun_mk (st := sD_Lfixed) l_Lfixed c_Lfixed k_Lfixed).binds (fun _ _ _ _ _ _ us hl => match us, hl with | [_, _, _], _ => rfl)⟩
  have g_Ltop : GD K mg "_law_top" sD_Ltop ["truth", "count"] := ⟨_, _, fun_mk (st := sD_Ltop) l_Ltop c_Ltop k_Ltop, PySem.W.mg_of X G a_Ltop, (fun_mk (st := sD_Ltop) l_Ltop c_Ltop k_Ltop).binds (fun _ _ _ _ _ _ us hl => match us, hl with | [_, _], _ => rfl)⟩
  have g_Ldiagrams : GD K mg "_law_diagrams" sD_Ldiagrams ["truths", "count"] := ⟨_, _, fun_mk (st := sD_Ldiagrams) l_Ldiagrams c_Ldiagrams k_Ldiagrams, PySem.W.mg_of X G a_Ldiagrams, (fun_mk (st := sD_Ldiagrams) l_Ldiagrams c_Ldiagrams k_Ldiagrams).binds (fun _ _ _ _ _ _ us hl => match us, hl with | [_, _], _ => rfl)⟩
  have g_Lturned : GD K mg "_law_turned" sD_Lturned ["present", "part"] := ⟨_, _, fun_mk (st := sD_Lturned) l_Lturned c_Lturned k_Lturned, PySem.W.mg_of X G a_Lturned, (fun_mk (st := sD_Lturned) l_Lturned c_Lturned k_Lturned).binds (fun _ _ _ _ _ _ us hl => match us, hl with | [_, _], _ => rfl)⟩
  have g_Lcosts : GD K mg "_law_costs" sD_Lcosts ["draw", "entries"] := ⟨_, _, fun_mk (st := sD_Lcosts) l_Lcosts c_Lcosts k_Lcosts, PySem.W.mg_of X G a_Lcosts, (fun_mk (st := sD_Lcosts) l_Lcosts c_Lcosts k_Lcosts).binds (fun _ _ _ _ _ _ us hl => match us, hl with | [_, _], _ => rfl)⟩
  have g_Lchange_key : GD K mg "_law_change_key" sD_Lchange_key ["change"] := ⟨_, _, fun_mk (st := sD_Lchange_key) l_Lchange_key c_Lchange_key k_Lchange_key, PySem.W.mg_of X G a_Lchange_key, (fun_mk (st := sD_Lchange_key) l_Lchange_key c_Lchange_key k_Lchange_key).binds (fun _ _ _ _ _ _ us hl => match us, hl with | [_], _ => rfl)⟩
  have g_Lbest : GD K mg "_law_best" sD_Lbest ["truth", "entries", "present", "costs"] := ⟨_, _, fun_mk (st := sD_Lbest) l_Lbest c_Lbest k_Lbest, PySem.W.mg_of X G a_Lbest, (fun_mk (st := sD_Lbest) l_Lbest c_Lbest k_Lbest).binds (fun _ _ _ _ _ _ us hl => match us, hl with | [_, _, _, _], _ => rfl)⟩
  have g_Lcandidates : GD K mg "_law_candidates" sD_Lcandidates ["draw", "store", "entries"] := ⟨_, _, fun_mk (st := sD_Lcandidates) l_Lcandidates c_Lcandidates k_Lcandidates, PySem.W.mg_of X G a_Lcandidates, (fun_mk (st := sD_Lcandidates) l_Lcandidates c_Lcandidates k_Lcandidates).binds (fun _ _ _ _ _ _ us hl => match us, hl with | [_, _, _], _ => rfl)⟩
  have g_Lsame : GD K mg "_law_same" sD_Lsame ["actual", "due"] := ⟨_, _, fun_mk (st := sD_Lsame) l_Lsame c_Lsame k_Lsame, PySem.W.mg_of X G a_Lsame, (fun_mk (st := sD_Lsame) l_Lsame c_Lsame k_Lsame).binds (fun _ _ _ _ _ _ us hl => match us, hl with | [_, _], _ => rfl)⟩
  have g_change_key : GD K mg "change_key" sD_change_key ["change"] := ⟨_, _, fun_mk (st := sD_change_key) l_change_key c_change_key k_change_key, PySem.W.mg_of X G a_change_key, (fun_mk (st := sD_change_key) l_change_key c_change_key k_change_key).binds (fun _ _ _ _ _ _ us hl => match us, hl with | [_], _ => rfl)⟩
  have g_better : GD K mg "better" sD_better ["first", "second"] := ⟨_, _, fun_mk (st := sD_better) l_better c_better k_better, PySem.W.mg_of X G a_better, (fun_mk (st := sD_better) l_better c_better k_better).binds (fun _ _ _ _ _ _ us hl => match us, hl with | [_, _], _ => rfl)⟩
  have g_with_turned : GD K mg "with_turned" sD_with_turned ["entry", "change", "costs"] := ⟨_, _, fun_mk (st := sD_with_turned) l_with_turned c_with_turned k_with_turned, PySem.W.mg_of X G a_with_turned, (fun_mk (st := sD_with_turned) l_with_turned c_with_turned k_with_turned).binds (fun _ _ _ _ _ _ us hl => match us, hl with | [_, _, _], _ => rfl)⟩
  have g_cheapest : GD K mg "cheapest" sD_cheapest ["store", "condition", "present", "costs"] := ⟨_, _, fun_mk (st := sD_cheapest) l_cheapest c_cheapest k_cheapest, PySem.W.mg_of X G a_cheapest, (fun_mk (st := sD_cheapest) l_cheapest c_cheapest k_cheapest).binds (fun _ _ _ _ _ _ us hl => match us, hl with | [_, _, _, _], _ => rfl)⟩
  have g_beginning : GD K mg "beginning" sD_beginning ["candidates", "prefix"] := ⟨_, _, fun_mk (st := sD_beginning) l_beginning c_beginning k_beginning, PySem.W.mg_of X G a_beginning, (fun_mk (st := sD_beginning) l_beginning c_beginning k_beginning).binds (fun _ _ _ _ _ _ us hl => match us, hl with | [_, _], _ => rfl)⟩
  have g_none_of : GK K mg "none_of" sD_none_of [("most_nodes", .int 500)] f_none_of _ := ⟨⟨⟨_, _, _, _, _, _, _, _, _, _, rfl, l_none_of, c_none_of, .inl ⟨rfl, rfl⟩, .inr ⟨_, rfl, by simp only [List.mem_cons, List.not_mem_nil, or_false, forall_eq]; exact ⟨_, d_none_of_most_nodes, r_none_of_most_nodes⟩⟩⟩, k_none_of⟩, PySem.W.mg_of X G a_none_of⟩
  have g_Dinit : GM K C "__init__" "Diagrams.__init__" sD_Dinit ["self"] := ⟨_, _, fun_mk (st := sD_Dinit) l_Dinit c_Dinit k_Dinit, ⟨a_Dinit, i_Dinit, k_Dinit⟩, (fun_mk (st := sD_Dinit) l_Dinit c_Dinit k_Dinit).binds (fun _ _ _ _ _ _ us hl => match us, hl with | [_], _ => rfl)⟩
  have g_Dmake : GM K C "make" "Diagrams.make" sD_Dmake ["self", "entry", "without", "there"] := ⟨_, _, fun_mk (st := sD_Dmake) l_Dmake c_Dmake k_Dmake, ⟨a_Dmake, i_Dmake, k_Dmake⟩, (fun_mk (st := sD_Dmake) l_Dmake c_Dmake k_Dmake).binds (fun _ _ _ _ _ _ us hl => match us, hl with | [_, _, _, _], _ => rfl)⟩
  have g_Dthere : GM K C "there" "Diagrams.there" sD_Dthere ["self", "entry"] := ⟨_, _, fun_mk (st := sD_Dthere) l_Dthere c_Dthere k_Dthere, ⟨a_Dthere, i_Dthere, k_Dthere⟩, (fun_mk (st := sD_Dthere) l_Dthere c_Dthere k_Dthere).binds (fun _ _ _ _ _ _ us hl => match us, hl with | [_, _], _ => rfl)⟩
  have g_Dnode : GM K C "node" "Diagrams.node" sD_Dnode ["self", "condition"] := ⟨_, _, fun_mk (st := sD_Dnode) l_Dnode c_Dnode k_Dnode, ⟨a_Dnode, i_Dnode, k_Dnode⟩, (fun_mk (st := sD_Dnode) l_Dnode c_Dnode k_Dnode).binds (fun _ _ _ _ _ _ us hl => match us, hl with | [_, _], _ => rfl)⟩
  have g_Dcombined : GM K C "_combined" "Diagrams._combined" sD_Dcombined ["self", "form", "first", "second"] := ⟨_, _, fun_mk (st := sD_Dcombined) l_Dcombined c_Dcombined k_Dcombined, ⟨a_Dcombined, i_Dcombined, k_Dcombined⟩, (fun_mk (st := sD_Dcombined) l_Dcombined c_Dcombined k_Dcombined).binds (fun _ _ _ _ _ _ us hl => match us, hl with | [_, _, _, _], _ => rfl)⟩
  have g_Dsplit : GM K C "_split" "Diagrams._split" sD_Dsplit ["self", "form", "first", "second"] := ⟨_, _, fun_mk (st := sD_Dsplit) l_Dsplit c_Dsplit k_Dsplit, ⟨a_Dsplit, i_Dsplit, k_Dsplit⟩, (fun_mk (st := sD_Dsplit) l_Dsplit c_Dsplit k_Dsplit).binds (fun _ _ _ _ _ _ us hl => match us, hl with | [_, _, _, _], _ => rfl)⟩
  have g_Dconjunction : GM K C "conjunction" "Diagrams.conjunction" sD_Dconjunction ["self", "first", "second"] := ⟨_, _, fun_mk (st := sD_Dconjunction) l_Dconjunction c_Dconjunction k_Dconjunction, ⟨a_Dconjunction, i_Dconjunction, k_Dconjunction⟩, (fun_mk (st := sD_Dconjunction) l_Dconjunction c_Dconjunction k_Dconjunction).binds (fun _ _ _ _ _ _ us hl => match us, hl with | [_, _, _], _ => rfl)⟩
  have g_Ddisjunction : GM K C "disjunction" "Diagrams.disjunction" sD_Ddisjunction ["self", "first", "second"] := ⟨_, _, fun_mk (st := sD_Ddisjunction) l_Ddisjunction c_Ddisjunction k_Ddisjunction, ⟨a_Ddisjunction, i_Ddisjunction, k_Ddisjunction⟩, (fun_mk (st := sD_Ddisjunction) l_Ddisjunction c_Ddisjunction k_Ddisjunction).binds (fun _ _ _ _ _ _ us hl => match us, hl with | [_, _, _], _ => rfl)⟩
  have g_Ddiffers : GM K C "differs" "Diagrams.differs" sD_Ddiffers ["self", "first", "second"] := ⟨_, _, fun_mk (st := sD_Ddiffers) l_Ddiffers c_Ddiffers k_Ddiffers, ⟨a_Ddiffers, i_Ddiffers, k_Ddiffers⟩, (fun_mk (st := sD_Ddiffers) l_Ddiffers c_Ddiffers k_Ddiffers).binds (fun _ _ _ _ _ _ us hl => match us, hl with | [_, _, _], _ => rfl)⟩
  have g_Dnegation : GM K C "negation" "Diagrams.negation" sD_Dnegation ["self", "condition"] := ⟨_, _, fun_mk (st := sD_Dnegation) l_Dnegation c_Dnegation k_Dnegation, ⟨a_Dnegation, i_Dnegation, k_Dnegation⟩, (fun_mk (st := sD_Dnegation) l_Dnegation c_Dnegation k_Dnegation).binds (fun _ _ _ _ _ _ us hl => match us, hl with | [_, _], _ => rfl)⟩
  have g_Dreached : GM K C "reached" "Diagrams.reached" sD_Dreached ["self", "conditions"] := ⟨_, _, fun_mk (st := sD_Dreached) l_Dreached c_Dreached k_Dreached, ⟨a_Dreached, i_Dreached, k_Dreached⟩, (fun_mk (st := sD_Dreached) l_Dreached c_Dreached k_Dreached).binds (fun _ _ _ _ _ _ us hl => match us, hl with | [_, _], _ => rfl)⟩
  have g_Dparts : GM K C "_parts" "Diagrams._parts" sD_Dparts ["self", "condition"] := ⟨_, _, fun_mk (st := sD_Dparts) l_Dparts c_Dparts k_Dparts, ⟨a_Dparts, i_Dparts, k_Dparts⟩, (fun_mk (st := sD_Dparts) l_Dparts c_Dparts k_Dparts).binds (fun _ _ _ _ _ _ us hl => match us, hl with | [_, _], _ => rfl)⟩
  have g_Dsize : GM K C "size" "Diagrams.size" sD_Dsize ["self", "conditions"] := ⟨_, _, fun_mk (st := sD_Dsize) l_Dsize c_Dsize k_Dsize, ⟨a_Dsize, i_Dsize, k_Dsize⟩, (fun_mk (st := sD_Dsize) l_Dsize c_Dsize k_Dsize).binds (fun _ _ _ _ _ _ us hl => match us, hl with | [_, _], _ => rfl)⟩
  have g_and_leaf : GA K "and_leaf" sD_and_leaf f_and_leaf ["first", "second"] := ⟨_, fun_mk (st := sD_and_leaf) l_and_leaf c_and_leaf k_and_leaf, (fun_mk (st := sD_and_leaf) l_and_leaf c_and_leaf k_and_leaf).binds (fun _ _ _ _ _ _ us hl => match us, hl with | [_, _], _ => rfl)⟩
  have g_or_leaf : GA K "or_leaf" sD_or_leaf f_or_leaf ["first", "second"] := ⟨_, fun_mk (st := sD_or_leaf) l_or_leaf c_or_leaf k_or_leaf, (fun_mk (st := sD_or_leaf) l_or_leaf c_or_leaf k_or_leaf).binds (fun _ _ _ _ _ _ us hl => match us, hl with | [_, _], _ => rfl)⟩
  have g_differ_leaf : GA K "differ_leaf" sD_differ_leaf f_differ_leaf ["first", "second"] := ⟨_, fun_mk (st := sD_differ_leaf) l_differ_leaf c_differ_leaf k_differ_leaf, (fun_mk (st := sD_differ_leaf) l_differ_leaf c_differ_leaf k_differ_leaf).binds (fun _ _ _ _ _ _ us hl => match us, hl with | [_, _], _ => rfl)⟩
  have cl : Cls K C := ⟨pg, hd, po, sa⟩
  have cl_CW : Cls K CW := ⟨pg_CW, hd_CW, po_CW, sa_CW⟩
  have F_Way_init : Fun K "__init__" "Way.__init__" sD_Way_init f_Way_init _ := fun_mk (st := sD_Way_init) l_Way_init c_Way_init k_Way_init
  have b_Way_init := F_Way_init.binds (ps := ["self", "store", "most_rows", "most_nodes"]) (fun _ _ _ _ _ _ us hl => match us, hl with | [_, _, _, _], _ => rfl)
  have mk_Way_init : Mk K CW f_Way_init := ⟨mk_CW, a_Way_init, i_Way_init, kc_CW⟩
  have g_Way_meet : GM K CW "meet" "Way.meet" sD_Way_meet ["self", "condition"] := ⟨_, _, fun_mk (st := sD_Way_meet) l_Way_meet c_Way_meet k_Way_meet, ⟨a_Way_meet, i_Way_meet, k_Way_meet⟩, (fun_mk (st := sD_Way_meet) l_Way_meet c_Way_meet k_Way_meet).binds (fun _ _ _ _ _ _ us hl => match us, hl with | [_, _], _ => rfl)⟩
  have g_Way_meet_any : GM K CW "meet_any" "Way.meet_any" sD_Way_meet_any ["self", "conditions"] := ⟨_, _, fun_mk (st := sD_Way_meet_any) l_Way_meet_any c_Way_meet_any k_Way_meet_any, ⟨a_Way_meet_any, i_Way_meet_any, k_Way_meet_any⟩, (fun_mk (st := sD_Way_meet_any) l_Way_meet_any c_Way_meet_any k_Way_meet_any).binds (fun _ _ _ _ _ _ us hl => match us, hl with | [_, _], _ => rfl)⟩
  have n_len := PySem.W.mg_none_of X G n_len
  have n_min := PySem.W.mg_none_of X G n_min
  have n_max := PySem.W.mg_none_of X G n_max
  have n_abs := PySem.W.mg_none_of X G n_abs
  have n_int := PySem.W.mg_none_of X G n_int
  have n_list := PySem.W.mg_none_of X G n_list
  have n_range := PySem.W.mg_none_of X G n_range
  have n_isinstance := PySem.W.mg_none_of X G n_isinstance
  have n_tuple := PySem.W.mg_none_of X G n_tuple
  have n_bool := PySem.W.mg_none_of X G n_bool
  have n_str := PySem.W.mg_none_of X G n_str
  have n_all := PySem.W.mg_none_of X G n_all
  have n_sorted := PySem.W.mg_none_of X G n_sorted
  have n_repr := PySem.W.mg_none_of X G n_repr
  have n_sum := PySem.W.mg_none_of X G n_sum
  have n_reversed := PySem.W.mg_none_of X G n_reversed
  have z_NEVER := PySem.W.mg_of X G z_NEVER
  have z_ALWAYS := PySem.W.mg_of X G z_ALWAYS
  have ef : ErrT K mg "TooManyQuestions" DE LE SE := ⟨PySem.W.mg_of X G g_err, x_err, k_err, b_err, t_err, l_err, q_err, PySem.W.mg_of X G g_lin, b_lin, v_lin, d_lin, PySem.W.mg_of X G g_sou, v_sou, i_sou, ⟨e1, e2, b_err, e4, e5, e6, e7, e8⟩⟩
  refine ⟨_, fun_mk (st := sD_law) l_law c_law k_law, fun s v => .of_eq rfl, fun base _ _ => ?_⟩
  have TD : TDraw mg := ⟨n_int, n_len, n_abs, n_list⟩
  have TS : TSto K w mg C := ⟨cl, t__nodes, t__numbers, t__results, n_len, n_min, n_max, n_list, ⟨_, z_NEVER, y_NEVER⟩, ⟨_, z_ALWAYS, y_ALWAYS⟩⟩
  have TL : TLeaf mg := ⟨⟨_, z_NEVER, y_NEVER⟩, ⟨_, z_ALWAYS, y_ALWAYS⟩⟩
  have TW : TLaw mg := ⟨n_len, n_range, n_abs⟩
  have TM : TSame mg := ⟨n_isinstance, n_list, n_tuple, n_bool, n_str, n_int, n_len, n_all, n_range⟩
  have o_draw := ok_draw (P := P) (w := w) (base := base) g_Ldraw TD
  have o_next := ok_next (P := P) (w := w) (base := base) g_Lnext TD
  have o_make := ok_make (P := P) (w := w) (mg := mg) (base := base) g_Dmake TS
  have o_there := ok_there (P := P) (w := w) (mg := mg) (base := base) g_Dthere TS o_make
  have tab : TTab P K w mg base aL (fun fm => match fm with | .and => f_and_leaf | .or => f_or_leaf | .differ => f_differ_leaf) := ⟨⟨_, PySem.W.mg_of X G aLv, rfl⟩, fun fm => match fm with
      | .and => ⟨_, _, _, lD, kL, v_and_leaf, rfl⟩
      | .or => ⟨_, _, _, lD, kL, v_or_leaf, rfl⟩
      | .differ => ⟨_, _, _, lD, kL, v_differ_leaf, rfl⟩, fun fm => match fm with
      | .and => ok_and_leaf g_and_leaf TL
      | .or => ok_or_leaf g_or_leaf TL
      | .differ => ok_differ_leaf g_differ_leaf TL⟩
  have both := (ok_both g_Dcombined g_Dsplit TS tab o_make 30).1
  have o_con := ok_conjunction (P := P) (w := w) (mg := mg) (base := base) TS both g_Dconjunction
  have o_dis := ok_disjunction (P := P) (w := w) (mg := mg) (base := base) TS both g_Ddisjunction
  have o_dif := ok_differs (P := P) (w := w) (mg := mg) (base := base) TS both g_Ddiffers
  have o_neg := ok_negation (P := P) (w := w) (mg := mg) (base := base) TS g_Dnegation o_dif
  have o_parts := ok_parts (P := P) (w := w) (mg := mg) (base := base) g_Dparts TS
  have o_reached := ok_reached g_Dreached TS o_parts
  have o_entries := ok_entries g_Lentries TW o_next
  have o_tree := ok_tree g_Ltree TW o_next 5
  have o_build := ok_build g_Lbuild o_there o_neg o_con o_dis o_dif 36
  have o_init : FnOk P w K mg base CX0 1 f_Dinit _ ["self"] (spDinit C) := ok_Dinit (fun_mk (st := sD_Dinit) l_Dinit c_Dinit k_Dinit) TS
  have o_binds := (fun_mk (st := sD_Dinit) l_Dinit c_Dinit k_Dinit).binds (ps := ["self"]) fun _ _ _ _ _ _ us hl => match us, hl with | [_], _ => rfl
  have o_mk : Mk K C f_Dinit := ⟨mk, a_Dinit, i_Dinit, kc⟩

  have o_node := ok_node (P := P) (w := w) (mg := mg) (base := base) g_Dnode TS

  have TC : TCheap mg := ⟨TL, n_len, n_min, n_list⟩
  have TT : TTurn mg := ⟨n_len, n_sorted⟩
  have o_better := ok_better g_better TC (ok_change_key (P := P) (w := w) (base := base) g_change_key TC)
  have o_cheapest := ok_cheapest g_cheapest TC o_better (ok_with g_with_turned) o_reached o_node

  have TD2 : TDiag mg := ⟨n_len, n_range, n_tuple, n_list⟩
  have o_fixed := ok_fixed (P := P) (w := w) (base := base) g_Lfixed TD2
  have o_diags := ok_diagrams g_Ldiagrams TD2 o_fixed (ok_top g_Ltop TD2 o_fixed)
  have o_truth := ok_truth (P := P) (w := w) (base := base) g_Ltruth TD2 (ok_subsetsN g_Lsubsets) (ok_true g_Ltrue 5)

  have TB : TBest mg := ⟨TC, n_all, n_sum⟩
  have o_subs := ok_subsetsN (P := P) (w := w) (base := base) g_Lsubsets
  have o_best := ok_best g_Lbest TB o_subs (ok_turned g_Lturned TT) (ok_Lchange_key g_Lchange_key TC)
  have o_cand := ok_candidates g_Lcandidates ⟨n_range, n_sorted⟩ o_next o_tree o_build
  have TY : TWay K mg CW := ⟨cl_CW, t_CW_store, t_CW_most_rows, t_CW_most_nodes, n_len, n_reversed, ⟨_, z_NEVER, y_NEVER⟩⟩
  have o_size := ok_size g_Dsize TS o_reached
  have o_meet := ok_meet ef g_Way_meet TY o_size
  have o_any := ok_meet_any ef g_Way_meet_any TY o_meet o_dis
  have o_none := kb_none g_none_of (fn_none g_none_of ⟨PySem.W.mg_of X G aC_CW, mk_Way_init, b_Way_init⟩ (ok_Winit F_Way_init TY) o_any (ok_beginning g_beginning ⟨n_len⟩) o_cheapest o_neg)
  exact ok_law ⟨n_repr, n_len, n_max, n_tuple, n_range, n_isinstance, ⟨_, PySem.W.mg_of X G g_err, rfl⟩, ⟨_, PySem.W.mg_of X G g_sou, rfl⟩, PySem.W.mg_of X G aC, o_mk, o_binds⟩ ef n_err o_init o_draw o_next o_entries o_cand (ok_costs g_Lcosts o_next) o_build o_subs o_truth o_diags o_best (ok_same g_Lsame TM 4) o_none

end Lw

open PySem PySem.W PyProof.Rows in
set_option maxRecDepth 100000 in
set_option maxHeartbeats 0 in
theorem PySem.Challenge.cw_lineworks_k78_none_of_the_rows_holds : PySem.Challenge.rw_lineworks_k78_none_of_the_rows.Holds := by
  w_on; o_law; k_head; (case hw => w_witness2)
  k_fill
  refine Lw.walk_at (l := PySem.Challenge.rw_lineworks_k78_none_of_the_rows) (n := 63) rfl (by decide) rfl Lw.sc_law (fun w h Y => PySem.W.kIn_of Y) ?F
  case F =>
    intro w mg fa h KX G hmg
    refine' Lw.all_mk KX G hmg ?aC ?a_Ldraw ?l_Ldraw ?c_Ldraw ?k_Ldraw ?a_Lnext ?l_Lnext ?c_Lnext ?k_Lnext ?a_Lentries ?l_Lentries ?c_Lentries ?k_Lentries ?a_Ltree ?l_Ltree ?c_Ltree ?k_Ltree ?a_Lbuild ?l_Lbuild ?c_Lbuild ?k_Lbuild ?a_Ltrue ?l_Ltrue ?c_Ltrue ?k_Ltrue ?a_Lsubsets ?l_Lsubsets ?c_Lsubsets ?k_Lsubsets ?a_Ltruth ?l_Ltruth ?c_Ltruth ?k_Ltruth ?a_Lfixed ?l_Lfixed ?c_Lfixed ?k_Lfixed ?a_Ltop ?l_Ltop ?c_Ltop ?k_Ltop ?a_Ldiagrams ?l_Ldiagrams ?c_Ldiagrams ?k_Ldiagrams ?a_Lturned ?l_Lturned ?c_Lturned ?k_Lturned ?a_Lcosts ?l_Lcosts ?c_Lcosts ?k_Lcosts ?a_Lchange_key ?l_Lchange_key ?c_Lchange_key ?k_Lchange_key ?a_Lbest ?l_Lbest ?c_Lbest ?k_Lbest ?a_Lcandidates ?l_Lcandidates ?c_Lcandidates ?k_Lcandidates ?a_Lsame ?l_Lsame ?c_Lsame ?k_Lsame ?a_change_key ?l_change_key ?c_change_key ?k_change_key ?a_better ?l_better ?c_better ?k_better ?a_with_turned ?l_with_turned ?c_with_turned ?k_with_turned ?a_cheapest ?l_cheapest ?c_cheapest ?k_cheapest ?a_beginning ?l_beginning ?c_beginning ?k_beginning ?a_law ?l_law ?c_law ?k_law ?a_none_of ?l_none_of ?c_none_of ?k_none_of ?d_none_of_most_nodes ?r_none_of_most_nodes ?a_Dinit ?i_Dinit ?l_Dinit ?c_Dinit ?k_Dinit ?a_Dmake ?i_Dmake ?l_Dmake ?c_Dmake ?k_Dmake ?a_Dthere ?i_Dthere ?l_Dthere ?c_Dthere ?k_Dthere ?a_Dnode ?i_Dnode ?l_Dnode ?c_Dnode ?k_Dnode ?a_Dcombined ?i_Dcombined ?l_Dcombined ?c_Dcombined ?k_Dcombined ?a_Dsplit ?i_Dsplit ?l_Dsplit ?c_Dsplit ?k_Dsplit ?a_Dconjunction ?i_Dconjunction ?l_Dconjunction ?c_Dconjunction ?k_Dconjunction ?a_Ddisjunction ?i_Ddisjunction ?l_Ddisjunction ?c_Ddisjunction ?k_Ddisjunction ?a_Ddiffers ?i_Ddiffers ?l_Ddiffers ?c_Ddiffers ?k_Ddiffers ?a_Dnegation ?i_Dnegation ?l_Dnegation ?c_Dnegation ?k_Dnegation ?a_Dreached ?i_Dreached ?l_Dreached ?c_Dreached ?k_Dreached ?a_Dparts ?i_Dparts ?l_Dparts ?c_Dparts ?k_Dparts ?a_Dsize ?i_Dsize ?l_Dsize ?c_Dsize ?k_Dsize ?aLv ?lD ?kL ?v_and_leaf ?l_and_leaf ?c_and_leaf ?k_and_leaf ?v_or_leaf ?l_or_leaf ?c_or_leaf ?k_or_leaf ?v_differ_leaf ?l_differ_leaf ?c_differ_leaf ?k_differ_leaf ?pg ?hd ?po ?sa ?mk ?kc ?t__nodes ?t__numbers ?t__results ?aC_CW ?a_Way_init ?i_Way_init ?l_Way_init ?c_Way_init ?k_Way_init ?a_Way_meet ?i_Way_meet ?l_Way_meet ?c_Way_meet ?k_Way_meet ?a_Way_meet_any ?i_Way_meet_any ?l_Way_meet_any ?c_Way_meet_any ?k_Way_meet_any ?pg_CW ?hd_CW ?po_CW ?sa_CW ?mk_CW ?kc_CW ?t_CW_store ?t_CW_most_rows ?t_CW_most_nodes ?z_NEVER ?y_NEVER ?z_ALWAYS ?y_ALWAYS ?n_len ?n_min ?n_max ?n_abs ?n_int ?n_list ?n_range ?n_isinstance ?n_tuple ?n_bool ?n_str ?n_all ?n_sorted ?n_repr ?n_sum ?n_reversed ?g_err ?g_lin ?g_sou ?x_err ?k_err ?b_err ?t_err ?l_err ?q_err ?b_lin ?v_lin ?d_lin ?v_sou ?i_sou ?e1 ?e2 ?e4 ?e5 ?e6 ?e7 ?e8 ?n_err
    (case aC => k_is)
    (case a_Ldraw => k_is)
    (case l_Ldraw => k_is)
    (case c_Ldraw => k_is)
    (case k_Ldraw => k_is)
    (case a_Lnext => k_is)
    (case l_Lnext => k_is)
    (case c_Lnext => k_is)
    (case k_Lnext => k_is)
    (case a_Lentries => k_is)
    (case l_Lentries => k_is)
    (case c_Lentries => k_is)
    (case k_Lentries => k_is)
    (case a_Ltree => k_is)
    (case l_Ltree => k_is)
    (case c_Ltree => k_is)
    (case k_Ltree => k_is)
    (case a_Lbuild => k_is)
    (case l_Lbuild => k_is)
    (case c_Lbuild => k_is)
    (case k_Lbuild => k_is)
    (case a_Ltrue => k_is)
    (case l_Ltrue => k_is)
    (case c_Ltrue => k_is)
    (case k_Ltrue => k_is)
    (case a_Lsubsets => k_is)
    (case l_Lsubsets => k_is)
    (case c_Lsubsets => k_is)
    (case k_Lsubsets => k_is)
    (case a_Ltruth => k_is)
    (case l_Ltruth => k_is)
    (case c_Ltruth => k_is)
    (case k_Ltruth => k_is)
    (case a_Lfixed => k_is)
    (case l_Lfixed => k_is)
    (case c_Lfixed => k_is)
    (case k_Lfixed => k_is)
    (case a_Ltop => k_is)
    (case l_Ltop => k_is)
    (case c_Ltop => k_is)
    (case k_Ltop => k_is)
    (case a_Ldiagrams => k_is)
    (case l_Ldiagrams => k_is)
    (case c_Ldiagrams => k_is)
    (case k_Ldiagrams => k_is)
    (case a_Lturned => k_is)
    (case l_Lturned => k_is)
    (case c_Lturned => k_is)
    (case k_Lturned => k_is)
    (case a_Lcosts => k_is)
    (case l_Lcosts => k_is)
    (case c_Lcosts => k_is)
    (case k_Lcosts => k_is)
    (case a_Lchange_key => k_is)
    (case l_Lchange_key => k_is)
    (case c_Lchange_key => k_is)
    (case k_Lchange_key => k_is)
    (case a_Lbest => k_is)
    (case l_Lbest => k_is)
    (case c_Lbest => k_is)
    (case k_Lbest => k_is)
    (case a_Lcandidates => k_is)
    (case l_Lcandidates => k_is)
    (case c_Lcandidates => k_is)
    (case k_Lcandidates => k_is)
    (case a_Lsame => k_is)
    (case l_Lsame => k_is)
    (case c_Lsame => k_is)
    (case k_Lsame => k_is)
    (case a_change_key => k_is)
    (case l_change_key => k_is)
    (case c_change_key => k_is)
    (case k_change_key => k_is)
    (case a_better => k_is)
    (case l_better => k_is)
    (case c_better => k_is)
    (case k_better => k_is)
    (case a_with_turned => k_is)
    (case l_with_turned => k_is)
    (case c_with_turned => k_is)
    (case k_with_turned => k_is)
    (case a_cheapest => k_is)
    (case l_cheapest => k_is)
    (case c_cheapest => k_is)
    (case k_cheapest => k_is)
    (case a_beginning => k_is)
    (case l_beginning => k_is)
    (case c_beginning => k_is)
    (case k_beginning => k_is)
    (case a_law => k_is)
    (case l_law => k_is)
    (case c_law => k_is)
    (case k_law => k_is)
    (case a_none_of => k_is)
    (case l_none_of => k_is)
    (case c_none_of => k_is)
    (case k_none_of => k_is)
    (case d_none_of_most_nodes => k_is)
    (case r_none_of_most_nodes => exact ⟨_, rfl⟩)
    (case a_Dinit => k_is)
    (case i_Dinit => k_is)
    (case l_Dinit => k_is)
    (case c_Dinit => k_is)
    (case k_Dinit => k_is)
    (case a_Dmake => k_is)
    (case i_Dmake => k_is)
    (case l_Dmake => k_is)
    (case c_Dmake => k_is)
    (case k_Dmake => k_is)
    (case a_Dthere => k_is)
    (case i_Dthere => k_is)
    (case l_Dthere => k_is)
    (case c_Dthere => k_is)
    (case k_Dthere => k_is)
    (case a_Dnode => k_is)
    (case i_Dnode => k_is)
    (case l_Dnode => k_is)
    (case c_Dnode => k_is)
    (case k_Dnode => k_is)
    (case a_Dcombined => k_is)
    (case i_Dcombined => k_is)
    (case l_Dcombined => k_is)
    (case c_Dcombined => k_is)
    (case k_Dcombined => k_is)
    (case a_Dsplit => k_is)
    (case i_Dsplit => k_is)
    (case l_Dsplit => k_is)
    (case c_Dsplit => k_is)
    (case k_Dsplit => k_is)
    (case a_Dconjunction => k_is)
    (case i_Dconjunction => k_is)
    (case l_Dconjunction => k_is)
    (case c_Dconjunction => k_is)
    (case k_Dconjunction => k_is)
    (case a_Ddisjunction => k_is)
    (case i_Ddisjunction => k_is)
    (case l_Ddisjunction => k_is)
    (case c_Ddisjunction => k_is)
    (case k_Ddisjunction => k_is)
    (case a_Ddiffers => k_is)
    (case i_Ddiffers => k_is)
    (case l_Ddiffers => k_is)
    (case c_Ddiffers => k_is)
    (case k_Ddiffers => k_is)
    (case a_Dnegation => k_is)
    (case i_Dnegation => k_is)
    (case l_Dnegation => k_is)
    (case c_Dnegation => k_is)
    (case k_Dnegation => k_is)
    (case a_Dreached => k_is)
    (case i_Dreached => k_is)
    (case l_Dreached => k_is)
    (case c_Dreached => k_is)
    (case k_Dreached => k_is)
    (case a_Dparts => k_is)
    (case i_Dparts => k_is)
    (case l_Dparts => k_is)
    (case c_Dparts => k_is)
    (case k_Dparts => k_is)
    (case a_Dsize => k_is)
    (case i_Dsize => k_is)
    (case l_Dsize => k_is)
    (case c_Dsize => k_is)
    (case k_Dsize => k_is)
    (case aLv => k_is)
    (case lD => k_is)
    (case kL => exact ⟨⟨_, _, rfl, rfl⟩, ⟨_, _, rfl, rfl⟩, ⟨_, _, rfl, rfl⟩, trivial⟩)
    (case v_and_leaf => k_is)
    (case l_and_leaf => k_is)
    (case c_and_leaf => k_is)
    (case k_and_leaf => k_is)
    (case v_or_leaf => k_is)
    (case l_or_leaf => k_is)
    (case c_or_leaf => k_is)
    (case k_or_leaf => k_is)
    (case v_differ_leaf => k_is)
    (case l_differ_leaf => k_is)
    (case c_differ_leaf => k_is)
    (case k_differ_leaf => k_is)
    (case pg => k_is)
    (case hd => k_is)
    (case po => k_is)
    (case sa => k_is)
    (case mk => k_is)
    (case kc => k_is)
    (case t__nodes => k_is)
    (case t__numbers => k_is)
    (case t__results => k_is)
    (case aC_CW => k_is)
    (case a_Way_init => k_is)
    (case i_Way_init => k_is)
    (case l_Way_init => k_is)
    (case c_Way_init => k_is)
    (case k_Way_init => k_is)
    (case a_Way_meet => k_is)
    (case i_Way_meet => k_is)
    (case l_Way_meet => k_is)
    (case c_Way_meet => k_is)
    (case k_Way_meet => k_is)
    (case a_Way_meet_any => k_is)
    (case i_Way_meet_any => k_is)
    (case l_Way_meet_any => k_is)
    (case c_Way_meet_any => k_is)
    (case k_Way_meet_any => k_is)
    (case pg_CW => k_is)
    (case hd_CW => k_is)
    (case po_CW => k_is)
    (case sa_CW => k_is)
    (case mk_CW => k_is)
    (case kc_CW => k_is)
    (case t_CW_store => k_is)
    (case t_CW_most_rows => k_is)
    (case t_CW_most_nodes => k_is)
    (case z_NEVER => k_is)
    (case y_NEVER => exact ⟨_, rfl⟩)
    (case z_ALWAYS => k_is)
    (case y_ALWAYS => exact ⟨_, rfl⟩)
    (case n_len => k_is)
    (case n_min => k_is)
    (case n_max => k_is)
    (case n_abs => k_is)
    (case n_int => k_is)
    (case n_list => k_is)
    (case n_range => k_is)
    (case n_isinstance => k_is)
    (case n_tuple => k_is)
    (case n_bool => k_is)
    (case n_str => k_is)
    (case n_all => k_is)
    (case n_sorted => k_is)
    (case n_repr => k_is)
    (case n_sum => k_is)
    (case n_reversed => k_is)
    (case g_err => k_is)
    (case g_lin => k_is)
    (case g_sou => k_is)
    (case x_err => k_exc)
    (case k_err => k_is)
    (case b_err => k_is)
    (case t_err => k_is)
    (case l_err => k_is)
    (case q_err => k_is)
    (case b_lin => k_is)
    (case v_lin => k_is)
    (case d_lin => k_is)
    (case v_sou => k_is)
    (case i_sou => k_is)
    (case e1 => k_is)
    (case e2 => k_is)
    (case e4 => k_is)
    (case e5 => k_is)
    (case e6 => k_is)
    (case e7 => k_is)
    (case e8 => k_is)
    (case n_err => decide)
#print axioms PySem.Challenge.cw_lineworks_k78_none_of_the_rows_holds

namespace Lw
end Lw
