import PyProof.Rows.All
import Wide.All
import OpenK.AllK
import Wide.FinOn
import HandS.ForMost
import HandS.Codes
import HandS.CallLocal
import HandS.DictComp
import HandS.Strs
import HandS.IsInst
import HandS.Defaults
import HandS.More
import HandS.Wide
import HandS.Gcd
import HandS.Flow
import HandS.SetBool
import HandS.Conv
import HandS.SetFor
import HandS.Walk
import HandS.DeepEq
import PySem.Challenge.RW_lineworks_k96_uses_and_falling_of_any_pl
set_option Elab.async false
set_option maxRecDepth 100000
set_option maxHeartbeats 4000000
set_option linter.all false
/-! The defs of the text, one promise each. -/
namespace Lw
open PySem PySem.Spec PyProof.Rows L2
open C8 (Cal Met pe_c pe_mt pe_mt0 pe_gc pss_cut tCut)
/-! ### the text by places -/
def top (i : Nat) : Stmt := PySem.Challenge.pw_lineworks_k96_uses_and_falling_of_any_pl.main.body.getD i (.Pass ⟨0, 0, 0, 0⟩)
abbrev sD_uses : Stmt := top 1
theorem sc_uses : FnScope ["plan", "tables", "steps", "operation"] ["plan"] (defScope sD_uses) :=
  ⟨rfl, rfl, rfl, by decide +kernel, rfl, by decide +kernel, by decide +kernel⟩
abbrev sD_is_falling : Stmt := top 2
theorem sc_is_falling : FnScope ["operation", "done", "steps", "form"] ["operation", "done", "steps"] (defScope sD_is_falling) :=
  ⟨rfl, rfl, rfl, by decide +kernel, rfl, by decide +kernel, by decide +kernel⟩
abbrev sD_falling : Stmt := top 3
theorem sc_falling : FnScope ["plans", "steps", "plan", "done", "operation"] ["plans"] (defScope sD_falling) :=
  ⟨rfl, rfl, rfl, by decide +kernel, rfl, by decide +kernel, by decide +kernel⟩
abbrev sD_Ldraw : Stmt := top 5
theorem sc_Ldraw : FnScope ["script"] ["script"] (defScope sD_Ldraw) :=
  ⟨rfl, rfl, rfl, by decide +kernel, rfl, by decide +kernel, by decide +kernel⟩
abbrev sD_Lnext : Stmt := top 6
theorem sc_Lnext : FnScope ["draw", "many", "found", "cell"] ["draw", "many"] (defScope sD_Lnext) :=
  ⟨rfl, rfl, rfl, by decide +kernel, rfl, by decide +kernel, by decide +kernel⟩
abbrev sD_Lsame : Stmt := top 7
theorem sc_Lsame : FnScope ["actual", "due", "k"] ["actual", "due"] (defScope sD_Lsame) :=
  ⟨rfl, rfl, rfl, by decide +kernel, rfl, by decide +kernel, by decide +kernel⟩
abbrev sD_Lcell : Stmt := top 8
theorem sc_Lcell : FnScope ["draw", "form"] ["draw"] (defScope sD_Lcell) :=
  ⟨rfl, rfl, rfl, by decide +kernel, rfl, by decide +kernel, by decide +kernel⟩
abbrev sD_Lexpression : Stmt := top 9
theorem sc_Lexpression : FnScope ["draw", "width", "depth", "form", "word", "first", "second", "words"] ["draw", "width", "depth"] (defScope sD_Lexpression) :=
  ⟨rfl, rfl, rfl, by decide +kernel, rfl, by decide +kernel, by decide +kernel⟩
abbrev sD_Lform : Stmt := top 10
theorem sc_Lform : FnScope ["draw", "width", "word"] ["draw", "width"] (defScope sD_Lform) :=
  ⟨rfl, rfl, rfl, by decide +kernel, rfl, by decide +kernel, by decide +kernel⟩
abbrev sD_Loperation : Stmt := top 11
theorem sc_Loperation : FnScope ["draw", "sizes", "widths", "steps", "form", "many", "index", "q", "r", "parts", "keys", "totals", "like", "word", "k"] ["draw", "sizes", "widths", "steps"] (defScope sD_Loperation) :=
  ⟨rfl, rfl, rfl, by decide +kernel, rfl, by decide +kernel, by decide +kernel⟩
abbrev sD_Lroom : Stmt := top 12
theorem sc_Lroom : FnScope ["operation", "rooms", "word", "many", "found", "form"] ["operation", "rooms"] (defScope sD_Lroom) :=
  ⟨rfl, rfl, rfl, by decide +kernel, rfl, by decide +kernel, by decide +kernel⟩
abbrev sD_Lplan : Stmt := top 13
theorem sc_Lplan : FnScope ["draw", "widths", "steps", "most", "plan", "sizes", "rooms", "many", "k", "operation", "size"] ["draw", "widths", "steps", "most"] (defScope sD_Lplan) :=
  ⟨rfl, rfl, rfl, by decide +kernel, rfl, by decide +kernel, by decide +kernel⟩
abbrev sD_Lnamed : Stmt := top 14
theorem sc_Lnamed : FnScope ["plan", "word", "operation"] ["plan", "word"] (defScope sD_Lnamed) :=
  ⟨rfl, rfl, rfl, by decide +kernel, rfl, by decide +kernel, by decide +kernel⟩
abbrev sD_Lfalls : Stmt := top 15
theorem sc_Lfalls : FnScope ["operation", "done", "steps", "word"] ["operation", "done", "steps"] (defScope sD_Lfalls) :=
  ⟨rfl, rfl, rfl, by decide +kernel, rfl, by decide +kernel, by decide +kernel⟩
abbrev sD_law : Stmt := top 16
theorem sc_law : FnScope ["script", "draw", "widths", "plans", "sizes", "due", "k", "plan", "size", "done", "operation"] ["script"] (defScope sD_law) :=
  ⟨rfl, rfl, rfl, by decide +kernel, rfl, by decide +kernel, by decide +kernel⟩

/-! ### what is kept -/
/-- all that was tracked is as it was, but for what stands at M; tuples stay in any case -/
structure Kp (M : List Addr) (H H' : Hp) : Prop where
  k : ∀ b o, H b = some o → b ∉ M → H' b = some o
  t : ∀ b xs, H b = some (.tup xs) → H' b = some (.tup xs)
namespace Kp
variable {M N : List Addr} {H H1 H2 : Hp} {p : Addr} {o u : HO}
theorem refl : Kp M H H := ⟨fun _ _ h _ => h, fun _ _ h => h⟩
theorem trans (a : Kp M H H1) (b : Kp M H1 H2) : Kp M H H2 := ⟨fun c o h n => b.k c o (a.k c o h n) n, fun c xs h => b.t c xs (a.t c xs h)⟩
theorem wide (a : Kp M H H1) (h : ∀ b ∈ M, b ∈ N) : Kp N H H1 := ⟨fun c o e n => a.k c o e fun z => n (h c z), a.t⟩
theorem new (h : H p = none) : Kp M H (upd H p o) :=
  ⟨fun c q e _ => by rw [upd_ne (ne_of_none e h)]; exact e, fun c q e => by rw [upd_ne (ne_of_none e h)]; exact e⟩
theorem put (hp : p ∈ M) (h : H p = some u) (hu : ∀ xs, u ≠ .tup xs) : Kp M H (upd H p o) :=
  ⟨fun c q e n => by rw [upd_ne fun z => n (by rw [z]; exact hp)]; exact e,
   fun c q e => by rw [upd_ne fun z => by rw [z, h] at e; exact hu _ (Option.some.inj e)]; exact e⟩
theorem same (a : Same H H1) : Kp M H H1 := ⟨fun c o h _ => a c o h, fun c xs h => a c _ h⟩
theorem toSame (a : Kp [] H H1) : Same H H1 := fun c o h => a.k c o h (by simp)
theorem free (a : Kp M H H1) (h : H1 p = none) (hp : p ∉ M) : H p = none := by
  cases e : H p with
  | none => rfl
  | some q => rw [a.k p q e hp] at h; cases h
/-- what H does not know may change -/
theorem mt (a : Kp M H H1) (h : H p = none) : Kp M H (upd H1 p o) :=
  ⟨fun c q e n => by rw [upd_ne (ne_of_none e h)]; exact a.k c q e n, fun c q e => by rw [upd_ne (ne_of_none e h)]; exact a.t c q e⟩
theorem newer (a : Kp M H H1) (h : H1 p = none) : Kp M H (upd H1 p o) := a.trans (new h)
end Kp

/-! ### the defs of the text as they stand behind the top -/
section
variable {P : Program} {w : World} {K : PySem.W.Frag} {mg : Str → Option Value} {base : Heap}
/-- a def of the module -/
def GD (K : PySem.W.Frag) (mg : Str → Option Value) (x : Str) (st : Stmt) (ps : List Str) : Prop :=
  ∃ (f : Addr) (fd : FuncData), Fun K x x st f fd ∧ mg x = some (.ref f) ∧ Binds K fd ps []
/-- a method of the class at C -/
def GM (K : PySem.W.Frag) (C : Addr) (m qual : Str) (st : Stmt) (ps : List Str) : Prop :=
  ∃ (f : Addr) (fd : FuncData), Fun K m qual st f fd ∧ Meth K C m f ∧ Binds K fd ps []
theorem GD.cal {x : Str} {st : Stmt} {N ps : List Str} {k : Nat} {sp : Sp} (D : GD K mg x st ps) (S : FnScope N ps (defScope st)) (len : ∀ vs H Q E, sp vs H Q E → vs.length = ps.length)
    (hbody : ∀ (f : Addr) (cdv : Value) (A : Around) (outer : List Env) (s : Shared) (H : Hp) (vs : List V) (Q : VK) (E : XK),
      Room k (A.deeper (envOfC x (defScope st) s.heap.objs.size f cdv)) → sp vs H Q E →
      ∃ t, PSs (cxOf CX0 P w K mg base N x (defScope st) f cdv A outer s H E).nox (defBody st) t ∧ t { nx := fun _ H' => Q .non H', rt := Q } (start N vs) H) :
    Cal P w K mg base (k + 1) x sp [] := by
  obtain ⟨f, fd, F, hm, hb⟩ := D
  exact ⟨f, fd, ps, [], F.ok S len (hbody f), hm, F.kp, hb, .nil⟩
theorem GM.met {C : Addr} {m qual : Str} {st : Stmt} {N ps : List Str} {k : Nat} {sp : Sp} (c : Cls K C) (D : GM K C m qual st ps) (S : FnScope N ps (defScope st)) (len : ∀ vs H Q E, sp vs H Q E → vs.length = ps.length)
    (hbody : ∀ (f : Addr) (cdv : Value) (A : Around) (outer : List Env) (s : Shared) (H : Hp) (vs : List V) (Q : VK) (E : XK),
      Room k (A.deeper (envOfC qual (defScope st) s.heap.objs.size f cdv)) → sp vs H Q E →
      ∃ t, PSs (cxOf CX0 P w K mg base N qual (defScope st) f cdv A outer s H E).nox (defBody st) t ∧ t { nx := fun _ H' => Q .non H', rt := Q } (start N vs) H) :
    Met P w K mg base (k + 1) C m sp [] := by
  obtain ⟨f, fd, F, hm, hb⟩ := D
  exact ⟨f, fd, ps, [], c, hm, F.ok S len (hbody f), hb, .nil⟩
theorem Cal.up {x : Str} {sp : Sp} {i j : Nat} (c : Cal P w K mg base i x sp []) (h : i ≤ j) : Cal P w K mg base j x sp [] := by
  obtain ⟨f, fd, ps, ds, F, r⟩ := c.ex
  exact ⟨f, fd, ps, ds, F.mono h, r⟩
end
theorem iteF_of {b : Bool} {A B : Prop} (h : b = false) (q : B) : if b = true then A else B := by rw [h]; exact iteF q
theorem iteT_of {b : Bool} {A B : Prop} (h : b = true) (q : A) : if b = true then A else B := by rw [h]; exact iteT q
theorem dS {a b : Str} (h : a ≠ b) : decide (V.str a = V.str b) = false := decide_eq_false fun e => h (V.str.inj e)
theorem dSs (a : Str) : decide (V.str a = V.str a) = true := decide_eq_true rfl
theorem nI {i j : Int} (h : ¬ decide (V.int i = V.int j) = true) : i ≠ j := fun e => h (decide_eq_true (congrArg V.int e))
theorem takeS {α : Type} {l : List α} {i : Nat} {x : α} (h : l[i]? = some x) : l.take (i + 1) = l.take i ++ [x] := by rw [List.take_add_one, h]; rfl
theorem mapAt {α : Type} {f : α → V} {L : List α} {i : Nat} {x : V} (h : (L.map f)[i]? = some x) : ∃ y, L[i]? = some y ∧ x = f y := by
  rw [List.getElem?_map] at h
  cases e : L[i]? with
  | none => rw [e] at h; cases h
  | some y => rw [e] at h; exact ⟨y, rfl, (Option.some.inj h).symm⟩
theorem nd_len {α : Type} [DecidableEq α] : ∀ {l D : List α}, l.Nodup → (∀ x ∈ l, x ∈ D) → l.length ≤ D.length
  | [], D, _, _ => Nat.zero_le _
  | x :: l, D, n, h => by
    obtain ⟨n1, n2⟩ := List.nodup_cons.mp n
    have hx := h x List.mem_cons_self
    have := nd_len (l := l) (D := D.erase x) n2 fun y hy => (List.mem_erase_of_ne fun z => n1 (by rw [← z]; exact hy)).mpr (h y (List.mem_cons_of_mem _ hy))
    rw [List.length_erase_of_mem hx] at this
    have := List.length_pos_of_mem hx
    rw [List.length_cons]
    omega
theorem small {n : Nat} (h : n ≤ 1000) : n ≤ sizeLine := Nat.le_of_lt (small1000 h)
/-! ### rules within a comprehension's block: the written part is the def's own -/
section
variable {X : Cx} {K : PySem.W.Frag} {e a b : Expr} {ta tb : TE} {pos : Pos}
theorem bx_fld {f : Str} (hK : X.K = K) (he : PE X e ta) (hb : attributeBase e f X.env (eval e X.env) = eval e X.env) : PE X (.Attribute e f pos) (tFld K ta f) := hK ▸ pe_fld he hb
theorem bx_list (hK : X.K = K) (ha : PE X a ta) (hb : PE X b tb) (hs : PlainIx b) : PE X (.Subscript a b pos) (tOp (rIxL K) ta tb) := hK ▸ pe_ix ix_list ha hb hs
theorem bx_tup (hK : X.K = K) (ha : PE X a ta) (hb : PE X b tb) (hs : PlainIx b) : PE X (.Subscript a b pos) (tOp (rIxT K) ta tb) := hK ▸ pe_ix ix_tup ha hb hs
theorem bx_seq (hK : X.K = K) (ha : PE X a ta) (hb : PE X b tb) (hs : PlainIx b) : PE X (.Subscript a b pos) (tOp (fun x y H Q => rIxL K x y H Q ∨ rIxT K x y H Q) ta tb) := hK ▸ pe_ix (IxR.or ix_list ix_tup) ha hb hs
theorem bx_in {pos' : Pos} (hK : X.K = K) (ha : PE X a ta) (hb : PE X b tb) (hm : behindInMarks .In b = false := by first | rfl | exact nobehind _ (by decide) (by decide)) : PE X (.Compare a [.In] [b] pos') (tOp (rIn K false) ta tb) := hK ▸ pe_cmpR op_in_seq ha hb hm
theorem bx_notin {pos' : Pos} (hK : X.K = K) (ha : PE X a ta) (hb : PE X b tb) (hm : behindInMarks .NotIn b = false := by first | rfl | exact nobehind _ (by decide) (by decide)) : PE X (.Compare a [.NotIn] [b] pos') (tOp (rIn K true) ta tb) := hK ▸ pe_cmpR op_notIn_seq ha hb hm
theorem bt_in {pos' : Pos} (hK : X.K = K) (ha : PE X a ta) (hb : PE X b tb) (hm : behindInMarks .In b = false := by first | rfl | exact nobehind _ (by decide) (by decide)) : PT X (.Compare a [.In] [b] pos') (tTest (tOp (rIn K false) ta tb)) := hK ▸ pt_cmpR op_in_seq ha hb hm
theorem bt_notin {pos' : Pos} (hK : X.K = K) (ha : PE X a ta) (hb : PE X b tb) (hm : behindInMarks .NotIn b = false := by first | rfl | exact nobehind _ (by decide) (by decide)) : PT X (.Compare a [.NotIn] [b] pos') (tTest (tOp (rIn K true) ta tb)) := hK ▸ pt_cmpR op_notIn_seq ha hb hm
def tTr (K : PySem.W.Frag) (ta : TE) : TT := fun σ H Q => ta σ H fun x H' => ∃ k, TruV K x H' k ∧ Q k H'
theorem bt_truth (hK : X.K = K) (ha : PE X a ta) (he : ∀ whole, isTrue a X.env whole = (do let v ← whole; standAt a.pos; holding [v] (truthy v))) : PT X a (tTr K ta) := hK ▸ pt_truth ha he
def rLn (K : PySem.W.Frag) : List V → Hp → VK → Prop := fun xs H Q => ∃ p ys, xs = [.ref p] ∧ (SqL K H p ys ∨ SqT K H p ys) ∧ Q (.int ys.length) H
theorem bx_len {x : Str} {p : Pos} {t : TA} (hK : X.K = K) (hg : Gl X x) (hm : X.mg x = none) (hv : bootBuiltins x = some (.builtin "len")) (ha : PA X [e] t) (hn : x ≠ "__name__" := by decide) (hdb : (x == ("__debug__" : Str)) = false := by decide)
    (he : starEach [e] X.env = (false, eval e X.env) :: starEach [] X.env := by rfl) (hpl : (backTo pos (starEach [] X.env)).any (·.1) = false := by rfl) :
    PE X (.Call (.Name x p) [e] [] pos) (tCB (rLn K) t) := hK ▸ pe_callB call_len_seq hg hm hv ha hn hdb he hpl
theorem bx_ptup {es : List Expr} {k n : Nat} {t : TGs} (hK : X.K = K) (hc : X.calm = true) (h : PGs X es t) (hn : (assignEach es X.env).length = n := by rfl) (hst : (assignEach es X.env).findIdx? (·.1) = none := by rfl) :
    PG X (.Tuple es k pos) (gTup K n t) := hK ▸ pg_tup hc h hn hst
end

/-! ### the draws: a list of the script's ints, a place, what is left of a great number, a seed -/
def drawV (sc : Addr) (p b z : Int) : List V := [.ref sc, .int p, .int b, .int z]
/-- a draw's list stands at d, its ints at sc -/
def Drw (d sc : Addr) (H : Hp) : Prop :=
  ∃ (ns : List Int) (p b z : Int), H d = some (.lst (drawV sc p b z)) ∧ H sc = some (.lst (ns.map V.int)) ∧ 0 ≤ p ∧ 0 ≤ b ∧ 0 ≤ z ∧ d ≠ sc
theorem Drw.kp {d sc : Addr} {H H' : Hp} {M : List Addr} (D : Drw d sc H) (k : Kp M H H') (h1 : d ∉ M) (h2 : sc ∉ M) : Drw d sc H' := by
  obtain ⟨ns, p, b, z, e1, e2, r⟩ := D
  exact ⟨ns, p, b, z, k.k _ _ e1 h1, k.k _ _ e2 h2, r⟩
/-- the next number below m; nothing but the draw's own list changes -/
def spNext : Sp := fun vs H Q _ => ∃ (d sc : Addr) (m : Int), vs = [.ref d, .int m] ∧ 0 < m ∧ m < 1073741824 ∧ Drw d sc H ∧
  ∀ (r : Int) (o : HO), 0 ≤ r → r < m → (∀ xs, o ≠ .tup xs) → Drw d sc (upd H d o) → Q (.int r) (upd H d o)
def spDraw (K : PySem.W.Frag) : Sp := fun vs H Q _ => ∃ (a : Addr) (ns : List Int), vs = [.ref a] ∧ SqL K H a (ns.map V.int) ∧
  ∀ (d sc : Addr) (H' : Hp), Same H H' → H d = none → H sc = none → Drw d sc H' → Q (.ref d) H'
structure TDraw (mg : Str → Option Value) : Prop where
  n_int : mg "int" = none
  n_len : mg "len" = none
  n_abs : mg "abs" = none
  n_list : mg "list" = none
section
variable {P : Program} {w : World} {K : PySem.W.Frag} {mg : Str → Option Value} {base : Heap}
theorem ok_draw (D : GD K mg "_law_draw" sD_Ldraw ["script"]) (T : TDraw mg) : Cal P w K mg base 1 "_law_draw" (spDraw K) [] := by
  refine D.cal sc_Ldraw (fun vs H Q E h => ?_) (fun f cdv A outer s H vs Q E hr h => ?_)
  · obtain ⟨a, ns, rfl, _⟩ := h
    rfl
  obtain ⟨a, ns, rfl, hS, q⟩ := h
  refine ⟨_, (pss_one (ps_ret (pe_lst (pa_cons (pe_callTy call_list_of (by rfl) T.n_list (by decide +kernel) (pa_cons (pv 0) pa_nil)) (pa_cons pe_int (pa_cons pe_int (pa_cons pe_int pa_nil))))))), ?_⟩
  refine ⟨_, rfl, a, _, rfl, .inl hS, fun l hl => ?_⟩
  refine ⟨(by show 4 ≤ sizeLine; decide), fun d hd => ?_⟩
  have nld : l ≠ d := fun e => by rw [← e, upd_same] at hd; cases hd
  have hd0 : H d = Option.none := by rw [upd_ne nld.symm] at hd; exact hd
  refine q d l _ (fun b o e => ?_) hd0 hl ⟨ns, 0, 0, 17, upd_same, ?_, by decide, by decide, by decide, nld.symm⟩
  · rw [upd_ne (ne_of_none e hd0), upd_ne (ne_of_none e hl)]; exact e
  · rw [upd_ne nld, upd_same]
theorem ok_next (D : GD K mg "_law_next" sD_Lnext ["draw", "many"]) (T : TDraw mg) : Cal P w K mg base 1 "_law_next" spNext [] := by
  refine D.cal sc_Lnext (fun vs H Q E h => ?_) (fun f cdv A outer s H vs Q E hr h => ?_)
  · obtain ⟨d, sc, m, rfl, _⟩ := h
    rfl
  obtain ⟨d, sc, m, rfl, m0, m1, ⟨ns, p, b, z, hd, hs, p0, b0, z0, ne⟩, q⟩ := h
  refine ⟨_, (pss_cons (ps_if (pt_cmpR op_gt (pe_ix ix_list (pv 0) pe_int (fun _ _ => rfl)) pe_int (nomark _)) (pss_cons (ps_set (i := 2) sc_Lnext.nd rfl (Or.inl rfl) (pe_op op_mod (pe_callTy call_int1 (by rfl) T.n_int (by decide +kernel) (pa_cons (pe_ix ix_list (pv 0) pe_int (fun _ _ => rfl)) pa_nil)) (pv 1)))
    (pss_cons (ps_asg (pe_op op_fdiv (pe_ix ix_list (pv 0) pe_int (fun _ _ => rfl)) (pv 1)) (pg_sub (pv 0) pe_int set_list))
    (pss_one (ps_ret (pv 2))))) pss_nil)
    (pss_cons (ps_if (pt_cmpR op_lt (pe_ix ix_list (pv 0) pe_int (fun _ _ => rfl)) (pe_callB call_len_seq (by rfl) T.n_len (by decide +kernel) (pa_cons (pe_ix ix_list (pv 0) pe_int (fun _ _ => rfl)) pa_nil)) (nomark _)) (pss_cons (ps_set (i := 3) sc_Lnext.nd rfl (Or.inl rfl) (pe_callB call_abs (by rfl) T.n_abs (by decide +kernel) (pa_cons (pe_ix ix_list (pe_ix ix_list (pv 0) pe_int (fun _ _ => rfl)) (pe_ix ix_list (pv 0) pe_int (fun _ _ => rfl)) (fun _ _ => rfl)) pa_nil)))
    (pss_cons (ps_asg (pe_op op_add (pe_ix ix_list (pv 0) pe_int (fun _ _ => rfl)) pe_int) (pg_sub (pv 0) pe_int set_list))
    (pss_cons (ps_if (pt_cmpR op_ge (pv 3) (pe_op op_pow pe_int pe_int) (nomark _)) (pss_cons (ps_asg (pe_op op_fdiv (pv 3) (pv 1)) (pg_sub (pv 0) pe_int set_list))
    (pss_one (ps_ret (pe_op op_mod (pe_callTy call_int1 (by rfl) T.n_int (by decide +kernel) (pa_cons (pv 3) pa_nil)) (pv 1))))) pss_nil)
    (pss_one (ps_asg (pe_op op_mod (pe_callTy call_int1 (by rfl) T.n_int (by decide +kernel) (pa_cons (pe_op op_add (pe_op op_add (pe_op op_mul (pe_ix ix_list (pv 0) pe_int (fun _ _ => rfl)) pe_int) (pv 3)) pe_int) pa_nil)) pe_int) (pg_sub (pv 0) pe_int set_list)))))) (pss_one (ps_asg (pe_op op_mod (pe_callTy call_int1 (by rfl) T.n_int (by decide +kernel) (pa_cons (pe_op op_add (pe_op op_mul (pe_ix ix_list (pv 0) pe_int (fun _ _ => rfl)) pe_int) pe_int) pa_nil)) pe_int) (pg_sub (pv 0) pe_int set_list))))
    (pss_one (ps_ret (pe_op op_mod (pe_op op_fdiv (pe_callTy call_int1 (by rfl) T.n_int (by decide +kernel) (pa_cons (pe_op op_mod (pe_op op_mul (pe_ix ix_list (pv 0) pe_int (fun _ _ => rfl)) pe_int) pe_int) pa_nil)) pe_int) (pv 1)))))), ?_⟩
  -- draw[2] > 0
  refine ⟨_, rfl, d, _, _, _, rfl, rfl, SqL.of hd, rfl, _, _, rfl, rfl, _, rfl, ?_⟩
  have put : ∀ (u : HO) (xs : List V), H d = some u → upd H d (.lst xs) d = some (.lst xs) := fun _ _ _ => upd_same
  refine ite2 (fun c => ?_) (fun c => ?_)
  · refine ⟨_, rfl, d, _, _, _, rfl, rfl, SqL.of hd, rfl, .inl ⟨_, rfl, _, rfl, _, _, rfl, rfl, m0, ?_⟩⟩
    refine ⟨_, rfl, d, _, _, _, rfl, rfl, SqL.of hd, rfl, _, rfl, _, _, rfl, rfl, ⟨m0, m1⟩, _, rfl, d, _, 2, 2, rfl, rfl, hd, rfl, _, rfl, ?_⟩
    refine q _ _ (Int.emod_nonneg _ (by omega)) (Int.emod_lt_of_pos _ m0) (fun _ e => by cases e) ⟨ns, p, b / m, z, upd_same, by rw [upd_ne ne.symm]; exact hs, p0, Int.ediv_nonneg b0 (by omega), z0, ne⟩
  · -- draw[1] < len(draw[0])
    refine ⟨_, rfl, d, _, _, _, rfl, rfl, SqL.of hd, rfl, _, rfl, d, _, _, _, rfl, rfl, SqL.of hd, rfl, sc, _, rfl, .inl (SqL.of hs), _, _, rfl, rfl, _, rfl, ?_⟩
    refine ite2 (fun c1 => ?_) (fun c1 => ?_)
    · have c1' : p < (((ns.map V.int).length : Nat) : Int) := of_decide_eq_true c1
      have hp : p.toNat < ns.length := by rw [List.length_map] at c1'; omega
      have hat : atI (ns.map V.int) p = some (.int ns[p.toNat]) := by
        exact at_of (j := p.toNat) (by omega) (by rw [List.getElem?_map, List.getElem?_eq_getElem hp]; rfl)
      have keep : ∀ x o, (upd (upd H d o) d x) = upd H d x := fun x o => upd_upd
      generalize hv : ns[p.toNat] = v at hat
      have hcell : (0 : Int) ≤ (if v < 0 then -v else v) := by split <;> omega
      refine ⟨_, rfl, d, _, _, _, rfl, rfl, SqL.of hd, rfl, _, rfl, d, _, _, _, rfl, rfl, SqL.of hd, rfl, sc, _, _, _, rfl, rfl, SqL.of hs, hat, _, rfl, ?_⟩
      generalize (if v < 0 then -v else v) = u at hcell
      refine ⟨_, rfl, d, _, _, _, rfl, rfl, SqL.of hd, rfl, _, _, rfl, rfl, _, rfl, d, _, 1, 1, rfl, rfl, hd, rfl, ?_⟩
      have hd1 : (upd H d (.lst (drawV sc (p + 1) b z))) d = some (.lst (drawV sc (p + 1) b z)) := upd_same
      have hs1 : ∀ o, (upd H d o) sc = some (.lst (ns.map V.int)) := fun o => by rw [upd_ne ne.symm]; exact hs
      refine ⟨_, rfl, _, _, rfl, rfl, ⟨by decide, by decide, by decide⟩, _, _, rfl, rfl, _, rfl, ?_⟩
      refine ite2 (fun c2 => ?_) (fun c2 => ?_)
      · refine ⟨_, rfl, _, rfl, _, _, rfl, rfl, ⟨m0, m1⟩, _, rfl, d, _, 2, 2, rfl, rfl, hd1, rfl, ?_⟩
        refine ⟨_, rfl, .inl ⟨_, rfl, _, rfl, _, _, rfl, rfl, m0, ?_⟩⟩
        rw [keep]
        exact q _ _ (Int.emod_nonneg _ (by omega)) (Int.emod_lt_of_pos _ m0) (fun _ e => by cases e) ⟨ns, p + 1, u / m, z, upd_same, hs1 _, by omega, Int.ediv_nonneg hcell (by omega), z0, ne⟩
      · refine ⟨_, rfl, d, _, _, _, rfl, rfl, SqL.of hd1, rfl, _, _, rfl, rfl, .inr ⟨by decide, by decide⟩, _, rfl, _, _, rfl, rfl, _, _, rfl, rfl, .inl ⟨_, rfl, _, _, rfl, rfl, (by show (0 : Int) < 2147483647; decide), ?_⟩⟩
        refine ⟨_, rfl, d, _, 3, 3, rfl, rfl, hd1, rfl, ?_⟩
        rw [keep]
        have hz0 : 0 ≤ (z * 48271 + u + 11) % 2147483647 := Int.emod_nonneg _ (by decide)
        refine ⟨_, rfl, d, _, _, _, rfl, rfl, SqL.of upd_same, rfl, _, _, rfl, rfl, .inr ⟨by decide, by decide⟩, _, _, rfl, rfl, (by show (0 : Int) < 2147483629; decide), .inl ⟨_, rfl, _, _, rfl, rfl, ⟨by decide, by decide⟩, _, rfl, _, _, rfl, rfl, m0, ?_⟩⟩
        exact q _ _ (Int.emod_nonneg _ (by omega)) (Int.emod_lt_of_pos _ m0) (fun _ e => by cases e) ⟨ns, p + 1, b, _, upd_same, hs1 _, by omega, b0, hz0, ne⟩
    · refine ⟨_, rfl, d, _, _, _, rfl, rfl, SqL.of hd, rfl, _, _, rfl, rfl, .inr ⟨by decide, by decide⟩, _, _, rfl, rfl, .inl ⟨_, rfl, _, _, rfl, rfl, (by show (0 : Int) < 2147483647; decide), ?_⟩⟩
      refine ⟨_, rfl, d, _, 3, 3, rfl, rfl, hd, rfl, ?_⟩
      have hz0 : 0 ≤ (z * 48271 + 12345) % 2147483647 := Int.emod_nonneg _ (by decide)
      refine ⟨_, rfl, d, _, _, _, rfl, rfl, SqL.of upd_same, rfl, _, _, rfl, rfl, .inr ⟨by decide, by decide⟩, _, _, rfl, rfl, (by show (0 : Int) < 2147483629; decide), .inl ⟨_, rfl, _, _, rfl, rfl, ⟨by decide, by decide⟩, _, rfl, _, _, rfl, rfl, m0, ?_⟩⟩
      exact q _ _ (Int.emod_nonneg _ (by omega)) (Int.emod_lt_of_pos _ m0) (fun _ e => by cases e) ⟨ns, p, b, _, upd_same, by rw [upd_ne ne.symm]; exact hs, p0, b0, hz0, ne⟩
end

/-! ### the draws' list by its shape -/
theorem Drw.put {d sc p : Addr} {H : Hp} {o : HO} (D : Drw d sc H) (h1 : d ≠ p) (h2 : sc ≠ p) : Drw d sc (upd H p o) := by
  obtain ⟨ns, a, b, z, e1, e2, r⟩ := D
  exact ⟨ns, a, b, z, by rw [upd_ne h1]; exact e1, by rw [upd_ne h2]; exact e2, r⟩
theorem Drw.step {d sc : Addr} {H : Hp} {o : HO} (D : Drw d sc H) : Kp [d] H (upd H d o) := by
  obtain ⟨ns, a, b, z, e1, e2, r⟩ := D
  exact .put (by simp) e1 (fun xs e => by cases e)
theorem Drw.ne_new {d sc p : Addr} {H : Hp} (D : Drw d sc H) (h : H p = none) : d ≠ p ∧ sc ≠ p := by
  obtain ⟨ns, a, b, z, e1, e2, r⟩ := D
  exact ⟨ne_of_none e1 h, ne_of_none e2 h⟩
theorem Drw.dsc {d sc : Addr} {H : Hp} (D : Drw d sc H) : d ≠ sc := by
  obtain ⟨ns, a, b, z, e1, e2, p, q, r, ne⟩ := D
  exact ne
theorem Drw.dl {d sc : Addr} {H : Hp} (D : Drw d sc H) : ∃ xs, H d = some (.lst xs) := let ⟨_, _, _, _, e, _⟩ := D; ⟨_, e⟩
theorem Drw.noI {d sc b : Addr} {H : Hp} {L : List Int} (D : Drw d sc H) (e : H b = some (.lst (L.map V.int))) : b ≠ d := fun z => by
  obtain ⟨_, _, _, _, e2, _⟩ := D
  rw [z, e2] at e
  have h := HO.lst.inj (Option.some.inj e)
  cases L with
  | nil => cases h
  | cons x l => cases (List.cons.inj h).1
theorem Drw.noR {d sc b : Addr} {H : Hp} {L : List Addr} (D : Drw d sc H) (e : H b = some (.lst (L.map V.ref))) : b ≠ d := fun z => by
  obtain ⟨_, _, _, _, e2, _⟩ := D
  rw [z, e2] at e
  have h := HO.lst.inj (Option.some.inj e)
  cases L with
  | nil => cases h
  | cons x l =>
    cases l with
    | nil => cases (List.cons.inj h).2
    | cons y l => cases (List.cons.inj (List.cons.inj h).2).1

/-! ### a set of ints, written {e for x in ..}, as a value; {k: v for ..} given to a name -/
section
variable {X : Cx}
def tSci (w : World) (wi : TI) (g : TG) (te : TE) (vs : List Nat) : TE := fun τ G Q => wi τ G fun J G1 => ∀ D, G1 D = none →
  ∃ W : Nat → Nat → Hp → Prop, (∃ m, W 0 m (upd G1 D (SetO w D (fun _ => false) 0))) ∧
    ∀ i m G', W i m G' → (J.stop i G' ∧ Q (.ref D) G') ∨
      (J.go i G' ∧ ∃ N : Hp → Prop, (∀ G2, N G2 → ∃ m', m' < m ∧ W (i + 1) m' G2) ∧
        ∀ x G2, J.yld i G' x G2 → g x (wipe τ vs) G2 fun τ2 G3 => wipe τ2 vs = wipe τ vs ∧ te τ2 G3 fun y G4 =>
          ∃ (k : Int) (S : Int → Bool) (n : Nat), y = .int k ∧ G4 D = some (SetO w D S n) ∧ n + 1 < scanBound ∧ N (upd G4 D (SetO w D (fun j => S j || decide (j = k)) (if S k = true then n else n + 1))))
/-- the members of a block's comprehension, as they are laid -/
def cenvAt (scope : Scope) (X : Cx) (L : Addr) : Env := compEnvC scope (cellsFrom (L + 1) scope.names (cloFrom X.env.cells scope.names [])) L X.env
theorem pe_sci {elt tg iter : Expr} {scope : Scope} {own : List (Str × Nat)} {pos : Pos} {wi : TI} {g : TG} {te : TE} (calm : X.calm = true) (nd : X.N.Nodup) (hi : PI X tg iter wi) (bk : BlkOk X.N X.env.scope scope own)
    (hg : ∀ (z : Shared) (G : Hp) (L : Addr) (cl : List (Str × Addr)) (fp : List Addr), PG (X.blk z G scope (compEnvC scope cl L X.env) fp) tg g)
    (he : ∀ (z : Shared) (G : Hp) (L : Addr) (cl : List (Str × Addr)) (fp : List Addr), PE (X.blk z G scope (compEnvC scope cl L X.env) fp) elt te)
    (hf : ∀ x, foldedSetIterable iter X.env x = pure x := by intro _; rfl) : PE X (.SetComp elt [⟨tg, iter, [], 0⟩] scope pos) (tSci X.w wi g te (own.map (·.2))) := by
  refine ⟨fun pins z τ G Q I0 hw => ?_⟩
  rw [PpSet.eval_SetComp]
  have cells : ∀ y ∈ scope.names, y.2 = .free → ∃ c, X.env.cells.lookup y.1 = some c := fun y my ye => I0.ok.has _ (bk.free y my ye)
  refine wpAny_comprehension_free (use := none) rfl hf (closure_ok cells) bk.kind (fun y my ye => (bk.uniq y my).trans (congrArg some ye)) (thn (hi.run pins z τ G _ I0 hw) fun _ z1 h1 => thn h1 fun _ z2 h2 => ?_)
  obtain ⟨it, fp, tn, J, G2, rfl, I2, T, t2, p2, q⟩ := h2
  refine PpSet.newSet_ok (newEnv_comp ?_)
  obtain ⟨D, hD⟩ : ∃ D, z2.heap.objs.size = D := ⟨_, rfl⟩
  have free2 : G2 D = none := I2.hok.fresh (Nat.le_of_eq hD)
  obtain ⟨W, ⟨m0, w0⟩, turn⟩ := q D free2
  obtain ⟨O, hO⟩ : ∃ O : HO, SetO X.w D (fun _ => false) 0 = O := ⟨_, rfl⟩
  obtain ⟨z3, hz3⟩ : ∃ z3 : Shared, ({ z2 with heap := z2.heap.push { cls := .type "set", dict := none, data := .set #[] 0 (.fresh 0 0 (!X.w.params.followText "set-order")) } } : Shared) = z3 := ⟨_, rfl⟩
  obtain ⟨G3, hG3⟩ : ∃ G3 : Hp, upd G2 D O = G3 := ⟨_, rfl⟩
  have keep3 : ∀ b o, z2.heap.get? b = some o → z3.heap.get? b = some o := fun b o e => by rw [← hz3]; exact Heap.get?_push_of_some _ e
  have size3 : z3.heap.objs.size = z2.heap.objs.size + 1 := by rw [← hz3]; exact Heap.size_push ..
  have I3 : Inv X pins τ G3 z3 := by
    rw [← hz3, ← hG3, ← hO]
    refine I2.laid (t' := z2.toks) (fun b o e => Heap.get?_push_of_some _ e) (Nat.le_of_eq hD) ?_
    rw [← hD]
    exact setO_new (setR_fresh X.w)
  have fps : ∀ b ∈ fp, b < z2.heap.objs.size := fun b mb => let ⟨_, e, _⟩ := T.obj _ _ t2 b mb; Heap.lt_size e
  have p3 : ∀ b ∈ fp, FpOk X pins G3 b ∧ b < z3.heap.objs.size := fun b mb => by
    have lt := fps b mb
    refine ⟨⟨?_, (p2 b mb).2⟩, by rw [size3]; exact Nat.lt_succ_of_lt lt⟩
    rw [← hG3, upd_ne (by rw [← hD]; exact Nat.ne_of_lt lt)]
    exact (p2 b mb).1
  have I4 := block_start I3 bk nd p3
  obtain ⟨L, hL⟩ : ∃ L, z3.heap.objs.size = L := ⟨_, rfl⟩
  rw [hL] at I4
  rw [hO, hG3] at w0
  have pg := hg z3 G3 L (cellsFrom (L + 1) scope.names (cloFrom X.env.cells scope.names [])) fp
  have pe := he z3 G3 L (cellsFrom (L + 1) scope.names (cloFrom X.env.cells scope.names [])) fp
  rw [hz3, hL]
  show codeAny _ _ (.compStart (.SetComp elt [⟨tg, iter, [], 0⟩] scope pos) 0 (.ref it) (.ref z2.heap.objs.size) (cenvAt scope X L)) (compPost (model X.prog X.w) X.A X.xe none _ (.ref z2.heap.objs.size) L) { z3 with heap := pushCells (z3.heap.push { cls := .type "dict", data := .dict #[] }) scope.names }
  rw [hD]
  obtain ⟨ce, hce⟩ : ∃ ce, cenvAt scope X L = ce := ⟨_, rfl⟩
  have hloc : ce.locals = L := by rw [← hce]; rfl
  have hce' : compEnvC scope (cellsFrom (L + 1) scope.names (cloFrom X.env.cells scope.names [])) L X.env = ce := hce
  rw [hce'] at I4 pg pe
  rw [hce]
  obtain ⟨z4, hz4⟩ : ∃ z4 : Shared, ({ z3 with heap := pushCells (z3.heap.push { cls := .type "dict", data := .dict #[] }) scope.names } : Shared) = z4 := ⟨_, rfl⟩
  rw [hz4] at I4 ⊢
  have t4 : tn 0 z4.heap := T.keep _ _ _ t2 fun b _ o e => by rw [← hz4]; exact pushCells_keeps _ _ _ _ (Heap.get?_push_of_some _ (keep3 b o e))
  have still : ∀ {τ' : L2.St} {G' : Hp} {z' : Shared}, Inv (X.blk z3 G3 scope ce fp) [] τ' G' z' → (∀ b ∈ fp, G' b = none) → ∀ b ∈ fp, FpOk (X.blk z3 G3 scope ce fp) [] G' b := fun J' no b mb =>
    ⟨no b mb, (J'.ok.exf b mb).1, J'.ok.exfs b mb, .inl mb, fun x c e => (J'.ok.exf b mb).2 x c e, fun p mp => by cases (show p ∈ ([] : List (Addr × Obj)) ++ [] from mp)⟩
  have loop : codeAny (model X.prog X.w) X.A (.compLoop (.SetComp elt [⟨tg, iter, [], 0⟩] scope pos) 0 (.ref it) (.ref D) ce) (compPost (model X.prog X.w) X.A X.xe none (EP X pins τ Q) (.ref D) L) z4 := by
    refine PpSet.compLoopS_any (fun n z' => ∃ i G', Inv (X.blk z3 G3 scope ce fp) [] (wipe τ (own.map (·.2))) G' z' ∧ tn i z'.heap ∧ (∀ b ∈ fp, G' b = none) ∧ W i n G') ?_ m0 ⟨0, G3, I4, t4, fun b mb => (p3 b mb).1.1, w0⟩
    rintro n z5 ⟨i, G5, I5, t5, n5, w5⟩
    rcases turn i n G5 w5 with ⟨stop, done⟩ | ⟨go, N, hN, step⟩
    · refine thnF (T.done (X.blk z3 G3 scope ce fp) rfl rfl rfl calm i [] z5 _ G5 (fun _ _ => False) I5 (still I5 n5) t5 stop) fun r z6 ⟨hr, I6⟩ => ?_
      subst hr
      have I7 : Inv X pins τ G5 z6 := I3.call' (ch := fp) I6.os I6.base I6.hok I6.bare fun b mb => let f := (p3 b mb).1; ⟨f.2.2.2.1, f.2.1, f.2.2.2.2.1, f.2.2.2.2.2⟩
      obtain ⟨m, hm, _⟩ := I6.loc
      have hm' : z6.heap.Ns L m := hloc ▸ (show z6.heap.Ns ce.locals m from hm)
      have noL : G5 L = none := hloc ▸ (show G5 ce.locals = none from I6.free)
      obtain ⟨f0, f1, f2, f3, f4, f5⟩ := I3.fpOk (Nat.le_of_eq hL) noL
      exact ⟨m, hm', fun _ sb => ⟨.ref D, G5, I7.turned (t' := z6.toks) (fun b o mb e => (sb.2 b mb).trans e) f0 f1 f3 f4 f5, rfl, done⟩⟩
    · refine thnF (T.item (X.blk z3 G3 scope ce fp) rfl rfl rfl calm i [] z5 _ G5 (fun _ _ => False) I5 (still I5 n5) t5 go) fun r z6 ⟨u, hr, h6⟩ => ?_
      subst hr
      refine thnF h6 fun _ z7 ⟨x, G7, I7, r7, y7, t7, n7⟩ => ?_
      have J7 := I7.pinned (still I7 n7) (T.obj _ _ t7)
      refine thnF (pg.run _ z7 _ G7 x u _ J7 r7 (step x G7 y7)) fun _ z8 ⟨τ8, G8, I8, hw8, q8⟩ => ?_
      refine wpAny_pure ?_
      rw [if_pos rfl]
      refine thnF (pe.run _ z8 τ8 G8 _ I8 q8) fun v z9 ⟨y, G9, I9, r9, k, S, c, ey, hD9, room, nx⟩ => ?_
      subst ey
      obtain ⟨tk, rfl⟩ := (show ∃ tk, v = Value.int k tk from r9)
      have R9 := setO_get I9 hD9
      refine setR_add R9 room fun h' sb new => ?_
      have some9 : ∃ u, h'.get? D = some u := let ⟨o, _, _, _, e, _⟩ := new; ⟨o, e⟩
      have I10 := I9.write (e := D) (t' := z9.toks + 1) (by rw [hD9]; trivial) (.inl rfl) (fun b u mb e => (sb.2 b mb).trans e) some9 (setO_new (P := X.prog) (H := upd G9 D (SetO X.w D (fun j => S j || decide (j = k)) (if S k = true then c else c + 1))) new)
      obtain ⟨m', lt, w'⟩ := hN _ nx
      have pin : ∀ b ∈ fp, ∀ o, z7.heap.get? b = some o → h'.get? b = some o ∧ (upd G9 D (SetO X.w D (fun j => S j || decide (j = k)) (if S k = true then c else c + 1))) b = none := fun b mb o e =>
        let a := I10.pin (b, o) (List.mem_append_right _ (List.mem_append_right _ (mem_pinsAt mb e)))
        ⟨a.1, a.2.1⟩
      refine ⟨m', lt, i + 1, _, (I10.unpinned (pins := [])).weak (by rw [← hw8, wipe_length]) (fun j v e => (wipe_some (by rw [hw8]; exact e)).1), T.keep _ _ _ t7 fun b mb o e => (pin b mb o e).1, fun b mb => ?_, w'⟩
      obtain ⟨o, e, _⟩ := T.obj _ _ t7 b mb
      exact (pin b mb o e).2
  exact PpSet.codeAny_compStart_set loop (T.self X.A 0 _ _ _ t4 loop)
/-- over a list that the block leaves as it is -/
theorem sci_list {w : World} {K : PySem.W.Frag} {a : Addr} {xs : List V} {g : TG} {te : TE} {vs : List Nat} {τ : L2.St} {G1 : Hp} {D : Addr} {Z : Hp → Prop} (Pv : Nat → Hp → Prop) (h0 : Pv 0 (upd G1 D (SetO w D (fun _ => false) 0)))
    (hl : ∀ i G, i ≤ xs.length → Pv i G → SqL K G a xs)
    (hs : ∀ i x G, xs[i]? = some x → Pv i G → g x (wipe τ vs) G fun τ2 G3 => wipe τ2 vs = wipe τ vs ∧ te τ2 G3 fun y G4 =>
      ∃ (k : Int) (S : Int → Bool) (n : Nat), y = .int k ∧ G4 D = some (SetO w D S n) ∧ n + 1 < scanBound ∧ Pv (i + 1) (upd G4 D (SetO w D (fun j => S j || decide (j = k)) (if S k = true then n else n + 1))))
    (hd : ∀ G, Pv xs.length G → Z G) :
    ∃ W : Nat → Nat → Hp → Prop, (∃ m, W 0 m (upd G1 D (SetO w D (fun _ => false) 0))) ∧
    ∀ i m G', W i m G' → ((Itl K a).stop i G' ∧ Z G') ∨
      ((Itl K a).go i G' ∧ ∃ N : Hp → Prop, (∀ G2, N G2 → ∃ m', m' < m ∧ W (i + 1) m' G2) ∧
        ∀ x G2, (Itl K a).yld i G' x G2 → g x (wipe τ vs) G2 fun τ2 G3 => wipe τ2 vs = wipe τ vs ∧ te τ2 G3 fun y G4 =>
          ∃ (k : Int) (S : Int → Bool) (n : Nat), y = .int k ∧ G4 D = some (SetO w D S n) ∧ n + 1 < scanBound ∧ N (upd G4 D (SetO w D (fun j => S j || decide (j = k)) (if S k = true then n else n + 1)))) := by
  refine ⟨fun i m G => m + i = xs.length ∧ Pv i G, ⟨xs.length, rfl, h0⟩, fun i m G ⟨e, p⟩ => ?_⟩
  have q := hl i G (by omega) p
  cases m with
  | zero => exact .inl ⟨⟨xs, q, by omega⟩, hd G (by rw [← e, Nat.zero_add]; exact p)⟩
  | succ m =>
    have lt : i < xs.length := by omega
    refine .inr ⟨⟨xs, xs[i], q, List.getElem?_eq_getElem lt⟩, Pv (i + 1), fun G2 p' => ⟨m, Nat.lt_succ_self m, by omega, p'⟩, fun x G2 y => ?_⟩
    obtain ⟨rfl, y⟩ := y
    exact hs i x _ (y xs q) p
end
section
variable {X : Cx}
theorem sw_dict {kx vx : Expr} {gs : List Comprehension} {scope : Scope} {pos py : Pos} {y : Str} {l : Nat} {env : Env} (hk : env.scope.kind = .function) (hy : env.scope.names.lookup y = some .local) (same : (py.line == pos.line) = true)
    (no : (scope.names.any fun (n, k) => n == y && (k == .local || k == .cell)) = false) : swapsWith (.DictComp kx vx gs scope pos) (some (.Name y py)) l env = pure true := by
  have k1 : env.kindOf y = some .local := hy
  have k2 : env.blockKind = .function := by
    show (match env.scope.kind with | _ => _) = _
    rw [hk]
    rfl
  unfold swapsWith
  simp only [k2, k1, no, Expr.pos, same]
  rfl
/-- name = {k: v for ..} on one line, the name a local one -/
theorem ps_setDc {i : Nat} {y : Str} {py : Pos} {kx vx tg iter : Expr} {ifs : List Expr} {scope : Scope} {own : List (Str × Nat)} {pos spos : Pos} {wi : TI} {g : TG} {tt : TT} {tk tv : TE}
    (calm : X.calm = true) (nd : X.N.Nodup) (hy : X.N[i]? = some y) (loc : X.env.scope.names.lookup y = some .local)
    (sw : swapsWith (.DictComp kx vx [⟨tg, iter, ifs, 0⟩] scope pos) (some (.Name y py)) spos.line X.env = pure true) (hi : PI X tg iter wi) (bk : BlkOk X.N X.env.scope scope own)
    (hg : ∀ (z : Shared) (G : Hp) (L : Addr) (cl : List (Str × Addr)) (fp : List Addr), PG (X.blk z G scope (compEnvC scope cl L X.env) fp) tg g)
    (ht : ∀ (z : Shared) (G : Hp) (L : Addr) (cl : List (Str × Addr)) (fp : List Addr), PTs (X.blk z G scope (compEnvC scope cl L X.env) fp) ifs tt)
    (hk : ∀ (z : Shared) (G : Hp) (L : Addr) (cl : List (Str × Addr)) (fp : List Addr), PE (X.blk z G scope (compEnvC scope cl L X.env) fp) kx tk)
    (hv : ∀ (z : Shared) (G : Hp) (L : Addr) (cl : List (Str × Addr)) (fp : List Addr), PE (X.blk z G scope (compEnvC scope cl L X.env) fp) vx tv)
    (hf : ∀ x, foldedSetIterable iter X.env x = pure x := by intro _; rfl) :
    PS X (.Assign [.Name y py] (.DictComp kx vx [⟨tg, iter, ifs, 0⟩] scope pos) spos) (tAsg (tDc wi g tt tk tv (own.map (·.2))) (gName i)) := by
  refine ⟨fun pins z τ G D I0 hw => ?_⟩
  rw [exec_Assign_Name_used _ _ _ _ sw]
  refine wpAny_bind (wpAny_standAt (wpAny_bind ?_))
  show wpAny _ X.A (do let _ ← comprehension (.DictComp kx vx [⟨tg, iter, ifs, 0⟩] scope pos) scope X.env (firstIterPos [⟨tg, iter, ifs, 0⟩] pos) newDict false (eval iter X.env) (some (assign (.Name y py) X.env))) _ _ z
  refine wpAny_bind (thn (dc_core (Qf := fun _ z' => SP X pins D .next z') calm nd I0 hi bk hg ht hk hv hf (show tDc wi g tt tk tv (own.map (·.2)) τ G (fun x G1 => gName i x τ G1 D.nx) from hw) fun L E z1 m G1 I1 q hn f => ?_) fun _ _ hq => wpAny_pure (wpAny_pure hq))
  refine wpAny_assign_Name (store_ok2 (v := V.ref L) I1 nd hy (.inl loc) rfl (fun z2 I2 ⟨a, sb, ha⟩ => ?_) (.inr loc))
  obtain ⟨f0, f1, f2, f3, f4, f5⟩ := f
  refine ⟨m, hn.sameBut sb (ha.elim (fun e => by rw [e]; exact f1) fun e e' => f4 y a e e'.symm), fun h3 sb3 => ?_⟩
  exact ⟨_, G1, I2.turned (t' := z2.toks) (fun b o hb e => (sb3.2 b hb).trans e) f0 f1 f3 f4 f5, q⟩
/-- over anything that is walked, by a word -/
theorem dc_walk {J : It} {g : TG} {tt : TT} {tk tv : TE} {vs : List Nat} {τ : L2.St} {G1 : Hp} {D : Addr} {Z : Hp → Prop} (n : Nat) (Pv : Nat → Hp → Prop) (h0 : Pv 0 (upd G1 D (.dK [])))
    (hgo : ∀ i G, i < n → Pv i G → J.go i G) (hst : ∀ G, Pv n G → J.stop n G)
    (hs : ∀ i x G G2, i < n → Pv i G → J.yld i G x G2 → g x (wipe τ vs) G2 fun τ2 G3 => wipe τ2 vs = wipe τ vs ∧ tt τ2 G3 fun b G4 =>
      if b = true then tk τ2 G4 fun y G5 => tv τ2 G5 fun v G6 => ∃ kvs k, y = kV k ∧ G6 D = some (.dK kvs) ∧ kvs.length < sizeLine ∧ Pv (i + 1) (upd G6 D (.dK (putK kvs k v))) else Pv (i + 1) G4)
    (hd : ∀ G, Pv n G → Z G) :
    ∃ W : Nat → Nat → Hp → Prop, (∃ m, W 0 m (upd G1 D (.dK []))) ∧ ∀ i m G, W i m G →
      (J.stop i G ∧ Z G) ∨ (J.go i G ∧ ∃ Nx : Hp → Prop, (∀ G', Nx G' → ∃ m', m' < m ∧ W (i + 1) m' G') ∧ ∀ x G', J.yld i G x G' → g x (wipe τ vs) G' fun τ2 G2 => wipe τ2 vs = wipe τ vs ∧ tt τ2 G2 fun b G3 =>
        if b = true then tk τ2 G3 fun y G4 => tv τ2 G4 fun v G5 => ∃ kvs k, y = kV k ∧ G5 D = some (.dK kvs) ∧ kvs.length < sizeLine ∧ Nx (upd G5 D (.dK (putK kvs k v))) else Nx G3) := by
  refine ⟨fun i m G => m + i = n ∧ Pv i G, ⟨n, rfl, h0⟩, fun i m G ⟨e, p⟩ => ?_⟩
  cases m with
  | zero =>
    have e' : i = n := by omega
    subst e'
    exact .inl ⟨hst G p, hd G p⟩
  | succ m => exact .inr ⟨hgo i G (by omega) p, Pv (i + 1), fun G' p' => ⟨m, Nat.lt_succ_self m, by omega, p'⟩, fun x G' y => hs i x G G' (by omega) p y⟩
end
/-- over a list -/
theorem dc_list {K : PySem.W.Frag} {a : Addr} {xs : List V} {g : TG} {tt : TT} {tk tv : TE} {vs : List Nat} {τ : L2.St} {G1 : Hp} {D : Addr} {Z : Hp → Prop} (Pv : Nat → Hp → Prop) (h0 : Pv 0 (upd G1 D (.dK []))) (hl : ∀ i G, i ≤ xs.length → Pv i G → SqL K G a xs)
    (hs : ∀ i x G, xs[i]? = some x → Pv i G → g x (wipe τ vs) G fun τ2 G3 => wipe τ2 vs = wipe τ vs ∧ tt τ2 G3 fun b G4 =>
      if b = true then tk τ2 G4 fun y G5 => tv τ2 G5 fun v G6 => ∃ kvs k, y = kV k ∧ G6 D = some (.dK kvs) ∧ kvs.length < sizeLine ∧ Pv (i + 1) (upd G6 D (.dK (putK kvs k v))) else Pv (i + 1) G4) (hd : ∀ G, Pv xs.length G → Z G) :
    ∃ W : Nat → Nat → Hp → Prop, (∃ m, W 0 m (upd G1 D (.dK []))) ∧ ∀ i m G, W i m G →
      ((Itl K a).stop i G ∧ Z G) ∨ ((Itl K a).go i G ∧ ∃ Nx : Hp → Prop, (∀ G', Nx G' → ∃ m', m' < m ∧ W (i + 1) m' G') ∧ ∀ x G', (Itl K a).yld i G x G' → g x (wipe τ vs) G' fun τ2 G2 => wipe τ2 vs = wipe τ vs ∧ tt τ2 G2 fun b G3 =>
        if b = true then tk τ2 G3 fun y G4 => tv τ2 G4 fun v G5 => ∃ kvs k, y = kV k ∧ G5 D = some (.dK kvs) ∧ kvs.length < sizeLine ∧ Nx (upd G5 D (.dK (putK kvs k v))) else Nx G3) :=
  dc_walk xs.length Pv h0 (fun i G hi p => ⟨xs, xs[i], hl i G (Nat.le_of_lt hi) p, List.getElem?_eq_getElem hi⟩) (fun G p => ⟨xs, hl _ G (Nat.le_refl _) p, Nat.le_refl _⟩)
    (fun i x G G2 hi p y => by obtain ⟨rfl, y⟩ := y; exact hs i x _ (y xs (hl i _ (Nat.le_of_lt hi) p)) p) hd

/-! ### set(l) of a list of ints, with its order -/
/-- an empty set's object -/
abbrev sob (w : World) : Obj := { cls := .type "set", dict := none, data := .set #[] 0 (.fresh 0 0 (!w.params.followText "set-order")) }
set_option maxRecDepth 100000 in
set_option maxHeartbeats 3200000 in
theorem set_of_ints {P : Program} {w : World} {A : Around} {E : Value → Shared → Prop} {s : Shared} {l : Addr} {its : Array Value} (ns : List Int) {Q : Value → Shared → Prop}
    (noH : A.handled = none) (isL : s.heap.IsList l its) (are : IntsAre its.toList ns) (few : ns.length + 1 < scanBound)
    (end_ : ∀ (h' : Heap) (tk c : Nat), SetR w h' s.heap.objs.size (fun j => decide (j ∈ ns)) c → c ≤ ns.length → (∀ b o, s.heap.get? b = some o → h'.get? b = some o) → Q (.ref s.heap.objs.size) { s with heap := h', toks := tk }) :
    wpAny (model P w) A (PySem.call (.type "set") [.ref l]) Q E s := by
  have size_eq : its.size = ns.length := by rw [← Array.length_toList]; exact IntsAre.length are
  obtain ⟨cc, ctl, mro⟩ := F.called_set.mro
  have made := F.called_set.made
  have sub := F.called_set.sub
  refine wpAny_call (codeAny_of_tree (show wpAny _ _ (callAny (.type "set") _) _ _ _ from ?_))
  refine wpAny_pure ⟨Code.quiet_builtin _ (by decide +kernel), codeAny_builtin F.entry_type_call (Eq.mpr (by rw [Around.under_plain (weight_type_call_type "set" [.ref l] []) rfl]) ?_)⟩
  have notT := F.called_set.notType
  have canC := F.called_set.canCreate
  have chk := F.typeCall_set_1 (.ref l)
  repeat (any_goals (first | assumption | wp_step))
  refine codeAny_mono (code_set_led1 (.ref l) (E := E) (Q₁ := fun v z => v = .ref s.heap.objs.size ∧ z = { s with heap := s.heap.push (sob w) }) ⟨rfl, rfl⟩) fun r z hr => ?_
  rcases r with e | fl
  · exact hr
  cases fl with
  | next => exact hr.elim
  | brk => exact hr.elim
  | cont => exact hr.elim
  | ret v =>
    obtain ⟨rfl, rfl⟩ := hr
    have at_S : (s.heap.push (sob w)).get? s.heap.objs.size = some (sob w) := Heap.get?_push_size _ rfl
    have ty_S : Shared.TypeIs { s with heap := s.heap.push (sob w) } (.ref s.heap.objs.size) "set" := ⟨_, at_S, rfl⟩
    have i1 := F.called_set.init.lookup
    have i2 := F.called_set.init.bind (.ref s.heap.objs.size)
    repeat (any_goals (first | assumption | wp_step))
    refine codeAny_mono (codeAny_call_builtin (R := wants (fun r z => r = .none ∧ ∃ h' tk c, z = { s with heap := h', toks := tk } ∧ SetR w h' s.heap.objs.size (fun j => decide (j ∈ ns)) c ∧ c ≤ ns.length ∧ (∀ b o, s.heap.get? b = some o → h'.get? b = some o)) E)
      F.called_set.init.plain F.entry_set_init (check_set_init_1 ty_S ?_)) fun r z hr => ?_
    · obtain ⟨⟨lc, ld, ldt, lsl⟩, at_l, c1, ln, c2⟩ := isL
      simp only at c1 c2
      subst c1 c2
      have at_l2 : (s.heap.push (sob w)).get? l = some { cls := .type "list", dict := ld, data := .seq its ln, slots := lsl } := Heap.get?_push_of_some _ at_l
      have s1 := F.sub_list_set
      have s2 := F.sub_list_frozenset
      have s3 : (Value.type "list" == Value.type "dict") = false := by decide
      have isL2 : (s.heap.push (sob w)).IsList l its := ⟨_, at_l2, rfl, ln, rfl⟩
      have lt_l : l < s.heap.objs.size := Heap.lt_size at_l
      have sz : (s.heap.push (sob w)).objs.size = s.heap.objs.size + 1 := Heap.size_push ..
      unfold Builtin.«set.__init__» noKeywords Builtin.Frozenset.updateFrom
      generalize eI : pyIter = itf
      wp_walk
      subst eI
      refine wpAny_pyIter_list isL2 (wpAny_bind (wpAny_runValue ?_))
      have nh : A.in1.in1.in1.handled = none := by simp [noH]
      have ne_I : l ≠ (s.heap.push (sob w)).objs.size := by rw [sz]; exact Nat.ne_of_lt (Nat.lt_succ_of_lt lt_l)
      have out : s.heap.objs.size ∉ [(s.heap.push (sob w)).objs.size, l] := fun m => by
        simp only [List.mem_cons, List.not_mem_nil, or_false] at m
        rcases m with m | m
        · rw [sz] at m; exact Nat.ne_of_lt (Nat.lt_succ_self _) m
        · exact Nat.ne_of_gt lt_l m
      refine set_update_ints ((Walks.list nh _ l ne_I its).toS) s.heap.objs.size out ns size_eq few (fun i v hv => ?_) (its.size - 0) 0 _ (by omega) (Nat.zero_le _) ⟨⟨_, Heap.get?_push_size _ rfl, rfl, rfl⟩, (isL2.push _)⟩ ?start ?fin
      · have lt : i < ns.length := by rw [← size_eq]; exact (Array.getElem?_eq_some_iff.mp hv).1
        obtain ⟨t, e⟩ := PyProof.Rows.IntsAre.int_at are i v (by rw [Array.getElem?_toList]; exact hv)
        exact ⟨ns[i], t, List.getElem?_eq_getElem lt, by rw [e, List.getD_eq_getElem?_getD, List.getElem?_eq_getElem lt]; rfl⟩
      case start => exact ⟨0, Nat.le_refl 0, setR_new_at (Heap.get?_push_of_some _ at_S)⟩
      case fin =>
        rintro ⟨h', g2, d2, tk2, os2⟩ c' mv le R
        have q1 : g2 = s.gens := mv.gens
        have q2 : d2 = s.drawn := mv.drawn
        have q3 : os2 = s.os := mv.os
        subst q1 q2 q3
        show wpAny _ _ _ _ _ _
        refine wpAny_pure (show wpAny _ _ (ret Value.none) _ _ _ from ?_)
        refine wpAny_pure ⟨rfl, h', tk2, c', rfl, R, by omega, fun b o e => mv.heap b o (fun m => ?_) (Heap.get?_push_of_some _ (Heap.get?_push_of_some _ e))⟩
        have lt_b := Heap.lt_size e
        simp only [List.mem_cons, List.not_mem_nil, or_false] at m
        rcases m with m | m
        · exact Nat.ne_of_lt lt_b m
        · rw [sz] at m; exact Nat.ne_of_lt (Nat.lt_succ_of_lt lt_b) m
    · rcases r with e | fl
      · exact hr
      cases fl with
      | next => exact hr.elim
      | brk => exact hr.elim
      | cont => exact hr.elim
      | ret v =>
        obtain ⟨rfl, h', tk, c, rfl, R, le, kp⟩ := hr
        repeat (any_goals (first | assumption | wp_step))
        exact end_ h' tk c R le kp
def rSetL (K : PySem.W.Frag) (w : World) : List V → Hp → VK → Prop := fun xs H Q => ∃ (l : Addr) (ns : List Int), xs = [.ref l] ∧ SqL K H l (ns.map V.int) ∧ ns.length < 60 ∧ ∀ (p : Addr) (c : Nat), H p = none → c ≤ ns.length → Q (.ref p) (upd H p (SetO w p (fun j => decide (j ∈ ns)) c))
theorem cr_setL {X : Cx} (hc : X.calm = true) : CallR X (.type "set") (rSetL X.K X.w) := by
  intro pins s σ H xs us Q I r h
  obtain ⟨l, ns, rfl, hl, few, q⟩ := h
  rw [Vals.ref1 r]
  obtain ⟨its, rv, pl, _⟩ := I.list hl
  exact set_of_ints ns (I.ok.hd hc) pl.isList (by simpa using rv.ints) (by unfold scanBound; omega) fun h' tk c R le kp =>
    ⟨.ref s.heap.objs.size, upd H s.heap.objs.size (SetO X.w s.heap.objs.size (fun j => decide (j ∈ ns)) c), I.laid kp (Nat.le_refl _) (setO_new R), rfl, q _ c (I.hok.fresh (Nat.le_refl _)) le⟩

/-! ### data that are compared: _law_same of equal data -/
mutual
inductive Has (H : Hp) : V → PyData → Prop
  | non : Has H .non .none
  | bl (b : Bool) : Has H (.bl b) (.bool b)
  | int (i : Int) : Has H (.int i) (.int i)
  | str (x : Str) : Has H (.str x) (.str x)
  | lst {a : Addr} {xs : List V} {ds : List PyData} : H a = some (.lst xs) → HasAll H xs ds → Has H (.ref a) (.list ds)
  | tup {a : Addr} {xs : List V} {ds : List PyData} : H a = some (.tup xs) → HasAll H xs ds → Has H (.ref a) (.tuple ds)
inductive HasAll (H : Hp) : List V → List PyData → Prop
  | nil : HasAll H [] []
  | cons {v : V} {vs : List V} {d : PyData} {ds : List PyData} : Has H v d → HasAll H vs ds → HasAll H (v :: vs) (d :: ds)
end
mutual
theorem Has.kp {H H' : Hp} (k : Kp [] H H') : ∀ (d : PyData) (v : V), Has H v d → Has H' v d
  | .none, _, h => by cases h; exact .non
  | .bool b, _, h => by cases h; exact .bl b
  | .int i, _, h => by cases h; exact .int i
  | .str x, _, h => by cases h; exact .str x
  | .list ds, _, h => by cases h with | lst e r => exact .lst (k.k _ _ e (by simp)) (HasAll.kp k ds _ r)
  | .tuple ds, _, h => by cases h with | tup e r => exact .tup (k.t _ _ e) (HasAll.kp k ds _ r)
  | .dict _, _, h => by cases h
theorem HasAll.kp {H H' : Hp} (k : Kp [] H H') : ∀ (ds : List PyData) (vs : List V), HasAll H vs ds → HasAll H' vs ds
  | [], _, h => by cases h; exact .nil
  | d :: ds, _, h => by cases h with | cons h1 h2 => exact .cons (Has.kp k d _ h1) (HasAll.kp k ds _ h2)
end
theorem HasAll.len {H : Hp} : ∀ {ds : List PyData} {vs : List V}, HasAll H vs ds → vs.length = ds.length
  | [], _, h => by cases h; rfl
  | d :: ds, _, h => by
    cases h with
    | cons h1 h2 =>
      rw [List.length_cons, List.length_cons, HasAll.len h2]
theorem HasAll.at {H : Hp} : ∀ {ds : List PyData} {vs : List V} {i : Nat}, HasAll H vs ds → i < ds.length → ∃ v d, vs[i]? = some v ∧ ds[i]? = some d ∧ Has H v d
  | [], _, _, _, h => absurd h (Nat.not_lt_zero _)
  | d :: ds, _, 0, h, _ => by
    cases h with
    | cons h1 h2 => exact ⟨_, d, rfl, rfl, h1⟩
  | d :: ds, _, i + 1, h, l => by
    cases h with
    | cons h1 h2 =>
      obtain ⟨v, d', e1, e2, e3⟩ := HasAll.at (i := i) h2 (by simpa using l)
      exact ⟨v, d', e1, e2, e3⟩
-- how deep, how long
mutual
def fitsD : Nat → PyData → Prop
  | _, .none => True
  | _, .bool _ => True
  | _, .int _ => True
  | _, .str _ => True
  | 0, .list _ => False
  | 0, .tuple _ => False
  | n + 1, .list ds => ds.length ≤ 1000 ∧ fitsAll n ds
  | n + 1, .tuple ds => ds.length ≤ 1000 ∧ fitsAll n ds
  | _, .dict _ => False
def fitsAll : Nat → List PyData → Prop
  | _, [] => True
  | n, d :: ds => fitsD n d ∧ fitsAll n ds
end
theorem fitsAll_at : ∀ {n : Nat} {ds : List PyData} {i : Nat} {d : PyData}, fitsAll n ds → ds[i]? = some d → fitsD n d
  | _, [], _, _, _, h => by simp at h
  | n, x :: ds, 0, d, h, e => by
    cases e
    simp only [fitsAll] at h
    exact h.1
  | n, x :: ds, i + 1, d, h, e => by
    simp only [fitsAll] at h
    exact fitsAll_at h.2 (by simpa using e)
def spSame (n : Nat) : Sp := fun vs H Q _ => ∃ (x y : V) (d : PyData) (m : Nat), vs = [x, y] ∧ Has H x d ∧ Has H y d ∧ fitsD m d ∧ m < n ∧ ∀ H', Kp [] H H' → Q (.bl true) H'
structure TSame (mg : Str → Option Value) : Prop where
  n_isinstance : mg "isinstance" = none
  n_list : mg "list" = none
  n_tuple : mg "tuple" = none
  n_bool : mg "bool" = none
  n_str : mg "str" = none
  n_int : mg "int" = none
  n_len : mg "len" = none
  n_all : mg "all" = none
  n_range : mg "range" = none
theorem kitAny2 {K : PySem.W.Frag} {t c1 c2 : Value} {b1 b2 : Bool} (h1 : PySem.W.kitOne K t c1 = some b1) (h2 : PySem.W.kitOne K t c2 = some b2) : PySem.W.kitAny K t [c1, c2] = some (b1 || b2) := by
  unfold PySem.W.kitAny
  rw [h1]
  cases b1 with
  | true => rfl
  | false =>
    dsimp only
    unfold PySem.W.kitAny
    rw [h2]
    cases b2 <;> rfl
theorem all_true (n : Nat) : (List.replicate n true).all id = true := by simp
section
variable {P : Program} {w : World} {K : PySem.W.Frag} {mg : Str → Option Value} {base : Heap}
theorem same_step {n : Nat} (D : GD K mg "_law_same" sD_Lsame ["actual", "due"]) (T : TSame mg) (c_Lsame : Cal P w K mg base n "_law_same" (spSame n) []) : Cal P w K mg base (n + 1) "_law_same" (spSame (n + 1)) [] := by
  refine D.cal sc_Lsame (fun vs H Q E h => ?_) (fun f cdv A outer s0 H vs Q E hr h => ?_)
  · obtain ⟨x, y, d, m, rfl, _⟩ := h
    rfl
  obtain ⟨x, y, d, m, rfl, hx, hy, hf, hm, q⟩ := h
  refine ⟨_, (pss_cons (ps_if (pt_val (pe_callB call_isiT (by rfl) T.n_isinstance (by decide +kernel) (pa_cons (pv 1) (pa_cons (pe_tup (pa_cons (pe_bltn (v := .ty "list") (by rfl) T.n_list (by decide +kernel) rfl) (pa_cons (pe_bltn (v := .ty "tuple") (by rfl) T.n_tuple (by decide +kernel) rfl) pa_nil))) pa_nil)))) (pss_cons (ps_if (PW.pt (pw_or (pt_cmpR op_ne (pe_callB call_isi (by rfl) T.n_isinstance (by decide +kernel) (pa_cons (pv 1) (pa_cons (pe_bltn (v := .ty "list") (by rfl) T.n_list (by decide +kernel) rfl) pa_nil))) (pe_callB call_isi (by rfl) T.n_isinstance (by decide +kernel) (pa_cons (pv 0) (pa_cons (pe_bltn (v := .ty "list") (by rfl) T.n_list (by decide +kernel) rfl) pa_nil))) (nomark _)) (pw_or1 (pt_cmpR op_ne (pe_callB call_isi (by rfl) T.n_isinstance (by decide +kernel) (pa_cons (pv 1) (pa_cons (pe_bltn (v := .ty "tuple") (by rfl) T.n_tuple (by decide +kernel) rfl) pa_nil))) (pe_callB call_isi (by rfl) T.n_isinstance (by decide +kernel) (pa_cons (pv 0) (pa_cons (pe_bltn (v := .ty "tuple") (by rfl) T.n_tuple (by decide +kernel) rfl) pa_nil))) (nomark _))))) (pss_one (ps_ret pe_bl)) pss_nil)
    (pss_cons (ps_if (pt_cmpR op_ne (pe_callB call_len_seq (by rfl) T.n_len (by decide +kernel) (pa_cons (pv 0) pa_nil)) (pe_callB call_len_seq (by rfl) T.n_len (by decide +kernel) (pa_cons (pv 1) pa_nil)) (nomark _)) (pss_one (ps_ret pe_bl)) pss_nil)
    (pss_one (ps_ret (pe_callB (cr_all rfl) (by rfl) T.n_all (by decide +kernel) (pa_cons (pe_lc (own := [("k", 2)]) (g := gName 2) (tt := tYes) rfl sc_Lsame.nd (pi_range1 (by rfl) T.n_range (pa_cons (pe_callB call_len_seq (by rfl) T.n_len (by decide +kernel) (pa_cons (pv 1) pa_nil)) pa_nil)) (blkOk_by (own := [("k", 2)]) (N := ["actual", "due", "k"]) (sc := defScope sD_Lsame) (by decide +kernel)) (fun _ _ _ _ _ => (pg_name (i := 2) sc_Lsame.nd rfl (Or.inl rfl))) (fun _ _ _ _ _ => pts_nil) (fun _ _ _ _ _ => (pe_c c_Lsame hr (by omega) rfl (pa_cons (bx_seq (K := K) rfl (pv 0) (pv 2) (fun _ _ => rfl)) (pa_cons (bx_seq (K := K) rfl (pv 1) (pv 2) (fun _ _ => rfl)) pa_nil))))) pa_nil)))))) pss_nil)
    (pss_cons (ps_if (pt_cmp (pc_isN (pv 1))) (pss_one (ps_ret (pe_cmp (pc_isN (pv 0)) rfl))) pss_nil)
    (pss_cons (ps_if (pt_cmpR op_ne (pe_callB call_isi (by rfl) T.n_isinstance (by decide +kernel) (pa_cons (pv 1) (pa_cons (pe_bltn (v := .ty "bool") (by rfl) T.n_bool (by decide +kernel) rfl) pa_nil))) (pe_callB call_isi (by rfl) T.n_isinstance (by decide +kernel) (pa_cons (pv 0) (pa_cons (pe_bltn (v := .ty "bool") (by rfl) T.n_bool (by decide +kernel) rfl) pa_nil))) (nomark _)) (pss_one (ps_ret pe_bl)) pss_nil)
    (pss_cons (ps_if (pt_val (pe_callB call_isi (by rfl) T.n_isinstance (by decide +kernel) (pa_cons (pv 1) (pa_cons (pe_bltn (v := .ty "str") (by rfl) T.n_str (by decide +kernel) rfl) pa_nil)))) (pss_one (ps_ret (pe_and (pe_callB call_isi (by rfl) T.n_isinstance (by decide +kernel) (pa_cons (pv 0) (pa_cons (pe_bltn (v := .ty "str") (by rfl) T.n_str (by decide +kernel) rfl) pa_nil))) (pe_one (pe_cmpR op_eq (pv 0) (pv 1) (nomark _)))))) pss_nil)
    (pss_one (ps_ret (pe_and (pe_callB call_isi (by rfl) T.n_isinstance (by decide +kernel) (pa_cons (pv 0) (pa_cons (pe_bltn (v := .ty "int") (by rfl) T.n_int (by decide +kernel) rfl) pa_nil))) (pe_one (pe_cmpR op_eq (pv 0) (pv 1) (nomark _)))))))))), ?_⟩
  have b2 : (2 : Nat) ≤ sizeLine := by decide
  have kit : ∀ {a b : String} {r : Bool}, kitB a b = some r → PySem.W.kitOne K (.type a) (.type b) = some r := fun h => kit_ty h
  have cls2 : Paired ClsV [.ty "list", .ty "tuple"] [Value.type "list", Value.type "tuple"] := .cons (.ty _) (.cons (.ty _) .nil)
  -- a list or a tuple: its parts
  have parts : ∀ {xs ys : List V} {ds : List PyData} {a a' : Addr} {H1 : Hp} {D' : Ends} , True := fun {_ _ _ _ _ _ _} => True.intro
  cases d with
  | none =>
    cases hx
    cases hy
    refine ⟨_, rfl, b2, fun tp htp => ⟨_, tp, _, _, _, _, rfl, upd_same, cls2, .base .non, kitAny2 (kit (r := false) (by decide +kernel)) (kit (r := false) (by decide +kernel)), _, rfl, ?_⟩⟩
    refine iteF ?_
    refine ⟨_, rfl, _, rfl, iteT ?_⟩
    exact ⟨_, rfl, q _ (.new htp)⟩
  | bool b =>
    cases hx
    cases hy
    refine ⟨_, rfl, b2, fun tp htp => ⟨_, tp, _, _, _, _, rfl, upd_same, cls2, .base (.bl b), kitAny2 (kit (r := false) (by decide +kernel)) (kit (r := false) (by decide +kernel)), _, rfl, ?_⟩⟩
    refine iteF ?_
    refine ⟨_, rfl, _, rfl, iteF ?_⟩
    refine ⟨_, rfl, _, _, _, _, _, rfl, .ty _, .base (.bl b), kit (r := true) (by decide +kernel), _, rfl, _, _, _, _, _, rfl, .ty _, .base (.bl b), kit (r := true) (by decide +kernel), rfl, _, rfl, ?_⟩
    refine iteF ?_
    refine ⟨_, rfl, _, _, _, _, _, rfl, .ty _, .base (.bl b), kit (r := false) (by decide +kernel), _, rfl, iteF ?_⟩
    refine ⟨_, rfl, _, _, _, _, _, rfl, .ty _, .base (.bl b), kit (r := true) (by decide +kernel), _, rfl, iteT ?_⟩
    refine ⟨_, rfl, _, rfl, rfl, ?_⟩
    have e : decide (V.bl b = V.bl b) = true := decide_eq_true rfl
    rw [e]
    exact q _ (.new htp)
  | int i =>
    cases hx
    cases hy
    refine ⟨_, rfl, b2, fun tp htp => ⟨_, tp, _, _, _, _, rfl, upd_same, cls2, .base (.int i), kitAny2 (kit (r := false) (by decide +kernel)) (kit (r := false) (by decide +kernel)), _, rfl, ?_⟩⟩
    refine iteF ?_
    refine ⟨_, rfl, _, rfl, iteF ?_⟩
    refine ⟨_, rfl, _, _, _, _, _, rfl, .ty _, .base (.int i), kit (r := false) (by decide +kernel), _, rfl, _, _, _, _, _, rfl, .ty _, .base (.int i), kit (r := false) (by decide +kernel), rfl, _, rfl, ?_⟩
    refine iteF ?_
    refine ⟨_, rfl, _, _, _, _, _, rfl, .ty _, .base (.int i), kit (r := false) (by decide +kernel), _, rfl, iteF ?_⟩
    refine ⟨_, rfl, _, _, _, _, _, rfl, .ty _, .base (.int i), kit (r := true) (by decide +kernel), _, rfl, iteT ?_⟩
    refine ⟨_, rfl, _, rfl, rfl, ?_⟩
    have e : decide (V.int i = V.int i) = true := decide_eq_true rfl
    rw [e]
    exact q _ (.new htp)
  | str z =>
    cases hx
    cases hy
    refine ⟨_, rfl, b2, fun tp htp => ⟨_, tp, _, _, _, _, rfl, upd_same, cls2, .base (.str z), kitAny2 (kit (r := false) (by decide +kernel)) (kit (r := false) (by decide +kernel)), _, rfl, ?_⟩⟩
    refine iteF ?_
    refine ⟨_, rfl, _, rfl, iteF ?_⟩
    refine ⟨_, rfl, _, _, _, _, _, rfl, .ty _, .base (.str z), kit (r := false) (by decide +kernel), _, rfl, _, _, _, _, _, rfl, .ty _, .base (.str z), kit (r := false) (by decide +kernel), rfl, _, rfl, ?_⟩
    refine iteF ?_
    refine ⟨_, rfl, _, _, _, _, _, rfl, .ty _, .base (.str z), kit (r := true) (by decide +kernel), _, rfl, iteT ?_⟩
    refine ⟨_, rfl, _, _, _, _, _, rfl, .ty _, .base (.str z), kit (r := true) (by decide +kernel), _, rfl, iteT ?_⟩
    refine ⟨_, rfl, _, rfl, rfl, ?_⟩
    have e : decide (V.str z = V.str z) = true := decide_eq_true rfl
    rw [e]
    exact q _ (.new htp)
  | dict _ => cases hx
  | list ds =>
    cases m with
    | zero => simp only [fitsD] at hf
    | succ m =>
    simp only [fitsD] at hf
    obtain ⟨hl, hfa⟩ := hf
    cases hx with
    | @lst a xs _ ea ra =>
    cases hy with
    | @lst a' ys _ eb rb =>
    have lx := ra.len
    have ly := rb.len
    refine ⟨_, rfl, b2, fun tp htp => ⟨_, tp, _, _, _, _, rfl, upd_same, cls2, .base (.lst (by rw [upd_ne (ne_of_none eb htp)]; exact eb)), kitAny2 (kit (r := true) (by decide +kernel)) (kit (r := false) (by decide +kernel)), _, rfl, ?_⟩⟩
    obtain ⟨H1, hH1⟩ : ∃ H1, upd H tp (.tup [.ty "list", .ty "tuple"]) = H1 := ⟨_, rfl⟩
    have k1 : Kp [] H H1 := by rw [← hH1]; exact .new htp
    rw [hH1]
    have ea1 := k1.k _ _ ea (by simp)
    have eb1 := k1.k _ _ eb (by simp)
    refine iteT ?_
    refine ⟨_, rfl, _, _, _, _, _, rfl, .ty _, .base (.lst eb1), kit (r := true) (by decide +kernel), _, rfl, _, _, _, _, _, rfl, .ty _, .base (.lst ea1), kit (r := true) (by decide +kernel), rfl, _, rfl, ?_⟩
    refine iteF ?_
    refine ⟨_, rfl, _, _, _, _, _, rfl, .ty _, .base (.lst eb1), kit (r := false) (by decide +kernel), _, rfl, _, _, _, _, _, rfl, .ty _, .base (.lst ea1), kit (r := false) (by decide +kernel), rfl, _, rfl, ?_⟩
    refine iteF ?_
    refine ⟨_, rfl, a, _, rfl, .inl (SqL.of ea1), _, rfl, a', _, rfl, .inl (SqL.of eb1), rfl, _, rfl, ?_⟩
    refine iteNS (by rw [lx, ly]) ?_
    have e0 : ((ys.length : Int)).toNat = ds.length := by omega
    refine ⟨_, rfl, a', _, rfl, .inl (SqL.of eb1), _, rfl, by omega, by omega, ?_⟩
    rw [e0]
    refine fun L hL => lc_range (lo := 0) (n := ds.length) (fun i H' => Kp [] H1 H' ∧ H' L = some (.lst ((List.replicate i true).map V.bl))) ⟨.new hL, upd_same⟩ (fun i H' hi p => ?_) (fun H' p => ?_)
    · obtain ⟨k2, hL2⟩ := p
      obtain ⟨v, d, e1, e2, e3⟩ := ra.at hi
      obtain ⟨v', d', e1', e2', e3'⟩ := rb.at hi
      rw [e2] at e2'
      cases e2'
      have k02 := k1.trans k2
      refine ⟨rfl, _, rfl, _, rfl, .inl ⟨a, _, _, _, rfl, rfl, SqL.of (k02.k _ _ ea (by simp)), at_of (by omega) e1, _, rfl, _, rfl, .inl ⟨a', _, _, _, rfl, rfl, SqL.of (k02.k _ _ eb (by simp)), at_of (by omega) e1', ?_⟩⟩⟩
      refine ⟨v, v', d, m, rfl, e3.kp k02, e3'.kp k02, fitsAll_at hfa e2, by omega, fun H3 k3 => ⟨_, k3.k _ _ hL2 (by simp), ?_, (k2.trans k3).mt hL, ?_⟩⟩
      · rw [List.length_map, List.length_replicate]
        exact small1000 (by omega)
      · rw [upd_same, List.replicate_succ', List.map_append]
        rfl
    · exact ⟨L, _, rfl, SqL.of p.2, by rw [all_true]; exact q _ (k1.trans p.1)⟩
  | tuple ds =>
    cases m with
    | zero => simp only [fitsD] at hf
    | succ m =>
    simp only [fitsD] at hf
    obtain ⟨hl, hfa⟩ := hf
    cases hx with
    | @tup a xs _ ea ra =>
    cases hy with
    | @tup a' ys _ eb rb =>
    have lx := ra.len
    have ly := rb.len
    refine ⟨_, rfl, b2, fun tp htp => ⟨_, tp, _, _, _, _, rfl, upd_same, cls2, .base (.tup (by rw [upd_ne (ne_of_none eb htp)]; exact eb)), kitAny2 (kit (r := false) (by decide +kernel)) (kit (r := true) (by decide +kernel)), _, rfl, ?_⟩⟩
    obtain ⟨H1, hH1⟩ : ∃ H1, upd H tp (.tup [.ty "list", .ty "tuple"]) = H1 := ⟨_, rfl⟩
    have k1 : Kp [] H H1 := by rw [← hH1]; exact .new htp
    rw [hH1]
    have ea1 := k1.t _ _ ea
    have eb1 := k1.t _ _ eb
    refine iteT ?_
    refine ⟨_, rfl, _, _, _, _, _, rfl, .ty _, .base (.tup eb1), kit (r := false) (by decide +kernel), _, rfl, _, _, _, _, _, rfl, .ty _, .base (.tup ea1), kit (r := false) (by decide +kernel), rfl, _, rfl, ?_⟩
    refine iteF ?_
    refine ⟨_, rfl, _, _, _, _, _, rfl, .ty _, .base (.tup eb1), kit (r := true) (by decide +kernel), _, rfl, _, _, _, _, _, rfl, .ty _, .base (.tup ea1), kit (r := true) (by decide +kernel), rfl, _, rfl, ?_⟩
    refine iteF ?_
    refine ⟨_, rfl, a, _, rfl, .inr (SqT.of ea1), _, rfl, a', _, rfl, .inr (SqT.of eb1), rfl, _, rfl, ?_⟩
    refine iteNS (by rw [lx, ly]) ?_
    have e0 : ((ys.length : Int)).toNat = ds.length := by omega
    refine ⟨_, rfl, a', _, rfl, .inr (SqT.of eb1), _, rfl, by omega, by omega, ?_⟩
    rw [e0]
    refine fun L hL => lc_range (lo := 0) (n := ds.length) (fun i H' => Kp [] H1 H' ∧ H' L = some (.lst ((List.replicate i true).map V.bl))) ⟨.new hL, upd_same⟩ (fun i H' hi p => ?_) (fun H' p => ?_)
    · obtain ⟨k2, hL2⟩ := p
      obtain ⟨v, d, e1, e2, e3⟩ := ra.at hi
      obtain ⟨v', d', e1', e2', e3'⟩ := rb.at hi
      rw [e2] at e2'
      cases e2'
      have k02 := k1.trans k2
      refine ⟨rfl, _, rfl, _, rfl, .inr ⟨a, _, _, _, rfl, rfl, SqT.of (k02.t _ _ ea), at_of (by omega) e1, _, rfl, _, rfl, .inr ⟨a', _, _, _, rfl, rfl, SqT.of (k02.t _ _ eb), at_of (by omega) e1', ?_⟩⟩⟩
      refine ⟨v, v', d, m, rfl, e3.kp k02, e3'.kp k02, fitsAll_at hfa e2, by omega, fun H3 k3 => ⟨_, k3.k _ _ hL2 (by simp), ?_, (k2.trans k3).mt hL, ?_⟩⟩
      · rw [List.length_map, List.length_replicate]
        exact small1000 (by omega)
      · rw [upd_same, List.replicate_succ', List.map_append]
        rfl
    · exact ⟨L, _, rfl, SqL.of p.2, by rw [all_true]; exact q _ (k1.trans p.1)⟩
theorem ok_same (D : GD K mg "_law_same" sD_Lsame ["actual", "due"]) (T : TSame mg) : ∀ n, Cal P w K mg base n "_law_same" (spSame n) []
  | 0 => by
    have no : ∀ vs H Q E, ¬ spSame 0 vs H Q E := fun vs H Q E h => by
      obtain ⟨x, y, d, m, _, _, _, _, h, _⟩ := h
      omega
    obtain ⟨f, fd, F, hm, hb⟩ := D
    exact ⟨f, fd, _, [], ⟨fun vs H Q E h => absurd h (no vs H Q E), fun A outer s H args us vs Q E _ _ _ _ h => absurd h (no vs H Q E)⟩, hm, F.kp, hb, .nil⟩
  | n + 1 => same_step D T (ok_same D T n)
end

/-! ### expressions of plans, as they are drawn -/
inductive Cell where
  | non | int (i : Int) | str (s : Str)
  deriving DecidableEq
def Cell.v : Cell → V
  | .non => .non
  | .int i => .int i
  | .str s => .str s
/-- a drawn value -/
def Cell.sm : Cell → Prop
  | .non => True
  | .int i => 0 ≤ i ∧ i ≤ 3
  | .str s => s = ⟨#[97]⟩ ∨ s = ⟨#[98]⟩
inductive Un where
  | negate | not | missing | length
  deriving DecidableEq
def Un.str : Un → Str
  | .negate => "negate"
  | .not => "not"
  | .missing => "missing"
  | .length => "length"
inductive Bn where
  | add | subtract | multiply | divide | remainder | less | equal | and | or | starts
  deriving DecidableEq
def Bn.str : Bn → Str
  | .add => "add"
  | .subtract => "subtract"
  | .multiply => "multiply"
  | .divide => "divide"
  | .remainder => "remainder"
  | .less => "less"
  | .equal => "equal"
  | .and => "and"
  | .or => "or"
  | .starts => "starts"
inductive Ex where
  | con (c : Cell) | col (i : Nat) | un (o : Un) (a : Ex) | bin (o : Bn) (a b : Ex) | ch (c a b : Ex)
def Ex.In (w : Nat) : Ex → Prop
  | .con _ => True
  | .col i => i < w
  | .un _ a => a.In w
  | .bin _ a b => a.In w ∧ b.In w
  | .ch c a b => c.In w ∧ a.In w ∧ b.In w
def Ex.sm : Ex → Prop
  | .con c => c.sm
  | .col _ => True
  | .un _ a => a.sm
  | .bin _ a b => a.sm ∧ b.sm
  | .ch c a b => c.sm ∧ a.sm ∧ b.sm
def Ex.depth : Ex → Nat
  | .con _ => 0
  | .col _ => 0
  | .un _ a => a.depth + 1
  | .bin _ a b => Nat.max a.depth b.depth + 1
  | .ch c a b => Nat.max c.depth (Nat.max a.depth b.depth) + 1
def ExAt (H : Hp) : Ex → Addr → Prop
  | .con c, r => H r = some (.tup [.str "constant", c.v])
  | .col i, r => H r = some (.tup [.str "column", .int (i : Int)])
  | .un o a, r => ∃ x, H r = some (.tup [.str o.str, .ref x]) ∧ ExAt H a x
  | .bin o a b, r => ∃ x y, H r = some (.tup [.str o.str, .ref x, .ref y]) ∧ ExAt H a x ∧ ExAt H b y
  | .ch c a b, r => ∃ z x y, H r = some (.tup [.str "choose", .ref z, .ref x, .ref y]) ∧ ExAt H c z ∧ ExAt H a x ∧ ExAt H b y
theorem ExAt.kp {M : List Addr} {H H' : Hp} (k : Kp M H H') : ∀ (t : Ex) (r : Addr), ExAt H t r → ExAt H' t r
  | .con _, _, h => k.t _ _ h
  | .col _, _, h => k.t _ _ h
  | .un _ a, _, ⟨x, h, i⟩ => ⟨x, k.t _ _ h, ExAt.kp k a x i⟩
  | .bin _ a b, _, ⟨x, y, h, i, j⟩ => ⟨x, y, k.t _ _ h, ExAt.kp k a x i, ExAt.kp k b y j⟩
  | .ch c a b, _, ⟨z, x, y, h, g, i, j⟩ => ⟨z, x, y, k.t _ _ h, ExAt.kp k c z g, ExAt.kp k a x i, ExAt.kp k b y j⟩
/-- totals -/
inductive Tw where
  | distinct | sum | least | greatest
  deriving DecidableEq
def Tw.str : Tw → Str
  | .distinct => "distinct"
  | .sum => "sum"
  | .least => "least"
  | .greatest => "greatest"
inductive Tot where
  | count | of (w : Tw) (e : Ex)
def Tot.In (w : Nat) : Tot → Prop
  | .count => True
  | .of _ e => e.In w
def Tot.sm : Tot → Prop
  | .count => True
  | .of _ e => e.sm ∧ e.depth ≤ 1
def TotAt (H : Hp) : Tot → Addr → Prop
  | .count, r => H r = some (.tup [.str "count"])
  | .of w e, r => ∃ x, H r = some (.tup [.str w.str, .ref x]) ∧ ExAt H e x
theorem TotAt.kp {M : List Addr} {H H' : Hp} (k : Kp M H H') : ∀ (t : Tot) (r : Addr), TotAt H t r → TotAt H' t r
  | .count, _, h => k.t _ _ h
  | .of _ e, _, ⟨x, h, i⟩ => ⟨x, k.t _ _ h, ExAt.kp k e x i⟩
def spCell : Sp := fun vs H Q _ => ∃ (d sc : Addr), vs = [.ref d] ∧ Drw d sc H ∧ ∀ (c : Cell) (o : HO), c.sm → (∀ xs, o ≠ .tup xs) → Drw d sc (upd H d o) → Q c.v (upd H d o)
def spExpr (n : Nat) : Sp := fun vs H Q _ => ∃ (d sc : Addr) (wd dep : Nat), vs = [.ref d, .int (wd : Int), .int (dep : Int)] ∧ dep + 3 ≤ n ∧ wd < 1000 ∧ Drw d sc H ∧
  ∀ (t : Ex) (r : Addr) (H' : Hp), t.In wd → t.depth ≤ dep → t.sm → ExAt H' t r → Kp [d] H H' → Drw d sc H' → Q (.ref r) H'
def spForm : Sp := fun vs H Q _ => ∃ (d sc : Addr) (wd : Nat), vs = [.ref d, .int (wd : Int)] ∧ wd < 1000 ∧ Drw d sc H ∧
  ∀ (t : Tot) (r : Addr) (H' : Hp), t.In wd → t.sm → TotAt H' t r → Kp [d] H H' → Drw d sc H' → Q (.ref r) H'
section
variable {P : Program} {w : World} {K : PySem.W.Frag} {mg : Str → Option Value} {base : Heap}
theorem ok_cell (D : GD K mg "_law_cell" sD_Lcell ["draw"]) (c_Lnext : Cal P w K mg base 1 "_law_next" spNext []) : Cal P w K mg base 2 "_law_cell" spCell [] := by
  refine D.cal sc_Lcell (fun vs H Q E h => ?_) (fun f cdv A outer s0 H vs Q E hr h => ?_)
  · obtain ⟨d, sc, rfl, _⟩ := h
    rfl
  obtain ⟨d, sc, rfl, dr, q⟩ := h
  refine ⟨_, (pss_cons (ps_set (i := 1) sc_Lcell.nd rfl (Or.inl rfl) (pe_c c_Lnext hr (by omega) rfl (pa_cons (pv 0) (pa_cons pe_int pa_nil))))
    (pss_cons (ps_if (pt_cmpR op_eq (pv 1) pe_int (nomark _)) (pss_one (ps_ret pe_non)) pss_nil)
    (pss_one (ps_ret (pe_ifExp (pt_cmpR op_gt (pv 1) pe_int (nomark _)) (pe_ix ix_str pe_str (pe_op op_sub (pv 1) pe_int) (fun _ _ => rfl)) (pe_op op_sub (pv 1) pe_int)))))), ?_⟩
  refine ⟨_, rfl, d, sc, 7, rfl, by decide, by decide, dr, fun f o f0 f7 no dr1 => ⟨_, rfl, rfl, _, rfl, ite2 (fun c => ?_) (fun c => ?_)⟩⟩
  · exact q .non o trivial no dr1
  · have c := nI c
    refine ⟨_, rfl, _, _, rfl, rfl, _, rfl, ite2 (fun c2 => ?_) (fun c2 => ?_)⟩
    · have c2 : 4 < f := of_decide_eq_true c2
      have : f = 5 ∨ f = 6 := by omega
      rcases this with rfl | rfl
      · exact ⟨_, rfl, _, _, rfl, rfl, _, _, 97, rfl, rfl, by decide, rfl, q (.str ⟨#[97]⟩) o (.inl rfl) no dr1⟩
      · exact ⟨_, rfl, _, _, rfl, rfl, _, _, 98, rfl, rfl, by decide, rfl, q (.str ⟨#[98]⟩) o (.inr rfl) no dr1⟩
    · have c2 : ¬ 4 < f := fun z => c2 (decide_eq_true z)
      exact ⟨_, rfl, _, _, rfl, rfl, q (.int (f - 1)) o ⟨by omega, by omega⟩ no dr1⟩
theorem expr_step {n : Nat} (D : GD K mg "_law_expression" sD_Lexpression ["draw", "width", "depth"]) (c_Lnext : Cal P w K mg base 1 "_law_next" spNext []) (c_Lcell : Cal P w K mg base 2 "_law_cell" spCell []) (c_Lexpression : Cal P w K mg base n "_law_expression" (spExpr n) []) :
    Cal P w K mg base (n + 1) "_law_expression" (spExpr (n + 1)) [] := by
  refine D.cal sc_Lexpression (fun vs H Q E h => ?_) (fun f cdv A outer s0 H vs Q E hr h => ?_)
  · obtain ⟨d, sc, wd, dep, rfl, _⟩ := h
    rfl
  obtain ⟨d, sc, wd, dep, rfl, hn, hw, dr, q⟩ := h
  have hn1 : 2 ≤ n := by omega
  refine ⟨_, (pss_cons (ps_set (i := 3) sc_Lexpression.nd rfl (Or.inl rfl) (pe_c c_Lnext hr (by omega) rfl (pa_cons (pv 0) (pa_cons pe_int pa_nil))))
    (pss_cons (ps_if (PW.pt (pw_or (pt_cmpR op_eq (pv 2) pe_int (nomark _)) (pw_or1 (pt_cmpR op_lt (pv 3) pe_int (nomark _))))) (pss_cons (ps_if (PW.pt (pw_or (pt_cmpR op_eq (pv 1) pe_int (nomark _)) (pw_or1 (pt_cmpR op_eq (pe_c c_Lnext hr (by omega) rfl (pa_cons (pv 0) (pa_cons pe_int pa_nil))) pe_int (nomark _))))) (pss_one (ps_ret (pe_tup (pa_cons pe_str (pa_cons (pe_c c_Lcell hr (by omega) rfl (pa_cons (pv 0) pa_nil)) pa_nil))))) pss_nil)
    (pss_one (ps_ret (pe_tup (pa_cons pe_str (pa_cons (pe_c c_Lnext hr (by omega) rfl (pa_cons (pv 0) (pa_cons (pv 1) pa_nil))) pa_nil)))))) pss_nil)
    (pss_cons (ps_if (pt_cmpR op_lt (pv 3) pe_int (nomark _)) (pss_cons (ps_set (i := 4) sc_Lexpression.nd rfl (Or.inl rfl) (pe_ix ix_list (pe_lst (pa_cons pe_str (pa_cons pe_str (pa_cons pe_str (pa_cons pe_str pa_nil))))) (pe_c c_Lnext hr (by omega) rfl (pa_cons (pv 0) (pa_cons pe_int pa_nil))) (fun _ _ => rfl)))
    (pss_one (ps_ret (pe_tup (pa_cons (pv 4) (pa_cons (pe_c c_Lexpression hr (by omega) rfl (pa_cons (pv 0) (pa_cons (pv 1) (pa_cons (pe_op op_sub (pv 2) pe_int) pa_nil)))) pa_nil)))))) pss_nil)
    (pss_cons (ps_set (i := 5) sc_Lexpression.nd rfl (Or.inl rfl) (pe_c c_Lexpression hr (by omega) rfl (pa_cons (pv 0) (pa_cons (pv 1) (pa_cons (pe_op op_sub (pv 2) pe_int) pa_nil)))))
    (pss_cons (ps_set (i := 6) sc_Lexpression.nd rfl (Or.inl rfl) (pe_c c_Lexpression hr (by omega) rfl (pa_cons (pv 0) (pa_cons (pv 1) (pa_cons (pe_op op_sub (pv 2) pe_int) pa_nil)))))
    (pss_cons (ps_if (pt_cmpR op_eq (pv 3) pe_int (nomark _)) (pss_one (ps_ret (pe_tup (pa_cons pe_str (pa_cons (pe_c c_Lexpression hr (by omega) rfl (pa_cons (pv 0) (pa_cons (pv 1) (pa_cons (pe_op op_sub (pv 2) pe_int) pa_nil)))) (pa_cons (pv 5) (pa_cons (pv 6) pa_nil))))))) pss_nil)
    (pss_cons (ps_set (i := 7) sc_Lexpression.nd rfl (Or.inl rfl) (pe_lst (pa_cons pe_str (pa_cons pe_str (pa_cons pe_str (pa_cons pe_str (pa_cons pe_str (pa_cons pe_str (pa_cons pe_str (pa_cons pe_str (pa_cons pe_str (pa_cons pe_str pa_nil))))))))))))
    (pss_one (ps_ret (pe_tup (pa_cons (pe_ix ix_list (pv 7) (pe_c c_Lnext hr (by omega) rfl (pa_cons (pv 0) (pa_cons pe_int pa_nil))) (fun _ _ => rfl)) (pa_cons (pv 5) (pa_cons (pv 6) pa_nil))))))))))))), ?_⟩
  have e2 : (2 : Nat) ≤ sizeLine := by decide
  have e3 : (3 : Nat) ≤ sizeLine := by decide
  have e4 : (4 : Nat) ≤ sizeLine := by decide
  refine ⟨_, rfl, d, sc, 12, rfl, by decide, by decide, dr, fun fm o f0 f9 no dr1 => ?_⟩
  have k1 : Kp [d] H (upd H d o) := dr.step
  obtain ⟨H1, hH1⟩ : ∃ H1, upd H d o = H1 := ⟨_, rfl⟩
  rw [hH1] at dr1 k1 ⊢
  refine ⟨_, rfl, rfl, _, rfl, ?_⟩
  refine ite2 (fun c => iteT ?g1) (fun c => ?g0)
  case' g0 =>
    refine ⟨_, rfl, _, _, rfl, rfl, _, rfl, ?_⟩
    refine ite2 (fun c2 => ?g2) (fun c2 => ?g3)
  case g1 | g2 =>
    refine ⟨_, rfl, rfl, _, rfl, ?_⟩
    refine ite2 (fun c => iteT ?_) (fun c => ?_)
    · refine ⟨_, rfl, d, sc, rfl, dr1, fun c o2 hc no2 dr3 => ⟨e2, fun p hp => ?_⟩⟩
      obtain ⟨x1, x2⟩ := dr3.ne_new hp
      exact q (.con c) p _ True.intro (Nat.zero_le _) hc upd_same ((k1.trans dr1.step).newer hp) (dr3.put x1 x2)
    · have hw0 := nI c
      refine ⟨_, rfl, d, sc, 3, rfl, by decide, by decide, dr1, fun a o1 a0 a1 no1 dr2 => ⟨rfl, _, rfl, ?_⟩⟩
      have k2 : Kp [d] H (upd H1 d o1) := k1.trans dr1.step
      refine ite2 (fun c3 => ?_) (fun c3 => ?_)
      · refine ⟨_, rfl, d, sc, rfl, dr2, fun c o2 hc no2 dr3 => ⟨e2, fun p hp => ?_⟩⟩
        obtain ⟨x1, x2⟩ := dr3.ne_new hp
        exact q (.con c) p _ True.intro (Nat.zero_le _) hc upd_same ((k2.trans dr2.step).newer hp) (dr3.put x1 x2)
      · refine ⟨_, rfl, _, rfl, d, sc, (wd : Int), rfl, by omega, by omega, dr2, fun b o2 b0 b1 no2 dr3 => ⟨e2, fun p hp => ?_⟩⟩
        obtain ⟨bn, rfl⟩ : ∃ bn : Nat, b = bn := ⟨b.toNat, by omega⟩
        obtain ⟨x1, x2⟩ := dr3.ne_new hp
        exact q (.col bn) p _ (by show bn < wd; omega) (Nat.zero_le _) True.intro upd_same ((k2.trans dr2.step).newer hp) (dr3.put x1 x2)
  case g3 =>
    have hd : dep ≠ 0 := fun e => nI c (by rw [e]; rfl)
    have edp : (dep : Int) - 1 = ((dep - 1 : Nat) : Int) := by omega
    have eargs : ([V.ref d, V.int (wd : Int), V.int ((dep : Int) - 1)] : List V) = [V.ref d, V.int (wd : Int), V.int ((dep - 1 : Nat) : Int)] := by rw [edp]
    refine ⟨_, rfl, _, _, rfl, rfl, _, rfl, ?_⟩
    refine ite2 (fun c3 => ?_) (fun c3 => ?_)
    · refine ⟨e4, fun l hl => ?_⟩
      obtain ⟨x1, x2⟩ := dr1.ne_new hl
      have drL := dr1.put (o := .lst [.str "negate", .str "not", .str "missing", .str "length"]) x1 x2
      have kL : Kp [d] H (upd H1 l (.lst [.str "negate", .str "not", .str "missing", .str "length"])) := k1.newer hl
      refine ⟨_, rfl, d, sc, 4, rfl, by decide, by decide, drL, fun b o2 b0 b4 no2 dr2 => ?_⟩
      have hl2 : (upd (upd H1 l (.lst [.str "negate", .str "not", .str "missing", .str "length"])) d o2) l = some (.lst [.str "negate", .str "not", .str "missing", .str "length"]) := by rw [upd_ne x1.symm, upd_same]
      obtain ⟨un, hun⟩ : ∃ un : Un, atI ([.str "negate", .str "not", .str "missing", .str "length"] : List V) b = some (.str un.str) := by
        have : b = 0 ∨ b = 1 ∨ b = 2 ∨ b = 3 := by omega
        rcases this with rfl | rfl | rfl | rfl
        · exact ⟨.negate, rfl⟩
        · exact ⟨.not, rfl⟩
        · exact ⟨.missing, rfl⟩
        · exact ⟨.length, rfl⟩
      refine ⟨l, _, _, _, rfl, rfl, SqL.of hl2, hun, ?_⟩
      refine ⟨_, rfl, _, rfl, _, rfl, _, rfl, _, _, rfl, rfl, d, sc, wd, dep - 1, eargs, by omega, hw, dr2, fun t r H2 ti td ts ta k2 dr3 => ⟨e2, fun p hp => ?_⟩⟩
      obtain ⟨y1, y2⟩ := dr3.ne_new hp
      exact q (.un un t) p _ ti (by show t.depth + 1 ≤ dep; omega) ts ⟨r, upd_same, ExAt.kp (Kp.new (M := []) hp) t r ta⟩ (((kL.trans drL.step).trans k2).newer hp) (dr3.put y1 y2)
    · refine ⟨_, rfl, _, rfl, _, rfl, _, _, rfl, rfl, d, sc, wd, dep - 1, eargs, by omega, hw, dr1, fun t1 r1 H2 ti1 td1 ts1 ta1 k2 dr2 => ?_⟩
      refine ⟨_, rfl, _, rfl, _, rfl, _, _, rfl, rfl, d, sc, wd, dep - 1, eargs, by omega, hw, dr2, fun t2 r2 H3 ti2 td2 ts2 ta2 k3 dr3 => ?_⟩
      have k13 := (k1.trans k2).trans k3
      refine ⟨_, rfl, rfl, _, rfl, ?_⟩
      refine ite2 (fun c4 => ?_) (fun c4 => ?_)
      · refine ⟨_, rfl, _, rfl, _, rfl, _, _, rfl, rfl, d, sc, wd, dep - 1, eargs, by omega, hw, dr3, fun t3 r3 H4 ti3 td3 ts3 ta3 k4 dr4 => ⟨_, rfl, _, rfl, e4, fun p hp => ?_⟩⟩
        obtain ⟨y1, y2⟩ := dr4.ne_new hp
        have kp := Kp.new (M := []) (o := .tup [.str "choose", .ref r3, .ref r1, .ref r2]) hp
        refine q (.ch t3 t1 t2) p _ ⟨ti3, ti1, ti2⟩ ?_ ⟨ts3, ts1, ts2⟩ ⟨r3, r1, r2, upd_same, ExAt.kp kp t3 r3 ta3, ExAt.kp kp t1 r1 (ExAt.kp (k3.trans k4) t1 r1 ta1), ExAt.kp kp t2 r2 (ExAt.kp k4 t2 r2 ta2)⟩ ((k13.trans k4).newer hp) (dr4.put y1 y2)
        show Nat.max t3.depth (Nat.max t1.depth t2.depth) + 1 ≤ dep
        have : Nat.max t3.depth (Nat.max t1.depth t2.depth) ≤ dep - 1 := Nat.max_le.mpr ⟨td3, Nat.max_le.mpr ⟨td1, td2⟩⟩
        omega
      · refine ⟨(by show 10 ≤ sizeLine; decide), fun l hl => ?_⟩
        obtain ⟨x1, x2⟩ := dr3.ne_new hl
        obtain ⟨W, hW⟩ : ∃ W : List V, ([.str "add", .str "subtract", .str "multiply", .str "divide", .str "remainder", .str "less", .str "equal", .str "and", .str "or", .str "starts"] : List V) = W := ⟨_, rfl⟩
        have drL := dr3.put (o := .lst W) x1 x2
        have kL : Kp [d] H3 (upd H3 l (.lst W)) := .new hl
        refine ⟨_, rfl, _, rfl, d, sc, 10, rfl, by decide, by decide, by rw [hW]; exact drL, fun b o2 b0 b4 no2 dr4 => ?_⟩
        rw [hW] at dr4 ⊢
        have hl4 : (upd (upd H3 l (.lst W)) d o2) l = some (.lst W) := by rw [upd_ne x1.symm, upd_same]
        obtain ⟨bn, hbn⟩ : ∃ bn : Bn, atI W b = some (.str bn.str) := by
          subst hW
          have : b = 0 ∨ b = 1 ∨ b = 2 ∨ b = 3 ∨ b = 4 ∨ b = 5 ∨ b = 6 ∨ b = 7 ∨ b = 8 ∨ b = 9 := by omega
          rcases this with rfl | rfl | rfl | rfl | rfl | rfl | rfl | rfl | rfl | rfl
          · exact ⟨.add, rfl⟩
          · exact ⟨.subtract, rfl⟩
          · exact ⟨.multiply, rfl⟩
          · exact ⟨.divide, rfl⟩
          · exact ⟨.remainder, rfl⟩
          · exact ⟨.less, rfl⟩
          · exact ⟨.equal, rfl⟩
          · exact ⟨.and, rfl⟩
          · exact ⟨.or, rfl⟩
          · exact ⟨.starts, rfl⟩
        refine ⟨l, _, _, _, rfl, rfl, SqL.of hl4, hbn, _, rfl, _, rfl, e3, fun p hp => ?_⟩
        obtain ⟨y1, y2⟩ := dr4.ne_new hp
        have kz : Kp [d] H3 (upd (upd H3 l (.lst W)) d o2) := kL.trans drL.step
        have kp := Kp.new (M := []) (o := .tup [.str bn.str, .ref r1, .ref r2]) hp
        refine q (.bin bn t1 t2) p _ ⟨ti1, ti2⟩ ?_ ⟨ts1, ts2⟩ ⟨r1, r2, upd_same, ExAt.kp kp t1 r1 (ExAt.kp (k3.trans kz) t1 r1 ta1), ExAt.kp kp t2 r2 (ExAt.kp kz t2 r2 ta2)⟩ ((k13.trans kz).newer hp) (dr4.put y1 y2)
        show Nat.max t1.depth t2.depth + 1 ≤ dep
        have : Nat.max t1.depth t2.depth ≤ dep - 1 := Nat.max_le.mpr ⟨td1, td2⟩
        omega
theorem ok_expr (D : GD K mg "_law_expression" sD_Lexpression ["draw", "width", "depth"]) (c_Lnext : Cal P w K mg base 1 "_law_next" spNext []) (c_Lcell : Cal P w K mg base 2 "_law_cell" spCell []) : ∀ n, Cal P w K mg base n "_law_expression" (spExpr n) []
  | 0 => by
    have no : ∀ vs H Q E, ¬ spExpr 0 vs H Q E := fun vs H Q E h => by
      obtain ⟨d, sc, wd, dep, _, h, _⟩ := h
      omega
    obtain ⟨f, fd, F, hm, hb⟩ := D
    exact ⟨f, fd, _, [], ⟨fun vs H Q E h => absurd h (no vs H Q E), fun A outer s H args us vs Q E _ _ _ _ h => absurd h (no vs H Q E)⟩, hm, F.kp, hb, .nil⟩
  | n + 1 => expr_step D c_Lnext c_Lcell (ok_expr D c_Lnext c_Lcell n)
theorem ok_form (D : GD K mg "_law_form" sD_Lform ["draw", "width"]) (c_Lnext : Cal P w K mg base 1 "_law_next" spNext []) (c_Lexpression : Cal P w K mg base 5 "_law_expression" (spExpr 5) []) : Cal P w K mg base 6 "_law_form" spForm [] := by
  refine D.cal sc_Lform (fun vs H Q E h => ?_) (fun f cdv A outer s0 H vs Q E hr h => ?_)
  · obtain ⟨d, sc, wd, rfl, _⟩ := h
    rfl
  obtain ⟨d, sc, wd, rfl, hw, dr, q⟩ := h
  refine ⟨_, (pss_cons (ps_set (i := 2) sc_Lform.nd rfl (Or.inl rfl) (pe_ix ix_list (pe_lst (pa_cons pe_str (pa_cons pe_str (pa_cons pe_str (pa_cons pe_str (pa_cons pe_str (pa_cons pe_str pa_nil))))))) (pe_c c_Lnext hr (by omega) rfl (pa_cons (pv 0) (pa_cons pe_int pa_nil))) (fun _ _ => rfl)))
    (pss_one (ps_ret (pe_ifExp (pt_cmpR op_eq (pv 2) pe_str (nomark _)) (pe_tup (pa_cons pe_str pa_nil)) (pe_tup (pa_cons (pv 2) (pa_cons (pe_c c_Lexpression hr (by omega) rfl (pa_cons (pv 0) (pa_cons (pv 1) (pa_cons pe_int pa_nil)))) pa_nil))))))), ?_⟩
  refine ⟨(by show 6 ≤ sizeLine; decide), fun l hl => ?_⟩
  obtain ⟨x1, x2⟩ := dr.ne_new hl
  obtain ⟨W, hW⟩ : ∃ W : List V, ([.str "count", .str "distinct", .str "sum", .str "sum", .str "least", .str "greatest"] : List V) = W := ⟨_, rfl⟩
  have drL := dr.put (o := .lst W) x1 x2
  have kL : Kp [d] H (upd H l (.lst W)) := .new hl
  refine ⟨_, rfl, d, sc, 6, rfl, by decide, by decide, by rw [hW]; exact drL, fun b o2 b0 b4 no2 dr4 => ?_⟩
  rw [hW] at dr4 ⊢
  have hl4 : (upd (upd H l (.lst W)) d o2) l = some (.lst W) := by rw [upd_ne x1.symm, upd_same]
  have kz : Kp [d] H (upd (upd H l (.lst W)) d o2) := kL.trans drL.step
  have hw' : atI W b = some (.str "count") ∨ ∃ t : Tw, atI W b = some (.str t.str) := by
    subst hW
    have : b = 0 ∨ b = 1 ∨ b = 2 ∨ b = 3 ∨ b = 4 ∨ b = 5 := by omega
    rcases this with rfl | rfl | rfl | rfl | rfl | rfl
    · exact .inl rfl
    · exact .inr ⟨.distinct, rfl⟩
    · exact .inr ⟨.sum, rfl⟩
    · exact .inr ⟨.sum, rfl⟩
    · exact .inr ⟨.least, rfl⟩
    · exact .inr ⟨.greatest, rfl⟩
  rcases hw' with e | ⟨t, e⟩
  · refine ⟨l, _, _, _, rfl, rfl, SqL.of hl4, e, ?_⟩
    refine ⟨_, rfl, rfl, _, rfl, iteT_of (dSs _) ⟨(by show 1 ≤ sizeLine; decide), fun p hp => ?_⟩⟩
    obtain ⟨y1, y2⟩ := dr4.ne_new hp
    exact q .count p _ trivial trivial upd_same (kz.newer hp) (dr4.put y1 y2)
  · refine ⟨l, _, _, _, rfl, rfl, SqL.of hl4, e, ?_⟩
    have ne : decide (V.str t.str = V.str "count") = false := by cases t <;> exact dS (by decide +kernel)
    refine ⟨_, rfl, rfl, _, rfl, iteF_of ne ⟨_, rfl, _, rfl, _, rfl, d, sc, wd, 1, rfl, by decide, hw, dr4, fun x r H2 xi xd xs xa k2 dr5 => ⟨(by show 2 ≤ sizeLine; decide), fun p hp => ?_⟩⟩⟩
    obtain ⟨y1, y2⟩ := dr5.ne_new hp
    exact q (.of t x) p _ xi ⟨xs, xd⟩ ⟨r, upd_same, ExAt.kp (Kp.new (M := []) hp) x r xa⟩ ((kz.trans k2).newer hp) (dr5.put y1 y2)
end

/-! ### lists of what stands at addresses -/
def Prs {α : Type} (R : α → Addr → Prop) : List Addr → List α → Prop
  | [], [] => True
  | a :: as, x :: xs => R x a ∧ Prs R as xs
  | [], _ :: _ => False
  | _ :: _, [] => False
theorem Prs.len {α : Type} {R : α → Addr → Prop} : ∀ {as : List Addr} {xs : List α}, Prs R as xs → as.length = xs.length
  | [], [], _ => rfl
  | a :: as, x :: xs, h => by rw [List.length_cons, List.length_cons, Prs.len h.2]
  | [], _ :: _, h => h.elim
  | _ :: _, [], h => h.elim
theorem Prs.imp {α : Type} {R S : α → Addr → Prop} (f : ∀ x a, R x a → S x a) : ∀ {as : List Addr} {xs : List α}, Prs R as xs → Prs S as xs
  | [], [], _ => trivial
  | a :: as, x :: xs, h => ⟨f _ _ h.1, Prs.imp f h.2⟩
  | [], _ :: _, h => h.elim
  | _ :: _, [], h => h.elim
theorem Prs.snoc {α : Type} {R : α → Addr → Prop} {b : Addr} {y : α} (k : R y b) : ∀ {as : List Addr} {xs : List α}, Prs R as xs → Prs R (as ++ [b]) (xs ++ [y])
  | [], [], _ => ⟨k, trivial⟩
  | a :: as, x :: xs, h => ⟨h.1, Prs.snoc k h.2⟩
  | [], _ :: _, h => h.elim
  | _ :: _, [], h => h.elim
theorem Prs.at {α : Type} {R : α → Addr → Prop} : ∀ {as : List Addr} {xs : List α} {i : Nat} {x : α}, Prs R as xs → xs[i]? = some x → ∃ a, as[i]? = some a ∧ R x a
  | [], [], _, _, _, e => by simp at e
  | a :: as, x :: xs, 0, _, h, e => by cases e; exact ⟨a, rfl, h.1⟩
  | a :: as, x :: xs, i + 1, _, h, e => Prs.at (as := as) (xs := xs) (i := i) h.2 (by simpa using e)
  | [], _ :: _, _, _, h, _ => h.elim
  | _ :: _, [], _, _, h, _ => h.elim
theorem Prs.of {α : Type} {R : α → Addr → Prop} {as : List Addr} {xs : List α} {i : Nat} {a : Addr} (h : Prs R as xs) (e : as[i]? = some a) : ∃ x, xs[i]? = some x ∧ R x a := by
  have hi := (List.getElem?_eq_some_iff.mp e).1
  rw [h.len] at hi
  obtain ⟨b, e2, r⟩ := h.at (List.getElem?_eq_getElem hi)
  rw [e] at e2
  cases e2
  exact ⟨_, List.getElem?_eq_getElem hi, r⟩
/-- a list at l, what it holds as R says; N tells of l -/
def LstOf {α : Type} (R : α → Addr → Prop) (N : Addr → Prop) (H : Hp) (L : List α) (l : Addr) : Prop := ∃ as : List Addr, H l = some (.lst (as.map V.ref)) ∧ N l ∧ Prs R as L
theorem LstOf.kp {α : Type} {R S : α → Addr → Prop} {N : Addr → Prop} {M : List Addr} {H H' : Hp} {L : List α} {l : Addr} (h : LstOf R N H L l) (k : Kp M H H') (f : ∀ x a, R x a → S x a) (hN : ∀ l, N l → l ∉ M) : LstOf S N H' L l := by
  obtain ⟨as, h1, h2, h3⟩ := h
  exact ⟨as, k.k _ _ h1 (hN _ h2), h2, h3.imp f⟩
theorem LstOf.mono {α : Type} {R : α → Addr → Prop} {N N' : Addr → Prop} {H : Hp} {L : List α} {l : Addr} (h : LstOf R N H L l) (f : ∀ l, N l → N' l) : LstOf R N' H L l := by
  obtain ⟨as, h1, h2, h3⟩ := h
  exact ⟨as, h1, f _ h2, h3⟩
/-! ### operations of plans -/
inductive Opn where
  | tab (i : Nat) | stp (i : Nat) | fil (e : Ex) (q : Nat) | map (es : List Ex) (q : Nat) | grp (ks : List Ex) (ts : List Tot) (q : Nat) | join (e : Ex) (q r : Nat) | anti (e : Ex) (q r : Nat) | uni (q r : Nat) | minus (q r : Nat)
def OpAt (N : Addr → Prop) (H : Hp) : Opn → Addr → Prop
  | .tab i, a => H a = some (.tup [.str "table", .int (i : Int)])
  | .stp i, a => H a = some (.tup [.str "step", .int (i : Int)])
  | .fil e q, a => ∃ x, H a = some (.tup [.str "filter", .ref x, .int (q : Int)]) ∧ ExAt H e x
  | .map es q, a => ∃ l, H a = some (.tup [.str "map", .ref l, .int (q : Int)]) ∧ LstOf (ExAt H) N H es l
  | .grp ks ts q, a => ∃ l m, H a = some (.tup [.str "group", .ref l, .ref m, .int (q : Int)]) ∧ LstOf (ExAt H) N H ks l ∧ LstOf (TotAt H) N H ts m
  | .join e q r, a => ∃ x, H a = some (.tup [.str "join", .ref x, .int (q : Int), .int (r : Int)]) ∧ ExAt H e x
  | .anti e q r, a => ∃ x, H a = some (.tup [.str "anti", .ref x, .int (q : Int), .int (r : Int)]) ∧ ExAt H e x
  | .uni q r, a => H a = some (.tup [.str "union", .int (q : Int), .int (r : Int)])
  | .minus q r, a => H a = some (.tup [.str "minus", .int (q : Int), .int (r : Int)])
theorem OpAt.kp {N : Addr → Prop} {M : List Addr} {H H' : Hp} (k : Kp M H H') (hN : ∀ l, N l → l ∉ M) : ∀ {o : Opn} {a : Addr}, OpAt N H o a → OpAt N H' o a
  | .tab _, _, h => k.t _ _ h
  | .stp _, _, h => k.t _ _ h
  | .fil e _, _, ⟨x, h, g⟩ => ⟨x, k.t _ _ h, ExAt.kp k e x g⟩
  | .map es _, _, ⟨l, h, g⟩ => ⟨l, k.t _ _ h, g.kp k (fun e a => ExAt.kp k e a) hN⟩
  | .grp ks ts _, _, ⟨l, m, h, g, j⟩ => ⟨l, m, k.t _ _ h, g.kp k (fun e a => ExAt.kp k e a) hN, j.kp k (fun e a => TotAt.kp k e a) hN⟩
  | .join e _ _, _, ⟨x, h, g⟩ => ⟨x, k.t _ _ h, ExAt.kp k e x g⟩
  | .anti e _ _, _, ⟨x, h, g⟩ => ⟨x, k.t _ _ h, ExAt.kp k e x g⟩
  | .uni _ _, _, h => k.t _ _ h
  | .minus _ _, _, h => k.t _ _ h
theorem OpAt.mono {N N' : Addr → Prop} {H : Hp} (f : ∀ l, N l → N' l) : ∀ {o : Opn} {a : Addr}, OpAt N H o a → OpAt N' H o a
  | .tab _, _, h => h
  | .stp _, _, h => h
  | .fil _ _, _, h => h
  | .map _ _, _, ⟨l, h, g⟩ => ⟨l, h, g.mono f⟩
  | .grp _ _ _, _, ⟨l, m, h, g, j⟩ => ⟨l, m, h, g.mono f, j.mono f⟩
  | .join _ _ _, _, h => h
  | .anti _ _ _, _, h => h
  | .uni _ _, _, h => h
  | .minus _ _, _, h => h
def nV (n : Nat) : V := .int (n : Int)
theorem nV_at {L : List Nat} {i : Nat} {n : Nat} (h : L[i]? = some n) : atI (L.map nV) (i : Int) = some (.int (n : Int)) := at_of rfl (by rw [List.getElem?_map, h]; rfl)
theorem Drw.noN {d sc b : Addr} {H : Hp} {L : List Nat} (D : Drw d sc H) (e : H b = some (.lst (L.map nV))) : b ≠ d := D.noI (L := L.map Int.ofNat) (by rw [List.map_map]; exact e)
/-- an expression over so many columns -/
def Ex.ok (w dep : Nat) (e : Ex) : Prop := e.In w ∧ e.depth ≤ dep ∧ e.sm
def Tot.ok (w : Nat) (t : Tot) : Prop := t.In w ∧ t.sm
/-- o fits behind operations of these sizes, and has itself size s -/
def OpOk (wd sp sz : List Nat) : Opn → Nat → Prop
  | .tab i, s => wd[i]? = some s
  | .stp i, s => sp[i]? = some s
  | .fil e q, s => sz[q]? = some s ∧ e.ok s 2
  | .map es q, s => ∃ n, sz[q]? = some n ∧ (∀ e ∈ es, e.ok n 1) ∧ s = es.length ∧ 1 ≤ s ∧ s ≤ 2
  | .grp ks ts q, s => ∃ n, sz[q]? = some n ∧ (∀ e ∈ ks, e.ok n 1) ∧ (∀ t ∈ ts, t.ok n) ∧ s = ks.length + ts.length ∧ 1 ≤ s ∧ ks.length ≤ 2 ∧ ts.length ≤ 2 ∧ s ≤ 3
  | .join e q r, s => ∃ n m, sz[q]? = some n ∧ sz[r]? = some m ∧ e.ok (n + m) 2 ∧ s = n + m ∧ s ≤ 4
  | .anti e q r, s => ∃ m, sz[q]? = some s ∧ sz[r]? = some m ∧ e.ok (s + m) 2
  | .uni q r, s => sz[q]? = some s ∧ sz[r]? = some s
  | .minus q r, s => sz[q]? = some s ∧ sz[r]? = some s
def spOperation : Sp := fun vs H Q _ => ∃ (d sc sa wa pa : Addr) (sz wd sp : List Nat), vs = [.ref d, .ref sa, .ref wa, .ref pa] ∧ Drw d sc H ∧ H sa = some (.lst (sz.map nV)) ∧ H wa = some (.lst (wd.map nV)) ∧ H pa = some (.lst (sp.map nV)) ∧
  wd ≠ [] ∧ sz.length ≤ 100 ∧ wd.length ≤ 100 ∧ sp.length ≤ 100 ∧ (∀ s ∈ sz, s ≤ 4) ∧
  ∀ (o : Opn) (s : Nat) (u r : Addr) (H' : Hp), OpOk wd sp sz o s → OpAt (fun l => H l = none) H' o u → H' r = some (.tup [.ref u, .int (s : Int)]) → Kp [d] H H' → Drw d sc H' → Q (.ref r) H'
structure TPgen (mg : Str → Option Value) : Prop where
  n_len : mg "len" = none
  n_range : mg "range" = none
  n_min : mg "min" = none
  n_int : mg "int" = none
section
variable {P : Program} {w : World} {K : PySem.W.Frag} {mg : Str → Option Value} {base : Heap}
theorem ok_operation (D : GD K mg "_law_operation" sD_Loperation ["draw", "sizes", "widths", "steps"]) (T : TPgen mg) (c_Lnext : Cal P w K mg base 1 "_law_next" spNext []) (c_Lexpression : Cal P w K mg base 5 "_law_expression" (spExpr 5) []) (c_Lform : Cal P w K mg base 6 "_law_form" spForm []) :
    Cal P w K mg base 7 "_law_operation" spOperation [] := by
  refine D.cal sc_Loperation (fun vs H Q E h => ?_) (fun f cdv A outer s0 H vs Q E hr h => ?_)
  · obtain ⟨d, sc, sa, wa, pa, sz, wd, sp, rfl, _⟩ := h
    rfl
  obtain ⟨d, sc, sa, wa, pa, sz, wd, sp, rfl, dr, hs, hw, hp, newd, ls, lw, lp, bs, q⟩ := h
  have nsd := dr.noN hs
  have nwd := dr.noN hw
  have npd := dr.noN hp
  have e2 : (2 : Nat) ≤ sizeLine := by decide
  have e3 : (3 : Nat) ≤ sizeLine := by decide
  have e4 : (4 : Nat) ≤ sizeLine := by decide
  refine ⟨_, (pss_cons (ps_set (i := 4) sc_Loperation.nd rfl (Or.inl rfl) (pe_c c_Lnext hr (by omega) rfl (pa_cons (pv 0) (pa_cons pe_int pa_nil))))
    (pss_cons (ps_set (i := 5) sc_Loperation.nd rfl (Or.inl rfl) (pe_callB call_len_seq (by rfl) T.n_len (by decide +kernel) (pa_cons (pv 1) pa_nil)))
    (pss_cons (ps_if (PW.pt (pw_or (pt_cmpR op_eq (pv 5) pe_int (nomark _)) (pw_or1 (pt_cmpR op_lt (pv 4) pe_int (nomark _))))) (pss_cons (ps_if (PW.pt (pw_and (pt_truth (pv 3) (by intro _; rfl)) (pw_and1 (pt_truth (pe_c c_Lnext hr (by omega) rfl (pa_cons (pv 0) (pa_cons pe_int pa_nil))) (by intro _; rfl))))) (pss_cons (ps_set (i := 6) sc_Loperation.nd rfl (Or.inl rfl) (pe_c c_Lnext hr (by omega) rfl (pa_cons (pv 0) (pa_cons (pe_callB call_len_seq (by rfl) T.n_len (by decide +kernel) (pa_cons (pv 3) pa_nil)) pa_nil))))
    (pss_one (ps_ret (pe_tup (pa_cons (pe_tup (pa_cons pe_str (pa_cons (pv 6) pa_nil))) (pa_cons (pe_ix ix_list (pv 3) (pv 6) (fun _ _ => rfl)) pa_nil)))))) pss_nil)
    (pss_cons (ps_set (i := 6) sc_Loperation.nd rfl (Or.inl rfl) (pe_c c_Lnext hr (by omega) rfl (pa_cons (pv 0) (pa_cons (pe_callB call_len_seq (by rfl) T.n_len (by decide +kernel) (pa_cons (pv 2) pa_nil)) pa_nil))))
    (pss_one (ps_ret (pe_tup (pa_cons (pe_tup (pa_cons pe_str (pa_cons (pv 6) pa_nil))) (pa_cons (pe_ix ix_list (pv 2) (pv 6) (fun _ _ => rfl)) pa_nil))))))) pss_nil)
    (pss_cons (ps_set (i := 7) sc_Loperation.nd rfl (Or.inr rfl) (pe_op op_sub (pe_op op_sub (pv 5) pe_int) (pe_c c_Lnext hr (by omega) rfl (pa_cons (pv 0) (pa_cons (pe_callB (call_min2 rfl) (by rfl) T.n_min (by decide +kernel) (pa_cons (pv 5) (pa_cons pe_int pa_nil))) pa_nil)))))
    (pss_cons (ps_set (i := 8) sc_Loperation.nd rfl (Or.inl rfl) (pe_op op_sub (pe_op op_sub (pv 5) pe_int) (pe_c c_Lnext hr (by omega) rfl (pa_cons (pv 0) (pa_cons (pe_callB (call_min2 rfl) (by rfl) T.n_min (by decide +kernel) (pa_cons (pv 5) (pa_cons pe_int pa_nil))) pa_nil)))))
    (pss_cons (ps_if (pt_cmpR op_lt (pv 4) pe_int (nomark _)) (pss_one (ps_ret (pe_tup (pa_cons (pe_tup (pa_cons pe_str (pa_cons (pe_c c_Lexpression hr (by omega) rfl (pa_cons (pv 0) (pa_cons (pe_ix ix_list (pv 1) (pv 7) (fun _ _ => rfl)) (pa_cons pe_int pa_nil)))) (pa_cons (pv 7) pa_nil)))) (pa_cons (pe_ix ix_list (pv 1) (pv 7) (fun _ _ => rfl)) pa_nil))))) pss_nil)
    (pss_cons (ps_if (pt_cmpR op_eq (pv 4) pe_int (nomark _)) (pss_cons (ps_setLc (i := 9) (own := [("k", 14)]) (g := gName 14) (tt := tYes) rfl sc_Loperation.nd rfl rfl (sw_true rfl rfl rfl (by decide +kernel)) (pi_range1 (by rfl) T.n_range (pa_cons (pe_op op_add pe_int (pe_c c_Lnext hr (by omega) rfl (pa_cons (pv 0) (pa_cons pe_int pa_nil)))) pa_nil)) (blkOk_by (own := [("k", 14)]) (N := ["draw", "sizes", "widths", "steps", "form", "many", "index", "q", "r", "parts", "keys", "totals", "like", "word", "k"]) (sc := defScope sD_Loperation) (by decide +kernel)) (fun _ _ _ _ _ => (pg_name (i := 14) sc_Loperation.nd rfl (Or.inl rfl))) (fun _ _ _ _ _ => pts_nil) (fun _ _ _ _ _ => (pe_c c_Lexpression hr (by omega) rfl (pa_cons (pv 0) (pa_cons (bx_list (K := K) rfl (pv 1) (pv 7) (fun _ _ => rfl)) (pa_cons pe_int pa_nil))))))
    (pss_one (ps_ret (pe_tup (pa_cons (pe_tup (pa_cons pe_str (pa_cons (pv 9) (pa_cons (pv 7) pa_nil)))) (pa_cons (pe_callB call_len_seq (by rfl) T.n_len (by decide +kernel) (pa_cons (pv 9) pa_nil)) pa_nil)))))) pss_nil)
    (pss_cons (ps_if (pt_cmpR op_eq (pv 4) pe_int (nomark _)) (pss_cons (ps_setLc (i := 10) (own := [("k", 14)]) (g := gName 14) (tt := tYes) rfl sc_Loperation.nd rfl rfl (sw_true rfl rfl rfl (by decide +kernel)) (pi_range1 (by rfl) T.n_range (pa_cons (pe_c c_Lnext hr (by omega) rfl (pa_cons (pv 0) (pa_cons pe_int pa_nil))) pa_nil)) (blkOk_by (own := [("k", 14)]) (N := ["draw", "sizes", "widths", "steps", "form", "many", "index", "q", "r", "parts", "keys", "totals", "like", "word", "k"]) (sc := defScope sD_Loperation) (by decide +kernel)) (fun _ _ _ _ _ => (pg_name (i := 14) sc_Loperation.nd rfl (Or.inl rfl))) (fun _ _ _ _ _ => pts_nil) (fun _ _ _ _ _ => (pe_c c_Lexpression hr (by omega) rfl (pa_cons (pv 0) (pa_cons (bx_list (K := K) rfl (pv 1) (pv 7) (fun _ _ => rfl)) (pa_cons pe_int pa_nil))))))
    (pss_cons (ps_setLc (i := 11) (own := [("k", 14)]) (g := gName 14) (tt := tYes) rfl sc_Loperation.nd rfl rfl (sw_true rfl rfl rfl (by decide +kernel)) (pi_range1 (by rfl) T.n_range (pa_cons (pe_op op_add (pe_c c_Lnext hr (by omega) rfl (pa_cons (pv 0) (pa_cons pe_int pa_nil))) (pe_callTy call_int1 (by rfl) T.n_int (by decide +kernel) (pa_cons (pe_notT (pv 10)) pa_nil))) pa_nil)) (blkOk_by (own := [("k", 14)]) (N := ["draw", "sizes", "widths", "steps", "form", "many", "index", "q", "r", "parts", "keys", "totals", "like", "word", "k"]) (sc := defScope sD_Loperation) (by decide +kernel)) (fun _ _ _ _ _ => (pg_name (i := 14) sc_Loperation.nd rfl (Or.inl rfl))) (fun _ _ _ _ _ => pts_nil) (fun _ _ _ _ _ => (pe_c c_Lform hr (by omega) rfl (pa_cons (pv 0) (pa_cons (bx_list (K := K) rfl (pv 1) (pv 7) (fun _ _ => rfl)) pa_nil)))))
    (pss_one (ps_ret (pe_tup (pa_cons (pe_tup (pa_cons pe_str (pa_cons (pv 10) (pa_cons (pv 11) (pa_cons (pv 7) pa_nil))))) (pa_cons (pe_op op_add (pe_callB call_len_seq (by rfl) T.n_len (by decide +kernel) (pa_cons (pv 10) pa_nil)) (pe_callB call_len_seq (by rfl) T.n_len (by decide +kernel) (pa_cons (pv 11) pa_nil))) pa_nil))))))) pss_nil)
    (pss_cons (ps_if (PW.pt (pw_and (pt_cmpR op_lt (pv 4) pe_int (nomark _)) (pw_and1 (pt_cmpR op_lt (pe_op op_add (pe_ix ix_list (pv 1) (pv 7) (fun _ _ => rfl)) (pe_ix ix_list (pv 1) (pv 8) (fun _ _ => rfl))) pe_int (nomark _))))) (pss_one (ps_ret (pe_tup (pa_cons (pe_tup (pa_cons pe_str (pa_cons (pe_c c_Lexpression hr (by omega) rfl (pa_cons (pv 0) (pa_cons (pe_op op_add (pe_ix ix_list (pv 1) (pv 7) (fun _ _ => rfl)) (pe_ix ix_list (pv 1) (pv 8) (fun _ _ => rfl))) (pa_cons pe_int pa_nil)))) (pa_cons (pv 7) (pa_cons (pv 8) pa_nil))))) (pa_cons (pe_op op_add (pe_ix ix_list (pv 1) (pv 7) (fun _ _ => rfl)) (pe_ix ix_list (pv 1) (pv 8) (fun _ _ => rfl))) pa_nil))))) pss_nil)
    (pss_cons (ps_if (pt_cmpR op_eq (pv 4) pe_int (nomark _)) (pss_one (ps_ret (pe_tup (pa_cons (pe_tup (pa_cons pe_str (pa_cons (pe_c c_Lexpression hr (by omega) rfl (pa_cons (pv 0) (pa_cons (pe_op op_add (pe_ix ix_list (pv 1) (pv 7) (fun _ _ => rfl)) (pe_ix ix_list (pv 1) (pv 8) (fun _ _ => rfl))) (pa_cons pe_int pa_nil)))) (pa_cons (pv 7) (pa_cons (pv 8) pa_nil))))) (pa_cons (pe_ix ix_list (pv 1) (pv 7) (fun _ _ => rfl)) pa_nil))))) pss_nil)
    (pss_cons (ps_setLc (i := 12) (own := [("k", 14)]) (g := gName 14) rfl sc_Loperation.nd rfl rfl (sw_true rfl rfl rfl (by decide +kernel)) (pi_range1 (by rfl) T.n_range (pa_cons (pv 5) pa_nil)) (blkOk_by (own := [("k", 14)]) (N := ["draw", "sizes", "widths", "steps", "form", "many", "index", "q", "r", "parts", "keys", "totals", "like", "word", "k"]) (sc := defScope sD_Loperation) (by decide +kernel)) (fun _ _ _ _ _ => (pg_name (i := 14) sc_Loperation.nd rfl (Or.inl rfl))) (fun _ _ _ _ _ => (pts_one (pt_cmpR op_eq (bx_list (K := K) rfl (pv 1) (pv 14) (fun _ _ => rfl)) (bx_list (K := K) rfl (pv 1) (pv 7) (fun _ _ => rfl)) (nomark _)))) (fun _ _ _ _ _ => (pv 14)))
    (pss_cons (ps_set (i := 13) sc_Loperation.nd rfl (Or.inl rfl) (pe_ix ix_list (pe_lst (pa_cons pe_str (pa_cons pe_str pa_nil))) (pe_c c_Lnext hr (by omega) rfl (pa_cons (pv 0) (pa_cons pe_int pa_nil))) (fun _ _ => rfl)))
    (pss_one (ps_ret (pe_tup (pa_cons (pe_tup (pa_cons (pv 13) (pa_cons (pv 7) (pa_cons (pe_ix ix_list (pv 12) (pe_c c_Lnext hr (by omega) rfl (pa_cons (pv 0) (pa_cons (pe_callB call_len_seq (by rfl) T.n_len (by decide +kernel) (pa_cons (pv 12) pa_nil)) pa_nil))) (fun _ _ => rfl)) pa_nil)))) (pa_cons (pe_ix ix_list (pv 1) (pv 7) (fun _ _ => rfl)) pa_nil))))))))))))))))), ?_⟩
  refine ⟨_, rfl, d, sc, 11, rfl, by decide, by decide, dr, fun fm o f0 f9 no dr1 => ?_⟩
  have k1 : Kp [d] H (upd H d o) := dr.step
  obtain ⟨H1, hH1⟩ : ∃ H1, upd H d o = H1 := ⟨_, rfl⟩
  rw [hH1] at dr1 k1 ⊢
  have kS : ∀ {G : Hp}, Kp [d] H G → G sa = some (.lst (sz.map nV)) := fun k => k.k _ _ hs (by simpa using nsd)
  have kW : ∀ {G : Hp}, Kp [d] H G → G wa = some (.lst (wd.map nV)) := fun k => k.k _ _ hw (by simpa using nwd)
  have kP : ∀ {G : Hp}, Kp [d] H G → G pa = some (.lst (sp.map nV)) := fun k => k.k _ _ hp (by simpa using npd)
  have freeH : ∀ {G : Hp} {p : Addr}, Kp [d] H G → Drw d sc G → G p = none → H p = none := fun {G p} k D e => k.free e (by
    have := (D.ne_new e).1
    simpa using this.symm)
  refine ⟨_, rfl, sa, _, rfl, .inl (SqL.of (kS k1)), ?_⟩
  rw [List.length_map]
  refine ⟨_, rfl, rfl, _, rfl, ?_⟩
  refine ite2 (fun c => iteT ?g1) (fun c => ?g0)
  case' g0 =>
    have m0 : sz.length ≠ 0 := fun z => nI c (by rw [z]; rfl)
    refine ⟨_, rfl, _, _, rfl, rfl, _, rfl, ?_⟩
    refine ite2 (fun c2 => ?g2) (fun c2 => ?g3)
  case g1 | g2 =>
    -- a table or a step
    have tabl : ∀ (G : Hp) (b : Nat) (s : Nat), Kp [d] H G → Drw d sc G → wd[b]? = some s → ∀ u r : Addr, G u = none → (upd G u (.tup [.str "table", .int (b : Int)])) r = none → Q (.ref r) (upd (upd G u (.tup [.str "table", .int (b : Int)])) r (.tup [.ref u, .int (s : Int)])) := fun G b s kG drG hb u r hu hr => by
      obtain ⟨x1, x2⟩ := drG.ne_new hu
      have drU := drG.put (o := .tup [.str "table", .int (b : Int)]) x1 x2
      obtain ⟨y1, y2⟩ := drU.ne_new hr
      refine q (.tab b) s u r _ hb ?_ upd_same ((kG.newer hu).newer hr) (drU.put y1 y2)
      exact (Kp.new (M := []) hr).t _ _ upd_same
    have steq : ∀ (G : Hp) (b : Nat) (s : Nat), Kp [d] H G → Drw d sc G → sp[b]? = some s → ∀ u r : Addr, G u = none → (upd G u (.tup [.str "step", .int (b : Int)])) r = none → Q (.ref r) (upd (upd G u (.tup [.str "step", .int (b : Int)])) r (.tup [.ref u, .int (s : Int)])) := fun G b s kG drG hb u r hu hr => by
      obtain ⟨x1, x2⟩ := drG.ne_new hu
      have drU := drG.put (o := .tup [.str "step", .int (b : Int)]) x1 x2
      obtain ⟨y1, y2⟩ := drU.ne_new hr
      refine q (.stp b) s u r _ hb ?_ upd_same ((kG.newer hu).newer hr) (drU.put y1 y2)
      exact (Kp.new (M := []) hr).t _ _ upd_same
    have lw0 : 0 < wd.length := List.length_pos_iff.mpr newd
    have ew : (((wd.map nV).length : Nat) : Int) = (wd.length : Int) := by rw [List.length_map]
    have ep : (((sp.map nV).length : Nat) : Int) = (sp.length : Int) := by rw [List.length_map]
    refine ⟨_, rfl, _, .inl ⟨_, SqL.of (kP k1), rfl⟩, ?_⟩
    refine ite2 (fun c3 => ?_) (fun c3 => ?_)
    · have lp0 : 0 < sp.length := by
        cases sp with
        | nil => cases c3
        | cons x l => simp
      refine ⟨_, rfl, d, sc, 2, rfl, by decide, by decide, dr1, fun z o1 z0 z2 no1 dr2 => ⟨_, rfl, ?_⟩⟩
      have k2 := k1.trans (dr1.step (o := o1))
      refine ite2 (fun c4 => ?_) (fun c4 => ?_)
      · refine ⟨_, rfl, _, rfl, pa, _, rfl, .inl (SqL.of (kP k2)), d, sc, (sp.length : Int), by rw [ep]; rfl, by omega, by omega, dr2, fun b o2 b0 b1 no2 dr3 => ?_⟩
        obtain ⟨bn, rfl⟩ : ∃ bn : Nat, b = bn := ⟨b.toNat, by omega⟩
        have k3 := k2.trans (dr2.step (o := o2))
        have hb : sp[bn]? = some (sp[bn]'(by omega)) := List.getElem?_eq_getElem (by omega)
        refine ⟨_, rfl, e2, fun u hu => ⟨_, rfl, _, rfl, pa, _, _, _, rfl, rfl, SqL.of (kP (k3.newer hu)), nV_at hb, e2, fun r hr => ?_⟩⟩
        exact steq _ bn _ k3 dr3 hb u r hu hr
      · refine ⟨_, rfl, _, rfl, wa, _, rfl, .inl (SqL.of (kW k2)), d, sc, (wd.length : Int), by rw [ew]; rfl, by omega, by omega, dr2, fun b o2 b0 b1 no2 dr3 => ?_⟩
        obtain ⟨bn, rfl⟩ : ∃ bn : Nat, b = bn := ⟨b.toNat, by omega⟩
        have k3 := k2.trans (dr2.step (o := o2))
        have hb : wd[bn]? = some (wd[bn]'(by omega)) := List.getElem?_eq_getElem (by omega)
        refine ⟨_, rfl, e2, fun u hu => ⟨_, rfl, _, rfl, wa, _, _, _, rfl, rfl, SqL.of (kW (k3.newer hu)), nV_at hb, e2, fun r hr => ?_⟩⟩
        exact tabl _ bn _ k3 dr3 hb u r hu hr
    · refine ⟨_, rfl, _, rfl, wa, _, rfl, .inl (SqL.of (kW k1)), d, sc, (wd.length : Int), by rw [ew]; rfl, by omega, by omega, dr1, fun b o2 b0 b1 no2 dr3 => ?_⟩
      obtain ⟨bn, rfl⟩ : ∃ bn : Nat, b = bn := ⟨b.toNat, by omega⟩
      have k3 := k1.trans (dr1.step (o := o2))
      have hb : wd[bn]? = some (wd[bn]'(by omega)) := List.getElem?_eq_getElem (by omega)
      refine ⟨_, rfl, e2, fun u hu => ⟨_, rfl, _, rfl, wa, _, _, _, rfl, rfl, SqL.of (kW (k3.newer hu)), nV_at hb, e2, fun r hr => ?_⟩⟩
      exact tabl _ bn _ k3 dr3 hb u r hu hr
  case g3 =>
    obtain ⟨mm, hmm⟩ : ∃ mm : Int, (if (3 : Int) < (sz.length : Int) then (3 : Int) else (sz.length : Int)) = mm := ⟨_, rfl⟩
    have bm : 1 ≤ mm ∧ mm ≤ (sz.length : Int) := by rw [← hmm]; split <;> omega
    refine ⟨_, rfl, _, _, rfl, rfl, _, rfl, _, rfl, _, _, rfl, d, sc, mm, by rw [← hmm]; rfl, by omega, by omega, dr1, fun a o1 a0 a1 no1 dr2 => ⟨_, _, rfl, rfl, ?_⟩⟩
    obtain ⟨qn, hqn⟩ : ∃ qn : Nat, (sz.length : Int) - 1 - a = (qn : Int) := ⟨((sz.length : Int) - 1 - a).toNat, by omega⟩
    show gName 7 (.int ((sz.length : Int) - 1 - a)) _ _ _
    rw [hqn]
    have k2 := k1.trans (dr1.step (o := o1))
    refine ⟨_, rfl, _, _, rfl, rfl, _, rfl, _, rfl, _, _, rfl, d, sc, mm, by rw [← hmm]; rfl, by omega, by omega, dr2, fun b o2 b0 b1 no2 dr3 => ⟨_, _, rfl, rfl, ?_⟩⟩
    obtain ⟨rn, hrn⟩ : ∃ rn : Nat, (sz.length : Int) - 1 - b = (rn : Int) := ⟨((sz.length : Int) - 1 - b).toNat, by omega⟩
    show gName 8 (.int ((sz.length : Int) - 1 - b)) _ _ _
    rw [hrn]
    have k3 := k2.trans (dr2.step (o := o2))
    obtain ⟨H3, hH3⟩ : ∃ H3, upd (upd H1 d o1) d o2 = H3 := ⟨_, rfl⟩
    rw [hH3] at dr3 k3 ⊢
    have lq : qn < sz.length := by omega
    have lr : rn < sz.length := by omega
    obtain ⟨sq, hq⟩ : ∃ sq, sz[qn]? = some sq := ⟨_, List.getElem?_eq_getElem lq⟩
    obtain ⟨sr, hrr⟩ : ∃ sr, sz[rn]? = some sr := ⟨_, List.getElem?_eq_getElem lr⟩
    have bq : sq ≤ 4 := bs _ (List.mem_of_getElem? hq)
    have br : sr ≤ 4 := bs _ (List.mem_of_getElem? hrr)
    refine ⟨_, rfl, _, _, rfl, rfl, _, rfl, ite2 (fun c3 => ?_) (fun c3 => ?_)⟩
    · -- filter
      refine ⟨_, rfl, _, rfl, _, rfl, sa, _, _, _, rfl, rfl, SqL.of (kS k3), nV_at hq, d, sc, sq, 2, rfl, by decide, by omega, dr3, fun t x H4 ti td ts ta k4 dr4 => ⟨_, rfl, e3, fun u hu => ?_⟩⟩
      have k34 := k3.trans k4
      refine ⟨_, rfl, _, rfl, sa, _, _, _, rfl, rfl, SqL.of (kS (k34.newer hu)), nV_at hq, e2, fun r hr => ?_⟩
      obtain ⟨x1, x2⟩ := dr4.ne_new hu
      have drU := dr4.put (o := .tup [.str "filter", .ref x, .int (qn : Int)]) x1 x2
      obtain ⟨y1, y2⟩ := drU.ne_new hr
      exact q (.fil t qn) sq u r _ ⟨hq, ti, td, ts⟩ ⟨x, (Kp.new (M := []) hr).t _ _ upd_same, ExAt.kp ((Kp.new (M := []) hu).trans (Kp.new hr)) t x ta⟩ upd_same ((k34.newer hu).newer hr) (drU.put y1 y2)
    refine ⟨_, rfl, rfl, _, rfl, ite2 (fun c4 => ?_) (fun c4 => ?_)⟩
    · -- map
      refine ⟨_, rfl, d, sc, 2, rfl, by decide, by decide, dr3, fun z o3 z0 z2 no3 dr4 => ⟨_, _, rfl, rfl, 1 + z, rfl, by omega, by omega, ?_⟩⟩
      obtain ⟨zn, rfl⟩ : ∃ zn : Nat, z = zn := ⟨z.toNat, by omega⟩
      rw [show (1 + (zn : Int)).toNat = 1 + zn by omega]
      have k4 := k3.trans (dr3.step (o := o3))
      obtain ⟨H4, hH4⟩ : ∃ H4, upd H3 d o3 = H4 := ⟨_, rfl⟩
      rw [hH4] at dr4 k4 ⊢
      refine fun L hL => lc_range (lo := 0) (n := 1 + zn) (fun j G => Drw d sc G ∧ Kp [d] H4 G ∧ ∃ (es : List Ex) (as : List Addr), es.length = j ∧ (∀ e ∈ es, e.ok sq 1) ∧ G L = some (.lst (as.map V.ref)) ∧ Prs (ExAt G) as es)
        ⟨dr4.put (dr4.ne_new hL).1 (dr4.ne_new hL).2, .new hL, [], [], rfl, fun e h => (by cases h), upd_same, trivial⟩ (fun j G hj p => ?_) (fun G p => ?_)
      · obtain ⟨drG, kG, es, as, el, eo, hLG, pr⟩ := p
        refine ⟨rfl, _, rfl, _, rfl, _, rfl, sa, _, _, _, rfl, rfl, SqL.of (kS (k4.trans kG)), nV_at hq, d, sc, sq, 1, rfl, by decide, by omega, drG, fun t x H5 ti td ts ta k5 dr5 => ?_⟩
        have nLd : L ≠ d := fun z => by obtain ⟨xs, e⟩ := dr4.dl; rw [← z, hL] at e; cases e
        have hL5 := k5.k _ _ hLG (by simpa using nLd)
        have kput : Kp [L] H5 (upd H5 L (.lst (as.map V.ref ++ [V.ref x]))) := .put (by simp) hL5 fun xs z => by cases z
        refine ⟨_, hL5, small1000 (by rw [List.length_map, pr.len]; omega), dr5.put nLd.symm (dr4.ne_new hL).2, (kG.trans k5).mt hL, es ++ [t], as ++ [x], by rw [List.length_append, el]; rfl, fun e he => ?_, by rw [upd_same, List.map_append]; rfl, (pr.imp fun e a h => ExAt.kp kput e a (ExAt.kp k5 e a h)).snoc (ExAt.kp kput t x ta)⟩
        rcases List.mem_append.mp he with h | h
        · exact eo e h
        · rw [List.mem_singleton.mp h]; exact ⟨ti, td, ts⟩
      · obtain ⟨drG, kG, es, as, el, eo, hLG, pr⟩ := p
        have k5 := k4.trans kG
        refine ⟨_, rfl, _, rfl, e3, fun u hu => ?_⟩
        have kU := Kp.new (M := []) (o := .tup [.str "map", .ref L, .int (qn : Int)]) hu
        refine ⟨_, rfl, L, _, rfl, .inl (SqL.of (kU.k _ _ hLG (by simp))), e2, fun r hr => ?_⟩
        have kR := Kp.new (M := []) (o := .tup [.ref u, .int (((as.map V.ref).length : Nat) : Int)]) hr
        obtain ⟨x1, x2⟩ := drG.ne_new hu
        have drU := drG.put (o := .tup [.str "map", .ref L, .int (qn : Int)]) x1 x2
        obtain ⟨y1, y2⟩ := drU.ne_new hr
        exact q (.map es qn) es.length u r _ ⟨sq, hq, eo, rfl, by omega, by omega⟩ ⟨L, kR.t _ _ upd_same, as, (kU.trans kR).k _ _ hLG (by simp), freeH k4 dr4 hL, pr.imp fun e a h => ExAt.kp (kU.trans kR) e a h⟩ (by rw [upd_same, List.length_map, pr.len]) ((k5.newer hu).newer hr) (drU.put y1 y2)
    refine ⟨_, rfl, rfl, _, rfl, ite2 (fun c5 => ?_) (fun c5 => ?_)⟩
    · -- group
      refine ⟨_, rfl, d, sc, 3, rfl, by decide, by decide, dr3, fun z o3 z0 z3 no3 dr4 => ⟨_, rfl, by omega, by omega, ?_⟩⟩
      obtain ⟨zn, rfl⟩ : ∃ zn : Nat, z = zn := ⟨z.toNat, by omega⟩
      rw [Int.toNat_natCast]
      have k4 := k3.trans (dr3.step (o := o3))
      obtain ⟨H4, hH4⟩ : ∃ H4, upd H3 d o3 = H4 := ⟨_, rfl⟩
      rw [hH4] at dr4 k4 ⊢
      refine fun L hL => lc_range (lo := 0) (n := zn) (fun j G => Drw d sc G ∧ Kp [d] H4 G ∧ ∃ (es : List Ex) (as : List Addr), es.length = j ∧ (∀ e ∈ es, e.ok sq 1) ∧ G L = some (.lst (as.map V.ref)) ∧ Prs (ExAt G) as es)
        ⟨dr4.put (dr4.ne_new hL).1 (dr4.ne_new hL).2, .new hL, [], [], rfl, fun e h => (by cases h), upd_same, trivial⟩ (fun j G hj p => ?_) (fun G p => ?_)
      · obtain ⟨drG, kG, es, as, el, eo, hLG, pr⟩ := p
        refine ⟨rfl, _, rfl, _, rfl, _, rfl, sa, _, _, _, rfl, rfl, SqL.of (kS (k4.trans kG)), nV_at hq, d, sc, sq, 1, rfl, by decide, by omega, drG, fun t x H5 ti td ts ta k5 dr5 => ?_⟩
        have nLd : L ≠ d := fun z => by obtain ⟨xs, e⟩ := dr4.dl; rw [← z, hL] at e; cases e
        have hL5 := k5.k _ _ hLG (by simpa using nLd)
        have kput : Kp [L] H5 (upd H5 L (.lst (as.map V.ref ++ [V.ref x]))) := .put (by simp) hL5 fun xs z => by cases z
        refine ⟨_, hL5, small1000 (by rw [List.length_map, pr.len]; omega), dr5.put nLd.symm (dr4.ne_new hL).2, (kG.trans k5).mt hL, es ++ [t], as ++ [x], by rw [List.length_append, el]; rfl, fun e he => ?_, by rw [upd_same, List.map_append]; rfl, (pr.imp fun e a h => ExAt.kp kput e a (ExAt.kp k5 e a h)).snoc (ExAt.kp kput t x ta)⟩
        rcases List.mem_append.mp he with h | h
        · exact eo e h
        · rw [List.mem_singleton.mp h]; exact ⟨ti, td, ts⟩
      obtain ⟨dr5, kG, ks, as, kl, ko, hL5, pr⟩ := p
      have k5 := k4.trans kG
      have nLd := dr5.noR hL5
      refine ⟨_, rfl, d, sc, 2, rfl, by decide, by decide, dr5, fun y o4 y0 y2 no4 dr6 => ?_⟩
      have k56 : Kp [d] G (upd G d o4) := dr5.step
      have k6 := k5.trans k56
      obtain ⟨H6, hH6⟩ : ∃ H6, upd G d o4 = H6 := ⟨_, rfl⟩
      rw [hH6] at dr6 k56 k6 ⊢
      have hL6 := k56.k _ _ hL5 (by simpa using nLd)
      refine ⟨_, rfl, _, .inl ⟨_, SqL.of hL6, rfl⟩, .inr ⟨_, rfl, _, _, rfl, rfl, ?_⟩⟩
      obtain ⟨tn, htn⟩ : ∃ tn : Nat, y + (if (!!(as.map V.ref).isEmpty) = true then (1 : Int) else 0) = (tn : Int) := ⟨(y + (if (!!(as.map V.ref).isEmpty) = true then (1 : Int) else 0)).toNat, by split <;> omega⟩
      have tnb : tn ≤ 2 ∧ 1 ≤ ks.length + tn ∧ ks.length + tn ≤ 3 := by
        have pl := pr.len
        cases as with
        | nil =>
          have : (if (!!(([] : List Addr).map V.ref).isEmpty) = true then (1 : Int) else 0) = 1 := rfl
          rw [this] at htn
          rw [List.length_nil] at pl
          omega
        | cons a l =>
          have : (if (!!((a :: l).map V.ref).isEmpty) = true then (1 : Int) else 0) = 0 := rfl
          rw [this] at htn
          rw [List.length_cons] at pl
          omega
      refine ⟨(tn : Int), congrArg (fun z => [V.int z]) htn, by omega, by omega, ?_⟩
      rw [Int.toNat_natCast]
      refine fun M hM => lc_range (lo := 0) (n := tn) (fun j G => Drw d sc G ∧ Kp [d] H6 G ∧ ∃ (es : List Tot) (as : List Addr), es.length = j ∧ (∀ e ∈ es, e.ok sq) ∧ G M = some (.lst (as.map V.ref)) ∧ Prs (TotAt G) as es)
        ⟨dr6.put (dr6.ne_new hM).1 (dr6.ne_new hM).2, .new hM, [], [], rfl, fun e h => (by cases h), upd_same, trivial⟩ (fun j G hj p => ?_) (fun G p => ?_)
      · obtain ⟨drG, kG, es, as, el, eo, hLG, pr⟩ := p
        refine ⟨rfl, _, rfl, _, rfl, _, rfl, sa, _, _, _, rfl, rfl, SqL.of (kS (k6.trans kG)), nV_at hq, d, sc, sq, rfl, by omega, drG, fun t x H5 ti ts ta k5 dr5 => ?_⟩
        have nLd : M ≠ d := fun z => by obtain ⟨xs, e⟩ := dr6.dl; rw [← z, hM] at e; cases e
        have hL5 := k5.k _ _ hLG (by simpa using nLd)
        have kput : Kp [M] H5 (upd H5 M (.lst (as.map V.ref ++ [V.ref x]))) := .put (by simp) hL5 fun xs z => by cases z
        refine ⟨_, hL5, small1000 (by rw [List.length_map, pr.len]; omega), dr5.put nLd.symm (dr6.ne_new hM).2, (kG.trans k5).mt hM, es ++ [t], as ++ [x], by rw [List.length_append, el]; rfl, fun e he => ?_, by rw [upd_same, List.map_append]; rfl, (pr.imp fun e a h => TotAt.kp kput e a (TotAt.kp k5 e a h)).snoc (TotAt.kp kput t x ta)⟩
        rcases List.mem_append.mp he with h | h
        · exact eo e h
        · rw [List.mem_singleton.mp h]; exact ⟨ti, ts⟩
      obtain ⟨dr7, k67, ts, bs', tl, to, hM7, pr2⟩ := p
      have hL7 := k67.k _ _ hL6 (by simpa using nLd)
      have k7 := k6.trans k67
      refine ⟨_, rfl, _, rfl, _, rfl, e4, fun u hu => ?_⟩
      have kU := Kp.new (M := []) (o := .tup [.str "group", .ref L, .ref M, .int (qn : Int)]) hu
      refine ⟨_, rfl, L, _, rfl, .inl (SqL.of (kU.k _ _ hL7 (by simp))), _, rfl, M, _, rfl, .inl (SqL.of (kU.k _ _ hM7 (by simp))), _, _, rfl, rfl, e2, fun r hr => ?_⟩
      have kR := Kp.new (M := []) (o := .tup [.ref u, .int ((((as.map V.ref).length : Nat) : Int) + (((bs'.map V.ref).length : Nat) : Int))]) hr
      obtain ⟨x1, x2⟩ := dr7.ne_new hu
      have drU := dr7.put (o := .tup [.str "group", .ref L, .ref M, .int (qn : Int)]) x1 x2
      obtain ⟨y1, y2⟩ := drU.ne_new hr
      refine q (.grp ks ts qn) (ks.length + ts.length) u r _ ⟨sq, hq, ko, to, rfl, by omega, by omega, by omega, by omega⟩ ⟨L, M, kR.t _ _ upd_same, ⟨as, (kU.trans kR).k _ _ hL7 (by simp), freeH k4 dr4 hL, ?_⟩, bs', (kU.trans kR).k _ _ hM7 (by simp), freeH k6 dr6 hM, pr2.imp fun e a h => TotAt.kp (kU.trans kR) e a h⟩
        (by rw [upd_same, List.length_map, List.length_map, pr.len, pr2.len]; exact congrArg (fun z => some (HO.tup [.ref u, .int z])) (Int.natCast_add _ _).symm) ((k7.newer hu).newer hr) (drU.put y1 y2)
      exact pr.imp fun e a h => ExAt.kp (kU.trans kR) e a (ExAt.kp k67 e a (ExAt.kp k56 e a h))
    have ejs : ((sq : Int) + (sr : Int)) = ((sq + sr : Nat) : Int) := (Int.natCast_add _ _).symm
    refine ⟨_, rfl, _, _, rfl, rfl, _, rfl, ite2 (fun c6 => ?j2) (fun c6 => ?j0)⟩
    case' j2 =>
      refine ⟨_, rfl, _, rfl, sa, _, _, _, rfl, rfl, SqL.of (kS k3), nV_at hq, _, rfl, _, rfl, sa, _, _, _, rfl, rfl, SqL.of (kS k3), nV_at hrr, _, _, rfl, rfl, _, _, rfl, rfl, _, rfl, ite2 (fun c7 => ?j3) (fun c7 => ?j1)⟩
    case j3 =>
      have c7 : (sq : Int) + (sr : Int) < 5 := of_decide_eq_true c7
      refine ⟨_, rfl, _, rfl, _, rfl, sa, _, _, _, rfl, rfl, SqL.of (kS k3), nV_at hq, _, rfl, _, rfl, sa, _, _, _, rfl, rfl, SqL.of (kS k3), nV_at hrr, _, _, rfl, rfl, d, sc, sq + sr, 2, by rw [← ejs]; rfl, by decide, by omega, dr3, fun t x H4 ti td ts ta k4 dr4 => ⟨_, rfl, _, rfl, e4, fun u hu => ?_⟩⟩
      have k34 := k3.trans k4
      refine ⟨_, rfl, _, rfl, sa, _, _, _, rfl, rfl, SqL.of (kS (k34.newer hu)), nV_at hq, _, rfl, _, rfl, sa, _, _, _, rfl, rfl, SqL.of (kS (k34.newer hu)), nV_at hrr, _, _, rfl, rfl, e2, fun r hr => ?_⟩
      obtain ⟨x1, x2⟩ := dr4.ne_new hu
      have drU := dr4.put (o := .tup [.str "join", .ref x, .int (qn : Int), .int (rn : Int)]) x1 x2
      obtain ⟨y1, y2⟩ := drU.ne_new hr
      exact q (.join t qn rn) (sq + sr) u r _ ⟨sq, sr, hq, hrr, ⟨ti, td, ts⟩, rfl, by omega⟩ ⟨x, (Kp.new (M := []) hr).t _ _ upd_same, ExAt.kp ((Kp.new (M := []) hu).trans (Kp.new hr)) t x ta⟩ (by rw [upd_same, ← ejs]) ((k34.newer hu).newer hr) (drU.put y1 y2)
    case j0 | j1 =>
      refine ⟨_, rfl, rfl, _, rfl, ite2 (fun c8 => ?_) (fun c8 => ?_)⟩
      · refine ⟨_, rfl, _, rfl, _, rfl, sa, _, _, _, rfl, rfl, SqL.of (kS k3), nV_at hq, _, rfl, _, rfl, sa, _, _, _, rfl, rfl, SqL.of (kS k3), nV_at hrr, _, _, rfl, rfl, d, sc, sq + sr, 2, by rw [← ejs]; rfl, by decide, by omega, dr3, fun t x H4 ti td ts ta k4 dr4 => ⟨_, rfl, _, rfl, e4, fun u hu => ?_⟩⟩
        have k34 := k3.trans k4
        refine ⟨_, rfl, _, rfl, sa, _, _, _, rfl, rfl, SqL.of (kS (k34.newer hu)), nV_at hq, e2, fun r hr => ?_⟩
        obtain ⟨x1, x2⟩ := dr4.ne_new hu
        have drU := dr4.put (o := .tup [.str "anti", .ref x, .int (qn : Int), .int (rn : Int)]) x1 x2
        obtain ⟨y1, y2⟩ := drU.ne_new hr
        exact q (.anti t qn rn) sq u r _ ⟨sr, hq, hrr, ti, td, ts⟩ ⟨x, (Kp.new (M := []) hr).t _ _ upd_same, ExAt.kp ((Kp.new (M := []) hu).trans (Kp.new hr)) t x ta⟩ upd_same ((k34.newer hu).newer hr) (drU.put y1 y2)
      refine ⟨_, rfl, _, rfl, by omega, by omega, ?_⟩
      rw [Int.toNat_natCast]
      refine fun L hL => lc_range (lo := 0) (n := sz.length) (fun j G => Drw d sc G ∧ Kp [d] H3 G ∧ ∃ lk : List Nat, G L = some (.lst (lk.map nV)) ∧ lk.length ≤ j ∧ (∀ k ∈ lk, sz[k]? = some sq) ∧ (qn < j → lk ≠ []))
        ⟨dr3.put (dr3.ne_new hL).1 (dr3.ne_new hL).2, .new hL, [], upd_same, Nat.zero_le _, fun e h => (by cases h), fun h => absurd h (Nat.not_lt_zero _)⟩ (fun j G hj p => ?_) (fun G p => ?_)
      · obtain ⟨drG, kG, lk, hLG, ll, lo, ln⟩ := p
        have hsj : sz[j]? = some (sz[j]'hj) := List.getElem?_eq_getElem hj
        have nLd := drG.noN hLG
        refine ⟨rfl, _, rfl, _, rfl, sa, _, _, _, rfl, rfl, SqL.of (kS (k3.trans kG)), at_of (j := j) (by omega) (by rw [List.getElem?_map, hsj]; rfl), _, rfl, _, rfl, sa, _, _, _, rfl, rfl, SqL.of (kS (k3.trans kG)), nV_at hq, rfl, _, rfl, ite2 (fun c9 => ?_) (fun c9 => ?_)⟩
        · have es : sz[j] = sq := by
            have := V.int.inj (of_decide_eq_true c9)
            omega
          refine ⟨_, rfl, _, hLG, small1000 (by rw [List.length_map]; omega), drG.put nLd.symm (dr3.ne_new hL).2, kG.mt hL, lk ++ [j], by rw [upd_same, List.map_append, Int.zero_add]; rfl, by rw [List.length_append]; exact Nat.succ_le_succ ll, fun k hk => ?_, fun _ z => by simp at z⟩
          rcases List.mem_append.mp hk with h | h
          · exact lo k h
          · rw [List.mem_singleton.mp h, hsj, es]
        · refine ⟨drG, kG, lk, hLG, by omega, lo, fun h => ?_⟩
          by_cases e : qn = j
          · exfalso
            subst e
            rw [hsj] at hq
            have := Option.some.inj hq
            exact c9 (decide_eq_true (by rw [this]; rfl))
          · exact ln (by omega)
      obtain ⟨dr4, k4, lk, hL4, ll, lo, ln⟩ := p
      have lk0 : 0 < lk.length := List.length_pos_iff.mpr (ln lq)
      have k34 := k3.trans k4
      have nLd := dr4.noN hL4
      refine ⟨e2, fun l hl => ?_⟩
      obtain ⟨x1, x2⟩ := dr4.ne_new hl
      have drL := dr4.put (o := .lst [.str "union", .str "minus"]) x1 x2
      have kl : Kp [d] G (upd G l (.lst [.str "union", .str "minus"])) := .new hl
      refine ⟨_, rfl, d, sc, 2, rfl, by decide, by decide, drL, fun z o3 z0 z2 no3 dr5 => ?_⟩
      have k5 : Kp [d] G (upd (upd G l (.lst [.str "union", .str "minus"])) d o3) := kl.trans drL.step
      have hl5 : (upd (upd G l (.lst [.str "union", .str "minus"])) d o3) l = some (.lst [.str "union", .str "minus"]) := by rw [upd_ne x1.symm, upd_same]
      obtain ⟨H5, hH5⟩ : ∃ H5, upd (upd G l (.lst [.str "union", .str "minus"])) d o3 = H5 := ⟨_, rfl⟩
      rw [hH5] at dr5 k5 hl5 ⊢
      have hL5 := k5.k _ _ hL4 (by simpa using nLd)
      have ell : (((lk.map nV).length : Nat) : Int) = (lk.length : Int) := by rw [List.length_map]
      obtain ⟨bb, hbb⟩ : ∃ bb : Bool, atI ([.str "union", .str "minus"] : List V) z = some (.str (if bb then "union" else "minus")) := by
        have : z = 0 ∨ z = 1 := by omega
        rcases this with rfl | rfl
        · exact ⟨true, rfl⟩
        · exact ⟨false, rfl⟩
      refine ⟨l, _, _, _, rfl, rfl, SqL.of hl5, hbb, ?_⟩
      refine ⟨_, rfl, _, rfl, _, rfl, _, rfl, _, rfl, L, _, rfl, .inl (SqL.of hL5), d, sc, (lk.length : Int), by rw [ell]; rfl, by omega, by omega, dr5, fun y o4 y0 y1 no4 dr6 => ?_⟩
      obtain ⟨yn, rfl⟩ : ∃ yn : Nat, y = yn := ⟨y.toNat, by omega⟩
      have k56 : Kp [d] H5 (upd H5 d o4) := dr5.step
      have k6 := (k34.trans k5).trans k56
      have hy : lk[yn]? = some (lk[yn]'(by omega)) := List.getElem?_eq_getElem (by omega)
      have hyr := lo _ (List.mem_of_getElem? hy)
      refine ⟨L, _, _, _, rfl, rfl, SqL.of (k56.k _ _ hL5 (by simpa using nLd)), nV_at hy, e3, fun u hu => ?_⟩
      refine ⟨_, rfl, _, rfl, sa, _, _, _, rfl, rfl, SqL.of (kS (k6.newer hu)), nV_at hq, e2, fun r hr => ?_⟩
      obtain ⟨x1, x2⟩ := dr6.ne_new hu
      have drU := dr6.put (o := .tup [.str (if bb then "union" else "minus"), .int (qn : Int), .int ((lk[yn]'(by omega) : Nat) : Int)]) x1 x2
      obtain ⟨y1, y2⟩ := drU.ne_new hr
      have hu' := (Kp.new (M := []) (o := .tup [.ref u, .int (sq : Int)]) hr).t _ _ (upd_same (H := upd H5 d o4) (a := u) (o := .tup [.str (if bb then "union" else "minus"), .int (qn : Int), .int ((lk[yn]'(by omega) : Nat) : Int)]))
      cases bb with
      | true => exact q (.uni qn _) sq u r _ ⟨hq, hyr⟩ hu' upd_same ((k6.newer hu).newer hr) (drU.put y1 y2)
      | false => exact q (.minus qn _) sq u r _ ⟨hq, hyr⟩ hu' upd_same ((k6.newer hu).newer hr) (drU.put y1 y2)
end

/-! ### how many rows an operation may have -/
def totF (m : Nat) (f : Nat) (t : Tot) : Nat := f * (match t with | .of .sum _ => 2 ^ (min m 20) | _ => 1 + m)
def roomO (rs : List Nat) : Opn → Nat
  | .tab _ => 6
  | .stp _ => 130
  | .uni q r => rs.getD q 0 + rs.getD r 0
  | .minus q _ => rs.getD q 0
  | .join _ q r => rs.getD q 0 * rs.getD r 0
  | .fil _ q => rs.getD q 0
  | .map _ q => rs.getD q 0
  | .anti _ q _ => rs.getD q 0
  | .grp _ ts q => ts.foldl (totF (rs.getD q 0)) (if ts = [] then 1 + 2 * rs.getD q 0 else 2)
/-- all operands are among the first n -/
def Opn.idx (n : Nat) : Opn → Prop
  | .tab _ => True
  | .stp _ => True
  | .uni q r => q < n ∧ r < n
  | .minus q r => q < n ∧ r < n
  | .join _ q r => q < n ∧ r < n
  | .fil _ q => q < n
  | .map _ q => q < n
  | .anti _ q r => q < n ∧ r < n
  | .grp _ _ q => q < n
theorem OpOk.idx {wd sp sz : List Nat} {s : Nat} : ∀ {o : Opn}, OpOk wd sp sz o s → o.idx sz.length
  | .tab _, _ => trivial
  | .stp _, _ => trivial
  | .uni _ _, h => ⟨(List.getElem?_eq_some_iff.mp h.1).1, (List.getElem?_eq_some_iff.mp h.2).1⟩
  | .minus _ _, h => ⟨(List.getElem?_eq_some_iff.mp h.1).1, (List.getElem?_eq_some_iff.mp h.2).1⟩
  | .join _ _ _, ⟨_, _, h1, h2, _⟩ => ⟨(List.getElem?_eq_some_iff.mp h1).1, (List.getElem?_eq_some_iff.mp h2).1⟩
  | .fil _ _, h => (List.getElem?_eq_some_iff.mp h.1).1
  | .map _ _, ⟨_, h, _⟩ => (List.getElem?_eq_some_iff.mp h).1
  | .anti _ _ _, ⟨_, h1, h2, _⟩ => ⟨(List.getElem?_eq_some_iff.mp h1).1, (List.getElem?_eq_some_iff.mp h2).1⟩
  | .grp _ _ _, ⟨_, h, _⟩ => (List.getElem?_eq_some_iff.mp h).1
def spRoom : Sp := fun vs H Q _ => ∃ (oa ra : Addr) (o : Opn) (rs : List Nat) (N : Addr → Prop), vs = [.ref oa, .ref ra] ∧ OpAt N H o oa ∧ H ra = some (.lst (rs.map nV)) ∧ o.idx rs.length ∧ (∀ r ∈ rs, r ≤ 300) ∧
  ∀ (v : Int) (G : Hp), v = (roomO rs o : Nat) → Kp [] H G → Q (.int v) G
theorem getD_at {L : List Nat} {i : Nat} (h : i < L.length) : L[i]? = some (L.getD i 0) := by
  rw [List.getElem?_eq_getElem h]
  simp [h]
section
variable {P : Program} {w : World} {K : PySem.W.Frag} {mg : Str → Option Value} {base : Heap}
theorem ok_room (D : GD K mg "_law_room" sD_Lroom ["operation", "rooms"]) (T : TPgen mg) : Cal P w K mg base 1 "_law_room" spRoom [] := by
  refine D.cal sc_Lroom (fun vs H Q E h => ?_) (fun f cdv A outer s0 H vs Q E hr h => ?_)
  · obtain ⟨oa, ra, o, rs, N, rfl, _⟩ := h
    rfl
  obtain ⟨oa, ra, o, rs, N, rfl, ho, hra, hi, hb, q⟩ := h
  refine ⟨_, (pss_cons (ps_set (i := 2) sc_Lroom.nd rfl (Or.inl rfl) (pe_ix ix_tup (pv 0) pe_int (fun _ _ => rfl)))
    (pss_cons (ps_if (pt_cmpR op_in_seq (pv 2) (pe_tup (pa_cons pe_str (pa_cons pe_str pa_nil))) (by rfl)) (pss_one (ps_ret (pe_ifExp (pt_cmpR op_eq (pv 2) pe_str (nomark _)) pe_int pe_int))) pss_nil)
    (pss_cons (ps_if (pt_cmpR op_eq (pv 2) pe_str (nomark _)) (pss_one (ps_ret (pe_op op_add (pe_ix ix_list (pv 1) (pe_ix ix_tup (pv 0) pe_int (fun _ _ => rfl)) (fun _ _ => rfl)) (pe_ix ix_list (pv 1) (pe_ix ix_tup (pv 0) pe_int (fun _ _ => rfl)) (fun _ _ => rfl))))) pss_nil)
    (pss_cons (ps_if (pt_cmpR op_eq (pv 2) pe_str (nomark _)) (pss_one (ps_ret (pe_ix ix_list (pv 1) (pe_ix ix_tup (pv 0) pe_int (fun _ _ => rfl)) (fun _ _ => rfl)))) pss_nil)
    (pss_cons (ps_if (pt_cmpR op_eq (pv 2) pe_str (nomark _)) (pss_one (ps_ret (pe_op op_mul (pe_ix ix_list (pv 1) (pe_ix ix_tup (pv 0) pe_int (fun _ _ => rfl)) (fun _ _ => rfl)) (pe_ix ix_list (pv 1) (pe_ix ix_tup (pv 0) pe_int (fun _ _ => rfl)) (fun _ _ => rfl))))) pss_nil)
    (pss_cons (ps_if (pt_cmpR op_ne (pv 2) pe_str (nomark _)) (pss_one (ps_ret (pe_ix ix_list (pv 1) (pe_ix ix_tup (pv 0) pe_int (fun _ _ => rfl)) (fun _ _ => rfl)))) pss_nil)
    (pss_cons (ps_set (i := 3) sc_Lroom.nd rfl (Or.inl rfl) (pe_ix ix_list (pv 1) (pe_ix ix_tup (pv 0) pe_int (fun _ _ => rfl)) (fun _ _ => rfl)))
    (pss_cut (ps_set (i := 4) sc_Lroom.nd rfl (Or.inl rfl) (pe_ifExp (pt_not (pt_truth (pe_ix ix_tup (pv 0) pe_int (fun _ _ => rfl)) (by intro _; rfl))) (pe_op op_add pe_int (pe_op op_mul pe_int (pv 3))) pe_int))
    (pss_cons (ps_for PassesOwn.never rfl (pi_list (pe_ix ix_tup (pv 0) pe_int (fun _ _ => rfl))) (pg_name (i := 5) sc_Lroom.nd rfl (Or.inl rfl)) (pss_one (ps_set (i := 4) sc_Lroom.nd rfl (Or.inl rfl) (pe_op op_mul (pv 4) (pe_ifExp (pt_cmpR op_eq (pe_ix ix_tup (pv 5) pe_int (fun _ _ => rfl)) pe_str (nomark _)) (pe_op op_shl pe_int (pe_callB (call_min2 rfl) (by rfl) T.n_min (by decide +kernel) (pa_cons (pv 3) (pa_cons pe_int pa_nil)))) (pe_op op_add pe_int (pv 3)))))))
    (pss_one (ps_ret (pv 4)))))))))))), ?_⟩
  have e2 : (2 : Nat) ≤ sizeLine := by decide
  have bd : ∀ i, rs.getD i 0 ≤ 300 := fun i => by
    by_cases h : i < rs.length
    · exact hb _ (List.mem_of_getElem? (getD_at h))
    · have : rs[i]? = none := List.getElem?_eq_none (by omega)
      rw [List.getD_eq_getElem?_getD, this]
      exact Nat.zero_le _
  cases o with
  | tab i =>
    have ho : H oa = some (.tup [.str "table", .int (i : Int)]) := ho
    refine ⟨_, rfl, oa, _, _, _, rfl, rfl, SqT.of ho, rfl, _, rfl, e2, fun tp htp => ⟨tp, _, rfl, .inr (SqT.of upd_same), rfl, rfl, _, rfl, iteT_of (by decide +kernel) ?_⟩⟩
    exact ⟨_, rfl, rfl, _, rfl, iteT_of (dSs _) (q 6 _ rfl (.new htp))⟩
  | stp i =>
    have ho : H oa = some (.tup [.str "step", .int (i : Int)]) := ho
    refine ⟨_, rfl, oa, _, _, _, rfl, rfl, SqT.of ho, rfl, _, rfl, e2, fun tp htp => ⟨tp, _, rfl, .inr (SqT.of upd_same), rfl, rfl, _, rfl, iteT_of (by decide +kernel) ?_⟩⟩
    exact ⟨_, rfl, rfl, _, rfl, iteF_of (dS (by decide +kernel)) (q 130 _ rfl (.new htp))⟩
  | uni a b =>
    have ho : H oa = some (.tup [.str "union", .int (a : Int), .int (b : Int)]) := ho
    refine ⟨_, rfl, oa, _, _, _, rfl, rfl, SqT.of ho, rfl, _, rfl, e2, fun tp htp => ⟨tp, _, rfl, .inr (SqT.of upd_same), rfl, rfl, _, rfl, iteF_of (by decide +kernel) ?_⟩⟩
    have k := Kp.new (M := []) (o := .tup [.str "table", .str "step"]) htp
    refine ⟨_, rfl, rfl, _, rfl, iteT_of (dSs _) ?_⟩
    refine ⟨_, rfl, _, rfl, oa, _, _, _, rfl, rfl, SqT.of (k.t _ _ ho), rfl, ra, _, _, _, rfl, rfl, SqL.of (k.k _ _ hra (by simp)), nV_at (getD_at hi.1), _, rfl, _, rfl, oa, _, _, _, rfl, rfl, SqT.of (k.t _ _ ho), rfl, ra, _, _, _, rfl, rfl, SqL.of (k.k _ _ hra (by simp)), nV_at (getD_at hi.2), _, _, rfl, rfl, q _ _ ?_ k⟩
    exact (Int.natCast_add _ _).symm
  | minus a b =>
    have ho : H oa = some (.tup [.str "minus", .int (a : Int), .int (b : Int)]) := ho
    refine ⟨_, rfl, oa, _, _, _, rfl, rfl, SqT.of ho, rfl, _, rfl, e2, fun tp htp => ⟨tp, _, rfl, .inr (SqT.of upd_same), rfl, rfl, _, rfl, iteF_of (by decide +kernel) ?_⟩⟩
    have k := Kp.new (M := []) (o := .tup [.str "table", .str "step"]) htp
    refine ⟨_, rfl, rfl, _, rfl, iteF_of (dS (by decide +kernel)) ?_⟩
    refine ⟨_, rfl, rfl, _, rfl, iteT_of (dSs _) ?_⟩
    exact ⟨_, rfl, _, rfl, oa, _, _, _, rfl, rfl, SqT.of (k.t _ _ ho), rfl, ra, _, _, _, rfl, rfl, SqL.of (k.k _ _ hra (by simp)), nV_at (getD_at hi.1), q _ _ rfl k⟩
  | join e a b =>
    obtain ⟨x, ho, _⟩ := ho
    refine ⟨_, rfl, oa, _, _, _, rfl, rfl, SqT.of ho, rfl, _, rfl, e2, fun tp htp => ⟨tp, _, rfl, .inr (SqT.of upd_same), rfl, rfl, _, rfl, iteF_of (by decide +kernel) ?_⟩⟩
    have k := Kp.new (M := []) (o := .tup [.str "table", .str "step"]) htp
    refine ⟨_, rfl, rfl, _, rfl, iteF_of (dS (by decide +kernel)) ?_⟩
    refine ⟨_, rfl, rfl, _, rfl, iteF_of (dS (by decide +kernel)) ?_⟩
    refine ⟨_, rfl, rfl, _, rfl, iteT_of (dSs _) ?_⟩
    have h1 := bd a
    refine ⟨_, rfl, _, rfl, oa, _, _, _, rfl, rfl, SqT.of (k.t _ _ ho), rfl, ra, _, _, _, rfl, rfl, SqL.of (k.k _ _ hra (by simp)), nV_at (getD_at hi.1), _, rfl, _, rfl, oa, _, _, _, rfl, rfl, SqT.of (k.t _ _ ho), rfl, ra, _, _, _, rfl, rfl, SqL.of (k.k _ _ hra (by simp)), nV_at (getD_at hi.2), _, _, rfl, rfl, .inl ⟨by omega, by omega⟩, q _ _ ?_ k⟩
    exact (Int.natCast_mul _ _).symm
  | fil e a =>
    obtain ⟨x, ho, _⟩ := ho
    refine ⟨_, rfl, oa, _, _, _, rfl, rfl, SqT.of ho, rfl, _, rfl, e2, fun tp htp => ⟨tp, _, rfl, .inr (SqT.of upd_same), rfl, rfl, _, rfl, iteF_of (by decide +kernel) ?_⟩⟩
    have k := Kp.new (M := []) (o := .tup [.str "table", .str "step"]) htp
    refine ⟨_, rfl, rfl, _, rfl, iteF_of (dS (by decide +kernel)) ?_⟩
    refine ⟨_, rfl, rfl, _, rfl, iteF_of (dS (by decide +kernel)) ?_⟩
    refine ⟨_, rfl, rfl, _, rfl, iteF_of (dS (by decide +kernel)) ?_⟩
    refine ⟨_, rfl, rfl, _, rfl, iteT_of (by decide +kernel) ?_⟩
    exact ⟨_, rfl, _, rfl, oa, _, _, _, rfl, rfl, SqT.of (k.t _ _ ho), rfl, ra, _, _, _, rfl, rfl, SqL.of (k.k _ _ hra (by simp)), nV_at (getD_at hi), q _ _ rfl k⟩
  | map es a =>
    obtain ⟨x, ho, _⟩ := ho
    refine ⟨_, rfl, oa, _, _, _, rfl, rfl, SqT.of ho, rfl, _, rfl, e2, fun tp htp => ⟨tp, _, rfl, .inr (SqT.of upd_same), rfl, rfl, _, rfl, iteF_of (by decide +kernel) ?_⟩⟩
    have k := Kp.new (M := []) (o := .tup [.str "table", .str "step"]) htp
    refine ⟨_, rfl, rfl, _, rfl, iteF_of (dS (by decide +kernel)) ?_⟩
    refine ⟨_, rfl, rfl, _, rfl, iteF_of (dS (by decide +kernel)) ?_⟩
    refine ⟨_, rfl, rfl, _, rfl, iteF_of (dS (by decide +kernel)) ?_⟩
    refine ⟨_, rfl, rfl, _, rfl, iteT_of (by decide +kernel) ?_⟩
    exact ⟨_, rfl, _, rfl, oa, _, _, _, rfl, rfl, SqT.of (k.t _ _ ho), rfl, ra, _, _, _, rfl, rfl, SqL.of (k.k _ _ hra (by simp)), nV_at (getD_at hi), q _ _ rfl k⟩
  | anti e a b =>
    obtain ⟨x, ho, _⟩ := ho
    refine ⟨_, rfl, oa, _, _, _, rfl, rfl, SqT.of ho, rfl, _, rfl, e2, fun tp htp => ⟨tp, _, rfl, .inr (SqT.of upd_same), rfl, rfl, _, rfl, iteF_of (by decide +kernel) ?_⟩⟩
    have k := Kp.new (M := []) (o := .tup [.str "table", .str "step"]) htp
    refine ⟨_, rfl, rfl, _, rfl, iteF_of (dS (by decide +kernel)) ?_⟩
    refine ⟨_, rfl, rfl, _, rfl, iteF_of (dS (by decide +kernel)) ?_⟩
    refine ⟨_, rfl, rfl, _, rfl, iteF_of (dS (by decide +kernel)) ?_⟩
    refine ⟨_, rfl, rfl, _, rfl, iteT_of (by decide +kernel) ?_⟩
    exact ⟨_, rfl, _, rfl, oa, _, _, _, rfl, rfl, SqT.of (k.t _ _ ho), rfl, ra, _, _, _, rfl, rfl, SqL.of (k.k _ _ hra (by simp)), nV_at (getD_at hi.1), q _ _ rfl k⟩
  | grp ks ts a =>
    obtain ⟨l, m, ho, _, as, hm, _, pr⟩ := ho
    refine ⟨_, rfl, oa, _, _, _, rfl, rfl, SqT.of ho, rfl, _, rfl, e2, fun tp htp => ⟨tp, _, rfl, .inr (SqT.of upd_same), rfl, rfl, _, rfl, iteF_of (by decide +kernel) ?_⟩⟩
    have k := Kp.new (M := []) (o := .tup [.str "table", .str "step"]) htp
    refine ⟨_, rfl, rfl, _, rfl, iteF_of (dS (by decide +kernel)) ?_⟩
    refine ⟨_, rfl, rfl, _, rfl, iteF_of (dS (by decide +kernel)) ?_⟩
    refine ⟨_, rfl, rfl, _, rfl, iteF_of (dS (by decide +kernel)) ?_⟩
    refine ⟨_, rfl, rfl, _, rfl, iteF_of (by decide +kernel) ?_⟩
    obtain ⟨G, hG⟩ : ∃ G, upd H tp (.tup [.str "table", .str "step"]) = G := ⟨_, rfl⟩
    rw [hG] at k ⊢
    have hoG := k.t _ _ ho
    have hmG := k.k _ _ hm (by simp)
    obtain ⟨mm, hmm⟩ : ∃ mm, rs.getD a 0 = mm := ⟨_, rfl⟩
    have bm : mm ≤ 300 := hmm ▸ bd a
    have ha : rs[a]? = some mm := hmm ▸ getD_at hi
    refine ⟨_, rfl, _, rfl, oa, _, _, _, rfl, rfl, SqT.of hoG, rfl, ra, _, _, _, rfl, rfl, SqL.of (k.k _ _ hra (by simp)), nV_at ha, ?_⟩
    refine ⟨fun σ' H' => σ' = [some (.ref oa), some (.ref ra), some (.str "group"), some (.int (mm : Int)), some (.int ((if ts = [] then 1 + 2 * mm else 2 : Nat) : Int)), none] ∧ H' = G, ?_, ?_⟩
    · refine ⟨_, rfl, oa, _, _, _, rfl, rfl, SqT.of hoG, rfl, _, .inl ⟨_, SqL.of hmG, rfl⟩, ?_⟩
      cases ts with
      | nil =>
        have pl := pr.len
        cases as with
        | cons a l => cases pl
        | nil =>
          refine iteT ⟨_, rfl, _, _, rfl, rfl, .inl ⟨by decide, by decide⟩, _, _, rfl, rfl, ?_, rfl⟩
          show _ = [_, _, _, _, some (V.int (((1 + 2 * mm : Nat)) : Int)), _]
          rw [Int.natCast_add, Int.natCast_mul]
          rfl
      | cons t ts =>
        have pl := pr.len
        cases as with
        | nil => cases pl
        | cons a l => exact iteF ⟨rfl, rfl⟩
    rintro σ' H' ⟨rfl, rfl⟩
    obtain ⟨f0, hf0⟩ : ∃ f0 : Nat, (if ts = [] then 1 + 2 * mm else 2) = f0 := ⟨_, rfl⟩
    rw [hf0]
    have er : roomO rs (.grp ks ts a) = ts.foldl (totF mm) f0 := by
      show ts.foldl (totF (rs.getD a 0)) (if ts = [] then 1 + 2 * rs.getD a 0 else 2) = _
      rw [hmm, hf0]
    rw [er] at q
    refine ⟨_, rfl, oa, _, _, _, rfl, rfl, SqT.of hoG, rfl, m, rfl, ⟨_, SqL.of hmG⟩, for_list (K := K) (a := m) (xs := as.map V.ref) (fun i σ G' => ∃ v5 : Option V, σ = [some (.ref oa), some (.ref ra), some (.str "group"), some (.int (mm : Int)), some (.int (((ts.take i).foldl (totF mm) f0 : Nat) : Int)), v5] ∧ G' = H')
      ⟨none, rfl, rfl⟩ (fun i σ G' _ p => by obtain ⟨_, _, rfl⟩ := p; exact SqL.of hmG) (fun i x σ G' hx p => ?_) (fun σ G' p => ?_)⟩
    · obtain ⟨v5, rfl, rfl⟩ := p
      obtain ⟨b, hb', rfl⟩ := mapAt hx
      obtain ⟨t, ht, rt⟩ := pr.of hb'
      rw [takeS ht, List.foldl_append]
      obtain ⟨F, hF⟩ : ∃ F, (ts.take i).foldl (totF mm) f0 = F := ⟨_, rfl⟩
      rw [hF]
      have kt : ∀ {t : Tot}, TotAt H t b → TotAt G' t b := fun h => TotAt.kp k _ _ h
      have rt := kt rt
      refine ⟨_, rfl, _, rfl, ?_⟩
      cases t with
      | count =>
        have rt : G' b = some (.tup [.str "count"]) := rt
        refine ⟨b, _, _, _, rfl, rfl, SqT.of rt, rfl, rfl, _, rfl, iteF_of (dS (by decide +kernel)) ⟨_, rfl, _, _, rfl, rfl, _, _, rfl, rfl, .inr ⟨by omega, by omega⟩, some (.ref b), ?_, rfl⟩⟩
        show _ = [_, _, _, _, some (V.int ((F * (1 + mm) : Nat) : Int)), _]
        rw [Int.natCast_mul, Int.natCast_add]
        rfl
      | of tw e =>
        obtain ⟨x, rt, _⟩ := rt
        refine ⟨b, _, _, _, rfl, rfl, SqT.of rt, rfl, rfl, _, rfl, ?_⟩
        by_cases hs : tw = .sum
        · subst hs
          obtain ⟨z, hz⟩ : ∃ z : Nat, (if (20 : Int) < (mm : Int) then (20 : Int) else (mm : Int)) = (z : Int) ∧ z = min mm 20 := by
            refine ⟨min mm 20, ?_, rfl⟩
            split <;> omega
          refine iteT_of (dSs _) ⟨_, rfl, _, _, rfl, ?_⟩
          have zb : z ≤ 20 := by omega
          have p20 : 2 ^ z ≤ 2 ^ 20 := Nat.pow_le_pow_right (by decide) zb
          have c20 : (2 : Nat) ^ 20 = 1048576 := by decide
          have pz : ((1 : Int) * 2 ^ ((z : Int)).toNat) = ((2 ^ z : Nat) : Int) := by rw [Int.toNat_natCast, Int.one_mul]; exact (Int.natCast_pow 2 z).symm
          refine ⟨1, (z : Int), rfl, by rw [← hz.1], ⟨by omega, by omega, by decide⟩, _, _, rfl, rfl, .inr ?_, some (.ref b), ?_, rfl⟩
          · show -(2 ^ 64) < (1 : Int) * 2 ^ ((z : Int)).toNat ∧ (1 : Int) * 2 ^ ((z : Int)).toNat < 2 ^ 64
            rw [pz]
            rw [c20] at p20
            generalize 2 ^ z = Z at p20
            exact ⟨by omega, by omega⟩
          · show [_, _, _, _, some (V.int ((F : Int) * ((1 : Int) * 2 ^ ((z : Int)).toNat))), _] = [_, _, _, _, some (V.int ((F * 2 ^ (min mm 20) : Nat) : Int)), _]
            rw [pz, ← hz.2, Int.natCast_mul]
        · have ne : decide (V.str tw.str = V.str "sum") = false := by
            cases tw with
            | sum => exact absurd rfl hs
            | distinct => exact dS (by decide +kernel)
            | least => exact dS (by decide +kernel)
            | greatest => exact dS (by decide +kernel)
          refine iteF_of ne ⟨_, rfl, _, _, rfl, rfl, _, _, rfl, rfl, .inr ⟨by omega, by omega⟩, some (.ref b), ?_, rfl⟩
          have et : totF mm F (.of tw e) = F * (1 + mm) := by
            cases tw with
            | sum => exact absurd rfl hs
            | distinct => rfl
            | least => rfl
            | greatest => rfl
          show _ = [_, _, _, _, some (V.int ((totF mm F (.of tw e) : Nat) : Int)), _]
          rw [et, Int.natCast_mul, Int.natCast_add]
          rfl
    · obtain ⟨v5, rfl, rfl⟩ := p
      refine ⟨_, rfl, q _ _ ?_ k⟩
      rw [List.length_map, pr.len, List.take_length]
end

/-! ### plans as they are drawn -/
structure PlanOk (wd sp : List Nat) (L : List Opn) (sz rs : List Nat) : Prop where
  lz : sz.length = L.length
  lr : rs.length = L.length
  ops : ∀ (i : Nat) (o : Opn), L[i]? = some o → ∃ s r, sz[i]? = some s ∧ rs[i]? = some r ∧ OpOk wd sp (sz.take i) o s ∧ r = roomO (rs.take i) o
  s4 : ∀ s ∈ sz, s ≤ 4
  r3 : ∀ r ∈ rs, r ≤ 300
theorem OpOk.le4 {wd sp sz : List Nat} {s : Nat} (hw : ∀ s ∈ wd, s ≤ 4) (hp : ∀ s ∈ sp, s ≤ 4) (hz : ∀ s ∈ sz, s ≤ 4) : ∀ {o : Opn}, OpOk wd sp sz o s → s ≤ 4
  | .tab _, h => hw _ (List.mem_of_getElem? h)
  | .stp _, h => hp _ (List.mem_of_getElem? h)
  | .uni _ _, h => hz _ (List.mem_of_getElem? h.1)
  | .minus _ _, h => hz _ (List.mem_of_getElem? h.1)
  | .join _ _ _, ⟨_, _, _, _, _, _, h⟩ => h
  | .fil _ _, h => hz _ (List.mem_of_getElem? h.1)
  | .map _ _, ⟨_, _, _, _, _, h⟩ => by omega
  | .anti _ _ _, ⟨_, h, _⟩ => hz _ (List.mem_of_getElem? h)
  | .grp _ _ _, ⟨_, _, _, _, _, _, _, _, h⟩ => by omega
theorem PlanOk.nil (wd sp : List Nat) : PlanOk wd sp [] [] [] := ⟨rfl, rfl, fun i o h => by simp at h, fun s h => (by cases h), fun s h => (by cases h)⟩
theorem PlanOk.snoc {wd sp : List Nat} {L : List Opn} {sz rs : List Nat} {o : Opn} {s : Nat} (p : PlanOk wd sp L sz rs) (h : OpOk wd sp sz o s) (h4 : s ≤ 4) (hr : roomO rs o ≤ 300) : PlanOk wd sp (L ++ [o]) (sz ++ [s]) (rs ++ [roomO rs o]) := by
  have e1 := p.lz
  have e2 := p.lr
  refine ⟨by rw [List.length_append, List.length_append, e1]; rfl, by rw [List.length_append, List.length_append, e2]; rfl, fun i o' hi => ?_, fun x hx => ?_, fun x hx => ?_⟩
  · by_cases hl : i < L.length
    · rw [List.getElem?_append_left hl] at hi
      obtain ⟨s', r', a1, a2, a3, a4⟩ := p.ops i o' hi
      exact ⟨s', r', by rw [List.getElem?_append_left (by omega)]; exact a1, by rw [List.getElem?_append_left (by omega)]; exact a2, by rw [List.take_append_of_le_length (by omega)]; exact a3, by rw [List.take_append_of_le_length (by omega)]; exact a4⟩
    · have hl' := (List.getElem?_eq_some_iff.mp hi).1
      rw [List.length_append, List.length_singleton] at hl'
      have ei : i = L.length := by omega
      subst ei
      rw [List.getElem?_append_right (Nat.le_refl _), Nat.sub_self] at hi
      cases hi
      refine ⟨s, roomO rs o, by rw [List.getElem?_append_right (by omega), e1, Nat.sub_self]; rfl, by rw [List.getElem?_append_right (by omega), e2, Nat.sub_self]; rfl, ?_, ?_⟩
      · rw [← e1, List.take_left]; exact h
      · rw [← e2, List.take_left]
  · rcases List.mem_append.mp hx with h | h
    · exact p.s4 x h
    · rw [List.mem_singleton.mp h]; exact h4
  · rcases List.mem_append.mp hx with h | h
    · exact p.r3 x h
    · rw [List.mem_singleton.mp h]; exact hr
def PlanAt (N : Addr → Prop) (H : Hp) (L : List Opn) (p : Addr) : Prop := LstOf (fun o a => OpAt N H o a) N H L p
theorem PlanAt.kp {N : Addr → Prop} {M : List Addr} {H H' : Hp} {L : List Opn} {p : Addr} (h : PlanAt N H L p) (k : Kp M H H') (hN : ∀ l, N l → l ∉ M) : PlanAt N H' L p := LstOf.kp h k (fun _ _ => OpAt.kp k hN) hN
theorem PlanAt.mono {N N' : Addr → Prop} {H : Hp} {L : List Opn} {p : Addr} (h : PlanAt N H L p) (f : ∀ l, N l → N' l) : PlanAt N' H L p := by
  obtain ⟨as, h1, h2, h3⟩ := h
  exact ⟨as, h1, f _ h2, h3.imp fun o a => OpAt.mono f⟩
def spPlan : Sp := fun vs H Q _ => ∃ (d sc wa pa : Addr) (wd sp : List Nat) (most : Int), vs = [.ref d, .ref wa, .ref pa, .int most] ∧ Drw d sc H ∧ H wa = some (.lst (wd.map nV)) ∧ H pa = some (.lst (sp.map nV)) ∧
  wd ≠ [] ∧ wd.length ≤ 100 ∧ sp.length ≤ 100 ∧ (∀ s ∈ wd, s ≤ 4) ∧ (∀ s ∈ sp, s ≤ 4) ∧ 1 ≤ most ∧ most ≤ 20 ∧
  ∀ (L : List Opn) (sz rs : List Nat) (s : Nat) (p r : Addr) (H' : Hp), PlanOk wd sp L sz rs → 1 ≤ L.length → (L.length : Int) ≤ most → sz[L.length - 1]? = some s → (∀ r, rs[L.length - 1]? = some r → r ≤ 130) → PlanAt (fun l => H l = none) H' L p → H' r = some (.tup [.ref p, .int (s : Int)]) → Kp [d] H H' → Drw d sc H' → Q (.ref r) H'
section
variable {P : Program} {w : World} {K : PySem.W.Frag} {mg : Str → Option Value} {base : Heap}
theorem ok_plan (D : GD K mg "_law_plan" sD_Lplan ["draw", "widths", "steps", "most"]) (T : TPgen mg) (c_Lnext : Cal P w K mg base 1 "_law_next" spNext []) (c_Loperation : Cal P w K mg base 7 "_law_operation" spOperation []) (c_Lroom : Cal P w K mg base 1 "_law_room" spRoom []) :
    Cal P w K mg base 8 "_law_plan" spPlan [] := by
  refine D.cal sc_Lplan (fun vs H Q E h => ?_) (fun f cdv A outer s0 H vs Q E hr h => ?_)
  · obtain ⟨d, sc, wa, pa, wd, sp, most, rfl, _⟩ := h
    rfl
  obtain ⟨d, sc, wa, pa, wd, sp, most, rfl, dr, hw, hp, newd, lw, lp, bw, bp, m1, m20, q⟩ := h
  have nwd := dr.noN hw
  have npd := dr.noN hp
  have e0 : (0 : Nat) ≤ sizeLine := by decide
  have e2 : (2 : Nat) ≤ sizeLine := by decide
  obtain ⟨s1, hs1⟩ : ∃ s1, wd[0]? = some s1 := ⟨_, List.getElem?_eq_getElem (List.length_pos_iff.mpr newd)⟩
  refine ⟨_, (pss_cons (ps_set (i := 4) sc_Lplan.nd rfl (Or.inl rfl) (pe_lst pa_nil))
    (pss_cons (ps_set (i := 5) sc_Lplan.nd rfl (Or.inl rfl) (pe_lst pa_nil))
    (pss_cons (ps_set (i := 6) sc_Lplan.nd rfl (Or.inl rfl) (pe_lst pa_nil))
    (pss_cons (ps_set (i := 7) sc_Lplan.nd rfl (Or.inl rfl) (pe_op op_add pe_int (pe_c c_Lnext hr (by omega) rfl (pa_cons (pv 0) (pa_cons (pv 3) pa_nil)))))
    (pss_cons (ps_for PassesOwn.never rfl (pi_range1 (by rfl) T.n_range (pa_cons (pv 7) pa_nil)) (pg_name (i := 8) sc_Lplan.nd rfl (Or.inl rfl)) (pss_cons (ps_asg (pe_c c_Loperation hr (by omega) rfl (pa_cons (pv 0) (pa_cons (pv 5) (pa_cons (pv 1) (pa_cons (pv 2) pa_nil))))) (pg_tup rfl (pgs_cons (pg_name (i := 9) sc_Lplan.nd rfl (Or.inl rfl)) (pgs_cons (pg_name (i := 10) sc_Lplan.nd rfl (Or.inl rfl)) pgs_nil))))
    (pss_cut (ps_if (pt_cmpR op_gt (pe_c c_Lroom hr (by omega) rfl (pa_cons (pv 9) (pa_cons (pv 6) pa_nil))) (pe_ifExp (pt_cmpR op_lt (pv 8) (pe_op op_sub (pv 7) pe_int) (nomark _)) pe_int pe_int) (nomark _)) (pss_one (ps_par (i := 9) (j := 10) (by rfl) sc_Lplan.nd rfl rfl (by decide) rfl rfl (pa_cons (pe_tup (pa_cons pe_str (pa_cons pe_int pa_nil))) (pa_cons (pe_ix ix_list (pv 1) pe_int (fun _ _ => rfl)) pa_nil)) (by rfl))) pss_nil)
    (pss_cons (ps_expr (pe_bm PySem.F.plainAttrs_list PySem.F.slot_list_append PySem.F.type_list_append mt_append (pv 4) (pa_cons (pv 9) pa_nil)))
    (pss_cons (ps_expr (pe_bm PySem.F.plainAttrs_list PySem.F.slot_list_append PySem.F.type_list_append mt_append (pv 5) (pa_cons (pv 10) pa_nil)))
    (pss_one (ps_expr (pe_bm PySem.F.plainAttrs_list PySem.F.slot_list_append PySem.F.type_list_append mt_append (pv 6) (pa_cons (pe_c c_Lroom hr (by omega) rfl (pa_cons (pv 9) (pa_cons (pv 6) pa_nil))) pa_nil)))))))))
    (pss_one (ps_ret (pe_tup (pa_cons (pv 4) (pa_cons (pe_ix ix_list (pv 5) (pe_un un_neg pe_int) (fun _ _ => rfl)) pa_nil)))))))))), ?_⟩
  refine ⟨e0, fun p hpp => ⟨e0, fun sa hsa => ⟨e0, fun ra hra => ?_⟩⟩⟩
  have k1 : Kp [] H (upd H p (.lst [])) := .new hpp
  have k2 := k1.newer (o := .lst []) hsa
  have k3 := k2.newer (o := .lst []) hra
  have nsp : sa ≠ p := fun z => by rw [z, upd_same] at hsa; cases hsa
  have nrs : ra ≠ sa := fun z => by rw [z, upd_same] at hra; cases hra
  have nrp : ra ≠ p := fun z => by rw [upd_ne (z ▸ nrs), z, upd_same] at hra; cases hra
  have hsaH : H sa = none := k1.free hsa (by simp)
  have hraH : H ra = none := k2.free hra (by simp)
  have h3p : (upd (upd (upd H p (.lst [])) sa (.lst [])) ra (.lst [])) p = some (.lst []) := by rw [upd_ne nrp.symm, upd_ne nsp.symm, upd_same]
  have h3s : (upd (upd (upd H p (.lst [])) sa (.lst [])) ra (.lst [])) sa = some (.lst []) := by rw [upd_ne nrs.symm, upd_same]
  have h3r : (upd (upd (upd H p (.lst [])) sa (.lst [])) ra (.lst [])) ra = some (.lst []) := upd_same
  obtain ⟨H3, hH3⟩ : ∃ H3, upd (upd (upd H p (.lst [])) sa (.lst [])) ra (.lst []) = H3 := ⟨_, rfl⟩
  rw [hH3] at k3 h3p h3s h3r ⊢
  have dr3 : Drw d sc H3 := dr.kp k3 (by simp) (by simp)
  have ned : ∀ {x : Addr}, H x = none → x ≠ d ∧ x ≠ sc := fun {x} e => ⟨fun z => (dr.ne_new e).1 z.symm, fun z => (dr.ne_new e).2 z.symm⟩
  refine ⟨_, rfl, _, rfl, d, sc, most, rfl, by omega, by omega, dr3, fun z o z0 zm no dr4 => ⟨_, _, rfl, rfl, ?_⟩⟩
  obtain ⟨mn, hmn⟩ : ∃ mn : Nat, 1 + z = (mn : Int) := ⟨(1 + z).toNat, by omega⟩
  show gName 7 (.int (1 + z)) _ _ _
  rw [hmn]
  have k34 : Kp [d] H3 (upd H3 d o) := dr3.step
  have h4p := k34.k _ _ h3p (by simpa using (ned hpp).1)
  have h4s := k34.k _ _ h3s (by simpa using (ned hsaH).1)
  have h4r := k34.k _ _ h3r (by simpa using (ned hraH).1)
  refine ⟨_, rfl, _, rfl, by omega, by omega, ?_⟩
  rw [Int.toNat_natCast]
  refine for_range (lo := 0) (n := mn) (fun i σ G => ∃ (v8 v9 v10 : Option V) (L : List Opn) (sz rs : List Nat), σ = [some (.ref d), some (.ref wa), some (.ref pa), some (.int most), some (.ref p), some (.ref sa), some (.ref ra), some (.int (mn : Int)), v8, v9, v10] ∧ Kp [d] H G ∧ Drw d sc G ∧ PlanOk wd sp L sz rs ∧ L.length = i ∧
      (i = mn → ∀ r, rs[i - 1]? = some r → r ≤ 130) ∧ (∃ as : List Addr, G p = some (.lst (as.map V.ref)) ∧ Prs (fun o a => OpAt (fun l => H l = none ∧ l ≠ sa ∧ l ≠ ra ∧ l ≠ p) G o a) as L) ∧ G sa = some (.lst (sz.map nV)) ∧ G ra = some (.lst (rs.map nV)))
    ⟨none, none, none, [], [], [], rfl, (k3.wide fun b m => absurd m List.not_mem_nil).trans k34, dr4, .nil wd sp, rfl, fun z => by omega, ⟨[], h4p, trivial⟩, h4s, h4r⟩ (fun i σ G hi pp => ?_) (fun σ G pp => ?_)
  · obtain ⟨v8, v9, v10, L, sz, rs, rfl, kG, drG, ok, ll, _, pl, hsG, hrG⟩ := pp
    have hz := ok.lz
    have hrl := ok.lr
    have kW : ∀ {G' : Hp}, Kp [d] H G' → G' wa = some (.lst (wd.map nV)) := fun k => k.k _ _ hw (by simpa using nwd)
    have kP : ∀ {G' : Hp}, Kp [d] H G' → G' pa = some (.lst (sp.map nV)) := fun k => k.k _ _ hp (by simpa using npd)
    obtain ⟨as, hpG, pr⟩ := pl
    refine ⟨_, rfl, _, rfl, _, rfl, _, rfl, d, sc, sa, wa, pa, sz, wd, sp, rfl, drG, hsG, kW kG, kP kG, newd, by omega, lw, lp, ok.s4, fun o s u r G1 hok hat hr1 k1' dr1 => ?_⟩
    have kG1 := kG.trans k1'
    have newN : ∀ l, G l = none → H l = none ∧ l ≠ sa ∧ l ≠ ra ∧ l ≠ p := fun l e => by
      have h1 : l ≠ d := fun z => by obtain ⟨xs, e'⟩ := drG.dl; rw [z, e'] at e; cases e
      exact ⟨kG.free e (by simpa using h1), (fun z => by rw [z, hsG] at e; cases e), (fun z => by rw [z, hrG] at e; cases e), fun z => by rw [z, hpG] at e; cases e⟩
    refine ⟨r, _, rfl, SqT.of hr1, rfl, _, _, rfl, _, _, rfl, rfl, ?_⟩
    have hsG1 := k1'.k _ _ hsG (by simpa using (ned hsaH).1)
    have hrG1 := k1'.k _ _ hrG (by simpa using (ned hraH).1)
    have hpG1 := k1'.k _ _ hpG (by simpa using (ned hpp).1)
    -- the operation, or the table in its place
    refine ⟨fun σ' G2 => ∃ (o : Opn) (s : Nat) (u : Addr), σ' = [some (.ref d), some (.ref wa), some (.ref pa), some (.int most), some (.ref p), some (.ref sa), some (.ref ra), some (.int (mn : Int)), some (.int (0 + (i : Int))), some (.ref u), some (.int (s : Int))] ∧ OpOk wd sp sz o s ∧ roomO rs o ≤ 300 ∧ (i + 1 = mn → roomO rs o ≤ 130) ∧ OpAt (fun l => H l = none ∧ l ≠ sa ∧ l ≠ ra ∧ l ≠ p) G2 o u ∧ Kp [] G1 G2, ?_, ?_⟩
    · refine ⟨_, rfl, _, rfl, u, ra, o, rs, _, rfl, hat, hrG1, ?_, ok.r3, fun v G2 hv k2' => ?_⟩
      · have := hok.idx
        rw [hz, ← hrl] at this
        exact this
      subst hv
      have big : ∀ lim : Int, (∀ u2 : Addr, G2 u2 = none → True) := fun _ _ _ => trivial
      have atU : OpAt (fun l => H l = none ∧ l ≠ sa ∧ l ≠ ra ∧ l ≠ p) G2 o u := (hat.mono newN).kp k2' (fun l _ => List.not_mem_nil)
      refine ⟨_, rfl, _, rfl, _, _, rfl, rfl, _, _, rfl, rfl, _, rfl, ite2 (fun c => ⟨_, _, rfl, rfl, _, rfl, ite2 (fun c2 => ?a1) (fun c2 => ?b1)⟩) (fun c => ⟨_, _, rfl, rfl, _, rfl, ite2 (fun c2 => ?a2) (fun c2 => ?b2)⟩)⟩
      case a1 | a2 =>
        refine ⟨e2, fun u2 hu2 => ?_⟩
        have kU := Kp.new (M := []) (o := .tup [.str "table", .int 0]) hu2
        refine ⟨_, rfl, wa, _, _, _, rfl, rfl, SqL.of (kU.k _ _ (kW (kG1.trans (k2'.wide fun b m => absurd m List.not_mem_nil))) (by simp)), nV_at (i := 0) hs1, _, _, rfl, ?_⟩
        exact ⟨.tab 0, s1, u2, rfl, hs1, by show 6 ≤ 300; decide, fun _ => by show 6 ≤ 130; decide, upd_same, k2'.trans kU⟩
      case b1 =>
        have c : (0 + (i : Int)) < (mn : Int) - 1 := of_decide_eq_true c
        have c2 : ¬ (300 : Int) < (roomO rs o : Int) := fun z => c2 (decide_eq_true z)
        exact ⟨o, s, u, rfl, hok, by omega, fun z => by omega, atU, k2'⟩
      case b2 =>
        have c2 : ¬ (130 : Int) < (roomO rs o : Int) := fun z => c2 (decide_eq_true z)
        exact ⟨o, s, u, rfl, hok, by omega, fun z => by omega, atU, k2'⟩
    rintro σ' G2 ⟨o, s, u, rfl, hok, r300, r130, hat, k12⟩
    have kG2 : Kp [d] G G2 := k1'.trans (k12.wide fun b m => absurd m List.not_mem_nil)
    have hsG2 := k12.k _ _ hsG1 (by simp)
    have hrG2 := k12.k _ _ hrG1 (by simp)
    have hpG2 := k12.k _ _ hpG1 (by simp)
    have drG2 := dr1.kp k12 (by simp) (by simp)
    have s4 := hok.le4 bw bp ok.s4
    have asl := pr.len
    -- appended
    have kp1 : Kp [p] G2 (upd G2 p (.lst (as.map V.ref ++ [V.ref u]))) := .put (by simp) hpG2 fun xs z => by cases z
    have kp2 : Kp [sa] (upd G2 p (.lst (as.map V.ref ++ [V.ref u]))) (upd (upd G2 p (.lst (as.map V.ref ++ [V.ref u]))) sa (.lst (sz.map nV ++ [.int (s : Int)]))) := .put (by simp) (kp1.k _ _ hsG2 (by simpa using nsp)) fun xs z => by cases z
    have hsP := kp1.k _ _ hsG2 (by simpa using nsp)
    have hrP := kp2.k _ _ (kp1.k _ _ hrG2 (by simpa using nrp)) (by simpa using nrs)
    refine ⟨_, rfl, .inl ⟨rfl, _, SqL.of hpG2⟩, _, rfl, p, _, _, rfl, rfl, hpG2, small1000 (by rw [List.length_map]; omega), ?_⟩
    refine ⟨_, rfl, .inl ⟨rfl, _, SqL.of hsP⟩, _, rfl, sa, _, _, rfl, rfl, hsP, small1000 (by rw [List.length_map]; omega), ?_⟩
    refine ⟨_, rfl, .inl ⟨rfl, _, SqL.of hrP⟩, _, rfl, _, rfl, u, ra, o, rs, _, rfl, (hat.kp kp1 fun l n => by simpa using n.2.2.2).kp kp2 (fun l n => by simpa using n.2.1), hrP, ?_, ok.r3, fun v G3 hv k3' => ?_⟩
    · have := hok.idx
      rw [hz, ← hrl] at this
      exact this
    subst hv
    have hr3 := k3'.k _ _ hrP (by simp)
    refine ⟨ra, _, _, rfl, rfl, hr3, small1000 (by rw [List.length_map]; omega), ?_⟩
    have kp4 : Kp [ra] G3 (upd G3 ra (.lst (rs.map nV ++ [.int (roomO rs o : Nat)]))) := .put (by simp) hr3 fun xs z => by cases z
    have hs3 := kp4.k _ _ (k3'.k _ _ (upd_same (H := upd G2 p (.lst (as.map V.ref ++ [V.ref u]))) (a := sa) (o := .lst (sz.map nV ++ [.int (s : Int)]))) (by simp)) (by simpa using nrs.symm)
    have hp3 := kp4.k _ _ (k3'.k _ _ (kp2.k _ _ (upd_same (H := G2) (a := p) (o := .lst (as.map V.ref ++ [V.ref u]))) (by simpa using nsp.symm)) (by simp)) (by simpa using nrp.symm)
    have kend : Kp [d] H (upd G3 ra (.lst (rs.map nV ++ [.int (roomO rs o : Nat)]))) := by
      have a1 : Kp [d] H (upd G2 p (.lst (as.map V.ref ++ [V.ref u]))) := (kG.trans kG2).mt hpp
      have a2 := a1.mt (o := .lst (sz.map nV ++ [.int (s : Int)])) hsaH
      exact (a2.trans (k3'.wide fun b m => absurd m List.not_mem_nil)).mt hraH
    have drE : Drw d sc (upd G3 ra (.lst (rs.map nV ++ [.int (roomO rs o : Nat)]))) := (((drG2.put (ned hpp).1.symm (ned hpp).2.symm).put (ned hsaH).1.symm (ned hsaH).2.symm).kp k3' (by simp) (by simp)).put (ned hraH).1.symm (ned hraH).2.symm
    have kall : Kp [p, sa, ra] G2 (upd G3 ra (.lst (rs.map nV ++ [.int (roomO rs o : Nat)]))) := (((kp1.wide fun b m => by rw [List.mem_singleton.mp m]; simp).trans (kp2.wide fun b m => by rw [List.mem_singleton.mp m]; simp)).trans (k3'.wide fun b m => absurd m List.not_mem_nil)).trans (kp4.wide fun b m => by rw [List.mem_singleton.mp m]; simp)
    refine ⟨_, _, _, L ++ [o], sz ++ [s], rs ++ [roomO rs o], rfl, kend, drE, ok.snoc hok s4 r300, by rw [List.length_append, ll]; rfl, fun z r hr => ?_, ⟨as ++ [u], by rw [hp3, List.map_append]; rfl, ?_⟩, by rw [hs3, List.map_append]; rfl, by rw [upd_same, List.map_append]; rfl⟩
    · rw [Nat.add_sub_cancel, List.getElem?_append_right (by omega), show i - rs.length = 0 by omega] at hr
      cases hr
      exact r130 z
    · have out : ∀ l, (H l = none ∧ l ≠ sa ∧ l ≠ ra ∧ l ≠ p) → l ∉ [p, sa, ra] := fun l n => by simp [n.2.1, n.2.2.1, n.2.2.2]
      exact (pr.imp fun o a h => (h.kp kG2 fun l n => by simpa using (ned n.1).1).kp kall out).snoc (hat.kp kall out)
  · obtain ⟨v8, v9, v10, L, sz, rs, rfl, kG, drG, ok, ll, hb, ⟨as, hpG, pr⟩, hsG, hrG⟩ := pp
    have hz := ok.lz
    have lst : ∃ s, sz[L.length - 1]? = some s ∧ sz = sz.take (L.length - 1) ++ [s] := by
      have hl : L.length - 1 < sz.length := by omega
      refine ⟨sz[L.length - 1], List.getElem?_eq_getElem hl, ?_⟩
      have := takeS (List.getElem?_eq_getElem hl)
      rw [show L.length - 1 + 1 = sz.length by omega, List.take_length] at this
      exact this
    obtain ⟨s, hs, es⟩ := lst
    refine ⟨_, rfl, _, rfl, _, rfl, sa, _, _, _, rfl, rfl, SqL.of hsG, (show atI (sz.map nV) (-1) = some (.int (s : Int)) by rw [es, List.map_append]; exact atI_last _ _), e2, fun r hr => ?_⟩
    have kR := Kp.new (M := []) (o := .tup [.ref p, .int (s : Int)]) hr
    exact q L sz rs s p r _ ok (by omega) (by omega) hs (fun r' h' => hb rfl r' (by rw [← ll]; exact h')) ⟨as, kR.k _ _ hpG (by simp), hpp, pr.imp fun o a h => (h.mono fun l n => n.1).kp kR fun l _ => List.not_mem_nil⟩ upd_same (kG.newer hr) (drG.put (drG.ne_new hr).1 (drG.ne_new hr).2)
end

/-! ### expressions and operations as data -/
def Cell.data : Cell → PyData
  | .non => .none
  | .int i => .int i
  | .str s => .str s
theorem Cell.has (H : Hp) : ∀ c : Cell, Has H c.v c.data
  | .non => .non
  | .int i => .int i
  | .str s => .str s
def Ex.data : Ex → PyData
  | .con c => .tuple [.str "constant", c.data]
  | .col i => .tuple [.str "column", .int (i : Int)]
  | .un o a => .tuple [.str o.str, a.data]
  | .bin o a b => .tuple [.str o.str, a.data, b.data]
  | .ch c a b => .tuple [.str "choose", c.data, a.data, b.data]
theorem ExAt.has {H : Hp} : ∀ (e : Ex) (r : Addr), ExAt H e r → Has H (.ref r) e.data
  | .con c, _, h => .tup h (.cons (.str _) (.cons (c.has H) .nil))
  | .col _, _, h => .tup h (.cons (.str _) (.cons (.int _) .nil))
  | .un _ a, _, ⟨x, h, i⟩ => .tup h (.cons (.str _) (.cons (ExAt.has a x i) .nil))
  | .bin _ a b, _, ⟨x, y, h, i, j⟩ => .tup h (.cons (.str _) (.cons (ExAt.has a x i) (.cons (ExAt.has b y j) .nil)))
  | .ch c a b, _, ⟨z, x, y, h, g, i, j⟩ => .tup h (.cons (.str _) (.cons (ExAt.has c z g) (.cons (ExAt.has a x i) (.cons (ExAt.has b y j) .nil))))
mutual
theorem Has.dp {K : PySem.W.Frag} {H : Hp} : ∀ (d : PyData) (v : V), Has H v d → Dp K H v d
  | .none, _, h => by cases h; exact .non
  | .bool b, _, h => by cases h; exact .bl b
  | .int i, _, h => by cases h; exact .int i
  | .str x, _, h => by cases h; exact .str x
  | .list ds, _, h => by cases h with | lst e r => exact .lst (SqL.of e) (HasAll.dp ds _ r)
  | .tuple ds, _, h => by cases h with | tup e r => exact .tup (SqT.of e) (HasAll.dp ds _ r)
  | .dict _, _, h => by cases h
theorem HasAll.dp {K : PySem.W.Frag} {H : Hp} : ∀ (ds : List PyData) (vs : List V), HasAll H vs ds → DpAll K H vs ds
  | [], _, h => by cases h; exact .nil
  | d :: ds, _, h => by cases h with | cons h1 h2 => exact .cons (Has.dp d _ h1) (HasAll.dp ds _ h2)
end
theorem Prs.hasAll {α : Type} {H : Hp} {R : α → Addr → Prop} {f : α → PyData} (h : ∀ x a, R x a → Has H (.ref a) (f x)) : ∀ {as : List Addr} {xs : List α}, Prs R as xs → HasAll H (as.map V.ref) (xs.map f)
  | [], [], _ => .nil
  | a :: as, x :: xs, p => .cons (h _ _ p.1) (Prs.hasAll h p.2)
  | [], _ :: _, p => p.elim
  | _ :: _, [], p => p.elim
theorem LstOf.has {α : Type} {H : Hp} {R : α → Addr → Prop} {N : Addr → Prop} {f : α → PyData} {L : List α} {l : Addr} (p : LstOf R N H L l) (h : ∀ x a, R x a → Has H (.ref a) (f x)) : Has H (.ref l) (.list (L.map f)) := by
  obtain ⟨as, h1, _, h3⟩ := p
  exact .lst h1 (h3.hasAll h)
def Tot.data : Tot → PyData
  | .count => .tuple [.str "count"]
  | .of w e => .tuple [.str w.str, e.data]
theorem TotAt.has {H : Hp} : ∀ (t : Tot) (r : Addr), TotAt H t r → Has H (.ref r) t.data
  | .count, _, h => .tup h (.cons (.str _) .nil)
  | .of _ e, _, ⟨x, h, i⟩ => .tup h (.cons (.str _) (.cons (ExAt.has e x i) .nil))
def Opn.data : Opn → PyData
  | .tab i => .tuple [.str "table", .int (i : Int)]
  | .stp i => .tuple [.str "step", .int (i : Int)]
  | .fil e q => .tuple [.str "filter", e.data, .int (q : Int)]
  | .map es q => .tuple [.str "map", .list (es.map Ex.data), .int (q : Int)]
  | .grp ks ts q => .tuple [.str "group", .list (ks.map Ex.data), .list (ts.map Tot.data), .int (q : Int)]
  | .join e q r => .tuple [.str "join", e.data, .int (q : Int), .int (r : Int)]
  | .anti e q r => .tuple [.str "anti", e.data, .int (q : Int), .int (r : Int)]
  | .uni q r => .tuple [.str "union", .int (q : Int), .int (r : Int)]
  | .minus q r => .tuple [.str "minus", .int (q : Int), .int (r : Int)]
theorem OpAt.has {N : Addr → Prop} {H : Hp} : ∀ (o : Opn) (r : Addr), OpAt N H o r → Has H (.ref r) o.data
  | .tab _, _, h => .tup h (.cons (.str _) (.cons (.int _) .nil))
  | .stp _, _, h => .tup h (.cons (.str _) (.cons (.int _) .nil))
  | .fil e _, _, ⟨x, h, g⟩ => .tup h (.cons (.str _) (.cons (ExAt.has e x g) (.cons (.int _) .nil)))
  | .map es _, _, ⟨l, h, g⟩ => .tup h (.cons (.str _) (.cons (g.has fun e a => ExAt.has e a) (.cons (.int _) .nil)))
  | .grp ks ts _, _, ⟨l, m, h, g, j⟩ => .tup h (.cons (.str _) (.cons (g.has fun e a => ExAt.has e a) (.cons (j.has fun e a => TotAt.has e a) (.cons (.int _) .nil))))
  | .join e _ _, _, ⟨x, h, g⟩ => .tup h (.cons (.str _) (.cons (ExAt.has e x g) (.cons (.int _) (.cons (.int _) .nil))))
  | .anti e _ _, _, ⟨x, h, g⟩ => .tup h (.cons (.str _) (.cons (ExAt.has e x g) (.cons (.int _) (.cons (.int _) .nil))))
  | .uni _ _, _, h => .tup h (.cons (.str _) (.cons (.int _) (.cons (.int _) .nil)))
  | .minus _ _, _, h => .tup h (.cons (.str _) (.cons (.int _) (.cons (.int _) .nil)))
-- their form
theorem Un.lay (o : Un) : PyData.canLay0 (.str o.str) = true := by cases o <;> (unfold PyData.canLay0; decide +kernel)
theorem Bn.lay (o : Bn) : PyData.canLay0 (.str o.str) = true := by cases o <;> (unfold PyData.canLay0; decide +kernel)
theorem Tw.lay (o : Tw) : PyData.canLay0 (.str o.str) = true := by cases o <;> (unfold PyData.canLay0; decide +kernel)
theorem Cell.lay : ∀ c : Cell, c.sm → PyData.canLay0 c.data = true
  | .non, _ => by unfold Cell.data PyData.canLay0; rfl
  | .int _, _ => by unfold Cell.data PyData.canLay0; rfl
  | .str s, h => by
    unfold Cell.data PyData.canLay0
    rcases h with rfl | rfl <;> decide +kernel
theorem strC_lay : PyData.canLay0 (.str "constant") = true ∧ PyData.canLay0 (.str "column") = true ∧ PyData.canLay0 (.str "choose") = true ∧ PyData.canLay0 (.str "count") = true := by
  unfold PyData.canLay0
  decide +kernel
theorem Ex.lay : ∀ e : Ex, e.sm → PyData.canLay0 e.data = true
  | .con c, h => by
    simp only [Ex.data, PyData.canLay0, PyData.canLayAll0, Cell.lay c h, Bool.and_true]
    exact (by unfold PyData.canLay0; decide +kernel : PyData.canLay0 (.str "constant") = true) ▸ by first | rfl | (have := strC_lay.1; simpa [PyData.canLay0] using this)
  | .col i, _ => by
    have := strC_lay.2.1
    simp only [PyData.canLay0] at this
    simp only [Ex.data, PyData.canLay0, PyData.canLayAll0, Bool.and_true, this]
  | .un o a, h => by
    have := o.lay
    simp only [PyData.canLay0] at this
    simp only [Ex.data, PyData.canLay0, PyData.canLayAll0, Bool.and_true, this, Ex.lay a h]
  | .bin o a b, h => by
    have := o.lay
    simp only [PyData.canLay0] at this
    simp only [Ex.data, PyData.canLay0, PyData.canLayAll0, Bool.and_true, this, Ex.lay a h.1, Ex.lay b h.2]
  | .ch c a b, h => by
    have := strC_lay.2.2.1
    simp only [PyData.canLay0] at this
    simp only [Ex.data, PyData.canLay0, PyData.canLayAll0, Bool.and_true, this, Ex.lay c h.1, Ex.lay a h.2.1, Ex.lay b h.2.2]
theorem Ex.dp : ∀ e : Ex, PyData.depth e.data ≤ e.depth + 1
  | .con c => by cases c <;> simp [Ex.data, Cell.data, PyData.depth, PyData.depthAll, Ex.depth]
  | .col i => by simp [Ex.data, PyData.depth, PyData.depthAll, Ex.depth]
  | .un o a => by
    have := a.dp
    simp only [Ex.data, PyData.depth, PyData.depthAll, Ex.depth]
    omega
  | .bin o a b => by
    have := a.dp
    have := b.dp
    have m1 : a.depth ≤ Nat.max a.depth b.depth := Nat.le_max_left _ _
    have m2 : b.depth ≤ Nat.max a.depth b.depth := Nat.le_max_right _ _
    simp only [Ex.data, PyData.depth, PyData.depthAll, Ex.depth]
    omega
  | .ch c a b => by
    have := c.dp
    have := a.dp
    have := b.dp
    have m0 : c.depth ≤ Nat.max c.depth (Nat.max a.depth b.depth) := Nat.le_max_left _ _
    have m3 : Nat.max a.depth b.depth ≤ Nat.max c.depth (Nat.max a.depth b.depth) := Nat.le_max_right _ _
    have m1 : a.depth ≤ Nat.max a.depth b.depth := Nat.le_max_left _ _
    have m2 : b.depth ≤ Nat.max a.depth b.depth := Nat.le_max_right _ _
    simp only [Ex.data, PyData.depth, PyData.depthAll, Ex.depth]
    omega
theorem list_shaped {α : Type} (f : α → PyData) (n : Nat) (hn : n ≤ 63) {L : List α} (h1 : ∀ x ∈ L, PyData.canLay0 (f x) = true) (h2 : ∀ x ∈ L, PyData.depth (f x) ≤ n) : SeqAt.shaped (.list (L.map f)) = true := by
  have a1 : ∀ L : List α, (∀ x ∈ L, PyData.canLay0 (f x) = true) → PyData.canLayAll0 (L.map f) = true := by
    intro L
    induction L with
    | nil => intro _; simp [PyData.canLayAll0]
    | cons x L ih =>
      intro h
      rw [List.map_cons, PyData.canLayAll0, ih fun y hy => h y (List.mem_cons_of_mem _ hy), h x List.mem_cons_self]
      rfl
  have a2 : ∀ L : List α, (∀ x ∈ L, PyData.depth (f x) ≤ n) → PyData.depthAll (L.map f) ≤ n := by
    intro L
    induction L with
    | nil => intro _; simp [PyData.depthAll]
    | cons x L ih =>
      intro h
      rw [List.map_cons, PyData.depthAll]
      have := ih fun y hy => h y (List.mem_cons_of_mem _ hy)
      have := h x List.mem_cons_self
      omega
  have h3 : PyData.depth (.list (L.map f)) ≤ 64 := by
    have := a2 L h2
    simp only [PyData.depth]
    omega
  show (PyData.canLay0 (.list (L.map f)) && decide (PyData.depth (.list (L.map f)) ≤ 64)) = true
  rw [Bool.and_eq_true]
  exact ⟨by simp only [PyData.canLay0]; exact a1 L h1, decide_eq_true h3⟩
theorem Tot.lay : ∀ t : Tot, t.sm → PyData.canLay0 t.data = true ∧ PyData.depth t.data ≤ 3
  | .count, _ => by
    have := strC_lay.2.2.2
    simp only [PyData.canLay0] at this
    exact ⟨by simp only [Tot.data, PyData.canLay0, PyData.canLayAll0, Bool.and_true, this], by simp [Tot.data, PyData.depth, PyData.depthAll]⟩
  | .of w e, h => by
    have := w.lay
    simp only [PyData.canLay0] at this
    refine ⟨by simp only [Tot.data, PyData.canLay0, PyData.canLayAll0, Bool.and_true, this, Ex.lay e h.1], ?_⟩
    have := e.dp
    have := h.2
    simp only [Tot.data, PyData.depth, PyData.depthAll]
    omega
theorem exs_shaped {L : List Ex} {w : Nat} (h : ∀ e ∈ L, e.ok w 1) : SeqAt.shaped (.list (L.map Ex.data)) = true := list_shaped Ex.data 2 (by decide) (fun e he => Ex.lay e (h e he).2.2) fun e he => by
  have := e.dp
  have := (h e he).2.1
  omega
theorem tots_shaped {L : List Tot} {w : Nat} (h : ∀ e ∈ L, e.ok w) : SeqAt.shaped (.list (L.map Tot.data)) = true := list_shaped Tot.data 3 (by decide) (fun e he => (Tot.lay e (h e he).2).1) fun e he => (Tot.lay e (h e he).2).2
theorem eqv_nil {L : List PyData} : PyData.eqv (.list L) (.list []) = L.isEmpty := by
  cases L <;> simp [PyData.eqv, PyData.eqvAll]

/-! ### what plans use -/
def wrd (b : Bool) : Str := if b then "step" else "table"
def nm : Bool → Opn → Option Int
  | false, .tab i => some (i : Int)
  | true, .stp i => some (i : Int)
  | _, _ => none
def named (b : Bool) (L : List Opn) : List Int := L.filterMap (nm b)
theorem named_snoc (b : Bool) (L : List Opn) (o : Opn) : named b (L ++ [o]) = named b L ++ (match nm b o with | some i => [i] | none => []) := by
  unfold named
  rw [List.filterMap_append, List.filterMap_cons]
  cases nm b o <;> rfl
theorem nm_at {N : Addr → Prop} {H : Hp} {b : Bool} {a : Addr} : ∀ {o : Opn}, OpAt N H o a → (∃ i xs, nm b o = some i ∧ H a = some (.tup (.str (wrd b) :: .int i :: xs))) ∨ (nm b o = none ∧ ∃ s xs, H a = some (.tup (.str s :: xs)) ∧ s ≠ wrd b)
  | .tab i, h => by cases b with
    | false => exact .inl ⟨_, _, rfl, h⟩
    | true => exact .inr ⟨rfl, _, _, h, by decide +kernel⟩
  | .stp i, h => by cases b with
    | false => exact .inr ⟨rfl, _, _, h, by decide +kernel⟩
    | true => exact .inl ⟨_, _, rfl, h⟩
  | .fil _ _, ⟨_, h, _⟩ => .inr ⟨by cases b <;> rfl, _, _, h, by cases b <;> decide +kernel⟩
  | .map _ _, ⟨_, h, _⟩ => .inr ⟨by cases b <;> rfl, _, _, h, by cases b <;> decide +kernel⟩
  | .grp _ _ _, ⟨_, _, h, _⟩ => .inr ⟨by cases b <;> rfl, _, _, h, by cases b <;> decide +kernel⟩
  | .join _ _ _, ⟨_, h, _⟩ => .inr ⟨by cases b <;> rfl, _, _, h, by cases b <;> decide +kernel⟩
  | .anti _ _ _, ⟨_, h, _⟩ => .inr ⟨by cases b <;> rfl, _, _, h, by cases b <;> decide +kernel⟩
  | .uni _ _, h => .inr ⟨by cases b <;> rfl, _, _, h, by cases b <;> decide +kernel⟩
  | .minus _ _, h => .inr ⟨by cases b <;> rfl, _, _, h, by cases b <;> decide +kernel⟩
theorem asc_uniq : ∀ {L M : List Int}, L.Pairwise (· < ·) → M.Pairwise (· < ·) → (∀ x, x ∈ L ↔ x ∈ M) → L = M
  | [], [], _, _, _ => rfl
  | [], y :: M, _, _, h => absurd ((h y).mpr List.mem_cons_self) (by simp)
  | x :: L, [], _, _, h => absurd ((h x).mp List.mem_cons_self) (by simp)
  | x :: L, y :: M, a, b, h => by
    obtain ⟨a1, a2⟩ := List.pairwise_cons.mp a
    obtain ⟨b1, b2⟩ := List.pairwise_cons.mp b
    have e : x = y := by
      rcases List.mem_cons.mp ((h x).mp List.mem_cons_self) with m | m
      · exact m
      · rcases List.mem_cons.mp ((h y).mpr List.mem_cons_self) with q | q
        · exact q.symm
        · have := a1 y q; have := b1 x m; omega
    subst e
    rw [asc_uniq a2 b2 fun z => ?_]
    have := h z
    constructor
    · intro m
      rcases List.mem_cons.mp (this.mp (List.mem_cons_of_mem _ m)) with q | q
      · have := a1 z m; omega
      · exact q
    · intro m
      rcases List.mem_cons.mp (this.mpr (List.mem_cons_of_mem _ m)) with q | q
      · have := b1 z m; omega
      · exact q
theorem asc_of {l : List Int} (h : l.Pairwise (· ≤ ·)) (n : l.Nodup) : l.Pairwise (· < ·) := by
  refine List.Pairwise.imp (fun {a b} h => ?_) (h.and n)
  have h1 := h.1
  have h2 := h.2
  omega
/-- a dict of keys that all hold True -/
def trK (k : Int) : Key × V := (Sum.inl k, .bl true)
theorem putK_tr (k : Int) : ∀ ks : List Int, putK (ks.map trK) (Sum.inl k : Key) (.bl true) = (if k ∈ ks then ks else ks ++ [k]).map trK := fun ks => by
  have h1 : ((ks.map trK).any fun kv => decide (kv.1 = (Sum.inl k : Key))) = decide (k ∈ ks) := by
    induction ks with
    | nil => rfl
    | cons x r ih =>
      rw [List.map_cons, List.any_cons, ih]
      by_cases e : x = k
      · subst e
        simp [trK]
      · have e' : ¬ k = x := fun z => e z.symm
        simp [trK, e, e']
  have h2 : (ks.map trK).map (fun kv => if kv.1 = (Sum.inl k : Key) then (kv.1, V.bl true) else kv) = ks.map trK := by
    rw [List.map_map]
    refine List.map_congr_left fun x _ => ?_
    show (if (trK x).1 = (Sum.inl k : Key) then ((trK x).1, V.bl true) else trK x) = trK x
    split <;> rfl
  unfold putK
  rw [h1]
  by_cases m : k ∈ ks
  · rw [if_pos (decide_eq_true m), if_pos m, h2]
  · rw [if_neg (by simpa using m), if_neg m, List.map_append]
    rfl
def spNamed : Sp := fun vs H Q _ => ∃ (p : Addr) (N : Addr → Prop) (L : List Opn) (b : Bool), vs = [.ref p, .str (wrd b)] ∧ PlanAt N H L p ∧ L.length < 60 ∧
  ∀ (ys : List Int) (r : Addr) (G : Hp), ys.Pairwise (· < ·) → (∀ x, x ∈ ys ↔ x ∈ named b L) → Kp [] H G → H r = none → G r = some (.lst (ys.map V.int)) → Q (.ref r) G
def spUses : Sp := fun vs H Q _ => ∃ (p : Addr) (N : Addr → Prop) (L : List Opn), vs = [.ref p] ∧ PlanAt N H L p ∧ L.length < 60 ∧
  ∀ (ys zs : List Int) (r : Addr) (G : Hp), ys.Pairwise (· < ·) → (∀ x, x ∈ ys ↔ x ∈ named false L) → zs.Pairwise (· < ·) → (∀ x, x ∈ zs ↔ x ∈ named true L) → Kp [] H G → Has G (.ref r) (.tuple [.list (ys.map .int), .list (zs.map .int)]) → Q (.ref r) G
structure TUses (mg : Str → Option Value) : Prop where
  n_sorted : mg "sorted" = none
  n_set : mg "set" = none
  n_list : mg "list" = none
theorem hasInts {H : Hp} : ∀ T : List Int, HasAll H (T.map V.int) (T.map PyData.int)
  | [] => .nil
  | i :: T => .cons (.int i) (hasInts T)
theorem fm_len (b : Bool) (L : List Opn) : (named b L).length ≤ L.length := List.length_filterMap_le _ _
section
variable {P : Program} {w : World} {K : PySem.W.Frag} {mg : Str → Option Value} {base : Heap}
theorem ok_named (D : GD K mg "_law_named" sD_Lnamed ["plan", "word"]) (T : TUses mg) : Cal P w K mg base 1 "_law_named" spNamed [] := by
  refine D.cal sc_Lnamed (fun vs H Q E h => ?_) (fun f cdv A outer s0 H vs Q E hr h => ?_)
  · obtain ⟨p, N, L, b, rfl, _⟩ := h
    rfl
  obtain ⟨p, N, L, b, rfl, ⟨as, hp, _, pr⟩, hl, q⟩ := h
  refine ⟨_, (pss_one (ps_ret (pe_callB (cr_sortedSet rfl) (by rfl) T.n_sorted (by decide +kernel) (pa_cons (pe_callTy (cr_setL rfl) (by rfl) T.n_set (by decide +kernel) (pa_cons (pe_lc (own := [("operation", 2)]) (g := gName 2) rfl sc_Lnamed.nd (pi_list (pv 0)) (blkOk_by (own := [("operation", 2)]) (N := ["plan", "word", "operation"]) (sc := defScope sD_Lnamed) (by decide +kernel)) (fun _ _ _ _ _ => (pg_name (i := 2) sc_Lnamed.nd rfl (Or.inl rfl))) (fun _ _ _ _ _ => (pts_one (pt_cmpR op_eq (bx_tup (K := K) rfl (pv 2) pe_int (fun _ _ => rfl)) (pv 1) (nomark _)))) (fun _ _ _ _ _ => (bx_tup (K := K) rfl (pv 2) pe_int (fun _ _ => rfl)))) pa_nil)) pa_nil)))), ?_⟩
  refine ⟨_, rfl, p, rfl, ⟨_, SqL.of hp⟩, fun D' hD => lc_list (K := K) (a := p) (xs := as.map V.ref) (fun j G => Kp [] H G ∧ G D' = some (.lst ((named b (L.take j)).map V.int)))
    ⟨.new hD, upd_same⟩ (fun j G _ p => SqL.of (p.1.k _ _ hp (by simp))) (fun j y G hj pp => ?_) (fun G pp => ?_)⟩
  · obtain ⟨a, ha, rfl⟩ := mapAt hj
    obtain ⟨kG, hG⟩ := pp
    obtain ⟨o, ho, at'⟩ := pr.of ha
    rw [takeS ho, named_snoc]
    have hjl : j < L.length := (List.getElem?_eq_some_iff.mp ho).1
    rcases nm_at (b := b) at' with ⟨i, xs, e, h⟩ | ⟨e, s, xs, h, ne⟩
    · rw [e]
      have hT := SqT.of (K := K) (kG.t _ _ h)
      refine ⟨rfl, _, rfl, a, _, _, _, rfl, rfl, hT, at_of (j := 0) rfl rfl, _, rfl, rfl, _, rfl, iteT_of (dSs _) ⟨_, rfl, a, _, _, _, rfl, rfl, hT, at_of (j := 1) rfl rfl, _, hG, small1000 ?_, kG.mt hD, by rw [upd_same, List.map_append]; rfl⟩⟩
      rw [List.length_map]
      have := fm_len b (L.take j)
      rw [List.length_take] at this
      omega
    · rw [e, List.append_nil]
      exact ⟨rfl, _, rfl, a, _, _, _, rfl, rfl, SqT.of (kG.t _ _ h), at_of (j := 0) rfl rfl, _, rfl, rfl, _, rfl, iteF_of (dS ne) ⟨kG, hG⟩⟩
  · obtain ⟨kG, hG⟩ := pp
    rw [List.length_map, pr.len, List.take_length] at hG
    have lnm := fm_len b L
    refine ⟨D', _, rfl, SqL.of hG, by omega, fun s c hs hc => ⟨s, _, c, rfl, upd_same, by omega, fun ns r up mem _ hr => ?_⟩⟩
    have kS := Kp.new (M := []) (o := SetO w s (fun j => decide (j ∈ named b L)) c) hs
    refine q ns r _ up (fun x => ?_) ((kG.trans kS).newer hr) ((kG.trans kS).free hr (by simp)) upd_same
    rw [mem x]
    exact decide_eq_true_iff
theorem ok_uses (D : GD K mg "uses" sD_uses ["plan"]) (T : TUses mg) : Cal P w K mg base 1 "uses" spUses [] := by
  refine D.cal sc_uses (fun vs H Q E h => ?_) (fun f cdv A outer s0 H vs Q E hr h => ?_)
  · obtain ⟨p, N, L, rfl, _⟩ := h
    rfl
  obtain ⟨p, N, L, rfl, ⟨as, hp, _, pr⟩, hl, q⟩ := h
  refine ⟨_, (pss_cons (ps_setDc (i := 1) (own := [("operation", 3)]) (g := gName 3) rfl sc_uses.nd rfl rfl (sw_dict rfl rfl rfl (by decide +kernel)) (pi_list (pv 0)) (blkOk_by (own := [("operation", 3)]) (N := ["plan", "tables", "steps", "operation"]) (sc := defScope sD_uses) (by decide +kernel)) (fun _ _ _ _ _ => (pg_name (i := 3) sc_uses.nd rfl (Or.inl rfl))) (fun _ _ _ _ _ => (pts_one (pt_cmpR op_eq (bx_tup (K := K) rfl (pv 3) pe_int (fun _ _ => rfl)) pe_str (nomark _)))) (fun _ _ _ _ _ => (bx_tup (K := K) rfl (pv 3) pe_int (fun _ _ => rfl))) (fun _ _ _ _ _ => pe_bl))
    (pss_cons (ps_setDc (i := 2) (own := [("operation", 3)]) (g := gName 3) rfl sc_uses.nd rfl rfl (sw_dict rfl rfl rfl (by decide +kernel)) (pi_list (pv 0)) (blkOk_by (own := [("operation", 3)]) (N := ["plan", "tables", "steps", "operation"]) (sc := defScope sD_uses) (by decide +kernel)) (fun _ _ _ _ _ => (pg_name (i := 3) sc_uses.nd rfl (Or.inl rfl))) (fun _ _ _ _ _ => (pts_one (pt_cmpR op_eq (bx_tup (K := K) rfl (pv 3) pe_int (fun _ _ => rfl)) pe_str (nomark _)))) (fun _ _ _ _ _ => (bx_tup (K := K) rfl (pv 3) pe_int (fun _ _ => rfl))) (fun _ _ _ _ _ => pe_bl))
    (pss_one (ps_ret (pe_tup (pa_cons (pe_callB cr_sorted (by rfl) T.n_sorted (by decide +kernel) (pa_cons (pe_callTy (call_list_dK rfl) (by rfl) T.n_list (by decide +kernel) (pa_cons (pv 1) pa_nil)) pa_nil)) (pa_cons (pe_callB cr_sorted (by rfl) T.n_sorted (by decide +kernel) (pa_cons (pe_callTy (call_list_dK rfl) (by rfl) T.n_list (by decide +kernel) (pa_cons (pv 2) pa_nil)) pa_nil)) pa_nil))))))), ?_⟩
  have alen := pr.len
  have sortd : ∀ {ks ns : List Int}, ks.Nodup → ns.Perm ks → ns.Pairwise (· ≤ ·) → ns.Pairwise (· < ·) := fun nd pm le => asc_of le (pm.nodup_iff.mpr nd)
  have turn : ∀ (b : Bool) (D1 : Addr) (G0 : Hp) (j : Nat) (a : Addr) (G : Hp), Kp [] H G0 → G0 D1 = none → as[j]? = some a → (Kp [] G0 G ∧ ∃ ks : List Int, G D1 = some (.dK (ks.map trK)) ∧ ks.Nodup ∧ ks.length ≤ j ∧ ∀ x, x ∈ ks ↔ x ∈ named b (L.take j)) →
      (∃ i xs, G a = some (.tup (.str (wrd b) :: .int i :: xs)) ∧ ∃ kvs, G D1 = some (.dK kvs) ∧ kvs.length < sizeLine ∧ (Kp [] G0 (upd G D1 (.dK (putK kvs (Sum.inl i : Key) (.bl true)))) ∧ ∃ ks : List Int, (upd G D1 (.dK (putK kvs (Sum.inl i : Key) (.bl true)))) D1 = some (.dK (ks.map trK)) ∧ ks.Nodup ∧ ks.length ≤ j + 1 ∧ ∀ x, x ∈ ks ↔ x ∈ named b (L.take (j + 1)))) ∨
      (∃ s xs, G a = some (.tup (.str s :: xs)) ∧ s ≠ wrd b ∧ (Kp [] G0 G ∧ ∃ ks : List Int, G D1 = some (.dK (ks.map trK)) ∧ ks.Nodup ∧ ks.length ≤ j + 1 ∧ ∀ x, x ∈ ks ↔ x ∈ named b (L.take (j + 1)))) := fun b D1 G0 j a G k0 hD ha ⟨kG, ks, hG, nd, kl, mem⟩ => by
    obtain ⟨o, ho, at'⟩ := pr.of ha
    have hjl : j < L.length := (List.getElem?_eq_some_iff.mp ho).1
    rw [takeS ho, named_snoc]
    rcases nm_at (b := b) at' with ⟨i, xs, e, h⟩ | ⟨e, s, xs, h, ne⟩
    · rw [e]
      refine .inl ⟨i, xs, (k0.trans kG).t _ _ h, _, hG, small1000 (by rw [List.length_map]; omega), kG.mt hD, if i ∈ ks then ks else ks ++ [i], by rw [upd_same, putK_tr], ?_, ?_, fun x => ?_⟩
      · split
        · exact nd
        · rename_i m
          refine List.nodup_append.mpr ⟨nd, by simp, fun x hx y hy z => ?_⟩
          rw [List.mem_singleton.mp hy] at z
          exact m (z ▸ hx)
      · split
        · omega
        · rw [List.length_append]; exact Nat.succ_le_succ kl
      · rw [List.mem_append, ← mem x, List.mem_singleton]
        split
        · rename_i m
          exact ⟨.inl, fun h => h.elim id fun e => e ▸ m⟩
        · rw [List.mem_append, List.mem_singleton]
    · rw [e, List.append_nil]
      exact .inr ⟨s, xs, (k0.trans kG).t _ _ h, ne, kG, ks, hG, nd, by omega, mem⟩
  refine ⟨_, rfl, p, rfl, ⟨_, SqL.of hp⟩, fun D1 hD1 => dc_list (K := K) (a := p) (xs := as.map V.ref) (fun j G => Kp [] H G ∧ ∃ ks : List Int, G D1 = some (.dK (ks.map trK)) ∧ ks.Nodup ∧ ks.length ≤ j ∧ ∀ x, x ∈ ks ↔ x ∈ named false (L.take j))
    ⟨.new hD1, [], upd_same, List.nodup_nil, Nat.le_refl _, fun x => by simp [named]⟩ (fun j G _ p => SqL.of (p.1.k _ _ hp (by simp))) (fun j y G hj pp => ?_) (fun G pp => ?_)⟩
  · obtain ⟨a, ha, rfl⟩ := mapAt hj
    rcases turn false D1 H j a G .refl hD1 ha pp with ⟨i, xs, h, kvs, h1, h2, h3⟩ | ⟨s, xs, h, ne, h3⟩
    · exact ⟨rfl, _, rfl, a, _, _, _, rfl, rfl, SqT.of h, at_of (j := 0) rfl rfl, rfl, _, rfl, iteT_of (dSs _) ⟨_, rfl, a, _, _, _, rfl, rfl, SqT.of h, at_of (j := 1) rfl rfl, kvs, Sum.inl i, rfl, h1, h2, h3⟩⟩
    · exact ⟨rfl, _, rfl, a, _, _, _, rfl, rfl, SqT.of h, at_of (j := 0) rfl rfl, rfl, _, rfl, iteF_of (dS ne) h3⟩
  obtain ⟨k1, k1s, hG1, nd1, kl1, mem1⟩ := pp
  rw [List.length_map, alen] at kl1
  rw [List.length_map, alen, List.take_length] at mem1
  have hp1 := k1.k _ _ hp (by simp)
  refine ⟨_, rfl, p, rfl, ⟨_, SqL.of hp1⟩, fun D2 hD2 => dc_list (K := K) (a := p) (xs := as.map V.ref) (fun j G' => Kp [] G G' ∧ ∃ ks : List Int, G' D2 = some (.dK (ks.map trK)) ∧ ks.Nodup ∧ ks.length ≤ j ∧ ∀ x, x ∈ ks ↔ x ∈ named true (L.take j))
    ⟨.new hD2, [], upd_same, List.nodup_nil, Nat.le_refl _, fun x => by simp [named]⟩ (fun j G' _ p => SqL.of (p.1.k _ _ hp1 (by simp))) (fun j y G' hj pp => ?_) (fun G' pp => ?_)⟩
  · obtain ⟨a, ha, rfl⟩ := mapAt hj
    rcases turn true D2 G j a G' k1 hD2 ha pp with ⟨i, xs, h, kvs, h1, h2, h3⟩ | ⟨s, xs, h, ne, h3⟩
    · exact ⟨rfl, _, rfl, a, _, _, _, rfl, rfl, SqT.of h, at_of (j := 0) rfl rfl, rfl, _, rfl, iteT_of (dSs _) ⟨_, rfl, a, _, _, _, rfl, rfl, SqT.of h, at_of (j := 1) rfl rfl, kvs, Sum.inl i, rfl, h1, h2, h3⟩⟩
    · exact ⟨rfl, _, rfl, a, _, _, _, rfl, rfl, SqT.of h, at_of (j := 0) rfl rfl, rfl, _, rfl, iteF_of (dS ne) h3⟩
  obtain ⟨k2, k2s, hG2, nd2, kl2, mem2⟩ := pp
  rw [List.length_map, alen] at kl2
  rw [List.length_map, alen, List.take_length] at mem2
  have hD1' := k2.k _ _ hG1 (by simp)
  have ek : ∀ ks : List Int, (ks.map trK).map (fun kv => kV kv.1) = ks.map V.int := fun ks => by rw [List.map_map]; rfl
  refine ⟨_, rfl, D1, _, rfl, hD1', fun l1 hl1 => ?_⟩
  rw [ek]
  have kA := Kp.new (M := []) (o := .lst (k1s.map V.int)) hl1
  refine ⟨l1, k1s, rfl, SqL.of upd_same, by omega, fun ys r1 pm1 le1 hr1 => ?_⟩
  have kB := Kp.new (M := []) (o := .lst (ys.map V.int)) hr1
  have kAB := kA.trans kB
  refine ⟨_, rfl, D2, _, rfl, kAB.k _ _ hG2 (by simp), fun l2 hl2 => ?_⟩
  rw [ek]
  have kC := Kp.new (M := []) (o := .lst (k2s.map V.int)) hl2
  refine ⟨l2, k2s, rfl, SqL.of upd_same, by omega, fun zs r2 pm2 le2 hr2 => ⟨(by show 2 ≤ sizeLine; decide), fun r hr => ?_⟩⟩
  have kD := Kp.new (M := []) (o := .lst (zs.map V.int)) hr2
  have kE := Kp.new (M := []) (o := .tup [.ref r1, .ref r2]) hr
  refine q ys zs r _ (sortd nd1 pm1 le1) (fun x => (pm1.mem_iff).trans (mem1 x)) (sortd nd2 pm2 le2) (fun x => (pm2.mem_iff).trans (mem2 x)) (((((k1.trans k2).trans kAB).trans kC).trans kD).trans kE) ?_
  exact .tup upd_same (.cons (.lst (((kC.trans kD).trans kE).k _ _ upd_same (by simp)) (hasInts _)) (.cons (.lst (kE.k _ _ upd_same (by simp)) (hasInts _)) .nil))
end

/-! ### falling plans -/
def fallsO (dn st : List Bool) : Opn → Bool
  | .tab _ => true
  | .stp i => st.getD i false
  | .fil _ q => dn.getD q false
  | .map _ q => dn.getD q false
  | .join _ q r => dn.getD q false && dn.getD r false
  | .uni q r => dn.getD q false && dn.getD r false
  | .grp ks ts q => !ks.isEmpty && (ts.isEmpty && dn.getD q false)
  | .anti _ _ _ => false
  | .minus _ _ => false
theorem bl_at {L : List Bool} {i : Nat} (h : i < L.length) : atI (L.map V.bl) (i : Int) = some (.bl (L.getD i false)) := at_of rfl (by
  rw [List.getElem?_map, List.getElem?_eq_getElem h]
  simp [h])
def spFalls : Sp := fun vs H Q _ => ∃ (oa da sa : Addr) (o : Opn) (dn st : List Bool) (N : Addr → Prop) (wd sp sz : List Nat) (s : Nat), vs = [.ref oa, .ref da, .ref sa] ∧ OpAt N H o oa ∧ H da = some (.lst (dn.map V.bl)) ∧ H sa = some (.lst (st.map V.bl)) ∧ OpOk wd sp sz o s ∧ sz.length = dn.length ∧ sp.length = st.length ∧
  ∀ G, Kp [] H G → Q (.bl (fallsO dn st o)) G
theorem prs_empty {α : Type} {R : α → Addr → Prop} : ∀ {as : List Addr} {xs : List α}, Prs R as xs → (as.map V.ref).isEmpty = xs.isEmpty
  | [], [], _ => rfl
  | _ :: _, _ :: _, _ => rfl
  | [], _ :: _, h => h.elim
  | _ :: _, [], h => h.elim
theorem prs_pos {α : Type} {R : α → Addr → Prop} : ∀ {as : List Addr} {xs : List α}, Prs R as xs → decide ((0 : Int) < (((as.map V.ref).length : Nat) : Int)) = !xs.isEmpty
  | [], [], _ => rfl
  | _ :: _, _ :: _, _ => by rw [List.map_cons, List.length_cons]; exact decide_eq_true (by omega)
  | [], _ :: _, h => h.elim
  | _ :: _, [], h => h.elim
structure TFall (mg : Str → Option Value) : Prop where
  n_len : mg "len" = none
  n_all : mg "all" = none
section
variable {P : Program} {w : World} {K : PySem.W.Frag} {mg : Str → Option Value} {base : Heap}
theorem ok_is_falling (D : GD K mg "is_falling" sD_is_falling ["operation", "done", "steps"]) (T : TFall mg) : Cal P w K mg base 1 "is_falling" spFalls [] := by
  refine D.cal sc_is_falling (fun vs H Q E h => ?_) (fun f cdv A outer s0 H vs Q E hr h => ?_)
  · obtain ⟨oa, da, sa, o, dn, st, N, wd, sp, sz, s, rfl, _⟩ := h
    rfl
  obtain ⟨oa, da, sa, o, dn, st, N, wd, sp, sz, s, rfl, ho, hd, hs, hok, lz, ls, q⟩ := h
  refine ⟨_, (pss_cons (ps_set (i := 3) sc_is_falling.nd rfl (Or.inl rfl) (pe_ix ix_tup (pv 0) pe_int (fun _ _ => rfl)))
    (pss_cons (ps_if (pt_cmpR op_eq (pv 3) pe_str (nomark _)) (pss_one (ps_ret pe_bl)) pss_nil)
    (pss_cons (ps_if (pt_cmpR op_eq (pv 3) pe_str (nomark _)) (pss_one (ps_ret (pe_ix ix_list (pv 2) (pe_ix ix_tup (pv 0) pe_int (fun _ _ => rfl)) (fun _ _ => rfl)))) pss_nil)
    (pss_cons (ps_if (pt_cmpR op_in_seq (pv 3) (pe_tup (pa_cons pe_str (pa_cons pe_str pa_nil))) (by rfl)) (pss_one (ps_ret (pe_ix ix_list (pv 1) (pe_ix ix_tup (pv 0) pe_int (fun _ _ => rfl)) (fun _ _ => rfl)))) pss_nil)
    (pss_cons (ps_if (pt_cmpR op_eq (pv 3) pe_str (nomark _)) (pss_one (ps_ret (pe_and (pe_ix ix_list (pv 1) (pe_ix ix_tup (pv 0) pe_int (fun _ _ => rfl)) (fun _ _ => rfl)) (pe_one (pe_ix ix_list (pv 1) (pe_ix ix_tup (pv 0) pe_int (fun _ _ => rfl)) (fun _ _ => rfl)))))) pss_nil)
    (pss_cons (ps_if (pt_cmpR op_eq (pv 3) pe_str (nomark _)) (pss_one (ps_ret (pe_and (pe_ix ix_list (pv 1) (pe_ix ix_tup (pv 0) pe_int (fun _ _ => rfl)) (fun _ _ => rfl)) (pe_one (pe_ix ix_list (pv 1) (pe_ix ix_tup (pv 0) pe_int (fun _ _ => rfl)) (fun _ _ => rfl)))))) pss_nil)
    (pss_cons (ps_if (pt_cmpR op_eq (pv 3) pe_str (nomark _)) (pss_one (ps_ret (pe_and (pe_cmpR op_gt (pe_callB call_len_seq (by rfl) T.n_len (by decide +kernel) (pa_cons (pe_ix ix_tup (pv 0) pe_int (fun _ _ => rfl)) pa_nil)) pe_int (nomark _)) (pe_and (pe_notT (pe_ix ix_tup (pv 0) pe_int (fun _ _ => rfl))) (pe_one (pe_ix ix_list (pv 1) (pe_ix ix_tup (pv 0) pe_int (fun _ _ => rfl)) (fun _ _ => rfl))))))) pss_nil)
    (pss_one (ps_ret pe_bl))))))))), ?_⟩
  have e2 : (2 : Nat) ≤ sizeLine := by decide
  have hi := hok.idx
  rw [lz] at hi
  cases o with
  | tab i =>
    have ho : H oa = some (.tup [.str "table", .int (i : Int)]) := ho
    refine ⟨_, rfl, oa, _, _, _, rfl, rfl, SqT.of ho, rfl, ?_⟩
    refine ⟨_, rfl, rfl, _, rfl, iteT_of (dSs _) ?_⟩
    exact q _ .refl
  | stp i =>
    have ho : H oa = some (.tup [.str "step", .int (i : Int)]) := ho
    have k : Kp [] H H := .refl
    have hs' : i < st.length := by
      have := (List.getElem?_eq_some_iff.mp hok).1
      omega
    refine ⟨_, rfl, oa, _, _, _, rfl, rfl, SqT.of ho, rfl, ?_⟩
    refine ⟨_, rfl, rfl, _, rfl, iteF_of (dS (by decide +kernel)) ?_⟩
    refine ⟨_, rfl, rfl, _, rfl, iteT_of (dSs _) ?_⟩
    exact ⟨_, rfl, _, rfl, oa, _, _, _, rfl, rfl, SqT.of (k.t _ _ ho), rfl, sa, _, _, _, rfl, rfl, SqL.of (k.k _ _ hs (by simp)), bl_at hs', q _ k⟩
  | fil e a =>
    obtain ⟨x, ho, _⟩ := ho
    refine ⟨_, rfl, oa, _, _, _, rfl, rfl, SqT.of ho, rfl, ?_⟩
    refine ⟨_, rfl, rfl, _, rfl, iteF_of (dS (by decide +kernel)) ?_⟩
    refine ⟨_, rfl, rfl, _, rfl, iteF_of (dS (by decide +kernel)) ?_⟩
    refine ⟨_, rfl, e2, fun tp htp => ⟨tp, _, rfl, .inr (SqT.of upd_same), rfl, rfl, _, rfl, iteT_of (by decide +kernel) ?_⟩⟩
    have k := Kp.new (M := []) (o := .tup [.str "filter", .str "map"]) htp
    exact ⟨_, rfl, _, rfl, oa, _, _, _, rfl, rfl, SqT.of (k.t _ _ ho), rfl, da, _, _, _, rfl, rfl, SqL.of (k.k _ _ hd (by simp)), bl_at hi, q _ k⟩
  | map es a =>
    obtain ⟨x, ho, _⟩ := ho
    refine ⟨_, rfl, oa, _, _, _, rfl, rfl, SqT.of ho, rfl, ?_⟩
    refine ⟨_, rfl, rfl, _, rfl, iteF_of (dS (by decide +kernel)) ?_⟩
    refine ⟨_, rfl, rfl, _, rfl, iteF_of (dS (by decide +kernel)) ?_⟩
    refine ⟨_, rfl, e2, fun tp htp => ⟨tp, _, rfl, .inr (SqT.of upd_same), rfl, rfl, _, rfl, iteT_of (by decide +kernel) ?_⟩⟩
    have k := Kp.new (M := []) (o := .tup [.str "filter", .str "map"]) htp
    exact ⟨_, rfl, _, rfl, oa, _, _, _, rfl, rfl, SqT.of (k.t _ _ ho), rfl, da, _, _, _, rfl, rfl, SqL.of (k.k _ _ hd (by simp)), bl_at hi, q _ k⟩
  | join e a b =>
    obtain ⟨x, ho, _⟩ := ho
    refine ⟨_, rfl, oa, _, _, _, rfl, rfl, SqT.of ho, rfl, ?_⟩
    refine ⟨_, rfl, rfl, _, rfl, iteF_of (dS (by decide +kernel)) ?_⟩
    refine ⟨_, rfl, rfl, _, rfl, iteF_of (dS (by decide +kernel)) ?_⟩
    refine ⟨_, rfl, e2, fun tp htp => ⟨tp, _, rfl, .inr (SqT.of upd_same), rfl, rfl, _, rfl, iteF_of (by decide +kernel) ?_⟩⟩
    have k := Kp.new (M := []) (o := .tup [.str "filter", .str "map"]) htp
    refine ⟨_, rfl, rfl, _, rfl, iteT_of (dSs _) ?_⟩
    refine ⟨_, rfl, _, rfl, oa, _, _, _, rfl, rfl, SqT.of (k.t _ _ ho), rfl, da, _, _, _, rfl, rfl, SqL.of (k.k _ _ hd (by simp)), bl_at hi.1, _, rfl, ?_⟩
    cases c : dn.getD a false with
    | false =>
      refine iteF ?_
      have := q _ k
      simp only [fallsO, c, Bool.false_and] at this
      exact this
    | true =>
      refine iteT ⟨_, rfl, _, rfl, oa, _, _, _, rfl, rfl, SqT.of (k.t _ _ ho), rfl, da, _, _, _, rfl, rfl, SqL.of (k.k _ _ hd (by simp)), bl_at hi.2, ?_⟩
      have := q _ k
      simp only [fallsO, c, Bool.true_and] at this
      exact this
  | uni a b =>
    have ho : H oa = some (.tup [.str "union", .int (a : Int), .int (b : Int)]) := ho
    refine ⟨_, rfl, oa, _, _, _, rfl, rfl, SqT.of ho, rfl, ?_⟩
    refine ⟨_, rfl, rfl, _, rfl, iteF_of (dS (by decide +kernel)) ?_⟩
    refine ⟨_, rfl, rfl, _, rfl, iteF_of (dS (by decide +kernel)) ?_⟩
    refine ⟨_, rfl, e2, fun tp htp => ⟨tp, _, rfl, .inr (SqT.of upd_same), rfl, rfl, _, rfl, iteF_of (by decide +kernel) ?_⟩⟩
    have k := Kp.new (M := []) (o := .tup [.str "filter", .str "map"]) htp
    refine ⟨_, rfl, rfl, _, rfl, iteF_of (dS (by decide +kernel)) ?_⟩
    refine ⟨_, rfl, rfl, _, rfl, iteT_of (dSs _) ?_⟩
    refine ⟨_, rfl, _, rfl, oa, _, _, _, rfl, rfl, SqT.of (k.t _ _ ho), rfl, da, _, _, _, rfl, rfl, SqL.of (k.k _ _ hd (by simp)), bl_at hi.1, _, rfl, ?_⟩
    cases c : dn.getD a false with
    | false =>
      refine iteF ?_
      have := q _ k
      simp only [fallsO, c, Bool.false_and] at this
      exact this
    | true =>
      refine iteT ⟨_, rfl, _, rfl, oa, _, _, _, rfl, rfl, SqT.of (k.t _ _ ho), rfl, da, _, _, _, rfl, rfl, SqL.of (k.k _ _ hd (by simp)), bl_at hi.2, ?_⟩
      have := q _ k
      simp only [fallsO, c, Bool.true_and] at this
      exact this
  | grp ks ts a =>
    obtain ⟨l, m, ho, ⟨as, hl, _, pr⟩, bs, hm, _, pr2⟩ := ho
    obtain ⟨n, hn, ko, to, _⟩ := hok
    refine ⟨_, rfl, oa, _, _, _, rfl, rfl, SqT.of ho, rfl, ?_⟩
    refine ⟨_, rfl, rfl, _, rfl, iteF_of (dS (by decide +kernel)) ?_⟩
    refine ⟨_, rfl, rfl, _, rfl, iteF_of (dS (by decide +kernel)) ?_⟩
    refine ⟨_, rfl, e2, fun tp htp => ⟨tp, _, rfl, .inr (SqT.of upd_same), rfl, rfl, _, rfl, iteF_of (by decide +kernel) ?_⟩⟩
    have k := Kp.new (M := []) (o := .tup [.str "filter", .str "map"]) htp
    refine ⟨_, rfl, rfl, _, rfl, iteF_of (dS (by decide +kernel)) ?_⟩
    refine ⟨_, rfl, rfl, _, rfl, iteF_of (dS (by decide +kernel)) ?_⟩
    refine ⟨_, rfl, rfl, _, rfl, iteT_of (dSs _) ?_⟩
    refine ⟨_, rfl, oa, _, _, _, rfl, rfl, SqT.of (k.t _ _ ho), rfl, l, _, rfl, .inl (SqL.of (k.k _ _ hl (by simp))), _, _, rfl, rfl, _, rfl, ?_⟩
    rw [prs_pos pr]
    cases c : ks.isEmpty with
    | true =>
      refine iteF ?_
      have := q _ k
      simp only [fallsO, c] at this
      exact this
    | false =>
      refine iteT ⟨_, rfl, oa, _, _, _, rfl, rfl, SqT.of (k.t _ _ ho), rfl, _, .inl ⟨_, SqL.of (k.k _ _ hm (by simp)), rfl⟩, _, rfl, ?_⟩
      rw [prs_empty pr2]
      cases c2 : ts.isEmpty with
      | false =>
        refine iteF ?_
        have := q _ k
        simp only [fallsO, c, c2] at this
        exact this
      | true =>
        refine iteT ⟨_, rfl, _, rfl, oa, _, _, _, rfl, rfl, SqT.of (k.t _ _ ho), rfl, da, _, _, _, rfl, rfl, SqL.of (k.k _ _ hd (by simp)), bl_at hi, ?_⟩
        have := q _ k
        simp only [fallsO, c, c2] at this
        exact this
  | anti e a b =>
    obtain ⟨x, ho, _⟩ := ho
    refine ⟨_, rfl, oa, _, _, _, rfl, rfl, SqT.of ho, rfl, ?_⟩
    refine ⟨_, rfl, rfl, _, rfl, iteF_of (dS (by decide +kernel)) ?_⟩
    refine ⟨_, rfl, rfl, _, rfl, iteF_of (dS (by decide +kernel)) ?_⟩
    refine ⟨_, rfl, e2, fun tp htp => ⟨tp, _, rfl, .inr (SqT.of upd_same), rfl, rfl, _, rfl, iteF_of (by decide +kernel) ?_⟩⟩
    have k := Kp.new (M := []) (o := .tup [.str "filter", .str "map"]) htp
    refine ⟨_, rfl, rfl, _, rfl, iteF_of (dS (by decide +kernel)) ?_⟩
    refine ⟨_, rfl, rfl, _, rfl, iteF_of (dS (by decide +kernel)) ?_⟩
    refine ⟨_, rfl, rfl, _, rfl, iteF_of (dS (by decide +kernel)) ?_⟩
    exact q _ k
  | minus a b =>
    have ho : H oa = some (.tup [.str "minus", .int (a : Int), .int (b : Int)]) := ho
    refine ⟨_, rfl, oa, _, _, _, rfl, rfl, SqT.of ho, rfl, ?_⟩
    refine ⟨_, rfl, rfl, _, rfl, iteF_of (dS (by decide +kernel)) ?_⟩
    refine ⟨_, rfl, rfl, _, rfl, iteF_of (dS (by decide +kernel)) ?_⟩
    refine ⟨_, rfl, e2, fun tp htp => ⟨tp, _, rfl, .inr (SqT.of upd_same), rfl, rfl, _, rfl, iteF_of (by decide +kernel) ?_⟩⟩
    have k := Kp.new (M := []) (o := .tup [.str "filter", .str "map"]) htp
    refine ⟨_, rfl, rfl, _, rfl, iteF_of (dS (by decide +kernel)) ?_⟩
    refine ⟨_, rfl, rfl, _, rfl, iteF_of (dS (by decide +kernel)) ?_⟩
    refine ⟨_, rfl, rfl, _, rfl, iteF_of (dS (by decide +kernel)) ?_⟩
    exact q _ k
theorem ok_lfalls (D : GD K mg "_law_falls" sD_Lfalls ["operation", "done", "steps"]) (T : TFall mg) : Cal P w K mg base 1 "_law_falls" spFalls [] := by
  refine D.cal sc_Lfalls (fun vs H Q E h => ?_) (fun f cdv A outer s0 H vs Q E hr h => ?_)
  · obtain ⟨oa, da, sa, o, dn, st, N, wd, sp, sz, s, rfl, _⟩ := h
    rfl
  obtain ⟨oa, da, sa, o, dn, st, N, wd, sp, sz, s, rfl, ho, hd, hs, hok, lz, ls, q⟩ := h
  refine ⟨_, (pss_cons (ps_set (i := 3) sc_Lfalls.nd rfl (Or.inl rfl) (pe_ix ix_tup (pv 0) pe_int (fun _ _ => rfl)))
    (pss_cons (ps_if (pt_cmpR op_eq (pv 3) pe_str (nomark _)) (pss_one (ps_ret pe_bl)) pss_nil)
    (pss_cons (ps_if (pt_cmpR op_eq (pv 3) pe_str (nomark _)) (pss_one (ps_ret (pe_ix ix_list (pv 2) (pe_ix ix_tup (pv 0) pe_int (fun _ _ => rfl)) (fun _ _ => rfl)))) pss_nil)
    (pss_cons (ps_if (pt_cmpR op_in_seq (pv 3) (pe_tup (pa_cons pe_str (pa_cons pe_str pa_nil))) (by rfl)) (pss_one (ps_ret (pe_ix ix_list (pv 1) (pe_ix ix_tup (pv 0) pe_int (fun _ _ => rfl)) (fun _ _ => rfl)))) pss_nil)
    (pss_cons (ps_if (pt_cmpR op_eq (pv 3) pe_str (nomark _)) (pss_one (ps_ret (pe_and (pe_ix ix_list (pv 1) (pe_ix ix_tup (pv 0) pe_int (fun _ _ => rfl)) (fun _ _ => rfl)) (pe_one (pe_ix ix_list (pv 1) (pe_ix ix_tup (pv 0) pe_int (fun _ _ => rfl)) (fun _ _ => rfl)))))) pss_nil)
    (pss_cons (ps_if (pt_cmpR op_eq (pv 3) pe_str (nomark _)) (pss_one (ps_ret (pe_and (pe_ix ix_list (pv 1) (pe_ix ix_tup (pv 0) pe_int (fun _ _ => rfl)) (fun _ _ => rfl)) (pe_one (pe_ix ix_list (pv 1) (pe_ix ix_tup (pv 0) pe_int (fun _ _ => rfl)) (fun _ _ => rfl)))))) pss_nil)
    (pss_one (ps_ret (pe_and (pe_cmpR op_eq (pv 3) pe_str (nomark _)) (pe_and (pe_cmpR (op_neD hr.units) (pe_ix ix_tup (pv 0) pe_int (fun _ _ => rfl)) (pe_lst pa_nil) (nomark _)) (pe_and (pe_cmpR (op_eqD hr.units) (pe_ix ix_tup (pv 0) pe_int (fun _ _ => rfl)) (pe_lst pa_nil) (nomark _)) (pe_one (pe_ix ix_list (pv 1) (pe_ix ix_tup (pv 0) pe_int (fun _ _ => rfl)) (fun _ _ => rfl)))))))))))))), ?_⟩
  have e2 : (2 : Nat) ≤ sizeLine := by decide
  have hi := hok.idx
  rw [lz] at hi
  cases o with
  | tab i =>
    have ho : H oa = some (.tup [.str "table", .int (i : Int)]) := ho
    refine ⟨_, rfl, oa, _, _, _, rfl, rfl, SqT.of ho, rfl, ?_⟩
    refine ⟨_, rfl, rfl, _, rfl, iteT_of (dSs _) ?_⟩
    exact q _ .refl
  | stp i =>
    have ho : H oa = some (.tup [.str "step", .int (i : Int)]) := ho
    have k : Kp [] H H := .refl
    have hs' : i < st.length := by
      have := (List.getElem?_eq_some_iff.mp hok).1
      omega
    refine ⟨_, rfl, oa, _, _, _, rfl, rfl, SqT.of ho, rfl, ?_⟩
    refine ⟨_, rfl, rfl, _, rfl, iteF_of (dS (by decide +kernel)) ?_⟩
    refine ⟨_, rfl, rfl, _, rfl, iteT_of (dSs _) ?_⟩
    exact ⟨_, rfl, _, rfl, oa, _, _, _, rfl, rfl, SqT.of (k.t _ _ ho), rfl, sa, _, _, _, rfl, rfl, SqL.of (k.k _ _ hs (by simp)), bl_at hs', q _ k⟩
  | fil e a =>
    obtain ⟨x, ho, _⟩ := ho
    refine ⟨_, rfl, oa, _, _, _, rfl, rfl, SqT.of ho, rfl, ?_⟩
    refine ⟨_, rfl, rfl, _, rfl, iteF_of (dS (by decide +kernel)) ?_⟩
    refine ⟨_, rfl, rfl, _, rfl, iteF_of (dS (by decide +kernel)) ?_⟩
    refine ⟨_, rfl, e2, fun tp htp => ⟨tp, _, rfl, .inr (SqT.of upd_same), rfl, rfl, _, rfl, iteT_of (by decide +kernel) ?_⟩⟩
    have k := Kp.new (M := []) (o := .tup [.str "filter", .str "map"]) htp
    exact ⟨_, rfl, _, rfl, oa, _, _, _, rfl, rfl, SqT.of (k.t _ _ ho), rfl, da, _, _, _, rfl, rfl, SqL.of (k.k _ _ hd (by simp)), bl_at hi, q _ k⟩
  | map es a =>
    obtain ⟨x, ho, _⟩ := ho
    refine ⟨_, rfl, oa, _, _, _, rfl, rfl, SqT.of ho, rfl, ?_⟩
    refine ⟨_, rfl, rfl, _, rfl, iteF_of (dS (by decide +kernel)) ?_⟩
    refine ⟨_, rfl, rfl, _, rfl, iteF_of (dS (by decide +kernel)) ?_⟩
    refine ⟨_, rfl, e2, fun tp htp => ⟨tp, _, rfl, .inr (SqT.of upd_same), rfl, rfl, _, rfl, iteT_of (by decide +kernel) ?_⟩⟩
    have k := Kp.new (M := []) (o := .tup [.str "filter", .str "map"]) htp
    exact ⟨_, rfl, _, rfl, oa, _, _, _, rfl, rfl, SqT.of (k.t _ _ ho), rfl, da, _, _, _, rfl, rfl, SqL.of (k.k _ _ hd (by simp)), bl_at hi, q _ k⟩
  | join e a b =>
    obtain ⟨x, ho, _⟩ := ho
    refine ⟨_, rfl, oa, _, _, _, rfl, rfl, SqT.of ho, rfl, ?_⟩
    refine ⟨_, rfl, rfl, _, rfl, iteF_of (dS (by decide +kernel)) ?_⟩
    refine ⟨_, rfl, rfl, _, rfl, iteF_of (dS (by decide +kernel)) ?_⟩
    refine ⟨_, rfl, e2, fun tp htp => ⟨tp, _, rfl, .inr (SqT.of upd_same), rfl, rfl, _, rfl, iteF_of (by decide +kernel) ?_⟩⟩
    have k := Kp.new (M := []) (o := .tup [.str "filter", .str "map"]) htp
    refine ⟨_, rfl, rfl, _, rfl, iteT_of (dSs _) ?_⟩
    refine ⟨_, rfl, _, rfl, oa, _, _, _, rfl, rfl, SqT.of (k.t _ _ ho), rfl, da, _, _, _, rfl, rfl, SqL.of (k.k _ _ hd (by simp)), bl_at hi.1, _, rfl, ?_⟩
    cases c : dn.getD a false with
    | false =>
      refine iteF ?_
      have := q _ k
      simp only [fallsO, c, Bool.false_and] at this
      exact this
    | true =>
      refine iteT ⟨_, rfl, _, rfl, oa, _, _, _, rfl, rfl, SqT.of (k.t _ _ ho), rfl, da, _, _, _, rfl, rfl, SqL.of (k.k _ _ hd (by simp)), bl_at hi.2, ?_⟩
      have := q _ k
      simp only [fallsO, c, Bool.true_and] at this
      exact this
  | uni a b =>
    have ho : H oa = some (.tup [.str "union", .int (a : Int), .int (b : Int)]) := ho
    refine ⟨_, rfl, oa, _, _, _, rfl, rfl, SqT.of ho, rfl, ?_⟩
    refine ⟨_, rfl, rfl, _, rfl, iteF_of (dS (by decide +kernel)) ?_⟩
    refine ⟨_, rfl, rfl, _, rfl, iteF_of (dS (by decide +kernel)) ?_⟩
    refine ⟨_, rfl, e2, fun tp htp => ⟨tp, _, rfl, .inr (SqT.of upd_same), rfl, rfl, _, rfl, iteF_of (by decide +kernel) ?_⟩⟩
    have k := Kp.new (M := []) (o := .tup [.str "filter", .str "map"]) htp
    refine ⟨_, rfl, rfl, _, rfl, iteF_of (dS (by decide +kernel)) ?_⟩
    refine ⟨_, rfl, rfl, _, rfl, iteT_of (dSs _) ?_⟩
    refine ⟨_, rfl, _, rfl, oa, _, _, _, rfl, rfl, SqT.of (k.t _ _ ho), rfl, da, _, _, _, rfl, rfl, SqL.of (k.k _ _ hd (by simp)), bl_at hi.1, _, rfl, ?_⟩
    cases c : dn.getD a false with
    | false =>
      refine iteF ?_
      have := q _ k
      simp only [fallsO, c, Bool.false_and] at this
      exact this
    | true =>
      refine iteT ⟨_, rfl, _, rfl, oa, _, _, _, rfl, rfl, SqT.of (k.t _ _ ho), rfl, da, _, _, _, rfl, rfl, SqL.of (k.k _ _ hd (by simp)), bl_at hi.2, ?_⟩
      have := q _ k
      simp only [fallsO, c, Bool.true_and] at this
      exact this
  | grp ks ts a =>
    obtain ⟨l, m, ho, ⟨as, hl, _, pr⟩, bs, hm, _, pr2⟩ := ho
    obtain ⟨n, hn, ko, to, _⟩ := hok
    refine ⟨_, rfl, oa, _, _, _, rfl, rfl, SqT.of ho, rfl, ?_⟩
    refine ⟨_, rfl, rfl, _, rfl, iteF_of (dS (by decide +kernel)) ?_⟩
    refine ⟨_, rfl, rfl, _, rfl, iteF_of (dS (by decide +kernel)) ?_⟩
    refine ⟨_, rfl, e2, fun tp htp => ⟨tp, _, rfl, .inr (SqT.of upd_same), rfl, rfl, _, rfl, iteF_of (by decide +kernel) ?_⟩⟩
    have k := Kp.new (M := []) (o := .tup [.str "filter", .str "map"]) htp
    refine ⟨_, rfl, rfl, _, rfl, iteF_of (dS (by decide +kernel)) ?_⟩
    refine ⟨_, rfl, rfl, _, rfl, iteF_of (dS (by decide +kernel)) ?_⟩
    have kd := (LstOf.has (N := fun _ => True) (f := Ex.data) ⟨as, hl, trivial, pr⟩ fun e a => ExAt.has e a : Has H (.ref l) _)
    have td := (LstOf.has (N := fun _ => True) (f := Tot.data) ⟨bs, hm, trivial, pr2⟩ fun e a => TotAt.has e a : Has H (.ref m) _)
    refine ⟨_, rfl, rfl, _, rfl, iteT_of (dSs _) ?_⟩
    refine ⟨_, rfl, oa, _, _, _, rfl, rfl, SqT.of (k.t _ _ ho), rfl, (by show 0 ≤ sizeLine; decide), fun z1 hz1 => ?_⟩
    have k1 := k.newer (o := .lst []) hz1
    refine ⟨_, _, Has.dp _ _ (Has.kp k1 _ _ kd), .lst (SqL.of upd_same) .nil, exs_shaped ko, by decide +kernel, _, rfl, ?_⟩
    rw [eqv_nil, List.isEmpty_map]
    cases c : ks.isEmpty with
    | true =>
      refine iteF ?_
      have := q _ k1
      simp only [fallsO, c] at this
      exact this
    | false =>
      refine iteT ⟨_, rfl, oa, _, _, _, rfl, rfl, SqT.of (k1.t _ _ ho), rfl, (by show 0 ≤ sizeLine; decide), fun z2 hz2 => ?_⟩
      have k2 := k1.newer (o := .lst []) hz2
      refine ⟨_, _, Has.dp _ _ (Has.kp k2 _ _ td), .lst (SqL.of upd_same) .nil, tots_shaped to, by decide +kernel, _, rfl, ?_⟩
      rw [eqv_nil, List.isEmpty_map]
      cases c2 : ts.isEmpty with
      | false =>
        refine iteF ?_
        have := q _ k2
        simp only [fallsO, c, c2] at this
        exact this
      | true =>
        refine iteT ⟨_, rfl, _, rfl, oa, _, _, _, rfl, rfl, SqT.of (k2.t _ _ ho), rfl, da, _, _, _, rfl, rfl, SqL.of (k2.k _ _ hd (by simp)), bl_at hi, ?_⟩
        have := q _ k2
        simp only [fallsO, c, c2] at this
        exact this
  | anti e a b =>
    obtain ⟨x, ho, _⟩ := ho
    refine ⟨_, rfl, oa, _, _, _, rfl, rfl, SqT.of ho, rfl, ?_⟩
    refine ⟨_, rfl, rfl, _, rfl, iteF_of (dS (by decide +kernel)) ?_⟩
    refine ⟨_, rfl, rfl, _, rfl, iteF_of (dS (by decide +kernel)) ?_⟩
    refine ⟨_, rfl, e2, fun tp htp => ⟨tp, _, rfl, .inr (SqT.of upd_same), rfl, rfl, _, rfl, iteF_of (by decide +kernel) ?_⟩⟩
    have k := Kp.new (M := []) (o := .tup [.str "filter", .str "map"]) htp
    refine ⟨_, rfl, rfl, _, rfl, iteF_of (dS (by decide +kernel)) ?_⟩
    refine ⟨_, rfl, rfl, _, rfl, iteF_of (dS (by decide +kernel)) ?_⟩
    exact ⟨_, rfl, rfl, _, rfl, iteF_of (dS (by decide +kernel)) (q _ k)⟩
  | minus a b =>
    have ho : H oa = some (.tup [.str "minus", .int (a : Int), .int (b : Int)]) := ho
    refine ⟨_, rfl, oa, _, _, _, rfl, rfl, SqT.of ho, rfl, ?_⟩
    refine ⟨_, rfl, rfl, _, rfl, iteF_of (dS (by decide +kernel)) ?_⟩
    refine ⟨_, rfl, rfl, _, rfl, iteF_of (dS (by decide +kernel)) ?_⟩
    refine ⟨_, rfl, e2, fun tp htp => ⟨tp, _, rfl, .inr (SqT.of upd_same), rfl, rfl, _, rfl, iteF_of (by decide +kernel) ?_⟩⟩
    have k := Kp.new (M := []) (o := .tup [.str "filter", .str "map"]) htp
    refine ⟨_, rfl, rfl, _, rfl, iteF_of (dS (by decide +kernel)) ?_⟩
    refine ⟨_, rfl, rfl, _, rfl, iteF_of (dS (by decide +kernel)) ?_⟩
    exact ⟨_, rfl, rfl, _, rfl, iteF_of (dS (by decide +kernel)) (q _ k)⟩
end

/-! ### falling of all plans -/
def doneP (st : List Bool) (L : List Opn) : List Bool := L.foldl (fun dn o => dn ++ [fallsO dn st o]) []
def fallAll (Ls : List (List Opn)) : List Bool := Ls.foldl (fun st L => st ++ [(doneP st L).all id]) []
theorem doneP_snoc (st : List Bool) (L : List Opn) (o : Opn) : doneP st (L ++ [o]) = doneP st L ++ [fallsO (doneP st L) st o] := by
  unfold doneP
  rw [List.foldl_append]
  rfl
theorem fallAll_snoc (Ls : List (List Opn)) (L : List Opn) : fallAll (Ls ++ [L]) = fallAll Ls ++ [(doneP (fallAll Ls) L).all id] := by
  unfold fallAll
  rw [List.foldl_append]
  rfl
theorem doneP_len (st : List Bool) (L : List Opn) : (doneP st L).length = L.length := by
  have : ∀ (L : List Opn) (dn : List Bool), (L.foldl (fun dn o => dn ++ [fallsO dn st o]) dn).length = dn.length + L.length := by
    intro L
    induction L with
    | nil => intro dn; rfl
    | cons o L ih =>
      intro dn
      rw [List.foldl_cons, ih, List.length_append, List.length_singleton, List.length_cons]
      omega
  rw [doneP, this]
  simp
theorem fallAll_len (Ls : List (List Opn)) : (fallAll Ls).length = Ls.length := by
  have : ∀ (Ls : List (List Opn)) (st : List Bool), (Ls.foldl (fun st L => st ++ [(doneP st L).all id]) st).length = st.length + Ls.length := by
    intro Ls
    induction Ls with
    | nil => intro st; rfl
    | cons o L ih =>
      intro st
      rw [List.foldl_cons, ih, List.length_append, List.length_singleton, List.length_cons]
      omega
  rw [fallAll, this]
  simp
/-- plans in a list -/
def PlansAt (N : Addr → Prop) (H : Hp) (Ls : List (List Opn)) (as : List Addr) : Prop := Prs (fun L a => PlanAt N H L a) as Ls
def PlansOk (wd : List Nat) (Ls : List (List Opn)) : Prop := ∀ (j : Nat) (L : List Opn), Ls[j]? = some L → ∃ sp sz rs, PlanOk wd sp L sz rs ∧ sp.length = j ∧ L.length ≤ 50
def spFalling : Sp := fun vs H Q _ => ∃ (pa : Addr) (as : List Addr) (N : Addr → Prop) (wd : List Nat) (Ls : List (List Opn)), vs = [.ref pa] ∧ H pa = some (.lst (as.map V.ref)) ∧ PlansAt N H Ls as ∧ PlansOk wd Ls ∧ Ls.length ≤ 50 ∧
  ∀ (r : Addr) (G : Hp), Kp [] H G → H r = none → G r = some (.lst ((fallAll Ls).map V.bl)) → Q (.ref r) G
section
variable {P : Program} {w : World} {K : PySem.W.Frag} {mg : Str → Option Value} {base : Heap}
theorem ok_falling (D : GD K mg "falling" sD_falling ["plans"]) (T : TFall mg) (c_is_falling : Cal P w K mg base 1 "is_falling" spFalls []) : Cal P w K mg base 2 "falling" spFalling [] := by
  refine D.cal sc_falling (fun vs H Q E h => ?_) (fun f cdv A outer s0 H vs Q E hr h => ?_)
  · obtain ⟨pa, as, N, wd, Ls, rfl, _⟩ := h
    rfl
  obtain ⟨pa, as, N, wd, Ls, rfl, hpa, pr, ok, lL, q⟩ := h
  refine ⟨_, (pss_cons (ps_set (i := 1) sc_falling.nd rfl (Or.inl rfl) (pe_lst pa_nil))
    (pss_cons (ps_for PassesOwn.never rfl (pi_list (pv 0)) (pg_name (i := 2) sc_falling.nd rfl (Or.inl rfl)) (pss_cons (ps_set (i := 3) sc_falling.nd rfl (Or.inl rfl) (pe_lst pa_nil))
    (pss_cons (ps_for PassesOwn.never rfl (pi_list (pv 2)) (pg_name (i := 4) sc_falling.nd rfl (Or.inl rfl)) (pss_one (ps_expr (pe_bm PySem.F.plainAttrs_list PySem.F.slot_list_append PySem.F.type_list_append mt_append (pv 3) (pa_cons (pe_c c_is_falling hr (by omega) rfl (pa_cons (pv 4) (pa_cons (pv 3) (pa_cons (pv 1) pa_nil)))) pa_nil)))))
    (pss_one (ps_expr (pe_bm PySem.F.plainAttrs_list PySem.F.slot_list_append PySem.F.type_list_append mt_append (pv 1) (pa_cons (pe_callB (cr_all rfl) (by rfl) T.n_all (by decide +kernel) (pa_cons (pv 3) pa_nil)) pa_nil)))))))
    (pss_one (ps_ret (pv 1))))), ?_⟩
  have alen := Prs.len pr
  refine ⟨(by show 0 ≤ sizeLine; decide), fun sa hsa => ?_⟩
  have k1 : Kp [] H (upd H sa (.lst [])) := .new hsa
  refine ⟨_, rfl, pa, rfl, ⟨_, SqL.of (k1.k _ _ hpa (by simp))⟩, for_list (K := K) (a := pa) (xs := as.map V.ref) (fun i σ G => ∃ v2 v3 v4 : Option V, σ = [some (.ref pa), some (.ref sa), v2, v3, v4] ∧ Kp [] H G ∧ G sa = some (.lst ((fallAll (Ls.take i)).map V.bl)))
    ⟨none, none, none, rfl, k1, upd_same⟩ (fun i σ G _ p => by obtain ⟨_, _, _, _, k, _⟩ := p; exact SqL.of (k.k _ _ hpa (by simp))) (fun i x σ G hx p => ?_) (fun σ G p => ?_)⟩
  · obtain ⟨v2, v3, v4, rfl, kG, hG⟩ := p
    obtain ⟨b, hb, rfl⟩ := mapAt hx
    obtain ⟨L, hL, os, hbp, hN, pr2⟩ := Prs.of pr hb
    obtain ⟨sp, sz, rs, pok, spl, L50⟩ := ok i L hL
    have iL := (List.getElem?_eq_some_iff.mp hL).1
    rw [takeS hL, fallAll_snoc]
    obtain ⟨st, hst⟩ : ∃ st, fallAll (Ls.take i) = st := ⟨_, rfl⟩
    have stl : st.length = i := by rw [← hst, fallAll_len, List.length_take]; omega
    rw [hst] at hG ⊢
    refine ⟨(by show 0 ≤ sizeLine; decide), fun da hda => ?_⟩
    have nds : da ≠ sa := fun z => by rw [z, hG] at hda; cases hda
    have k2 : Kp [] G (upd G da (.lst [])) := .new hda
    refine ⟨_, rfl, b, rfl, ⟨_, SqL.of ((kG.trans k2).k _ _ hbp (by simp))⟩, for_list (K := K) (a := b) (xs := os.map V.ref) (fun j σ G' => ∃ v4 : Option V, σ = [some (.ref pa), some (.ref sa), some (.ref b), some (.ref da), v4] ∧ Kp [] G G' ∧ G' da = some (.lst ((doneP st (L.take j)).map V.bl)))
      ⟨v4, rfl, k2, upd_same⟩ (fun j σ G' _ p => by obtain ⟨_, _, k, _⟩ := p; exact SqL.of ((kG.trans k).k _ _ hbp (by simp))) (fun j y σ G' hy p => ?_) (fun σ G' p => ?_)⟩
    · obtain ⟨v4, rfl, k', hd'⟩ := p
      obtain ⟨oa, hoa, rfl⟩ := mapAt hy
      obtain ⟨o, ho, at'⟩ := Prs.of pr2 hoa
      have jL := (List.getElem?_eq_some_iff.mp ho).1
      obtain ⟨s, r, hs, hr', hok, _⟩ := pok.ops j o ho
      have hzl := pok.lz
      rw [takeS ho, doneP_snoc]
      refine ⟨_, rfl, .inl ⟨rfl, _, SqL.of hd'⟩, _, rfl, _, rfl, _, rfl, oa, da, sa, o, _, st, N, wd, sp, sz.take j, s, rfl, at'.kp (kG.trans k') (fun l _ => List.not_mem_nil), hd', k'.k _ _ hG (by simp), hok, ?_, by omega, fun G2 k2' => ?_⟩
      · rw [doneP_len, List.length_take, List.length_take]; omega
      · refine ⟨da, _, _, rfl, rfl, k2'.k _ _ hd' (by simp), small1000 (by rw [List.length_map, doneP_len, List.length_take]; omega), some (.ref oa), rfl, (k'.trans k2').mt hda, ?_⟩
        rw [upd_same, List.map_append]
        rfl
    · obtain ⟨v4, rfl, k', hd'⟩ := p
      rw [List.length_map, Prs.len pr2, List.take_length] at hd'
      have hs' := k'.k _ _ hG (by simp)
      refine ⟨_, rfl, .inl ⟨rfl, _, SqL.of hs'⟩, _, rfl, da, _, rfl, SqL.of hd', sa, _, _, rfl, rfl, hs', small1000 (by rw [List.length_map]; omega), some (.ref b), some (.ref da), v4, rfl, (kG.trans k').mt hsa, ?_⟩
      rw [upd_same, List.map_append]
      rfl
  · obtain ⟨v2, v3, v4, rfl, kG, hG⟩ := p
    rw [List.length_map, alen, List.take_length] at hG
    exact ⟨_, rfl, q sa G kG hsa hG⟩
end

/-! ### the end: the law's def is run where no repr is under way -/
/-- the law's body, run on the script, answers True -/
def LawAt (P : Program) (w : World) (K : PySem.W.Frag) (mg : Str → Option Value) (base : Heap) (most : Nat) (N : List Str) (st : Stmt) (f : Addr) : Prop :=
  ∀ (cdv : Value) (s : Shared) (H : Hp) (a : Addr) (ns : List Int), ns.length ≤ most → SqL K H a (ns.map V.int) →
    ∃ t, PSs (cxOf CX0 P w K mg base N "law" (defScope st) f cdv callerA [] s H E0).nox (defBody st) t ∧ t { nx := fun _ _ => False, rt := fun v _ => v = V.bl true } (start N [V.ref a]) H
section
variable {P : Program} {w : World} {K : PySem.W.Frag} {mg : Str → Option Value} {base : Heap}
theorem LawAt.run {most : Nat} {N : List Str} {st : Stmt} {f a : Addr} {fd : FuncData} {s : Shared} {H : Hp} {ns : List Int} (L : LawAt P w K mg base most N st f) (D : Fun K "law" "law" st f fd) (S : FnScope N ["script"] (defScope st))
    (e0 : Env0 P w K mg base callerA [] s H) (hb : ∀ (s : Shared) (u : Value), BindsTo s fd ⟨[u], []⟩ [("script", u)]) (hl : ns.length ≤ most) (hS : SqL K H a (ns.map V.int)) :
    codeAny (model P w) callerA (.call (.ref f) ⟨[.ref a], []⟩) (CR CX0 [] P w H s (fun v _ => v = V.bl true) E0) s := by
  obtain ⟨oc, od, kV, doc, pm, an, cdv, ct, osl, rfl, at_f, rec_f⟩ := D.ex
  have inK : K.In s.heap := e0.mod.kin.keeps fun b o z => (e0.bs b o z).1
  have noL : s.heap.NoLimit := e0.mod.nolimit.keeps fun b o z => (e0.bs b o z).1
  have kinds : ∀ y ∈ ([("script", Value.ref a)] : List (Str × Value)), (defScope st).names.lookup y.1 = some .local ∨ ((defScope st).names.lookup y.1 = some .cell ∧ ((cellsFrom (s.heap.objs.size + 1) (defScope st).names []).lookup y.1).isSome = true) := by
    rintro ⟨x, v⟩ hy
    rcases S.par x (by rw [(Prod.mk.inj (List.mem_singleton.mp hy)).1]; exact List.mem_cons_self) with c | c
    · exact Or.inl c
    · exact Or.inr ⟨c, PySem.W.cellsFrom_some _ _ _ (Or.inl c)⟩
  refine codeAny_call_function (show (callerA).depth < recursionLimit by decide) (inK _ _ at_f) rfl S.co S.gen rfl (PySem.W.codeRec_of inK rec_f) (hb s (.ref a) _ _ _ _ ?_)
  refine wpAny_newFunctionEnv_cells S.kind kinds fun env hE s1 x => ?_
  subst hE
  refine ⟨noL.keeps x.toInCall.keep, codeAny_func ?_⟩
  obtain ⟨t, ht, q⟩ := L cdv s H a ns hl hS
  have J : Inv (cxOf CX0 P w K mg base N "law" (defScope st) f cdv callerA [] s H E0) [] (start N [V.ref a]) H s1 := inv_start S rfl e0 rfl (show Vals [V.ref a] [Value.ref a] from .cons rfl .nil) x
  refine wpAny_mono (ht.nox.run [] s1 _ H _ J q) (fun fl s2 z => ?_) fun e s2 z => z
  cases fl with
  | ret u =>
    obtain ⟨v, τ, H2, J2, rv, q2⟩ := z
    exact ⟨v, H2, J2.os, J2.bare, J2.base, J2.hok, rv, q2⟩
  | next => obtain ⟨_, _, _, no⟩ := z; exact no.elim
  | brk => obtain ⟨_, _, _, no⟩ := z; exact no.elim
  | cont => obtain ⟨_, _, _, no⟩ := z; exact no.elim
/-- the script, where it is no object of the module -/
def scr (K : PySem.W.Frag) (a : Addr) (vs : List Value) (ns : List Int) : Hp := fun b => if b = a ∧ (K.lookup a).isNone = true then some (.frz { cls := .type "list", data := .seq vs.toArray } (.lst (ns.map V.int))) else none
theorem scr_some {a b : Addr} {vs : List Value} {ns : List Int} {o : HO} (h : scr K a vs ns b = some o) : b = a ∧ K.lookup a = none ∧ o = .frz { cls := .type "list", data := .seq vs.toArray } (.lst (ns.map V.int)) := by
  unfold scr at h
  split at h
  · rename_i c
    exact ⟨c.1, Option.isNone_iff_eq_none.mp c.2, (Option.some.inj h).symm⟩
  · cases h
end
theorem walk_at {l : PySem.W.OpenLaw} {n : Nat} {q : Program} {loose : List Str} {XP : (Str → Option Value) → Heap → Prop} {YP : World → Heap → Prop} {d : DefRec} {K : Params → PySem.W.Frag} {N : List Str} {st : Stmt}
    (hn : l.most = some n) (hn2 : n ≤ sizeLine) (hdf : d.params.defaults = []) (S : FnScope N ["script"] (defScope st)) (hY : ∀ (w : World) (h : Heap), YP w h → (K w.params).In h)
    (F : ∀ (w : World) (mg : Str → Option Value) (fa : Addr) (h : Heap), (K w.params).In h → h.Ns mainGlobals mg → mg d.name = some (.ref fa) →
      ∃ fd : FuncData, Fun (K w.params) "law" "law" st fa fd ∧ (∀ (s : Shared) (u : Value), BindsTo s fd ⟨[u], []⟩ [("script", u)]) ∧ ∀ base : Heap, (K w.params).In base → base.Ns mainGlobals mg → LawAt l.prog w (K w.params) mg base n N st fa) :
    PySem.W.WalkO q loose XP YP l.row.toRowW d [] (fun f vs => PySem.call f vs) := by
  refine Att.attach_call hn hdf fun w s₀ s mg mb fa o pm cd doc a vs ns G Y ho hod hcd hmg ha hi hlen hgens => ?_
  have inK := hY w _ Y
  obtain ⟨fd, D, hb, hL⟩ := F w mg fa _ inK G.T.g hmg
  have rv := vals_ints hi
  have ok : HOk l.prog w (scr (K w.params) a vs ns) s.heap := fun b u z => by
    obtain ⟨rfl, _, rfl⟩ := scr_some z
    exact ⟨ha, by rw [List.length_map]; exact Nat.le_trans hlen hn2, vs, _, rv, ha⟩
  have hide : ∀ {b : Addr} {u : Obj}, s.heap.get? b = some u → (∀ z, scr (K w.params) a vs ns b = some z → False) → (hidT s.heap (scr (K w.params) a vs ns)).get? b = some u := fun {b u} e no => hidT_get e (by
    cases z : scr (K w.params) a vs ns b with
    | none => rfl
    | some v => exact (no v z).elim)
  have names : ∀ {b : Addr} {m : Str → Option Value}, s.heap.Ns b m → (hidT s.heap (scr (K w.params) a vs ns)).Ns b m := by
    rintro b m ⟨u, es, ep, e, dt, r⟩
    refine ⟨u, es, ep, hide e fun v z => ?_, dt, r⟩
    obtain ⟨rfl, _, _⟩ := scr_some z
    rw [ha] at e
    cases e
    have no : Data.seq vs.toArray _ = Data.dict es ep := dt
    cases no
  have inB : (K w.params).In (hidT s.heap (scr (K w.params) a vs ns)) := fun b u e => hide (inK b u e) fun v z => by
    obtain ⟨rfl, no, _⟩ := scr_some z
    rw [no] at e
    cases e
  have md : Mod (K w.params) mg (hidT s.heap (scr (K w.params) a vs ns)) := ⟨inB, names G.T.g, ⟨mb, names G.T.b, G.T.builtins⟩, by obtain ⟨mc, m1, m2⟩ := G.T.nolimit; exact ⟨mc, names m1, m2⟩⟩
  have sq : SqL (K w.params) (scr (K w.params) a vs ns) a (ns.map V.int) := by
    cases hk : (K w.params).lookup a with
    | some u =>
      have e := inK a u hk
      rw [ha] at e
      cases e
      exact Or.inr ⟨_, vs.toArray, _, hk, rfl, rfl, rfl, by rw [List.size_toArray, hi.length]; omega, by simpa using rv⟩
    | none => exact Or.inl (Or.inr ⟨_, if_pos ⟨rfl, by rw [hk]; rfl⟩⟩)
  have e0 : Env0 l.prog w (K w.params) mg (hidT s.heap (scr (K w.params) a vs ns)) callerA [] s (scr (K w.params) a vs ns) :=
    ⟨rfl, md, fun b u z => of_hidT z, Nat.le_of_eq (hidT_size _ _), trivial, fun b z => absurd (show b ∈ ([] : List Addr) from z) List.not_mem_nil, ok, AllBare.of_eq hgens⟩
  refine codeAny_mono ((hL _ inB (names G.T.g)).run D S e0 hb hlen sq) fun r s2 z => ?_
  cases r with
  | error e => exact False.elim z
  | ok fl =>
    cases fl with
    | next => exact False.elim z
    | brk => exact False.elim z
    | cont => exact False.elim z
    | ret u =>
      obtain ⟨v, H2, os2, bare2, un, ok2, ru, isT⟩ := z
      have isT : v = V.bl true := isT
      subst isT
      obtain rfl : u = Value.bool true := ru
      refine ⟨rfl, OldK.of_keep fun b u e => ?_, os2, bare2⟩
      cases hz : scr (K w.params) a vs ns b with
      | none => exact un.keep b u e hz (fun m => absurd (show b ∈ ([] : List Addr) from m) List.not_mem_nil) List.not_mem_nil
      | some v =>
        obtain ⟨rfl, _, rfl⟩ := scr_some hz
        obtain ⟨e2, _⟩ := ok2 _ _ (un.frzs _ _ _ hz)
        rw [ha] at e
        cases e
        exact e2

/-! ### the law -/
structure TAll96 (mg : Str → Option Value) : Prop where
  n_range : mg "range" = none
  n_all : mg "all" = none
theorem bls_has {H : Hp} : ∀ T : List Bool, HasAll H (T.map V.bl) (T.map PyData.bool)
  | [] => .nil
  | b :: T => .cons (.bl b) (bls_has T)
theorem fit_all {α : Type} (f : α → PyData) (n : Nat) (h : ∀ x, fitsD n (f x)) : ∀ T : List α, fitsAll n (T.map f)
  | [] => trivial
  | x :: T => ⟨h x, fit_all f n h T⟩
section
variable {P : Program} {w : World} {K : PySem.W.Frag} {mg : Str → Option Value} {base : Heap}
theorem ok_law {f : Addr} (T : TAll96 mg) (c_Ldraw : Cal P w K mg base 1 "_law_draw" (spDraw K) []) (c_Lnext : Cal P w K mg base 1 "_law_next" spNext []) (c_Lplan : Cal P w K mg base 8 "_law_plan" spPlan []) (c_Lfalls : Cal P w K mg base 1 "_law_falls" spFalls [])
    (c_Lnamed : Cal P w K mg base 1 "_law_named" spNamed []) (c_uses : Cal P w K mg base 1 "uses" spUses []) (c_falling : Cal P w K mg base 2 "falling" spFalling []) (c_Lsame : Cal P w K mg base 4 "_law_same" (spSame 4) []) :
    LawAt P w K mg base 63 ["script", "draw", "widths", "plans", "sizes", "due", "k", "plan", "size", "done", "operation"] sD_law f := by
  intro cdv s0 H a ns hlen hS
  have hr : Room 39 (callerA.deeper (envOfC "law" (defScope sD_law) s0.heap.objs.size f cdv)) := (⟨rfl, by decide, by decide⟩ : Room 40 callerA).deeper _
  have e2 : (2 : Nat) ≤ sizeLine := by decide
  have e0 : (0 : Nat) ≤ sizeLine := by decide
  refine ⟨_, (pss_cons (ps_set (i := 1) sc_law.nd rfl (Or.inl rfl) (pe_c c_Ldraw hr (by omega) rfl (pa_cons (pv 0) pa_nil)))
    (pss_cons (ps_set (i := 2) sc_law.nd rfl (Or.inl rfl) (pe_lst (pa_cons (pe_op op_add pe_int (pe_c c_Lnext hr (by omega) rfl (pa_cons (pv 1) (pa_cons pe_int pa_nil)))) (pa_cons (pe_op op_add pe_int (pe_c c_Lnext hr (by omega) rfl (pa_cons (pv 1) (pa_cons pe_int pa_nil)))) pa_nil))))
    (pss_cons (ps_set (i := 3) sc_law.nd rfl (Or.inl rfl) (pe_lst pa_nil))
    (pss_cons (ps_set (i := 4) sc_law.nd rfl (Or.inl rfl) (pe_lst pa_nil))
    (pss_cons (ps_set (i := 5) sc_law.nd rfl (Or.inl rfl) (pe_lst pa_nil))
    (pss_cons (ps_for PassesOwn.never rfl (pi_range1 (by rfl) T.n_range (pa_cons (pe_op op_add pe_int (pe_c c_Lnext hr (by omega) rfl (pa_cons (pv 1) (pa_cons pe_int pa_nil)))) pa_nil)) (pg_name (i := 6) sc_law.nd rfl (Or.inl rfl)) (pss_cons (ps_asg (pe_c c_Lplan hr (by omega) rfl (pa_cons (pv 1) (pa_cons (pv 2) (pa_cons (pv 4) (pa_cons pe_int pa_nil))))) (pg_tup rfl (pgs_cons (pg_name (i := 7) sc_law.nd rfl (Or.inl rfl)) (pgs_cons (pg_name (i := 8) sc_law.nd rfl (Or.inl rfl)) pgs_nil))))
    (pss_cons (ps_expr (pe_bm PySem.F.plainAttrs_list PySem.F.slot_list_append PySem.F.type_list_append mt_append (pv 3) (pa_cons (pv 7) pa_nil)))
    (pss_cons (ps_expr (pe_bm PySem.F.plainAttrs_list PySem.F.slot_list_append PySem.F.type_list_append mt_append (pv 4) (pa_cons (pv 8) pa_nil)))
    (pss_cons (ps_set (i := 9) sc_law.nd rfl (Or.inl rfl) (pe_lst pa_nil))
    (pss_cons (ps_for PassesOwn.never rfl (pi_list (pv 7)) (pg_name (i := 10) sc_law.nd rfl (Or.inl rfl)) (pss_one (ps_expr (pe_bm PySem.F.plainAttrs_list PySem.F.slot_list_append PySem.F.type_list_append mt_append (pv 9) (pa_cons (pe_c c_Lfalls hr (by omega) rfl (pa_cons (pv 10) (pa_cons (pv 9) (pa_cons (pv 5) pa_nil)))) pa_nil)))))
    (pss_cons (ps_expr (pe_bm PySem.F.plainAttrs_list PySem.F.slot_list_append PySem.F.type_list_append mt_append (pv 5) (pa_cons (pe_callB (cr_all rfl) (by rfl) T.n_all (by decide +kernel) (pa_cons (pv 9) pa_nil)) pa_nil)))
    (pss_one (ps_if (pt_not (pt_val (pe_c c_Lsame hr (by omega) rfl (pa_cons (pe_c c_uses hr (by omega) rfl (pa_cons (pv 7) pa_nil)) (pa_cons (pe_tup (pa_cons (pe_c c_Lnamed hr (by omega) rfl (pa_cons (pv 7) (pa_cons pe_str pa_nil))) (pa_cons (pe_c c_Lnamed hr (by omega) rfl (pa_cons (pv 7) (pa_cons pe_str pa_nil))) pa_nil))) pa_nil))))) (pss_one (ps_ret pe_bl)) pss_nil)))))))))
    (pss_one (ps_ret (pe_c c_Lsame hr (by omega) rfl (pa_cons (pe_c c_falling hr (by omega) rfl (pa_cons (pv 3) pa_nil)) (pa_cons (pv 5) pa_nil))))))))))), ?_⟩
  refine ⟨_, rfl, a, ns, rfl, hS, fun d sc H1 same _ _ dr1 => ?_⟩
  refine ⟨_, rfl, d, sc, 2, rfl, by decide, by decide, dr1, fun x o1 x0 x2 no1 dr2 => ⟨_, _, rfl, rfl, _, rfl, d, sc, 2, rfl, by decide, by decide, dr2, fun y o2 y0 y2 no2 dr3 => ⟨_, _, rfl, rfl, e2, fun wl hwl => ?_⟩⟩⟩
  obtain ⟨wd, hwd, bw, lw⟩ : ∃ wd : List Nat, wd.map nV = [.int (1 + x), .int (1 + y)] ∧ (∀ s ∈ wd, s ≤ 4) ∧ wd.length = 2 := by
    refine ⟨[(1 + x).toNat, (1 + y).toNat], ?_, fun s hs => ?_, rfl⟩
    · have h1 : (((1 + x).toNat : Nat) : Int) = 1 + x := by omega
      have h2 : (((1 + y).toNat : Nat) : Int) = 1 + y := by omega
      show [V.int _, V.int _] = _
      rw [h1, h2]
    · rcases List.mem_cons.mp hs with rfl | hs
      · omega
      · rw [List.mem_singleton.mp hs]; omega
  have newd : wd ≠ [] := fun z => by rw [z] at lw; cases lw
  obtain ⟨H3, hH3⟩ : ∃ H3, upd (upd H1 d o1) d o2 = H3 := ⟨_, rfl⟩
  have hw4 : (upd H3 wl (.lst (wd.map nV))) wl = some (.lst (wd.map nV)) := upd_same
  have dr4 := dr3.put (o := .lst (wd.map nV)) (dr3.ne_new hwl).1 (dr3.ne_new hwl).2
  rw [hH3] at dr4 hwl
  have eH : upd (upd (upd H1 d o1) d o2) wl (.lst [(fun i j => V.int (i + j)) 1 x, (fun i j => V.int (i + j)) 1 y]) = upd H3 wl (.lst (wd.map nV)) := by rw [hH3, hwd]
  rw [eH]
  obtain ⟨H4, hH4⟩ : ∃ H4, upd H3 wl (.lst (wd.map nV)) = H4 := ⟨_, rfl⟩
  rw [hH4] at hw4 dr4 ⊢
  refine ⟨e0, fun pl hpl => ⟨e0, fun sl hsl => ⟨e0, fun ul hul => ?_⟩⟩⟩
  have k1 : Kp [] H4 (upd H4 pl (.lst [])) := .new hpl
  have k2 := k1.newer (o := .lst []) hsl
  have k3 := k2.newer (o := .lst []) hul
  have nsp : sl ≠ pl := fun z => by rw [z, upd_same] at hsl; cases hsl
  have nus : ul ≠ sl := fun z => by rw [z, upd_same] at hul; cases hul
  have nup : ul ≠ pl := fun z => by rw [upd_ne (z ▸ nus), z, upd_same] at hul; cases hul
  have hsl4 : H4 sl = none := k1.free hsl (by simp)
  have hul4 : H4 ul = none := k2.free hul (by simp)
  have h5p : (upd (upd (upd H4 pl (.lst [])) sl (.lst [])) ul (.lst [])) pl = some (.lst []) := by rw [upd_ne nup.symm, upd_ne nsp.symm, upd_same]
  have h5s : (upd (upd (upd H4 pl (.lst [])) sl (.lst [])) ul (.lst [])) sl = some (.lst []) := by rw [upd_ne nus.symm, upd_same]
  have h5u : (upd (upd (upd H4 pl (.lst [])) sl (.lst [])) ul (.lst [])) ul = some (.lst []) := upd_same
  obtain ⟨H5, hH5⟩ : ∃ H5, upd (upd (upd H4 pl (.lst [])) sl (.lst [])) ul (.lst []) = H5 := ⟨_, rfl⟩
  rw [hH5] at k3 h5p h5s h5u ⊢
  have dr5 : Drw d sc H5 := dr4.kp k3 (by simp) (by simp)
  have ned : ∀ {x : Addr}, H4 x = none → x ≠ d ∧ x ≠ sc := fun {x} e => ⟨fun z => (dr4.ne_new e).1 z.symm, fun z => (dr4.ne_new e).2 z.symm⟩
  have nwd := dr4.noN hw4
  refine ⟨_, rfl, d, sc, 3, rfl, by decide, by decide, dr5, fun z o3 z0 z3 no3 dr6 => ⟨_, _, rfl, rfl, 1 + z, rfl, by omega, by omega, ?_⟩⟩
  obtain ⟨mn, hmn⟩ : ∃ mn : Nat, 1 + z = (mn : Int) := ⟨(1 + z).toNat, by omega⟩
  rw [hmn, Int.toNat_natCast]
  have k56 : Kp [d] H5 (upd H5 d o3) := dr5.step
  have k46 : Kp [d] H4 (upd H5 d o3) := (k3.wide fun b m => absurd m List.not_mem_nil).trans k56
  refine for_range (lo := 0) (n := mn) (fun i σ G => ∃ (v6 v7 v8 v9 v10 : Option V) (Ls : List (List Opn)) (sp : List Nat) (as : List Addr), σ = [some (.ref a), some (.ref d), some (.ref wl), some (.ref pl), some (.ref sl), some (.ref ul), v6, v7, v8, v9, v10] ∧ Kp [d] H4 G ∧ Drw d sc G ∧ Ls.length = i ∧ sp.length = i ∧
      (∀ s ∈ sp, s ≤ 4) ∧ PlansOk wd Ls ∧ G pl = some (.lst (as.map V.ref)) ∧ PlansAt (fun l => l ≠ d ∧ l ≠ pl ∧ l ≠ sl ∧ l ≠ ul) G Ls as ∧ G sl = some (.lst (sp.map nV)) ∧ G ul = some (.lst ((fallAll Ls).map V.bl)))
    ⟨none, none, none, none, none, [], [], [], rfl, k46, dr6, rfl, rfl, fun s h => (by cases h), fun j L h => by simp at h, k56.k _ _ h5p (by simpa using (ned hpl).1), trivial, k56.k _ _ h5s (by simpa using (ned hsl4).1), k56.k _ _ h5u (by simpa using (ned hul4).1)⟩ (fun i σ G hi pp => ?_) (fun σ G pp => ?_)
  · obtain ⟨v6, v7, v8, v9, v10, Ls, sp, as, rfl, kG, drG, lL, lS, bS, ok, hpG, pr, hsG, huG⟩ := pp
    have hwG := kG.k _ _ hw4 (by simpa using nwd)
    refine ⟨_, rfl, _, rfl, _, rfl, d, sc, wl, sl, wd, sp, 7, rfl, drG, hwG, hsG, newd, by omega, by omega, bw, bS, by decide, by decide, fun L sz rs s p r G1 pok l1 l7 hs r130 pat hr1 k1' dr1 => ?_⟩
    have nl : ∀ l, G l = none → l ≠ d ∧ l ≠ pl ∧ l ≠ sl ∧ l ≠ ul := fun l e => ⟨(fun z => (drG.ne_new e).1 z.symm), (fun z => by rw [z, hpG] at e; cases e), (fun z => by rw [z, hsG] at e; cases e), fun z => by rw [z, huG] at e; cases e⟩
    have pat := pat.mono nl
    obtain ⟨os, hp1, npp, pr2⟩ := id pat
    have s4 : s ≤ 4 := pok.s4 s (List.mem_of_getElem? hs)
    have l7 : L.length ≤ 7 := by omega
    refine ⟨r, _, rfl, SqT.of hr1, rfl, _, _, rfl, _, _, rfl, rfl, ?_⟩
    have hpl1 := k1'.k _ _ hpG (by simpa using (ned hpl).1)
    have hsl1 := k1'.k _ _ hsG (by simpa using (ned hsl4).1)
    have hul1 := k1'.k _ _ huG (by simpa using (ned hul4).1)
    have asl := Prs.len pr
    have kp1 : Kp [pl] G1 (upd G1 pl (.lst (as.map V.ref ++ [V.ref p]))) := .put (by simp) hpl1 fun xs z => by cases z
    have hslP := kp1.k _ _ hsl1 (by simpa using nsp)
    have kp2 : Kp [sl] (upd G1 pl (.lst (as.map V.ref ++ [V.ref p]))) (upd (upd G1 pl (.lst (as.map V.ref ++ [V.ref p]))) sl (.lst (sp.map nV ++ [.int (s : Int)]))) := .put (by simp) hslP fun xs z => by cases z
    refine ⟨_, rfl, .inl ⟨rfl, _, SqL.of hpl1⟩, _, rfl, pl, _, _, rfl, rfl, hpl1, small1000 (by rw [List.length_map]; omega), ?_⟩
    refine ⟨_, rfl, .inl ⟨rfl, _, SqL.of hslP⟩, _, rfl, sl, _, _, rfl, rfl, hslP, small1000 (by rw [List.length_map]; omega), ?_⟩
    have kall : Kp [pl, sl] G1 (upd (upd G1 pl (.lst (as.map V.ref ++ [V.ref p]))) sl (.lst (sp.map nV ++ [.int (s : Int)]))) := (kp1.wide fun b m => by rw [List.mem_singleton.mp m]; simp).trans (kp2.wide fun b m => by rw [List.mem_singleton.mp m]; simp)
    have hul2 := kall.k _ _ hul1 (by simp [nup, nus])
    have hpl2 := kp2.k _ _ (upd_same (H := G1) (a := pl) (o := .lst (as.map V.ref ++ [V.ref p]))) (by simpa using nsp.symm)
    have hsl2 := upd_same (H := upd G1 pl (.lst (as.map V.ref ++ [V.ref p]))) (a := sl) (o := .lst (sp.map nV ++ [.int (s : Int)]))
    have k42 : Kp [d] H4 (upd (upd G1 pl (.lst (as.map V.ref ++ [V.ref p]))) sl (.lst (sp.map nV ++ [.int (s : Int)]))) := ((kG.trans k1').mt hpl).mt hsl4
    have dr2 := (dr1.put (o := .lst (as.map V.ref ++ [V.ref p])) (ned hpl).1.symm (ned hpl).2.symm).put (o := .lst (sp.map nV ++ [.int (s : Int)])) (ned hsl4).1.symm (ned hsl4).2.symm
    have pat2 := pat.kp kall fun l n => by simp [n.2.1, n.2.2.1]
    have pr' : PlansAt (fun l => l ≠ d ∧ l ≠ pl ∧ l ≠ sl ∧ l ≠ ul) (upd (upd G1 pl (.lst (as.map V.ref ++ [V.ref p]))) sl (.lst (sp.map nV ++ [.int (s : Int)]))) (Ls ++ [L]) (as ++ [p]) :=
      Prs.snoc pat2 (Prs.imp (fun L a h => (PlanAt.kp h k1' fun l n => by simpa using n.1).kp kall fun l n => by simp [n.2.1, n.2.2.1]) pr)
    obtain ⟨G2, hG2⟩ : ∃ G2, upd (upd G1 pl (.lst (as.map V.ref ++ [V.ref p]))) sl (.lst (sp.map nV ++ [.int (s : Int)])) = G2 := ⟨_, rfl⟩
    rw [hG2] at hul2 hpl2 hsl2 k42 dr2 pat2 pr' ⊢
    obtain ⟨st, hst⟩ : ∃ st, fallAll Ls = st := ⟨_, rfl⟩
    have stl : st.length = sp.length := by rw [← hst, fallAll_len, lL, lS]
    rw [hst] at hul2
    refine ⟨e0, fun da hda => ?_⟩
    obtain ⟨os2, hp2, _, pr3⟩ := id pat2
    have ndu : ul ≠ da := fun z => by rw [z, hda] at hul2; cases hul2
    refine ⟨_, rfl, p, rfl, ⟨_, SqL.of ((Kp.new (M := []) hda).k _ _ hp2 (by simp))⟩, for_list (K := K) (a := p) (xs := os2.map V.ref) (fun j σ G' => ∃ v10 : Option V, σ = [some (.ref a), some (.ref d), some (.ref wl), some (.ref pl), some (.ref sl), some (.ref ul), some (.int (0 + (i : Int))), some (.ref p), some (.int (s : Int)), some (.ref da), v10] ∧ Kp [] G2 G' ∧ G' da = some (.lst ((doneP st (L.take j)).map V.bl)))
      ⟨v10, rfl, .new hda, upd_same⟩ (fun j σ G' _ p => by obtain ⟨_, _, k, _⟩ := p; exact SqL.of (k.k _ _ hp2 (by simp))) (fun j y σ G' hy p => ?_) (fun σ G' p => ?_)⟩
    · obtain ⟨v10, rfl, k', hd'⟩ := p
      obtain ⟨oa, hoa, rfl⟩ := mapAt hy
      obtain ⟨o, ho, at'⟩ := Prs.of pr3 hoa
      have jL := (List.getElem?_eq_some_iff.mp ho).1
      obtain ⟨s', r', hs', hr', hok, _⟩ := pok.ops j o ho
      have hzl := pok.lz
      rw [takeS ho, doneP_snoc]
      refine ⟨_, rfl, .inl ⟨rfl, _, SqL.of hd'⟩, _, rfl, _, rfl, _, rfl, oa, da, ul, o, _, st, _, wd, sp, sz.take j, s', rfl, at'.kp k' (fun l _ => List.not_mem_nil), hd', k'.k _ _ hul2 (by simp), hok, ?_, by omega, fun G3 k3' => ?_⟩
      · rw [doneP_len, List.length_take, List.length_take]; omega
      · refine ⟨da, _, _, rfl, rfl, k3'.k _ _ hd' (by simp), small1000 (by rw [List.length_map, doneP_len, List.length_take]; omega), some (.ref oa), rfl, (k'.trans k3').mt hda, ?_⟩
        rw [upd_same, List.map_append]
        rfl
    obtain ⟨v10', rfl, k', hd'⟩ := p
    rw [List.length_map, Prs.len pr3, List.take_length] at hd'
    have hul3 := k'.k _ _ hul2 (by simp)
    refine ⟨_, rfl, .inl ⟨rfl, _, SqL.of hul3⟩, _, rfl, da, _, rfl, SqL.of hd', ul, _, _, rfl, rfl, hul3, small1000 (by rw [List.length_map]; omega), ?_⟩
    have ku : Kp [ul] G' (upd G' ul (.lst (st.map V.bl ++ [.bl ((doneP st L).all id)]))) := .put (by simp) hul3 fun xs z => by cases z
    have k2u : Kp [ul] G2 (upd G' ul (.lst (st.map V.bl ++ [.bl ((doneP st L).all id)]))) := (k'.wide fun b m => absurd m List.not_mem_nil).trans ku
    have hul4' := upd_same (H := G') (a := ul) (o := .lst (st.map V.bl ++ [.bl ((doneP st L).all id)]))
    have k4u : Kp [d] H4 (upd G' ul (.lst (st.map V.bl ++ [.bl ((doneP st L).all id)]))) := (k42.trans (k'.wide fun b m => absurd m List.not_mem_nil)).mt hul4
    have dr3 := (dr2.kp k' (by simp) (by simp)).put (o := .lst (st.map V.bl ++ [.bl ((doneP st L).all id)])) (ned hul4).1.symm (ned hul4).2.symm
    obtain ⟨G4, hG4⟩ : ∃ G4, upd G' ul (.lst (st.map V.bl ++ [.bl ((doneP st L).all id)])) = G4 := ⟨_, rfl⟩
    rw [hG4] at k2u hul4' k4u dr3 ⊢
    have outU : ∀ l, (l ≠ d ∧ l ≠ pl ∧ l ≠ sl ∧ l ≠ ul) → l ∉ [ul] := fun l n => by simpa using n.2.2.2
    have pat4 := pat2.kp k2u outU
    refine ⟨_, rfl, p, _, L, rfl, pat4, by omega, fun ys zs r1 G5 uy my uz mz k5 has => ?_⟩
    refine ⟨_, rfl, p, _, L, false, rfl, pat4.kp k5 (fun l _ => List.not_mem_nil), by omega, fun ys' r2 G6 uy' my' k6 _ h6 => ?_⟩
    refine ⟨_, rfl, p, _, L, true, rfl, (pat4.kp k5 (fun l _ => List.not_mem_nil)).kp k6 (fun l _ => List.not_mem_nil), by omega, fun zs' r3 G7 uz' mz' k7 _ h7 => ⟨e2, fun tp htp => ?_⟩⟩
    obtain rfl := asc_uniq uy' uy fun x => (my' x).trans (my x).symm
    obtain rfl := asc_uniq uz' uz fun x => (mz' x).trans (mz x).symm
    have kT := Kp.new (M := []) (o := .tup [.ref r2, .ref r3]) htp
    have ly : ys'.length ≤ 50 ∧ zs'.length ≤ 50 := by
      have nd : ∀ {ys : List Int} {b : Bool}, ys.Pairwise (· < ·) → (∀ x, x ∈ ys ↔ x ∈ named b L) → ys.length ≤ 50 := fun {ys b} up m => by
        have n : ys.Nodup := up.imp fun h => by omega
        have := nd_len n fun x hx => (m x).mp hx
        have := fm_len b L
        omega
      exact ⟨nd uy' my', nd uz' mz'⟩
    refine ⟨_, _, _, 2, rfl, Has.kp ((k6.trans k7).trans kT) _ _ has, .tup upd_same (.cons (.lst ((k7.trans kT).k _ _ h6 (by simp)) (hasInts _)) (.cons (.lst (kT.k _ _ h7 (by simp)) (hasInts _)) .nil)), ?_, by decide, fun G8 k8 => ⟨_, rfl, iteF ?_⟩⟩
    · exact ⟨by show 2 ≤ 1000; decide, ⟨by rw [List.length_map]; omega, fit_all PyData.int _ (fun x => trivial) _⟩, ⟨by rw [List.length_map]; omega, fit_all PyData.int _ (fun x => trivial) _⟩, trivial⟩
    have kend : Kp [] G4 G8 := (((k5.trans k6).trans k7).trans kT).trans k8
    have kendd : Kp [d] G4 G8 := kend.wide fun b m => absurd m List.not_mem_nil
    refine ⟨_, _, _, _, _, Ls ++ [L], sp ++ [s], as ++ [p], rfl, k4u.trans kendd, dr3.kp kend (by simp) (by simp), by rw [List.length_append, lL]; rfl, by rw [List.length_append, lS]; rfl, fun x hx => ?_, fun j L' hL' => ?_, ?_, ?_, ?_, ?_⟩
    · rcases List.mem_append.mp hx with h | h
      · exact bS x h
      · rw [List.mem_singleton.mp h]; exact s4
    · by_cases hj : j < Ls.length
      · rw [List.getElem?_append_left hj] at hL'
        exact ok j L' hL'
      · have hl' := (List.getElem?_eq_some_iff.mp hL').1
        rw [List.length_append, List.length_singleton] at hl'
        have ej : j = Ls.length := by omega
        subst ej
        rw [List.getElem?_append_right (Nat.le_refl _), Nat.sub_self] at hL'
        cases hL'
        exact ⟨sp, sz, rs, pok, by omega, by omega⟩
    · rw [kend.k _ _ (k2u.k _ _ hpl2 (by simpa using nup.symm)) (by simp), List.map_append]
      rfl
    · exact Prs.imp (fun L a h => (PlanAt.kp h k2u outU).kp kend fun l _ => List.not_mem_nil) pr'
    · rw [kend.k _ _ (k2u.k _ _ hsl2 (by simpa using nus.symm)) (by simp), List.map_append]
      rfl
    · rw [fallAll_snoc, hst, kend.k _ _ hul4' (by simp), List.map_append]
      rfl
  · obtain ⟨v6, v7, v8, v9, v10, Ls, sp, as, rfl, kG, drG, lL, lS, bS, ok, hpG, pr, hsG, huG⟩ := pp
    refine ⟨_, rfl, pl, as, _, wd, Ls, rfl, hpG, pr, ok, by omega, fun r G1 k1' _ hr1 => ?_⟩
    refine ⟨_, rfl, _, _, .list ((fallAll Ls).map .bool), 1, rfl, .lst hr1 (bls_has _), .lst (k1'.k _ _ huG (by simp)) (bls_has _), ⟨by rw [List.length_map, fallAll_len]; omega, fit_all PyData.bool _ (fun x => trivial) _⟩, by decide, fun G2 k2' => rfl⟩
end

/-! ### what the top has written -/
theorem all_mk {P : Program} {w : World} {K : PySem.W.Frag} {h : Heap} {mg : Str → Option Value} {fa f_Ldraw f_Lnext f_Lsame f_Lcell f_Lexpression f_Lform f_Loperation f_Lroom f_Lplan f_Lnamed f_Lfalls f_uses f_is_falling f_falling f_law : Addr}
    {od_Ldraw an_Ldraw : Option Addr} {sl_Ldraw : Array (Option Value)} {oc_Ldraw dc_Ldraw pm_Ldraw cd_Ldraw ct_Ldraw : Value}
    {kV_Ldraw : Value}
    {od_Lnext an_Lnext : Option Addr} {sl_Lnext : Array (Option Value)} {oc_Lnext dc_Lnext pm_Lnext cd_Lnext ct_Lnext : Value}
    {kV_Lnext : Value}
    {od_Lsame an_Lsame : Option Addr} {sl_Lsame : Array (Option Value)} {oc_Lsame dc_Lsame pm_Lsame cd_Lsame ct_Lsame : Value}
    {kV_Lsame : Value}
    {od_Lcell an_Lcell : Option Addr} {sl_Lcell : Array (Option Value)} {oc_Lcell dc_Lcell pm_Lcell cd_Lcell ct_Lcell : Value}
    {kV_Lcell : Value}
    {od_Lexpression an_Lexpression : Option Addr} {sl_Lexpression : Array (Option Value)} {oc_Lexpression dc_Lexpression pm_Lexpression cd_Lexpression ct_Lexpression : Value}
    {kV_Lexpression : Value}
    {od_Lform an_Lform : Option Addr} {sl_Lform : Array (Option Value)} {oc_Lform dc_Lform pm_Lform cd_Lform ct_Lform : Value}
    {kV_Lform : Value}
    {od_Loperation an_Loperation : Option Addr} {sl_Loperation : Array (Option Value)} {oc_Loperation dc_Loperation pm_Loperation cd_Loperation ct_Loperation : Value}
    {kV_Loperation : Value}
    {od_Lroom an_Lroom : Option Addr} {sl_Lroom : Array (Option Value)} {oc_Lroom dc_Lroom pm_Lroom cd_Lroom ct_Lroom : Value}
    {kV_Lroom : Value}
    {od_Lplan an_Lplan : Option Addr} {sl_Lplan : Array (Option Value)} {oc_Lplan dc_Lplan pm_Lplan cd_Lplan ct_Lplan : Value}
    {kV_Lplan : Value}
    {od_Lnamed an_Lnamed : Option Addr} {sl_Lnamed : Array (Option Value)} {oc_Lnamed dc_Lnamed pm_Lnamed cd_Lnamed ct_Lnamed : Value}
    {kV_Lnamed : Value}
    {od_Lfalls an_Lfalls : Option Addr} {sl_Lfalls : Array (Option Value)} {oc_Lfalls dc_Lfalls pm_Lfalls cd_Lfalls ct_Lfalls : Value}
    {kV_Lfalls : Value}
    {od_uses an_uses : Option Addr} {sl_uses : Array (Option Value)} {oc_uses dc_uses pm_uses cd_uses ct_uses : Value}
    {kV_uses : Value}
    {od_is_falling an_is_falling : Option Addr} {sl_is_falling : Array (Option Value)} {oc_is_falling dc_is_falling pm_is_falling cd_is_falling ct_is_falling : Value}
    {kV_is_falling : Value}
    {od_falling an_falling : Option Addr} {sl_falling : Array (Option Value)} {oc_falling dc_falling pm_falling cd_falling ct_falling : Value}
    {kV_falling : Value}
    {od_law an_law : Option Addr} {sl_law : Array (Option Value)} {oc_law dc_law pm_law cd_law ct_law : Value}
    {kV_law : Value}
    (X : K.In h) (G : h.Ns mainGlobals mg) (hfa : mg "law" = some (.ref fa))
    (a_Ldraw : PySem.W.nsIn K mainGlobals "_law_draw" = some (some (.ref f_Ldraw)))
    (l_Ldraw : K.lookup f_Ldraw = some ⟨oc_Ldraw, od_Ldraw, .func (PySem.W.fnOf "_law_draw" "_law_draw" (defArgs sD_Ldraw) (defBody sD_Ldraw) (defScope sD_Ldraw) .none kV_Ldraw dc_Ldraw pm_Ldraw an_Ldraw cd_Ldraw ct_Ldraw), sl_Ldraw⟩)
    (c_Ldraw : PySem.W.codeIn K cd_Ldraw "_law_draw" = true)
    (k_Ldraw : PySem.W.keepIn K (.ref f_Ldraw) = true)
    (a_Lnext : PySem.W.nsIn K mainGlobals "_law_next" = some (some (.ref f_Lnext)))
    (l_Lnext : K.lookup f_Lnext = some ⟨oc_Lnext, od_Lnext, .func (PySem.W.fnOf "_law_next" "_law_next" (defArgs sD_Lnext) (defBody sD_Lnext) (defScope sD_Lnext) .none kV_Lnext dc_Lnext pm_Lnext an_Lnext cd_Lnext ct_Lnext), sl_Lnext⟩)
    (c_Lnext : PySem.W.codeIn K cd_Lnext "_law_next" = true)
    (k_Lnext : PySem.W.keepIn K (.ref f_Lnext) = true)
    (a_Lsame : PySem.W.nsIn K mainGlobals "_law_same" = some (some (.ref f_Lsame)))
    (l_Lsame : K.lookup f_Lsame = some ⟨oc_Lsame, od_Lsame, .func (PySem.W.fnOf "_law_same" "_law_same" (defArgs sD_Lsame) (defBody sD_Lsame) (defScope sD_Lsame) .none kV_Lsame dc_Lsame pm_Lsame an_Lsame cd_Lsame ct_Lsame), sl_Lsame⟩)
    (c_Lsame : PySem.W.codeIn K cd_Lsame "_law_same" = true)
    (k_Lsame : PySem.W.keepIn K (.ref f_Lsame) = true)
    (a_Lcell : PySem.W.nsIn K mainGlobals "_law_cell" = some (some (.ref f_Lcell)))
    (l_Lcell : K.lookup f_Lcell = some ⟨oc_Lcell, od_Lcell, .func (PySem.W.fnOf "_law_cell" "_law_cell" (defArgs sD_Lcell) (defBody sD_Lcell) (defScope sD_Lcell) .none kV_Lcell dc_Lcell pm_Lcell an_Lcell cd_Lcell ct_Lcell), sl_Lcell⟩)
    (c_Lcell : PySem.W.codeIn K cd_Lcell "_law_cell" = true)
    (k_Lcell : PySem.W.keepIn K (.ref f_Lcell) = true)
    (a_Lexpression : PySem.W.nsIn K mainGlobals "_law_expression" = some (some (.ref f_Lexpression)))
    (l_Lexpression : K.lookup f_Lexpression = some ⟨oc_Lexpression, od_Lexpression, .func (PySem.W.fnOf "_law_expression" "_law_expression" (defArgs sD_Lexpression) (defBody sD_Lexpression) (defScope sD_Lexpression) .none kV_Lexpression dc_Lexpression pm_Lexpression an_Lexpression cd_Lexpression ct_Lexpression), sl_Lexpression⟩)
    (c_Lexpression : PySem.W.codeIn K cd_Lexpression "_law_expression" = true)
    (k_Lexpression : PySem.W.keepIn K (.ref f_Lexpression) = true)
    (a_Lform : PySem.W.nsIn K mainGlobals "_law_form" = some (some (.ref f_Lform)))
    (l_Lform : K.lookup f_Lform = some ⟨oc_Lform, od_Lform, .func (PySem.W.fnOf "_law_form" "_law_form" (defArgs sD_Lform) (defBody sD_Lform) (defScope sD_Lform) .none kV_Lform dc_Lform pm_Lform an_Lform cd_Lform ct_Lform), sl_Lform⟩)
    (c_Lform : PySem.W.codeIn K cd_Lform "_law_form" = true)
    (k_Lform : PySem.W.keepIn K (.ref f_Lform) = true)
    (a_Loperation : PySem.W.nsIn K mainGlobals "_law_operation" = some (some (.ref f_Loperation)))
    (l_Loperation : K.lookup f_Loperation = some ⟨oc_Loperation, od_Loperation, .func (PySem.W.fnOf "_law_operation" "_law_operation" (defArgs sD_Loperation) (defBody sD_Loperation) (defScope sD_Loperation) .none kV_Loperation dc_Loperation pm_Loperation an_Loperation cd_Loperation ct_Loperation), sl_Loperation⟩)
    (c_Loperation : PySem.W.codeIn K cd_Loperation "_law_operation" = true)
    (k_Loperation : PySem.W.keepIn K (.ref f_Loperation) = true)
    (a_Lroom : PySem.W.nsIn K mainGlobals "_law_room" = some (some (.ref f_Lroom)))
    (l_Lroom : K.lookup f_Lroom = some ⟨oc_Lroom, od_Lroom, .func (PySem.W.fnOf "_law_room" "_law_room" (defArgs sD_Lroom) (defBody sD_Lroom) (defScope sD_Lroom) .none kV_Lroom dc_Lroom pm_Lroom an_Lroom cd_Lroom ct_Lroom), sl_Lroom⟩)
    (c_Lroom : PySem.W.codeIn K cd_Lroom "_law_room" = true)
    (k_Lroom : PySem.W.keepIn K (.ref f_Lroom) = true)
    (a_Lplan : PySem.W.nsIn K mainGlobals "_law_plan" = some (some (.ref f_Lplan)))
    (l_Lplan : K.lookup f_Lplan = some ⟨oc_Lplan, od_Lplan, .func (PySem.W.fnOf "_law_plan" "_law_plan" (defArgs sD_Lplan) (defBody sD_Lplan) (defScope sD_Lplan) .none kV_Lplan dc_Lplan pm_Lplan an_Lplan cd_Lplan ct_Lplan), sl_Lplan⟩)
    (c_Lplan : PySem.W.codeIn K cd_Lplan "_law_plan" = true)
    (k_Lplan : PySem.W.keepIn K (.ref f_Lplan) = true)
    (a_Lnamed : PySem.W.nsIn K mainGlobals "_law_named" = some (some (.ref f_Lnamed)))
    (l_Lnamed : K.lookup f_Lnamed = some ⟨oc_Lnamed, od_Lnamed, .func (PySem.W.fnOf "_law_named" "_law_named" (defArgs sD_Lnamed) (defBody sD_Lnamed) (defScope sD_Lnamed) .none kV_Lnamed dc_Lnamed pm_Lnamed an_Lnamed cd_Lnamed ct_Lnamed), sl_Lnamed⟩)
    (c_Lnamed : PySem.W.codeIn K cd_Lnamed "_law_named" = true)
    (k_Lnamed : PySem.W.keepIn K (.ref f_Lnamed) = true)
    (a_Lfalls : PySem.W.nsIn K mainGlobals "_law_falls" = some (some (.ref f_Lfalls)))
    (l_Lfalls : K.lookup f_Lfalls = some ⟨oc_Lfalls, od_Lfalls, .func (PySem.W.fnOf "_law_falls" "_law_falls" (defArgs sD_Lfalls) (defBody sD_Lfalls) (defScope sD_Lfalls) .none kV_Lfalls dc_Lfalls pm_Lfalls an_Lfalls cd_Lfalls ct_Lfalls), sl_Lfalls⟩)
    (c_Lfalls : PySem.W.codeIn K cd_Lfalls "_law_falls" = true)
    (k_Lfalls : PySem.W.keepIn K (.ref f_Lfalls) = true)
    (a_uses : PySem.W.nsIn K mainGlobals "uses" = some (some (.ref f_uses)))
    (l_uses : K.lookup f_uses = some ⟨oc_uses, od_uses, .func (PySem.W.fnOf "uses" "uses" (defArgs sD_uses) (defBody sD_uses) (defScope sD_uses) .none kV_uses dc_uses pm_uses an_uses cd_uses ct_uses), sl_uses⟩)
    (c_uses : PySem.W.codeIn K cd_uses "uses" = true)
    (k_uses : PySem.W.keepIn K (.ref f_uses) = true)
    (a_is_falling : PySem.W.nsIn K mainGlobals "is_falling" = some (some (.ref f_is_falling)))
    (l_is_falling : K.lookup f_is_falling = some ⟨oc_is_falling, od_is_falling, .func (PySem.W.fnOf "is_falling" "is_falling" (defArgs sD_is_falling) (defBody sD_is_falling) (defScope sD_is_falling) .none kV_is_falling dc_is_falling pm_is_falling an_is_falling cd_is_falling ct_is_falling), sl_is_falling⟩)
    (c_is_falling : PySem.W.codeIn K cd_is_falling "is_falling" = true)
    (k_is_falling : PySem.W.keepIn K (.ref f_is_falling) = true)
    (a_falling : PySem.W.nsIn K mainGlobals "falling" = some (some (.ref f_falling)))
    (l_falling : K.lookup f_falling = some ⟨oc_falling, od_falling, .func (PySem.W.fnOf "falling" "falling" (defArgs sD_falling) (defBody sD_falling) (defScope sD_falling) .none kV_falling dc_falling pm_falling an_falling cd_falling ct_falling), sl_falling⟩)
    (c_falling : PySem.W.codeIn K cd_falling "falling" = true)
    (k_falling : PySem.W.keepIn K (.ref f_falling) = true)
    (a_law : PySem.W.nsIn K mainGlobals "law" = some (some (.ref f_law)))
    (l_law : K.lookup f_law = some ⟨oc_law, od_law, .func (PySem.W.fnOf "law" "law" (defArgs sD_law) (defBody sD_law) (defScope sD_law) .none kV_law dc_law pm_law an_law cd_law ct_law), sl_law⟩)
    (c_law : PySem.W.codeIn K cd_law "law" = true)
    (k_law : PySem.W.keepIn K (.ref f_law) = true)
    (n_isinstance : PySem.W.nsIn K mainGlobals "isinstance" = some none)
    (n_list : PySem.W.nsIn K mainGlobals "list" = some none)
    (n_tuple : PySem.W.nsIn K mainGlobals "tuple" = some none)
    (n_bool : PySem.W.nsIn K mainGlobals "bool" = some none)
    (n_str : PySem.W.nsIn K mainGlobals "str" = some none)
    (n_int : PySem.W.nsIn K mainGlobals "int" = some none)
    (n_len : PySem.W.nsIn K mainGlobals "len" = some none)
    (n_all : PySem.W.nsIn K mainGlobals "all" = some none)
    (n_range : PySem.W.nsIn K mainGlobals "range" = some none)
    (n_abs : PySem.W.nsIn K mainGlobals "abs" = some none)
    (n_min : PySem.W.nsIn K mainGlobals "min" = some none)
    (n_sorted : PySem.W.nsIn K mainGlobals "sorted" = some none)
    (n_set : PySem.W.nsIn K mainGlobals "set" = some none)
    : ∃ fd : FuncData, Fun K "law" "law" sD_law fa fd ∧ (∀ (s : Shared) (u : Value), BindsTo s fd ⟨[u], []⟩ [("script", u)]) ∧ ∀ base : Heap, K.In base → base.Ns mainGlobals mg → LawAt P w K mg base 63 ["script", "draw", "widths", "plans", "sizes", "due", "k", "plan", "size", "done", "operation"] sD_law fa := by
  have e := hfa.symm.trans (PySem.W.mg_of X G a_law)
  cases e
  have g_Ldraw : GD K mg "_law_draw" sD_Ldraw ["script"] := ⟨_, _, fun_mk (st := sD_Ldraw) l_Ldraw c_Ldraw k_Ldraw, PySem.W.mg_of X G a_Ldraw, (fun_mk (st := sD_Ldraw) l_Ldraw c_Ldraw k_Ldraw).binds (fun _ _ _ _ _ _ us hl => match us, hl with | [_], _ => rfl)⟩
  have g_Lnext : GD K mg "_law_next" sD_Lnext ["draw", "many"] := ⟨_, _, fun_mk (st := sD_Lnext) l_Lnext c_Lnext k_Lnext, PySem.W.mg_of X G a_Lnext, (fun_mk (st := sD_Lnext) l_Lnext c_Lnext k_Lnext).binds (fun _ _ _ _ _ _ us hl => match us, hl with | [_, _], _ => rfl)⟩
  have g_Lsame : GD K mg "_law_same" sD_Lsame ["actual", "due"] := ⟨_, _, fun_mk (st := sD_Lsame) l_Lsame c_Lsame k_Lsame, PySem.W.mg_of X G a_Lsame, (fun_mk (st := sD_Lsame) l_Lsame c_Lsame k_Lsame).binds (fun _ _ _ _ _ _ us hl => match us, hl with | [_, _], _ => rfl)⟩
  have g_Lcell : GD K mg "_law_cell" sD_Lcell ["draw"] := ⟨_, _, fun_mk (st := sD_Lcell) l_Lcell c_Lcell k_Lcell, PySem.W.mg_of X G a_Lcell, (fun_mk (st := sD_Lcell) l_Lcell c_Lcell k_Lcell).binds (fun _ _ _ _ _ _ us hl => match us, hl with | [_], _ => rfl)⟩
  have g_Lexpression : GD K mg "_law_expression" sD_Lexpression ["draw", "width", "depth"] := ⟨_, _, fun_mk (st := sD_Lexpression) l_Lexpression c_Lexpression k_Lexpression, PySem.W.mg_of X G a_Lexpression, (fun_mk (st := sD_Lexpression) l_Lexpression c_Lexpression k_Lexpression).binds (fun _ _ _ _ _ _ us hl => match us, hl with | [_, _, _], _ => rfl)⟩
  have g_Lform : GD K mg "_law_form" sD_Lform ["draw", "width"] := ⟨_, _, fun_mk (st := sD_Lform) l_Lform c_Lform k_Lform, PySem.W.mg_of X G a_Lform, (fun_mk (st := sD_Lform) l_Lform c_Lform k_Lform).binds (fun _ _ _ _ _ _ us hl => match us, hl with | [_, _], _ => rfl)⟩
  have g_Loperation : GD K mg "_law_operation" sD_Loperation ["draw", "sizes", "widths", "steps"] := ⟨_, _, fun_mk (st := sD_Loperation) l_Loperation c_Loperation k_Loperation, PySem.W.mg_of X G a_Loperation, (fun_mk (st := sD_Loperation) l_Loperation c_Loperation k_Loperation).binds (fun _ _ _ _ _ _ us hl => match us, hl with | [_, _, _, _], _ => rfl)⟩
  have g_Lroom : GD K mg "_law_room" sD_Lroom ["operation", "rooms"] := ⟨_, _, fun_mk (st := sD_Lroom) l_Lroom c_Lroom k_Lroom, PySem.W.mg_of X G a_Lroom, (fun_mk (st := sD_Lroom) l_Lroom c_Lroom k_Lroom).binds (fun _ _ _ _ _ _ us hl => match us, hl with | [_, _], _ => rfl)⟩
  have g_Lplan : GD K mg "_law_plan" sD_Lplan ["draw", "widths", "steps", "most"] := ⟨_, _, fun_mk (st := sD_Lplan) l_Lplan c_Lplan k_Lplan, PySem.W.mg_of X G a_Lplan, (fun_mk (st := sD_Lplan) l_Lplan c_Lplan k_Lplan).binds (fun _ _ _ _ _ _ us hl => match us, hl with | [_, _, _, _], _ => rfl)⟩
  have g_Lnamed : GD K mg "_law_named" sD_Lnamed ["plan", "word"] := ⟨_, _, fun_mk (st := sD_Lnamed) l_Lnamed c_Lnamed k_Lnamed, PySem.W.mg_of X G a_Lnamed, (fun_mk (st := sD_Lnamed) l_Lnamed c_Lnamed k_Lnamed).binds (fun _ _ _ _ _ _ us hl => match us, hl with | [_, _], _ => rfl)⟩
  have g_Lfalls : GD K mg "_law_falls" sD_Lfalls ["operation", "done", "steps"] := ⟨_, _, fun_mk (st := sD_Lfalls) l_Lfalls c_Lfalls k_Lfalls, PySem.W.mg_of X G a_Lfalls, (fun_mk (st := sD_Lfalls) l_Lfalls c_Lfalls k_Lfalls).binds (fun _ _ _ _ _ _ us hl => match us, hl with | [_, _, _], _ => rfl)⟩
  have g_uses : GD K mg "uses" sD_uses ["plan"] := ⟨_, _, fun_mk (st := sD_uses) l_uses c_uses k_uses, PySem.W.mg_of X G a_uses, (fun_mk (st := sD_uses) l_uses c_uses k_uses).binds (fun _ _ _ _ _ _ us hl => match us, hl with | [_], _ => rfl)⟩
  have g_is_falling : GD K mg "is_falling" sD_is_falling ["operation", "done", "steps"] := ⟨_, _, fun_mk (st := sD_is_falling) l_is_falling c_is_falling k_is_falling, PySem.W.mg_of X G a_is_falling, (fun_mk (st := sD_is_falling) l_is_falling c_is_falling k_is_falling).binds (fun _ _ _ _ _ _ us hl => match us, hl with | [_, _, _], _ => rfl)⟩
  have g_falling : GD K mg "falling" sD_falling ["plans"] := ⟨_, _, fun_mk (st := sD_falling) l_falling c_falling k_falling, PySem.W.mg_of X G a_falling, (fun_mk (st := sD_falling) l_falling c_falling k_falling).binds (fun _ _ _ _ _ _ us hl => match us, hl with | [_], _ => rfl)⟩
  have n_isinstance := PySem.W.mg_none_of X G n_isinstance
  have n_list := PySem.W.mg_none_of X G n_list
  have n_tuple := PySem.W.mg_none_of X G n_tuple
  have n_bool := PySem.W.mg_none_of X G n_bool
  have n_str := PySem.W.mg_none_of X G n_str
  have n_int := PySem.W.mg_none_of X G n_int
  have n_len := PySem.W.mg_none_of X G n_len
  have n_all := PySem.W.mg_none_of X G n_all
  have n_range := PySem.W.mg_none_of X G n_range
  have n_abs := PySem.W.mg_none_of X G n_abs
  have n_min := PySem.W.mg_none_of X G n_min
  have n_sorted := PySem.W.mg_none_of X G n_sorted
  have n_set := PySem.W.mg_none_of X G n_set
  refine ⟨_, fun_mk (st := sD_law) l_law c_law k_law, fun s v => .of_eq rfl, fun base _ _ => ?_⟩
  have TD : TDraw mg := ⟨n_int, n_len, n_abs, n_list⟩
  have TM : TSame mg := ⟨n_isinstance, n_list, n_tuple, n_bool, n_str, n_int, n_len, n_all, n_range⟩
  have o_draw := ok_draw (P := P) (w := w) (base := base) g_Ldraw TD
  have o_next := ok_next (P := P) (w := w) (base := base) g_Lnext TD

  have TG : TPgen mg := ⟨n_len, n_range, n_min, n_int⟩
  have o_cell := ok_cell g_Lcell o_next
  have o_expr := ok_expr g_Lexpression o_next o_cell 5
  have o_form := ok_form g_Lform o_next o_expr
  have o_oper := ok_operation g_Loperation TG o_next o_expr o_form
  have o_room := ok_room (P := P) (w := w) (base := base) g_Lroom TG
  have o_plan := ok_plan g_Lplan TG o_next o_oper o_room

  have TU : TUses mg := ⟨n_sorted, n_set, n_list⟩
  have TF : TFall mg := ⟨n_len, n_all⟩
  exact ok_law ⟨n_range, n_all⟩ o_draw o_next o_plan (ok_lfalls g_Lfalls TF) (ok_named g_Lnamed TU) (ok_uses g_uses TU) (ok_falling g_falling TF (ok_is_falling g_is_falling TF)) (ok_same g_Lsame TM 4)

end Lw

open PySem PySem.W PyProof.Rows in
set_option maxRecDepth 100000 in
set_option maxHeartbeats 0 in
theorem PySem.Challenge.cw_lineworks_k96_uses_and_falling_of_any_pl_holds : PySem.Challenge.rw_lineworks_k96_uses_and_falling_of_any_pl.Holds := by
  w_on; o_law; k_head; (case hw => w_witness2)
  k_fill
  refine Lw.walk_at (l := PySem.Challenge.rw_lineworks_k96_uses_and_falling_of_any_pl) (n := 63) rfl (by decide) rfl Lw.sc_law (fun w h Y => PySem.W.kIn_of Y) ?F
  case F =>
    intro w mg fa h KX G hmg
    refine' Lw.all_mk KX G hmg ?a_Ldraw ?l_Ldraw ?c_Ldraw ?k_Ldraw ?a_Lnext ?l_Lnext ?c_Lnext ?k_Lnext ?a_Lsame ?l_Lsame ?c_Lsame ?k_Lsame ?a_Lcell ?l_Lcell ?c_Lcell ?k_Lcell ?a_Lexpression ?l_Lexpression ?c_Lexpression ?k_Lexpression ?a_Lform ?l_Lform ?c_Lform ?k_Lform ?a_Loperation ?l_Loperation ?c_Loperation ?k_Loperation ?a_Lroom ?l_Lroom ?c_Lroom ?k_Lroom ?a_Lplan ?l_Lplan ?c_Lplan ?k_Lplan ?a_Lnamed ?l_Lnamed ?c_Lnamed ?k_Lnamed ?a_Lfalls ?l_Lfalls ?c_Lfalls ?k_Lfalls ?a_uses ?l_uses ?c_uses ?k_uses ?a_is_falling ?l_is_falling ?c_is_falling ?k_is_falling ?a_falling ?l_falling ?c_falling ?k_falling ?a_law ?l_law ?c_law ?k_law ?n_isinstance ?n_list ?n_tuple ?n_bool ?n_str ?n_int ?n_len ?n_all ?n_range ?n_abs ?n_min ?n_sorted ?n_set
    (case a_Ldraw => k_is)
    (case l_Ldraw => k_is)
    (case c_Ldraw => k_is)
    (case k_Ldraw => k_is)
    (case a_Lnext => k_is)
    (case l_Lnext => k_is)
    (case c_Lnext => k_is)
    (case k_Lnext => k_is)
    (case a_Lsame => k_is)
    (case l_Lsame => k_is)
    (case c_Lsame => k_is)
    (case k_Lsame => k_is)
    (case a_Lcell => k_is)
    (case l_Lcell => k_is)
    (case c_Lcell => k_is)
    (case k_Lcell => k_is)
    (case a_Lexpression => k_is)
    (case l_Lexpression => k_is)
    (case c_Lexpression => k_is)
    (case k_Lexpression => k_is)
    (case a_Lform => k_is)
    (case l_Lform => k_is)
    (case c_Lform => k_is)
    (case k_Lform => k_is)
    (case a_Loperation => k_is)
    (case l_Loperation => k_is)
    (case c_Loperation => k_is)
    (case k_Loperation => k_is)
    (case a_Lroom => k_is)
    (case l_Lroom => k_is)
    (case c_Lroom => k_is)
    (case k_Lroom => k_is)
    (case a_Lplan => k_is)
    (case l_Lplan => k_is)
    (case c_Lplan => k_is)
    (case k_Lplan => k_is)
    (case a_Lnamed => k_is)
    (case l_Lnamed => k_is)
    (case c_Lnamed => k_is)
    (case k_Lnamed => k_is)
    (case a_Lfalls => k_is)
    (case l_Lfalls => k_is)
    (case c_Lfalls => k_is)
    (case k_Lfalls => k_is)
    (case a_uses => k_is)
    (case l_uses => k_is)
    (case c_uses => k_is)
    (case k_uses => k_is)
    (case a_is_falling => k_is)
    (case l_is_falling => k_is)
    (case c_is_falling => k_is)
    (case k_is_falling => k_is)
    (case a_falling => k_is)
    (case l_falling => k_is)
    (case c_falling => k_is)
    (case k_falling => k_is)
    (case a_law => k_is)
    (case l_law => k_is)
    (case c_law => k_is)
    (case k_law => k_is)
    (case n_isinstance => k_is)
    (case n_list => k_is)
    (case n_tuple => k_is)
    (case n_bool => k_is)
    (case n_str => k_is)
    (case n_int => k_is)
    (case n_len => k_is)
    (case n_all => k_is)
    (case n_range => k_is)
    (case n_abs => k_is)
    (case n_min => k_is)
    (case n_sorted => k_is)
    (case n_set => k_is)
#print axioms PySem.Challenge.cw_lineworks_k96_uses_and_falling_of_any_pl_holds

namespace Lw
end Lw
