import PyProof.Rows.All
import Wide.All
import OpenK.AllK
import Wide.FinOn
import KE.KStateDown
import HandS.ForMost
import HandS.Exc
import HandS.ExcOwn
import HandS.ExcCtx
import HandS.More
import HandS.WordsExc
import HandS.Defaults
import HandS.Wide
import HandS.WideBits
import HandS.Flow
import HandS.Style
import HandS.StrMore
import HandS.IsInst
import HandS.TryOnly
import HandS.RaiseMore
import HandS.Replace
import HandS.ReplaceList
import HandS.ReplaceLit
import HandS.ReplaceDef
import HandS.Steps
import HandS.Evl
import HandS.EndBits
import HandS.Conv
import HandS.Codes
import HandS.Head0
import HandS.Head1
import HandS.Head2
import HandS.HeadEnd
import HandS.HeadHook1
import HandS.HeadHook2
import HandS.TupAny
import PyProof.ReprRoads
import HandS.Ends
import KE.IntTextLaws
import KE.IntTextText
import KE.KIntText
import PySem.Challenge.RW_viewloom_k73_nothing_else_is_read_as_a_c
set_option Elab.async false
set_option linter.all false
set_option maxRecDepth 99999
set_option maxHeartbeats 9000000
/-! VL: the hand layer read forwards. RE, RT, RA, RS, RSs: an expression, a test, arguments, a statement, a block, run from slots and heap, meet what is wanted; one rule a construct, the goal is what comes next. -/
namespace VL
open PySem PySem.Spec L2
open PyProof.Rows hiding St

structure RE (X : Cx) (e : Expr) (σ : St) (H : Hp) (Q : VK) : Prop where
  run : ∀ (pins : List (Addr × Obj)) (s : Shared), Inv X pins σ H s → wpAny (model X.prog X.w) X.A (eval e X.env) (EP X pins σ Q) X.xe s
structure RT (X : Cx) (e : Expr) (σ : St) (H : Hp) (Q : Bool → Hp → Prop) : Prop where
  run : ∀ (pins : List (Addr × Obj)) (s : Shared), Inv X pins σ H s → wpAny (model X.prog X.w) X.A (isTrue e X.env (eval e X.env)) (TP X pins σ Q) X.xe s
structure RW (X : Cx) (e : Expr) (σ : St) (H : Hp) (Q : Bool → Hp → Prop) : Prop where
  run : ∀ (whole : Sem Value) (pins : List (Addr × Obj)) (s : Shared), Inv X pins σ H s → wpAny (model X.prog X.w) X.A (isTrue e X.env whole) (TP X pins σ Q) X.xe s
structure RA (X : Cx) (es : List Expr) (σ : St) (H : Hp) (Q : List V → Hp → Prop) : Prop where
  run : ∀ (pos : Pos) (pins : List (Addr × Obj)) (s : Shared), Inv X pins σ H s → wpAny (model X.prog X.w) X.A (spliced (backTo pos (starEach es X.env))) (AP X pins σ Q) X.xe s
structure RS (X : Cx) (st : Stmt) (D : Ends) (σ : St) (H : Hp) : Prop where
  run : ∀ (pins : List (Addr × Obj)) (s : Shared), Inv X pins σ H s → wpAny (model X.prog X.w) X.A (exec st X.env) (SP X pins D) X.xe s
structure RSs (X : Cx) (st : List Stmt) (D : Ends) (σ : St) (H : Hp) : Prop where
  run : ∀ (pins : List (Addr × Obj)) (s : Shared), Inv X pins σ H s → wpAny (model X.prog X.w) X.A (execs st X.env) (SP X pins D) X.xe s
section
variable {X : Cx} {e : Expr} {es : List Expr} {st : Stmt} {sts : List Stmt} {σ : St} {H : Hp}
theorem pe_self : PE X e (RE X e) := ⟨fun pins s _ _ _ I h => h.run pins s I⟩
theorem pt_self : PT X e (RT X e) := ⟨fun pins s _ _ _ I h => h.run pins s I⟩
theorem pw_self : PW X e (RW X e) := ⟨fun wh pins s _ _ _ I h => h.run wh pins s I⟩
theorem pa_self : PA X es (RA X es) := ⟨fun pos pins s _ _ _ I h => h.run pos pins s I⟩
theorem ps_self : PS X st (RS X st) := ⟨fun pins s _ _ _ I h => h.run pins s I⟩
theorem pss_self : PSs X sts (RSs X sts) := ⟨fun pins s _ _ _ I h => h.run pins s I⟩
theorem re_of {t : TE} {Q : VK} (h : PE X e t) (q : t σ H Q) : RE X e σ H Q := ⟨fun pins s I => h.run pins s σ H Q I q⟩
theorem rt_of {t : TT} {Q : Bool → Hp → Prop} (h : PT X e t) (q : t σ H Q) : RT X e σ H Q := ⟨fun pins s I => h.run pins s σ H Q I q⟩
theorem rw_of {t : TT} {Q : Bool → Hp → Prop} (h : PW X e t) (q : t σ H Q) : RW X e σ H Q := ⟨fun wh pins s I => h.run wh pins s σ H Q I q⟩
theorem ra_of {t : TA} {Q : List V → Hp → Prop} (h : PA X es t) (q : t σ H Q) : RA X es σ H Q := ⟨fun pos pins s I => h.run pos pins s σ H Q I q⟩
theorem rs_of {t : TS} {D : Ends} (h : PS X st t) (q : t D σ H) : RS X st D σ H := ⟨fun pins s I => h.run pins s σ H D I q⟩
theorem rss_of {t : TS} {D : Ends} (h : PSs X sts t) (q : t D σ H) : RSs X sts D σ H := ⟨fun pins s I => h.run pins s σ H D I q⟩
end

/-! ### what a body knows of its context -/
structure Bd (X : Cx) (W : WX) : Prop where
  nd : X.N.Nodup
  calm : X.calm = true
  tk : Takes X W
  po : PassesOwn (model X.prog X.w) X.A X.env X.xe

/-- both ways of a test -/
structure ifB (b : Bool) (A B : Prop) : Prop where
  t : b = true → A
  f : b = false → B
theorem ifB_dec {p : Prop} [Decidable p] {A B : Prop} (h1 : p → A) (h2 : ¬ p → B) : ifB (decide p) A B := ⟨fun h => h1 (of_decide_eq_true h), fun h => h2 (of_decide_eq_false h)⟩
theorem ifB_t {A B : Prop} (h : A) : ifB true A B := ⟨fun _ => h, fun z => Bool.noConfusion z⟩
theorem ifB_f {A B : Prop} (h : B) : ifB false A B := ⟨fun z => Bool.noConfusion z, fun _ => h⟩
theorem ifB_not {b : Bool} {A B : Prop} (h : ifB b B A) : ifB (!b) A B := ⟨fun z => h.f (by simpa using z), fun z => h.t (by simpa using z)⟩
theorem ifB_yes {b : Bool} {A B : Prop} (e : b = true) (h : A) : ifB b A B := ⟨fun _ => h, fun z => absurd (e.symm.trans z) (by decide)⟩
theorem ifB_no {b : Bool} {A B : Prop} (e : b = false) (h : B) : ifB b A B := ⟨fun z => absurd (e.symm.trans z) (by decide), fun _ => h⟩
theorem ifB.ite {b : Bool} {A B : Prop} (h : ifB b A B) : if b = true then A else B := by
  cases b with
  | true => exact (if_pos rfl).mpr (h.t rfl)
  | false => exact (if_neg Bool.false_ne_true).mpr (h.f rfl)
/-- a value that is a truth value -/
structure toB (Q : Bool → Hp → Prop) (z : V) (H : Hp) : Prop where
  run : ∃ k, z = .bl k ∧ Q k H
theorem toB_bl {Q : Bool → Hp → Prop} {k : Bool} {H : Hp} (h : Q k H) : toB Q (.bl k) H := ⟨k, rfl, h⟩

/-! ### blocks -/
section
variable {X : Cx} {e : Expr} {es : List Expr} {st : Stmt} {sts : List Stmt} {σ : St} {H : Hp} {D : Ends} {pos : Pos} {W : WX}
theorem rss_nil (q : D.nx σ H) : RSs X [] D σ H := rss_of pss_nil q
theorem rss_cons (h : RS X st { D with nx := fun σ' H' => RSs X sts D σ' H' } σ H) : RSs X (st :: sts) D σ H := rss_of (pss_cons ps_self pss_self) h
theorem rs_pass (q : D.nx σ H) : RS X (.Pass pos) D σ H := rs_of ps_pass q
theorem rs_break (q : D.bk σ H) : RS X (.Break pos) D σ H := rs_of ps_break q
theorem rs_continue (q : D.ct σ H) : RS X (.Continue pos) D σ H := rs_of ps_continue q
theorem rs_expr (h : RE X e σ H fun _ H1 => D.nx σ H1) (hs : swapsWith e none pos.line X.env = pure false := by rfl) : RS X (.Expr e pos) D σ H := rs_of (ps_expr pe_self hs) h
theorem rs_ret (h : RE X e σ H D.rt) : RS X (.Return (some e) pos) D σ H := rs_of (ps_ret pe_self) h
theorem rs_retN (h : D.rt .non H) : RS X (.Return none pos) D σ H := rs_of ps_retN h
theorem rs_if {c : Expr} {a b : List Stmt} (h : RT X c σ H fun k H1 => ifB k (RSs X a D σ H1) (RSs X b D σ H1)) : RS X (.If c a b pos) D σ H := by
  refine rs_of (ps_if (tc := fun σ H Q => RT X c σ H Q) pt_self (pss_self) (pss_self)) ?_
  refine ⟨fun pins s I => ?_⟩
  exact wpAny_mono (h.run pins s I) (fun k s1 ⟨H1, I1, q⟩ => ⟨H1, I1, q.ite⟩) fun _ _ z => z
theorem rs_set {i : Nat} {x : Str} {pos' : Pos} (B : Bd X W) (hi : X.N[i]? = some x) (hx : Loc X.env.scope x) (h : RE X e σ H fun v H1 => D.nx (σ.set i (some v)) H1)
    (hs : swapsWith e (some (.Name x pos')) pos.line X.env = pure false := by rfl) (hf : X.fn x = true ∨ X.env.scope.names.lookup x = some .local := by first | exact .inl rfl | exact .inr rfl | assumption) :
    RS X (.Assign [.Name x pos'] e pos) D σ H := rs_of (ps_set B.nd hi hx pe_self hs hf) h
end

/-! ### names, constants -/
section
variable {X : Cx} {σ : St} {H : Hp} {Q : VK} {pos : Pos} {a b c : Expr}
theorem re_var {i : Nat} {x : Str} {v : V} (hN : X.N[i]? = some x) (hv : Vis X.env.scope x) (e : σ[i]? = some (some v)) (q : Q v H) (hd : (x == ("__debug__" : Str)) = false := by decide) (hcd : (x == ("__classdict__" : Str)) = false := by decide) : RE X (.Name x pos) σ H Q :=
  re_of (pe_var hN hv hd hcd) ⟨v, e, q⟩
theorem re_int {i : Int} {j : Nat} (q : Q (.int i) H) : RE X (.Constant (.int i) j pos) σ H Q := re_of pe_int q
theorem re_bl {b : Bool} {j : Nat} (q : Q (.bl b) H) : RE X (.Constant (.bool b) j pos) σ H Q := re_of pe_bl q
theorem re_non {j : Nat} (q : Q .non H) : RE X (.Constant .none j pos) σ H Q := re_of pe_non q
theorem re_str {x : Str} {j : Nat} (q : Q (.str x) H) : RE X (.Constant (.str x) j pos) σ H Q := re_of pe_str q
theorem re_glob {x : Str} {v : V} {u : Value} (hm : X.mg x = some u) (r : RelV v u) (q : Q v H) (hg : Gl X x := by rfl) (hd : (x == ("__debug__" : Str)) = false := by decide) : RE X (.Name x pos) σ H Q := re_of (pe_glob hg hm r hd) q
theorem re_bltn {x : Str} {v : V} {u : Value} (hm : X.mg x = none) (hv : bootBuiltins x = some u) (r : RelV v u) (q : Q v H) (hg : Gl X x := by rfl) (hn : x ≠ "__name__" := by decide) (hd : (x == ("__debug__" : Str)) = false := by decide) : RE X (.Name x pos) σ H Q :=
  re_of (pe_bltn hg hm hv r hn hd) q

/-! ### operators by their values -/
structure uAdd (K : PySem.W.Frag) (x y : V) (H : Hp) (Q : VK) : Prop where
  run : (∃ i j, x = .int i ∧ y = .int j ∧ Q (.int (i + j)) H) ∨ (∃ i j, x = .str i ∧ y = .str j ∧ i.length + j.length ≤ sizeLine ∧ Q (.str (i ++ j)) H) ∨ rCat x y H Q ∨ rCatT K x y H Q
theorem uAdd_int {K : PySem.W.Frag} {i j : Int} (q : Q (.int (i + j)) H) : uAdd K (.int i) (.int j) H Q := ⟨.inl ⟨i, j, rfl, rfl, q⟩⟩
theorem uAdd_str {K : PySem.W.Frag} {i j : Str} (hl : i.length + j.length ≤ sizeLine) (q : Q (.str (i ++ j)) H) : uAdd K (.str i) (.str j) H Q := ⟨.inr (.inl ⟨i, j, rfl, rfl, hl, q⟩)⟩
theorem uAdd_lst {K : PySem.W.Frag} {l m : Addr} {xs zs : List V} (h1 : H l = some (.lst xs)) (h2 : H m = some (.lst zs)) (hz : xs.length + zs.length ≤ sizeLine) (q : ∀ p, H p = none → Q (.ref p) (upd H p (.lst (xs ++ zs)))) : uAdd K (.ref l) (.ref m) H Q :=
  ⟨.inr (.inr (.inl ⟨l, m, xs, zs, rfl, rfl, h1, h2, hz, q⟩))⟩
theorem op_uAdd : OpR X (binaryOp .Add) (uAdd X.K) := by
  intro pins s σ H x y v u Q I rx ry h
  rcases h.run with h | h | h | h
  · exact op_add pins s σ H x y v u Q I rx ry h
  · exact op_add_str pins s σ H x y v u Q I rx ry h
  · exact op_cat pins s σ H x y v u Q I rx ry h
  · exact op_catT pins s σ H x y v u Q I rx ry h
theorem re_add (h : RE X a σ H fun x H1 => RE X b σ H1 fun y H2 => uAdd X.K x y H2 Q) : RE X (.BinOp a .Add b pos) σ H Q := re_of (pe_op op_uAdd pe_self pe_self) h
/-- an operator on two ints, under C -/
structure uInt (C : Int → Int → Prop) (g : Int → Int → V) (x y : V) (H : Hp) (Q : VK) : Prop where
  run : rI C g x y H Q
theorem uInt_mk {C : Int → Int → Prop} {g : Int → Int → V} {i j : Int} (hc : C i j) (q : Q (g i j) H) : uInt C g (.int i) (.int j) H Q := ⟨⟨i, j, rfl, rfl, hc, q⟩⟩
theorem op_uInt {f : Value → Value → Sem Value} {C : Int → Int → Prop} {g : Int → Int → V} (h : OpR X f (rI C g)) : OpR X f (uInt C g) := fun pins s σ H x y v u Q I rx ry q => h pins s σ H x y v u Q I rx ry q.run
theorem op_uInt0 {f : Value → Value → Sem Value} {g : Int → Int → V} (h : OpR X f (rI0 g)) : OpR X f (uInt (fun _ _ => True) g) := fun pins s σ H x y v u Q I rx ry ⟨i, j, e1, e2, _, q⟩ => h pins s σ H x y v u Q I rx ry ⟨i, j, e1, e2, q⟩
abbrev gSub (i j : Int) : V := .int (i - j)
abbrev gMul (i j : Int) : V := .int (i * j)
abbrev gDiv (i j : Int) : V := .int (i / j)
abbrev gMod (i j : Int) : V := .int (i % j)
abbrev CTrue : Int → Int → Prop := fun _ _ => True
abbrev CDivP0 : Int → Int → Prop := fun _ j => 0 < j ∧ j < 1073741824
abbrev CMod0 : Int → Int → Prop := fun _ j => 0 < j
theorem re_sub (h : RE X a σ H fun x H1 => RE X b σ H1 fun y H2 => uInt CTrue gSub x y H2 Q) : RE X (.BinOp a .Sub b pos) σ H Q := re_of (pe_op (op_uInt0 op_sub) pe_self pe_self) h
theorem re_mul (h : RE X a σ H fun x H1 => RE X b σ H1 fun y H2 => uInt CMulX gMul x y H2 Q) : RE X (.BinOp a .Mult b pos) σ H Q := re_of (pe_op (op_uInt op_mulX) pe_self pe_self) h
theorem op_divP : OpR X (binaryOp .FloorDiv) (rI CDivP0 gDiv) := fun pins s σ H x y v u Q I rx ry ⟨i, j, e1, e2, hc, q⟩ => by
  refine op_fdivN pins s σ H x y v u Q I rx ry ⟨i, j, e1, e2, ⟨by omega, by omega⟩, ?_⟩
  have e : (fun i j => V.int (i.fdiv j)) i j = gDiv i j := by
    show V.int (i.fdiv j) = V.int (i / j)
    rw [Int.fdiv_eq_ediv_of_nonneg i (Int.le_of_lt hc.1)]
  rw [e]
  exact q
theorem re_fdiv (h : RE X a σ H fun x H1 => RE X b σ H1 fun y H2 => uInt CDivP0 gDiv x y H2 Q) : RE X (.BinOp a .FloorDiv b pos) σ H Q := re_of (pe_op (op_uInt op_divP) pe_self pe_self) h
theorem re_mod (h : RE X a σ H fun x H1 => RE X b σ H1 fun y H2 => uInt CMod0 gMod x y H2 Q) : RE X (.BinOp a .Mod b pos) σ H Q := re_of (pe_op (op_uInt op_mod) pe_self pe_self) h
theorem re_neg (h : RE X a σ H fun x H1 => ∃ i, x = .int i ∧ Q (.int (-i)) H1) : RE X (.UnaryOp .USub a pos) σ H Q := re_of (pe_un un_neg pe_self) h

/-! ### comparisons -/
structure uOp (r : R2) (x y : V) (H : Hp) (Q : VK) : Prop where
  run : r x y H Q
theorem op_uOp {f : Value → Value → Sem Value} {r : R2} (h : OpR X f r) : OpR X f (uOp r) := fun pins s σ H x y v u Q I rx ry q => h pins s σ H x y v u Q I rx ry q.run
/-- == of flat values -/
theorem uEq_mk {x y : V} (hs : scal x y = true) (q : Q (.bl (decide (x = y))) H) : uOp rEq x y H Q := ⟨⟨hs, q⟩⟩
theorem uEq_int {i j : Int} (q : Q (.bl (decide (i = j))) H) : uOp rEq (.int i) (.int j) H Q := ⟨⟨rfl, by
  have e : decide (V.int i = V.int j) = decide (i = j) := by
    by_cases h : i = j
    · subst h; simp
    · rw [decide_eq_false h, decide_eq_false (fun z => h (V.int.inj z))]
  rw [e]; exact q⟩⟩
theorem uEq_str {i j : Str} (q : Q (.bl (decide (i = j))) H) : uOp rEq (.str i) (.str j) H Q := ⟨⟨rfl, by
  have e : decide (V.str i = V.str j) = decide (i = j) := by
    by_cases h : i = j
    · subst h; simp
    · rw [decide_eq_false h, decide_eq_false (fun z => h (V.str.inj z))]
  rw [e]; exact q⟩⟩
theorem uNe_mk {x y : V} (hs : scal x y = true) (q : Q (.bl (!decide (x = y))) H) : uOp rNe x y H Q := ⟨⟨hs, q⟩⟩
theorem uNe_int {i j : Int} (q : Q (.bl (!decide (i = j))) H) : uOp rNe (.int i) (.int j) H Q := ⟨⟨rfl, by
  have e : decide (V.int i = V.int j) = decide (i = j) := by
    by_cases h : i = j
    · subst h; simp
    · rw [decide_eq_false h, decide_eq_false (fun z => h (V.int.inj z))]
  rw [e]; exact q⟩⟩
theorem uNe_str {i j : Str} (q : Q (.bl (!decide (i = j))) H) : uOp rNe (.str i) (.str j) H Q := ⟨⟨rfl, by
  have e : decide (V.str i = V.str j) = decide (i = j) := by
    by_cases h : i = j
    · subst h; simp
    · rw [decide_eq_false h, decide_eq_false (fun z => h (V.str.inj z))]
  rw [e]; exact q⟩⟩
theorem re_cmp {op : CmpOp} {r : R2} (ho : OpR X (compareOp op) r) (h : RE X a σ H fun x H1 => RE X b σ H1 fun y H2 => uOp r x y H2 Q) (hm : behindInMarks op b = false := by first | exact nobehind _ (by decide) (by decide) | rfl) :
    RE X (.Compare a [op] [b] pos) σ H Q := re_of (pe_cmpR (op_uOp ho) pe_self pe_self hm) h
theorem re_eq (h : RE X a σ H fun x H1 => RE X b σ H1 fun y H2 => uOp rEq x y H2 Q) : RE X (.Compare a [.Eq] [b] pos) σ H Q := re_cmp op_eq h
theorem re_ne (h : RE X a σ H fun x H1 => RE X b σ H1 fun y H2 => uOp rNe x y H2 Q) : RE X (.Compare a [.NotEq] [b] pos) σ H Q := re_cmp op_ne h
abbrev gLt (i j : Int) : V := .bl (decide (i < j))
abbrev gLe (i j : Int) : V := .bl (decide (i ≤ j))
abbrev gGt (i j : Int) : V := .bl (decide (j < i))
abbrev gGe (i j : Int) : V := .bl (decide (j ≤ i))
theorem re_cmpI {op : CmpOp} {g : Int → Int → V} (ho : OpR X (compareOp op) (rI0 g)) (h : RE X a σ H fun x H1 => RE X b σ H1 fun y H2 => uInt CTrue g x y H2 Q) (hm : behindInMarks op b = false := by first | exact nobehind _ (by decide) (by decide) | rfl) :
    RE X (.Compare a [op] [b] pos) σ H Q := re_of (pe_cmpR (op_uInt0 ho) pe_self pe_self hm) h
theorem re_lt (h : RE X a σ H fun x H1 => RE X b σ H1 fun y H2 => uInt CTrue gLt x y H2 Q) : RE X (.Compare a [.Lt] [b] pos) σ H Q := re_cmpI op_lt h
theorem re_le (h : RE X a σ H fun x H1 => RE X b σ H1 fun y H2 => uInt CTrue gLe x y H2 Q) : RE X (.Compare a [.LtE] [b] pos) σ H Q := re_cmpI op_le h
theorem re_gt (h : RE X a σ H fun x H1 => RE X b σ H1 fun y H2 => uInt CTrue gGt x y H2 Q) : RE X (.Compare a [.Gt] [b] pos) σ H Q := re_cmpI op_gt h
theorem re_ge (h : RE X a σ H fun x H1 => RE X b σ H1 fun y H2 => uInt CTrue gGe x y H2 Q) : RE X (.Compare a [.GtE] [b] pos) σ H Q := re_cmpI op_ge h
/-- is None, is True, is False: of any value -/
def rIsC : R2 := fun x y H Q => (y = .non ∨ ∃ b, y = .bl b) ∧ Q (.bl (decide (x = y))) H
def rIsNotC : R2 := fun x y H Q => (y = .non ∨ ∃ b, y = .bl b) ∧ Q (.bl (!decide (x = y))) H
theorem is_bool_ne {x : V} {v : Value} {b : Bool} (rx : RelV x v) (h : x ≠ .bl b) : v ≠ .bool b := by
  intro e
  subst e
  cases x with
  | bl c => exact h (by injection (show Value.bool b = Value.bool c from rx) with z; rw [z])
  | non => cases (show Value.bool b = Value.none from rx)
  | int i => obtain ⟨t, z⟩ := (show ∃ t, Value.bool b = Value.int i t from rx); cases z
  | str i => obtain ⟨t, z⟩ := (show ∃ t, Value.bool b = Value.str i t from rx); cases z
  | byt i => obtain ⟨t, z⟩ := (show ∃ t, Value.bool b = Value.bytes i t from rx); cases z
  | flt i => obtain ⟨t, z⟩ := (show ∃ t, Value.bool b = Value.float i t from rx); cases z
  | ref i => cases (show Value.bool b = Value.ref i from rx)
  | ty i => cases (show Value.bool b = Value.type i from rx)

theorem op_isC : OpR X (compareOp .Is) rIsC := by
  intro pins s σ H x y v u Q I rx ry h
  obtain ⟨hy, q⟩ := h
  rcases hy with rfl | ⟨b, rfl⟩
  · exact op_isN pins s σ H x .non v u Q I rx ry ⟨rfl, q⟩
  · cases (show u = Value.bool b from ry)
    have key : ∀ w : Value, v = w → PySem.plainIs w (.bool b) = true → wpAny (model X.prog X.w) X.A (compareOp .Is v (.bool b)) (EP X pins σ Q) X.xe s := by
      intro w hw hp
      subst hw
      by_cases e : x = .bl b
      · subst e
        cases (show v = Value.bool b from rx)
        exact wpAny_is_self rfl ⟨.bl true, H, I, rfl, by simpa using q⟩
      · exact wpAny_is_other hp (is_bool_ne rx e) ⟨.bl false, H, I, rfl, by simpa [e] using q⟩
    cases x with
    | non => exact key _ rx rfl
    | bl c => exact key _ rx rfl
    | int i => obtain ⟨t, z⟩ := (show ∃ t, v = Value.int i t from rx); exact key _ z rfl
    | str i => obtain ⟨t, z⟩ := (show ∃ t, v = Value.str i t from rx); exact key _ z rfl
    | byt i => obtain ⟨t, z⟩ := (show ∃ t, v = Value.bytes i t from rx); exact key _ z rfl
    | flt i => obtain ⟨t, z⟩ := (show ∃ t, v = Value.float i t from rx); exact key _ z rfl
    | ref i => exact key _ rx rfl
    | ty i => exact key _ rx rfl
theorem op_isNotC : OpR X (compareOp .IsNot) rIsNotC := by
  intro pins s σ H x y v u Q I rx ry h
  obtain ⟨hy, q⟩ := h
  rcases hy with rfl | ⟨b, rfl⟩
  · exact op_notN pins s σ H x .non v u Q I rx ry ⟨rfl, q⟩
  · cases (show u = Value.bool b from ry)
    have key : ∀ w : Value, v = w → PySem.plainIs w (.bool b) = true → wpAny (model X.prog X.w) X.A (compareOp .IsNot v (.bool b)) (EP X pins σ Q) X.xe s := by
      intro w hw hp
      subst hw
      by_cases e : x = .bl b
      · subst e
        cases (show v = Value.bool b from rx)
        exact wpAny_isNot_self rfl ⟨.bl false, H, I, rfl, by simpa using q⟩
      · exact wpAny_isNot_other hp (is_bool_ne rx e) ⟨.bl true, H, I, rfl, by simpa [e] using q⟩
    cases x with
    | non => exact key _ rx rfl
    | bl c => exact key _ rx rfl
    | int i => obtain ⟨t, z⟩ := (show ∃ t, v = Value.int i t from rx); exact key _ z rfl
    | str i => obtain ⟨t, z⟩ := (show ∃ t, v = Value.str i t from rx); exact key _ z rfl
    | byt i => obtain ⟨t, z⟩ := (show ∃ t, v = Value.bytes i t from rx); exact key _ z rfl
    | flt i => obtain ⟨t, z⟩ := (show ∃ t, v = Value.float i t from rx); exact key _ z rfl
    | ref i => exact key _ rx rfl
    | ty i => exact key _ rx rfl
theorem uIs_non {x : V} (q : Q (.bl (decide (x = .non))) H) : uOp rIsC x .non H Q := ⟨⟨.inl rfl, q⟩⟩
theorem uIs_bl {x : V} {b : Bool} (q : Q (.bl (decide (x = .bl b))) H) : uOp rIsC x (.bl b) H Q := ⟨⟨.inr ⟨b, rfl⟩, q⟩⟩
theorem uIsNot_non {x : V} (q : Q (.bl (!decide (x = .non))) H) : uOp rIsNotC x .non H Q := ⟨⟨.inl rfl, q⟩⟩
theorem uIsNot_bl {x : V} {b : Bool} (q : Q (.bl (!decide (x = .bl b))) H) : uOp rIsNotC x (.bl b) H Q := ⟨⟨.inr ⟨b, rfl⟩, q⟩⟩
theorem re_is (h : RE X a σ H fun x H1 => RE X b σ H1 fun y H2 => uOp rIsC x y H2 Q) : RE X (.Compare a [.Is] [b] pos) σ H Q := re_cmp op_isC h
theorem re_isNot (h : RE X a σ H fun x H1 => RE X b σ H1 fun y H2 => uOp rIsNotC x y H2 Q) : RE X (.Compare a [.IsNot] [b] pos) σ H Q := re_cmp op_isNotC h
/-- in: a text in a text, an item in a list or tuple, a key in a dict -/
structure uIn (K : PySem.W.Frag) (x y : V) (H : Hp) (Q : VK) : Prop where
  run : (∃ i j, x = .str i ∧ y = .str j ∧ Q (.bl (!(Builtin.Str.occurrences j i 0 j.length 1).isEmpty)) H) ∨ rIn K false x y H Q ∨ (∃ a o, y = .ref a ∧ DGet H a x o ∧ Q (.bl o.isSome) H) ∨ ∃ (c : Nat) (z : Str), x = .str ⟨#[c]⟩ ∧ y = .str z ∧ Q (.bl (decide (c ∈ z.cps.toList))) H
structure uNotIn (K : PySem.W.Frag) (x y : V) (H : Hp) (Q : VK) : Prop where
  run : (∃ i j, x = .str i ∧ y = .str j ∧ Q (.bl (!(!(Builtin.Str.occurrences j i 0 j.length 1).isEmpty))) H) ∨ rIn K true x y H Q ∨ (∃ a o, y = .ref a ∧ DGet H a x o ∧ Q (.bl (!o.isSome)) H) ∨ ∃ (c : Nat) (z : Str), x = .str ⟨#[c]⟩ ∧ y = .str z ∧ Q (.bl (!decide (c ∈ z.cps.toList))) H
theorem pc_uIn (hu : X.A.units + 1 < cLine) : PC X .In a b (fun σ H Q => RE X a σ H fun x H1 => RE X b σ H1 fun y H2 => uIn X.K x y H2 Q) := by
  refine ⟨fun pins s σ H Q I h => ?_⟩
  refine thn (h.run pins s I) fun iv s1 ⟨x, H1, I1, rx, q1⟩ => thn (q1.run pins s1 I1) fun u s2 ⟨y, H2, I2, ry, q2⟩ => ?_
  rcases q2.run with h | h | ⟨a, o, ey, g, q⟩ | h
  case inr.inr.inr => exact op_in_sign pins s2 σ H2 x y iv u Q I2 rx ry h
  · exact op_in_str pins s2 σ H2 x y iv u Q I2 rx ry h
  · exact op_in_seq pins s2 σ H2 x y iv u Q I2 rx ry h
  · subst ey
    obtain rfl : u = Value.ref a := ry
    exact d_in hu I2 g rx fun s3 I3 => ⟨.bl o.isSome, H2, I3, rfl, q⟩
theorem pc_uNotIn (hu : X.A.units + 1 < cLine) : PC X .NotIn a b (fun σ H Q => RE X a σ H fun x H1 => RE X b σ H1 fun y H2 => uNotIn X.K x y H2 Q) := by
  refine ⟨fun pins s σ H Q I h => ?_⟩
  refine thn (h.run pins s I) fun iv s1 ⟨x, H1, I1, rx, q1⟩ => thn (q1.run pins s1 I1) fun u s2 ⟨y, H2, I2, ry, q2⟩ => ?_
  rcases q2.run with h | h | ⟨a, o, ey, g, q⟩ | h
  case inr.inr.inr => exact op_notIn_sign pins s2 σ H2 x y iv u Q I2 rx ry h
  · exact op_notin_str pins s2 σ H2 x y iv u Q I2 rx ry h
  · exact op_notIn_seq pins s2 σ H2 x y iv u Q I2 rx ry h
  · subst ey
    obtain rfl : u = Value.ref a := ry
    exact d_notIn hu I2 g rx fun s3 I3 => ⟨.bl (!o.isSome), H2, I3, rfl, q⟩
theorem re_in (hu : X.A.units + 1 < cLine) (h : RE X a σ H fun x H1 => RE X b σ H1 fun y H2 => uIn X.K x y H2 Q) (hm : behindInMarks .In b = false := by rfl) : RE X (.Compare a [.In] [b] pos) σ H Q := re_of (pe_cmp (pc_uIn hu) hm) h
theorem re_notIn (hu : X.A.units + 1 < cLine) (h : RE X a σ H fun x H1 => RE X b σ H1 fun y H2 => uNotIn X.K x y H2 Q) (hm : behindInMarks .NotIn b = false := by rfl) : RE X (.Compare a [.NotIn] [b] pos) σ H Q := re_of (pe_cmp (pc_uNotIn hu) hm) h
theorem uIn_str {K : PySem.W.Frag} {i j : Str} (q : Q (.bl (!(Builtin.Str.occurrences j i 0 j.length 1).isEmpty)) H) : uIn K (.str i) (.str j) H Q := ⟨.inl ⟨i, j, rfl, rfl, q⟩⟩
theorem uIn_seq {K : PySem.W.Frag} {x : V} {p : Addr} {xs : List V} (h : SqL K H p xs ∨ SqT K H p xs) (hx : flatV x = true) (ha : xs.all flatV = true) (q : Q (.bl (inV x xs)) H) : uIn K x (.ref p) H Q := ⟨.inr (.inl ⟨p, xs, rfl, h, hx, ha, q⟩)⟩
theorem uIn_dict {K : PySem.W.Frag} {x : V} {p : Addr} {o : Option V} (g : DGet H p x o) (q : Q (.bl o.isSome) H) : uIn K x (.ref p) H Q := ⟨.inr (.inr (.inl ⟨p, o, rfl, g, q⟩))⟩
theorem uIn_sign {K : PySem.W.Frag} {c : Nat} {z : Str} (q : Q (.bl (decide (c ∈ z.cps.toList))) H) : uIn K (.str ⟨#[c]⟩) (.str z) H Q := ⟨.inr (.inr (.inr ⟨c, z, rfl, rfl, q⟩))⟩
theorem uNotIn_str {K : PySem.W.Frag} {i j : Str} (q : Q (.bl (!(!(Builtin.Str.occurrences j i 0 j.length 1).isEmpty))) H) : uNotIn K (.str i) (.str j) H Q := ⟨.inl ⟨i, j, rfl, rfl, q⟩⟩
theorem uNotIn_seq {K : PySem.W.Frag} {x : V} {p : Addr} {xs : List V} (h : SqL K H p xs ∨ SqT K H p xs) (hx : flatV x = true) (ha : xs.all flatV = true) (q : Q (.bl (!inV x xs)) H) : uNotIn K x (.ref p) H Q := ⟨.inr (.inl ⟨p, xs, rfl, h, hx, ha, q⟩)⟩
theorem uNotIn_dict {K : PySem.W.Frag} {x : V} {p : Addr} {o : Option V} (g : DGet H p x o) (q : Q (.bl (!o.isSome)) H) : uNotIn K x (.ref p) H Q := ⟨.inr (.inr (.inl ⟨p, o, rfl, g, q⟩))⟩
theorem uNotIn_sign {K : PySem.W.Frag} {c : Nat} {z : Str} (q : Q (.bl (!decide (c ∈ z.cps.toList))) H) : uNotIn K (.str ⟨#[c]⟩) (.str z) H Q := ⟨.inr (.inr (.inr ⟨c, z, rfl, rfl, q⟩))⟩
end

/-! ### tests, and, or, not -/
section
variable {X : Cx} {σ : St} {H : Hp} {QB : Bool → Hp → Prop} {Q : VK} {pos : Pos} {a b c : Expr} {rest : List Expr}
theorem tobQ {t : TE} (h : t σ H (toB QB)) (mono : ∀ Q Q' : VK, (∀ v H', Q v H' → Q' v H') → t σ H Q → t σ H Q') : t σ H fun x H1 => ∃ c, x = .bl c ∧ QB c H1 := mono _ _ (fun _ _ q => q.run) h
/-- a comparison as a test: PC's reading with a truth value behind it -/
def tPC (op : CmpOp) (X : Cx) (a b : Expr) : TE := fun σ H Q => ∀ (pins : List (Addr × Obj)) (s : Shared), Inv X pins σ H s →
  wpAny (model X.prog X.w) X.A (eval a X.env) (fun v s₁ => wpAny (model X.prog X.w) X.A (eval b X.env) (fun u s₂ => wpAny (model X.prog X.w) X.A (compareOp op v u) (EP X pins σ Q) X.xe s₂) X.xe s₁) X.xe s
theorem pc_self {op : CmpOp} : PC X op a b (tPC op X a b) := ⟨fun pins s σ H Q I h => h pins s I⟩
theorem tPC_of {op : CmpOp} {t : TE} (h : PC X op a b t) (q : t σ H Q) : tPC op X a b σ H Q := fun pins s I => h.run pins s σ H Q I q
theorem rt_pc {op : CmpOp} (h : tPC op X a b σ H (toB QB)) (h1 : behindInMarks op b = false := by first | exact nobehind _ (by decide) (by decide) | rfl) : RT X (.Compare a [op] [b] pos) σ H QB :=
  rt_of (pt_cmp pc_self h1) fun pins s I => thn (h pins s I) fun v s1 h1 => thn h1 fun u s2 h2 => thn h2 fun r s3 ⟨z, H1, I1, r1, q⟩ => ⟨z, H1, I1, r1, q.run⟩
theorem tPC_op {op : CmpOp} {r : R2} (ho : OpR X (compareOp op) r) (h : RE X a σ H fun x H1 => RE X b σ H1 fun y H2 => r x y H2 Q) : tPC op X a b σ H Q := fun pins s I =>
  thn (h.run pins s I) fun v s1 ⟨x, H1, I1, r1, q1⟩ => thn (q1.run pins s1 I1) fun u s2 ⟨y, H2, I2, r2, q2⟩ => ho pins s2 σ H2 x y v u Q I2 r1 r2 q2
theorem rt_eq (h : RE X a σ H fun x H1 => RE X b σ H1 fun y H2 => uOp rEq x y H2 (toB QB)) : RT X (.Compare a [.Eq] [b] pos) σ H QB := rt_pc (tPC_op (op_uOp op_eq) h)
theorem rt_ne (h : RE X a σ H fun x H1 => RE X b σ H1 fun y H2 => uOp rNe x y H2 (toB QB)) : RT X (.Compare a [.NotEq] [b] pos) σ H QB := rt_pc (tPC_op (op_uOp op_ne) h)
theorem rt_lt (h : RE X a σ H fun x H1 => RE X b σ H1 fun y H2 => uInt CTrue gLt x y H2 (toB QB)) : RT X (.Compare a [.Lt] [b] pos) σ H QB := rt_pc (tPC_op (op_uInt0 op_lt) h)
theorem rt_le (h : RE X a σ H fun x H1 => RE X b σ H1 fun y H2 => uInt CTrue gLe x y H2 (toB QB)) : RT X (.Compare a [.LtE] [b] pos) σ H QB := rt_pc (tPC_op (op_uInt0 op_le) h)
theorem rt_gt (h : RE X a σ H fun x H1 => RE X b σ H1 fun y H2 => uInt CTrue gGt x y H2 (toB QB)) : RT X (.Compare a [.Gt] [b] pos) σ H QB := rt_pc (tPC_op (op_uInt0 op_gt) h)
theorem rt_ge (h : RE X a σ H fun x H1 => RE X b σ H1 fun y H2 => uInt CTrue gGe x y H2 (toB QB)) : RT X (.Compare a [.GtE] [b] pos) σ H QB := rt_pc (tPC_op (op_uInt0 op_ge) h)
theorem rt_is (h : RE X a σ H fun x H1 => RE X b σ H1 fun y H2 => uOp rIsC x y H2 (toB QB)) : RT X (.Compare a [.Is] [b] pos) σ H QB := rt_pc (tPC_op (op_uOp op_isC) h)
theorem rt_isNot (h : RE X a σ H fun x H1 => RE X b σ H1 fun y H2 => uOp rIsNotC x y H2 (toB QB)) : RT X (.Compare a [.IsNot] [b] pos) σ H QB := rt_pc (tPC_op (op_uOp op_isNotC) h)
theorem rt_in (hu : X.A.units + 1 < cLine) (h : RE X a σ H fun x H1 => RE X b σ H1 fun y H2 => uIn X.K x y H2 (toB QB)) (hm : behindInMarks .In b = false := by rfl) : RT X (.Compare a [.In] [b] pos) σ H QB := rt_pc (tPC_of (pc_uIn hu) h) hm
theorem rt_notIn (hu : X.A.units + 1 < cLine) (h : RE X a σ H fun x H1 => RE X b σ H1 fun y H2 => uNotIn X.K x y H2 (toB QB)) (hm : behindInMarks .NotIn b = false := by rfl) : RT X (.Compare a [.NotIn] [b] pos) σ H QB := rt_pc (tPC_of (pc_uNotIn hu) h) hm
/-- an expression that gives a truth value, as a test -/
theorem rt_val {e : Expr} (h : RE X e σ H (toB QB)) (he : ∀ whole, isTrue e X.env whole = (do let v ← whole; standAt e.pos; holding [v] (truthy v)) := by intro _; rfl) : RT X e σ H QB :=
  rt_of (pt_val pe_self he) ⟨fun pins s I => thn (h.run pins s I) fun v s1 ⟨z, H1, I1, r1, q⟩ => ⟨z, H1, I1, r1, q.run⟩⟩
/-- an expression's truth -/
theorem rt_truth {e : Expr} (h : RE X e σ H fun x H1 => ∃ k, TruV X.K x H1 k ∧ QB k H1) (he : ∀ whole, isTrue e X.env whole = (do let v ← whole; standAt e.pos; holding [v] (truthy v)) := by intro _; rfl) : RT X e σ H QB := rt_of (pt_truth pe_self he) h
theorem rw_pt {e : Expr} (h : ∀ wh : Sem Value, isTrue e X.env wh = isTrue e X.env (eval e X.env)) (q : RT X e σ H QB) : RW X e σ H QB := ⟨fun wh pins s I => by rw [h wh]; exact q.run pins s I⟩
theorem rt_rw {e : Expr} (h : RW X e σ H QB) : RT X e σ H QB := ⟨fun pins s I => h.run _ pins s I⟩
theorem rt_not (h : RT X a σ H fun k H1 => QB (!k) H1) : RT X (.UnaryOp .Not a pos) σ H QB := rt_of (pt_not pt_self) h
theorem rw_and1 (h : RT X a σ H QB) : RW X (.BoolOp .And [a] pos) σ H QB := rw_of (pw_and1 pt_self) h
theorem rw_or1 (h : RT X a σ H QB) : RW X (.BoolOp .Or [a] pos) σ H QB := rw_of (pw_or1 pt_self) h
theorem rw_and (h : RT X a σ H fun k H1 => ifB k (RW X (.BoolOp .And (b :: rest) pos) σ H1 QB) (QB false H1)) : RW X (.BoolOp .And (a :: b :: rest) pos) σ H QB :=
  rw_of (pw_and pt_self pw_self) ⟨fun pins s I => thn (h.run pins s I) fun k s1 ⟨H1, I1, q⟩ => ⟨H1, I1, q.ite⟩⟩
theorem rw_or (h : RT X a σ H fun k H1 => ifB k (QB true H1) (RW X (.BoolOp .Or (b :: rest) pos) σ H1 QB)) : RW X (.BoolOp .Or (a :: b :: rest) pos) σ H QB :=
  rw_of (pw_or pt_self pw_self) ⟨fun pins s I => thn (h.run pins s I) fun k s1 ⟨H1, I1, q⟩ => ⟨H1, I1, q.ite⟩⟩
/-- as values: truth values -/
theorem re_one {op} (h : RE X a σ H Q) : RE X (.BoolOp op [a] pos) σ H Q := re_of (pe_one pe_self) h
theorem re_and (h : RE X a σ H fun x H1 => toB (fun k H1 => ifB k (RE X (.BoolOp .And (b :: rest) pos) σ H1 Q) (Q (.bl false) H1)) x H1) : RE X (.BoolOp .And (a :: b :: rest) pos) σ H Q :=
  re_of (pe_and pe_self pe_self) ⟨fun pins s I => thn (h.run pins s I) fun v s1 ⟨z, H1, I1, r1, q⟩ => ⟨z, H1, I1, r1, let ⟨k, e, q⟩ := q.run; ⟨k, e, q.ite⟩⟩⟩
theorem re_or (h : RE X a σ H fun x H1 => toB (fun k H1 => ifB k (Q (.bl true) H1) (RE X (.BoolOp .Or (b :: rest) pos) σ H1 Q)) x H1) : RE X (.BoolOp .Or (a :: b :: rest) pos) σ H Q :=
  re_of (pe_or pe_self pe_self) ⟨fun pins s I => thn (h.run pins s I) fun v s1 ⟨z, H1, I1, r1, q⟩ => ⟨z, H1, I1, r1, let ⟨k, e, q⟩ := q.run; ⟨k, e, q.ite⟩⟩⟩
theorem re_not (h : RE X a σ H fun x H1 => toB (fun k H1 => Q (.bl (!k)) H1) x H1) : RE X (.UnaryOp .Not a pos) σ H Q :=
  re_of (pe_not pe_self) ⟨fun pins s I => thn (h.run pins s I) fun v s1 ⟨z, H1, I1, r1, q⟩ => ⟨z, H1, I1, r1, q.run⟩⟩
theorem re_ifExp (h : RT X c σ H fun k H1 => ifB k (RE X a σ H1 Q) (RE X b σ H1 Q)) : RE X (.IfExp c a b pos) σ H Q :=
  re_of (pe_ifExp pt_self pe_self pe_self) ⟨fun pins s I => thn (h.run pins s I) fun k s1 ⟨H1, I1, q⟩ => ⟨H1, I1, q.ite⟩⟩
end

/-! ### arguments, displays -/
section
variable {X : Cx} {σ : St} {H : Hp} {QA : List V → Hp → Prop} {Q : VK} {pos : Pos} {e : Expr} {es : List Expr}
theorem ra_nil (q : QA [] H) : RA X [] σ H QA := ra_of pa_nil q
theorem ra_cons (h : RE X e σ H fun x H1 => RA X es σ H1 fun xs H2 => QA (x :: xs) H2) (hs : starEach (e :: es) X.env = (false, eval e X.env) :: starEach es X.env := by rfl) : RA X (e :: es) σ H QA := ra_of (pa_cons pe_self pa_self hs) h
theorem re_tup {k : Nat} (h : RA X es σ H fun xs H1 => xs.length ≤ sizeLine ∧ ∀ p, H1 p = none → Q (.ref p) (upd H1 p (.tup xs))) : RE X (.Tuple es k pos) σ H Q := re_of (pe_tup pa_self) h
theorem re_lst (h : RA X es σ H fun xs H1 => xs.length ≤ sizeLine ∧ ∀ p, H1 p = none → Q (.ref p) (upd H1 p (.lst xs))) : RE X (.List es pos) σ H Q := re_of (pe_lst pa_self) h
theorem re_dnew (h : ∀ p, H p = none → Q (.ref p) (upd H p (.dK []))) : RE X (.Dict [] [] pos) σ H Q := re_of pe_dnewK h
end

/-! ### subscripts, slices, attributes -/
section
variable {X : Cx} {σ : St} {H : Hp} {Q : VK} {pos p2 : Pos} {a b o : Expr} {lo hi : Option Expr}
structure uIx (K : PySem.W.Frag) (x y : V) (H : Hp) (Q : VK) : Prop where
  run : rIxL K x y H Q ∨ rIxT K x y H Q ∨ rIxS x y H Q ∨ ∃ a v, x = .ref a ∧ DGet H a y (some v) ∧ Q v H
theorem uIx_lst {K : PySem.W.Frag} {p : Addr} {xs : List V} {i : Int} {v : V} (h : SqL K H p xs) (hv : atI xs i = some v) (q : Q v H) : uIx K (.ref p) (.int i) H Q := ⟨.inl ⟨p, xs, i, v, rfl, rfl, h, hv, q⟩⟩
theorem uIx_tup {K : PySem.W.Frag} {p : Addr} {xs : List V} {i : Int} {v : V} (h : SqT K H p xs) (hv : atI xs i = some v) (q : Q v H) : uIx K (.ref p) (.int i) H Q := ⟨.inr (.inl ⟨p, xs, i, v, rfl, rfl, h, hv, q⟩)⟩
theorem uIx_str {K : PySem.W.Frag} {z : Str} {i : Int} {c : Nat} (hl : z.length ≤ sizeLine) (hv : atI z.cps.toList i = some c) (q : Q (.str ⟨#[c]⟩) H) : uIx K (.str z) (.int i) H Q := ⟨.inr (.inr (.inl ⟨z, i, c, rfl, rfl, hl, hv, q⟩))⟩
theorem uIx_dict {K : PySem.W.Frag} {p : Addr} {y v : V} (g : DGet H p y (some v)) (q : Q v H) : uIx K (.ref p) y H Q := ⟨.inr (.inr (.inr ⟨p, v, rfl, g, q⟩))⟩
theorem re_ix (hu : X.A.units + 1 < cLine) (h : RE X a σ H fun x H1 => RE X b σ H1 fun y H2 => uIx X.K x y H2 Q) (hs : PlainIx b := by exact fun _ _ => rfl) : RE X (.Subscript a b pos) σ H Q := by
  refine ⟨fun pins s I => ?_⟩
  refine Subscript_ (thn (h.run pins s I) fun v s1 ⟨x, H1, I1, rx, q1⟩ => thn (q1.run pins s1 I1) fun u s2 ⟨y, H2, I2, ry, q2⟩ => ?_)
  rcases q2.run with h | h | h | ⟨p, z, ex, g, q⟩
  · exact ix_list a b pins s2 σ H2 x y v u Q I2 rx ry h (hs _ _)
  · exact ix_tup a b pins s2 σ H2 x y v u Q I2 rx ry h (hs _ _)
  · exact ix_str a b pins s2 σ H2 x y v u Q I2 rx ry h (hs _ _)
  · subst ex
    obtain rfl : v = Value.ref p := rx
    have hT := dict_typeIs I2 g
    unfold subscriptTail
    refine wpAny_bind ?_
    rw [getitemInPython_of_ne hT.not_modules]
    refine wpAny_bind (wpAny_specialOf hT PySem.F.slot_dict_getitem.lookup ?_)
    have fin : wpAny (model X.prog X.w) X.A (subscripted b false (.ref p) u) (fun r s₃ => wpAny (model X.prog X.w) X.A (letTemporaryGo a (.ref p) r >>= fun _ => pure r) (EP X pins σ Q) X.xe s₃) X.xe s2 := by
      rw [hs (.ref p) u]
      exact wpAny_operating (wpAny_mono (d_getItem hu I2 g ry fun w' s3 I3 rw' => (⟨z, H2, I3, rw', q⟩ : EP X pins σ Q w' s3)) (fun r s₃ h₃ => wpAny_bind (wpAny_letTemporaryGo (wpAny_pure h₃))) fun _ _ x => x)
    first
      | exact wpAny_pure (wpAny_bind fin)
      | exact wpAny_bind (wpAny_pure (wpAny_bind fin))
      | exact wpAny_bind fin
/-- a part of a slice -/
def oPart (X : Cx) : Option Expr → TO
  | none => tNoPart
  | some e => tPart (RE X e)
theorem po_part : ∀ o : Option Expr, PO X o (oPart X o)
  | none => po_none
  | some _ => po_some pe_self
structure RO (X : Cx) (e : Option Expr) (σ : St) (H : Hp) (Q : Option Int → Hp → Prop) : Prop where
  run : oPart X e σ H Q
theorem po_self {e : Option Expr} : PO X e (RO X e) := ⟨fun pins s σ H Q I h => (po_part e).run pins s σ H Q I h.run⟩
theorem ro_none {Q : Option Int → Hp → Prop} (q : Q none H) : RO X none σ H Q := ⟨q⟩
structure toI (Q : Int → Hp → Prop) (z : V) (H : Hp) : Prop where
  run : ∃ k, z = .int k ∧ Q k H
theorem toI_int {Q : Int → Hp → Prop} {k : Int} {H : Hp} (h : Q k H) : toI Q (.int k) H := ⟨k, rfl, h⟩
theorem ro_some {e : Expr} {Q : Option Int → Hp → Prop} (h : RE X e σ H (toI fun i H1 => Q (some i) H1)) : RO X (some e) σ H Q :=
  ⟨⟨fun pins s I => thn (h.run pins s I) fun v s1 ⟨z, H1, I1, r1, q⟩ => ⟨z, H1, I1, r1, q.run⟩⟩⟩
structure uSl (K : PySem.W.Frag) (x : V) (lo hi : Option Int) (H : Hp) (Q : VK) : Prop where
  run : rSlL K x lo hi H Q ∨ rSlS x lo hi H Q ∨ rSlA K x lo hi H Q
theorem uSl_str {K : PySem.W.Frag} {z : Str} {lo hi : Option Int} (hl : z.length ≤ sizeLine) (q : Q (.str (cutS z lo hi)) H) : uSl K (.str z) lo hi H Q := ⟨.inr (.inl ⟨z, rfl, hl, q⟩)⟩
theorem uSl_lst {K : PySem.W.Frag} {a : Addr} {xs : List V} {lo hi : Option Int} (h : SqL K H a xs) (q : ∀ p, H p = none → Q (.ref p) (upd H p (.lst (cutV xs lo hi)))) : uSl K (.ref a) lo hi H Q := ⟨.inl ⟨a, xs, rfl, h, q⟩⟩
theorem re_slice (h : RE X a σ H fun x H1 => RO X lo σ H1 fun l H2 => RO X hi σ H2 fun u H3 => uSl X.K x l u H3 Q) : RE X (.Subscript a (.Slice lo hi none p2) pos) σ H Q := by
  refine re_of (pe_slice (r := fun x l u H Q => rSlL X.K x l u H Q ∨ rSlS x l u H Q ∨ rSlA X.K x l u H Q) (.or sl_list (.or sl_str sl_tupA)) pe_self po_self po_self) ?_
  refine ⟨fun pins s I => thn (h.run pins s I) fun v s1 ⟨z, H1, I1, r1, q⟩ => ⟨z, H1, I1, r1, ?_⟩⟩
  have mono : ∀ {o : Option Expr} {H : Hp} {Q Q' : Option Int → Hp → Prop}, RO X o σ H Q → (∀ i H', Q i H' → Q' i H') → RO X o σ H Q' := fun {o H Q Q'} h k => by
    refine ⟨?_⟩
    have h := h.run
    cases o with
    | none => exact k _ _ h
    | some e => exact ⟨fun pins s I => thn (RE.run h pins s I) fun v s1 ⟨z, H1, I1, r1, i, e, q⟩ => ⟨z, H1, I1, r1, i, e, k _ _ q⟩⟩
  exact mono q fun l H2 q => mono q fun u H3 q => q.run
/-! attributes -/
structure uFld (K : PySem.W.Frag) (f : Str) (x : V) (H : Hp) (Q : VK) : Prop where
  run : (∃ a C dx fs v, x = .ref a ∧ H a = some (.ins C dx fs) ∧ Cls K C ∧ NoAttr K C f ∧ fs.lookup f = some v ∧ Q v H)
theorem uFld_mk {K : PySem.W.Frag} {a C dx : Addr} {fs : List (Str × V)} {f : Str} {v : V} (h : H a = some (.ins C dx fs)) (c : Cls K C) (n : NoAttr K C f) (l : fs.lookup f = some v) (q : Q v H) : uFld K f (.ref a) H Q := ⟨⟨a, C, dx, fs, v, rfl, h, c, n, l, q⟩⟩
theorem re_fld {f : Str} (h : RE X o σ H fun x H1 => uFld X.K f x H1 Q) (hb : attributeBase o f X.env (eval o X.env) = eval o X.env := by rfl) : RE X (.Attribute o f pos) σ H Q :=
  re_of (pe_fld pe_self hb) ⟨fun pins s I => thn (h.run pins s I) fun v s1 ⟨z, H1, I1, r1, q⟩ => ⟨z, H1, I1, r1, q.run⟩⟩
end
section
variable {X : Cx} {σ : St} {H : Hp} {D : Ends} {pos pos' tpos : Pos} {o value : Expr} {f : Str} {W : WX}
structure uSet (K : PySem.W.Frag) (f : Str) (y x : V) (H : Hp) (N : Hp → Prop) : Prop where
  run : ∃ a C dx fs, x = .ref a ∧ H a = some (.ins C dx fs) ∧ Cls K C ∧ NoAttr K C f ∧ fs.length < 1000 ∧ N (upd H a (.ins C dx (putF f y fs)))
theorem uSet_mk {K : PySem.W.Frag} {a C dx : Addr} {fs : List (Str × V)} {y : V} {N : Hp → Prop} (h : H a = some (.ins C dx fs)) (c : Cls K C) (n : NoAttr K C f) (l : fs.length < 1000) (q : N (upd H a (.ins C dx (putF f y fs)))) : uSet K f y (.ref a) H N := ⟨⟨a, C, dx, fs, rfl, h, c, n, l, q⟩⟩
theorem rs_fld (h : RE X value σ H fun y H1 => RE X o σ H1 fun x H2 => uSet X.K f y x H2 (D.nx σ)) (hs : swapsWith value (some (.Attribute o f pos')) pos.line X.env = pure false := by rfl) : RS X (.Assign [.Attribute o f pos'] value pos) D σ H :=
  rs_of (ps_fld pe_self pe_self hs) ⟨fun pins s I => thn (h.run pins s I) fun v s1 ⟨z, H1, I1, r1, q⟩ => ⟨z, H1, I1, r1, ⟨fun pins s I => thn (q.run pins s I) fun v s1 ⟨z, H1, I1, r1, q⟩ => ⟨z, H1, I1, r1, q.run⟩⟩⟩⟩
/-- o.f += e -/
structure uAug (K : PySem.W.Frag) (X : Cx) (op : Operator) (value : Expr) (σ : St) (f : Str) (x : V) (H : Hp) (N : Hp → Prop) : Prop where
  run : ∃ a C dx fs v, x = .ref a ∧ H a = some (.ins C dx fs) ∧ Cls K C ∧ NoAttr K C f ∧ fs.lookup f = some v ∧ RE X value σ H fun y H2 => uAdd K v y H2 fun z H3 => ∃ dx' fs', H3 a = some (.ins C dx' fs') ∧ fs'.length < 1000 ∧ N (upd H3 a (.ins C dx' (putF f z fs')))
theorem in_uAdd : InOp X .Add (fun x y H Q => (∃ i j, x = .int i ∧ y = .int j ∧ Q (.int (i + j)) H)) := in_add
theorem rs_fldaug (h : RE X o σ H fun x H1 => ∃ a C dx fs v, x = .ref a ∧ H1 a = some (.ins C dx fs) ∧ Cls X.K C ∧ NoAttr X.K C f ∧ fs.lookup f = some (.int v) ∧ RE X value σ H1 fun y H2 => ∃ j, y = .int j ∧
    ∃ dx' fs', H2 a = some (.ins C dx' fs') ∧ fs'.length < 1000 ∧ D.nx σ (upd H2 a (.ins C dx' (putF f (.int (v + j)) fs')))) : RS X (.AugAssign (.Attribute o f tpos) .Add value pos) D σ H := by
  refine rs_of (ps_fldaug pe_self pe_self in_add) ?_
  refine ⟨fun pins s I => thn (h.run pins s I) fun v s1 ⟨z, H1, I1, r1, a, C, dx, fs, v, e, ha, c, n, l, q⟩ => ⟨z, H1, I1, r1, a, C, dx, fs, .int v, e, ha, c, n, l, ?_⟩⟩
  exact ⟨fun pins s I => thn (q.run pins s I) fun u s1 ⟨z, H1, I1, r1, j, e, dx', fs', h1, h2, h3⟩ => ⟨z, H1, I1, r1, v, j, rfl, e, dx', fs', h1, h2, h3⟩⟩
/-- d[k] = e -/
structure uPut (x y v : V) (H : Hp) (N : Hp → Prop) : Prop where
  run : ∃ a H4, x = .ref a ∧ DPut H a y v H4 ∧ N H4
theorem uPut_k {a : Addr} {kvs : List (Key × V)} {k : Key} {v : V} {N : Hp → Prop} (h : H a = some (.dK kvs)) (hl : kvs.length < sizeLine) (q : N (upd H a (.dK (putK kvs k v)))) : uPut (.ref a) (kV k) v H N := ⟨⟨a, _, rfl, DPut.k h hl, q⟩⟩
theorem uPut_s {a : Addr} {kvs : List (Key × V)} {k : Str} {v : V} {N : Hp → Prop} (h : H a = some (.dK kvs)) (hl : kvs.length < sizeLine) (q : N (upd H a (.dK (putK kvs (.inr k) v)))) : uPut (.ref a) (.str k) v H N := ⟨⟨a, _, rfl, DPut.k (k := .inr k) h hl, q⟩⟩
theorem uPut_i {a : Addr} {kvs : List (Key × V)} {k : Int} {v : V} {N : Hp → Prop} (h : H a = some (.dK kvs)) (hl : kvs.length < sizeLine) (q : N (upd H a (.dK (putK kvs (.inl k) v)))) : uPut (.ref a) (.int k) v H N := ⟨⟨a, _, rfl, DPut.k (k := .inl k) h hl, q⟩⟩
theorem rs_dput {i : Expr} (hu : X.A.units + 1 < cLine) (h : RE X value σ H fun v H1 => RE X o σ H1 fun x H2 => RE X i σ H2 fun y H3 => uPut x y v H3 (D.nx σ)) (hs : swapsWith value (some (.Subscript o i pos')) pos.line X.env = pure false := by rfl) :
    RS X (.Assign [.Subscript o i pos'] value pos) D σ H := by
  refine rs_of (ps_dput hu pe_self pe_self pe_self hs) ?_
  refine ⟨fun pins s I => thn (h.run pins s I) fun v s1 ⟨z, H1, I1, r1, q⟩ => ⟨z, H1, I1, r1, ?_⟩⟩
  refine ⟨fun pins s I => thn (q.run pins s I) fun v s1 ⟨z, H1, I1, r1, q⟩ => ⟨z, H1, I1, r1, ?_⟩⟩
  exact ⟨fun pins s I => thn (q.run pins s I) fun v s1 ⟨z, H1, I1, r1, q⟩ => ⟨z, H1, I1, r1, q.run⟩⟩
end

/-! ### calls of builtins -/
section
variable {X : Cx} {σ : St} {H : Hp} {Q : VK} {pos p cpos apos : Pos} {e o : Expr} {es : List Expr}
structure uC (r : List V → Hp → VK → Prop) (xs : List V) (H : Hp) (Q : VK) : Prop where
  run : r xs H Q
theorem re_callB {x : Str} {id : String} {r : List V → Hp → VK → Prop} (hc : CallR X (.builtin id) r) (hm : X.mg x = none) (hv : bootBuiltins x = some (.builtin id)) (h : RA X (e :: es) σ H fun xs H1 => uC r xs H1 Q) (hg : Gl X x := by rfl)
    (hn : x ≠ "__name__" := by decide) (hdb : (x == ("__debug__" : Str)) = false := by decide) (he : starEach (e :: es) X.env = (false, eval e X.env) :: starEach es X.env := by rfl) (hpl : (backTo pos (starEach es X.env)).any (·.1) = false := by rfl) :
    RE X (.Call (.Name x p) (e :: es) [] pos) σ H Q :=
  re_of (pe_callB hc hg hm hv pa_self hn hdb he hpl) ⟨fun ps pins s I => thn (h.run ps pins s I) fun us s1 ⟨xs, H1, I1, r1, q⟩ => ⟨xs, H1, I1, r1, q.run⟩⟩
theorem re_callTy {x : Str} {T : String} {r : List V → Hp → VK → Prop} (hc : CallR X (.type T) r) (hm : X.mg x = none) (hv : bootBuiltins x = some (.type T)) (h : RA X (e :: es) σ H fun xs H1 => uC r xs H1 Q) (hg : Gl X x := by rfl)
    (hn : x ≠ "__name__" := by decide) (hdb : (x == ("__debug__" : Str)) = false := by decide) (he : starEach (e :: es) X.env = (false, eval e X.env) :: starEach es X.env := by rfl) (hpl : (backTo pos (starEach es X.env)).any (·.1) = false := by rfl) :
    RE X (.Call (.Name x p) (e :: es) [] pos) σ H Q :=
  re_of (pe_callTy hc hg hm hv pa_self hn hdb he hpl) ⟨fun ps pins s I => thn (h.run ps pins s I) fun us s1 ⟨xs, H1, I1, r1, q⟩ => ⟨xs, H1, I1, r1, q.run⟩⟩
/-- len -/
def vLen (K : PySem.W.Frag) : List V → Hp → VK → Prop := fun xs H Q => (∃ z, xs = [.str z] ∧ z.length ≤ sizeLine ∧ Q (.int z.length) H) ∨ (∃ p ys, xs = [.ref p] ∧ (SqL K H p ys ∨ SqT K H p ys) ∧ Q (.int ys.length) H) ∨ ∃ d kvs, xs = [.ref d] ∧ H d = some (.dK kvs) ∧ Q (.int kvs.length) H
theorem call_vLen : CallR X (.builtin "len") (vLen X.K) := by
  intro pins s σ H xs us Q I r h
  rcases h with h | h | ⟨d, kvs, e, hd, q⟩
  · exact call_len_str pins s σ H xs us Q I r h
  · exact call_len_seq pins s σ H xs us Q I r h
  · exact call_lenD pins s σ H xs us Q I r ⟨d, kvs, e, hd, q⟩
theorem re_len (hm : X.mg "len" = none) (h : RA X [e] σ H fun xs H1 => uC (vLen X.K) xs H1 Q) (hg : Gl X "len" := by rfl) (he : starEach [e] X.env = (false, eval e X.env) :: starEach [] X.env := by rfl) : RE X (.Call (.Name "len" p) [e] [] pos) σ H Q :=
  re_callB call_vLen hm PySem.boot_len h hg (by decide) (by decide) he rfl
theorem uLen_str {K : PySem.W.Frag} {z : Str} (hl : z.length ≤ sizeLine) (q : Q (.int z.length) H) : uC (vLen K) [.str z] H Q := ⟨.inl ⟨z, rfl, hl, q⟩⟩
theorem uLen_lst {K : PySem.W.Frag} {a : Addr} {ys : List V} (h : SqL K H a ys) (q : Q (.int ys.length) H) : uC (vLen K) [.ref a] H Q := ⟨.inr (.inl ⟨a, ys, rfl, .inl h, q⟩)⟩
theorem uLen_tup {K : PySem.W.Frag} {a : Addr} {ys : List V} (h : SqT K H a ys) (q : Q (.int ys.length) H) : uC (vLen K) [.ref a] H Q := ⟨.inr (.inl ⟨a, ys, rfl, .inr h, q⟩)⟩
theorem uLen_dic {K : PySem.W.Frag} {a : Addr} {ys : List (Key × V)} (h : H a = some (.dK ys)) (q : Q (.int ys.length) H) : uC (vLen K) [.ref a] H Q := ⟨.inr (.inr ⟨a, ys, rfl, h, q⟩)⟩
/-- int of an int, of a text -/
def vInt : List V → Hp → VK → Prop := fun xs H Q => (∃ i, xs = [.int i] ∧ Q (.int i) H) ∨ ∃ a n, xs = [.str a] ∧ PySem.intText? a = some n ∧ a.length ≤ 640 ∧ Q (.int n) H
theorem call_vInt : CallR X (.type "int") vInt := by
  intro pins s σ H xs us Q I r h
  rcases h with ⟨i, e, q⟩ | h
  · exact call_int1 pins s σ H xs us Q I r (.inl ⟨i, e, q⟩)
  · exact call_int_str pins s σ H xs us Q I r h
theorem boot_int' : bootBuiltins "int" = some (.type "int") := by decide +kernel
theorem boot_str' : bootBuiltins "str" = some (.type "str") := by decide +kernel
theorem boot_list' : bootBuiltins "list" = some (.type "list") := by decide +kernel
theorem boot_bool' : bootBuiltins "bool" = some (.type "bool") := by decide +kernel
theorem boot_dict' : bootBuiltins "dict" = some (.type "dict") := by decide +kernel
theorem boot_tuple' : bootBuiltins "tuple" = some (.type "tuple") := by decide +kernel
theorem boot_abs' : bootBuiltins "abs" = some (.builtin "abs") := by decide +kernel
theorem boot_isinstance' : bootBuiltins "isinstance" = some (.builtin "isinstance") := by decide +kernel
theorem boot_repr' : bootBuiltins "repr" = some (.builtin "repr") := by decide +kernel
theorem re_intC (hm : X.mg "int" = none) (h : RA X [e] σ H fun xs H1 => uC vInt xs H1 Q) (hg : Gl X "int" := by rfl) (he : starEach [e] X.env = (false, eval e X.env) :: starEach [] X.env := by rfl) : RE X (.Call (.Name "int" p) [e] [] pos) σ H Q :=
  re_callTy call_vInt hm boot_int' h hg (by decide) (by decide) he rfl
theorem uInt_int {i : Int} (q : Q (.int i) H) : uC vInt [.int i] H Q := ⟨.inl ⟨i, rfl, q⟩⟩
theorem uInt_str {a : Str} {n : Int} (h : PySem.intText? a = some n) (hl : a.length ≤ 640) (q : Q (.int n) H) : uC vInt [.str a] H Q := ⟨.inr ⟨a, n, rfl, h, hl, q⟩⟩
/-- str of an int, of a text -/
def vStr : List V → Hp → VK → Prop := fun xs H Q => (∃ i, xs = [.int i] ∧ i.natAbs.log2 < 1920 ∧ Q (.str (toString i)) H) ∨ ∃ a, xs = [.str a] ∧ Q (.str a) H
theorem call_vStr : CallR X (.type "str") vStr := by
  intro pins s σ H xs us Q I r h
  rcases h with h | h
  · exact call_str_int pins s σ H xs us Q I r h
  · exact SkE.call_str_str pins s σ H xs us Q I r h
theorem re_strC (hm : X.mg "str" = none) (h : RA X [e] σ H fun xs H1 => uC vStr xs H1 Q) (hg : Gl X "str" := by rfl) (he : starEach [e] X.env = (false, eval e X.env) :: starEach [] X.env := by rfl) : RE X (.Call (.Name "str" p) [e] [] pos) σ H Q :=
  re_callTy call_vStr hm boot_str' h hg (by decide) (by decide) he rfl
theorem uStr_int {i : Int} (hz : i.natAbs.log2 < 1920) (q : Q (.str (toString i)) H) : uC vStr [.int i] H Q := ⟨.inl ⟨i, rfl, hz, q⟩⟩
theorem uStr_str {a : Str} (q : Q (.str a) H) : uC vStr [.str a] H Q := ⟨.inr ⟨a, rfl, q⟩⟩
/-- list(xs) -/
def vList (K : PySem.W.Frag) : List V → Hp → VK → Prop := fun xs H Q => ∃ p ys, xs = [.ref p] ∧ (SqL K H p ys ∨ SqT K H p ys) ∧ ∀ l, H l = none → Q (.ref l) (upd H l (.lst ys))
theorem re_listC (hm : X.mg "list" = none) (h : RA X [e] σ H fun xs H1 => uC (vList X.K) xs H1 Q) (hg : Gl X "list" := by rfl) (he : starEach [e] X.env = (false, eval e X.env) :: starEach [] X.env := by rfl) : RE X (.Call (.Name "list" p) [e] [] pos) σ H Q :=
  re_callTy (r := vList X.K) call_list_of hm boot_list' h hg (by decide) (by decide) he rfl
theorem uList_lst {K : PySem.W.Frag} {a : Addr} {ys : List V} (h : SqL K H a ys) (q : ∀ l, H l = none → Q (.ref l) (upd H l (.lst ys))) : uC (vList K) [.ref a] H Q := ⟨⟨a, ys, rfl, .inl h, q⟩⟩
theorem uList_tup {K : PySem.W.Frag} {a : Addr} {ys : List V} (h : SqT K H a ys) (q : ∀ l, H l = none → Q (.ref l) (upd H l (.lst ys))) : uC (vList K) [.ref a] H Q := ⟨⟨a, ys, rfl, .inr h, q⟩⟩
/-- abs -/
def vAbs : List V → Hp → VK → Prop := fun xs H Q => ∃ i, xs = [.int i] ∧ Q (.int (if i < 0 then -i else i)) H
theorem re_absC (hm : X.mg "abs" = none) (h : RA X [e] σ H fun xs H1 => uC vAbs xs H1 Q) (hg : Gl X "abs" := by rfl) (he : starEach [e] X.env = (false, eval e X.env) :: starEach [] X.env := by rfl) : RE X (.Call (.Name "abs" p) [e] [] pos) σ H Q :=
  re_callB (r := vAbs) call_abs hm boot_abs' h hg (by decide) (by decide) he rfl
theorem uAbs_int {i : Int} (q : Q (.int (if i < 0 then -i else i)) H) : uC vAbs [.int i] H Q := ⟨⟨i, rfl, q⟩⟩
/-- isinstance -/
theorem re_isi {e2 : Expr} (hm : X.mg "isinstance" = none) (h : RA X [e, e2] σ H fun xs H1 => uC (rIsi X.K) xs H1 Q) (hg : Gl X "isinstance" := by rfl) (he : starEach [e, e2] X.env = (false, eval e X.env) :: starEach [e2] X.env := by rfl)
    (hpl : (backTo pos (starEach [e2] X.env)).any (·.1) = false := by rfl) : RE X (.Call (.Name "isinstance" p) [e, e2] [] pos) σ H Q :=
  re_callB (r := rIsi X.K) call_isi hm boot_isinstance' h hg (by decide) (by decide) he hpl
theorem uIsi_ty {K : PySem.W.Frag} {x : V} {t n : String} {b : Bool} (ht : TyX K H x (.type t)) (hk : kitB t n = some b) (q : Q (.bl b) H) : uC (rIsi K) [x, .ty n] H Q := ⟨⟨x, .ty n, .type t, .type n, b, rfl, .ty n, ht, kit_ty hk, q⟩⟩
end
end VL

/-! VL2: defs, calls, loops, comprehensions, exceptions, methods of texts and lists. -/
namespace VL
open PySem PySem.Spec L2
open PyProof.Rows hiding St

/-- a def's promise, where no guard runs (so that repr is known) -/
structure FnG (P : Program) (w : World) (K : PySem.W.Frag) (mg : Str → Option Value) (base : Heap) (k : Nat) (f : Addr) (fd : FuncData) (ps : List Str) (sp : Sp) : Prop where
  len : ∀ vs H Q E, sp vs H Q E → vs.length = ps.length
  run : ∀ (A : Around) (outer : List Env) (s : Shared) (H : Hp) (args : Args) (us : List Value) (vs : List V) (Q : VK) (E : XK), A.guards = some [] → Room k A → Env0 P w K mg base A outer s H → BindsTo s fd args (ps.zip us) → Vals vs us → sp vs H Q E →
    codeAny (model P w) A (.call (.ref f) args) (CR (L2.CX P w) outer P w H s Q E) s
theorem FnG.imp {P : Program} {w : World} {K : PySem.W.Frag} {mg : Str → Option Value} {base : Heap} {k : Nat} {f : Addr} {fd : FuncData} {ps : List Str} {sp sp' : Sp} (F : FnG P w K mg base k f fd ps sp) (h : ∀ vs H Q E, sp' vs H Q E → sp vs H Q E) : FnG P w K mg base k f fd ps sp' :=
  ⟨fun vs H Q E q => F.len vs H Q E (h _ _ _ _ q), fun A outer s H args us vs Q E hg hr he hb hv hs => F.run A outer s H args us vs Q E hg hr he hb hv (h _ _ _ _ hs)⟩
theorem FnG.mono {P : Program} {w : World} {K : PySem.W.Frag} {mg : Str → Option Value} {base : Heap} {j k : Nat} {f : Addr} {fd : FuncData} {ps : List Str} {sp : Sp} (F : FnG P w K mg base j f fd ps sp) (h : j ≤ k) : FnG P w K mg base k f fd ps sp :=
  ⟨F.len, fun A outer s H args us vs Q E hg hr => F.run A outer s H args us vs Q E hg (hr.mono h)⟩
/-- the same of every A where the promise is weaker: by a promise that asks for False elsewhere there is none; so a body's rule of its own -/
theorem guards_deeper (A : Around) (env : Env) : (A.deeper env).guards = A.guards := rfl
theorem guards_make (A : Around) (C : Addr) (us : List Value) (kw : List (Str × Value)) : (A.under (.builtin "type.__call__" ⟨.ref C :: us, kw⟩)).guards = A.guards := by
  have h : (Code.builtin "type.__call__" ⟨.ref C :: us, kw⟩).guards = [] := by
    first
      | rfl
      | simp [Code.guards, Code.isGuard, guardIds]
  show pushGuards (Code.builtin "type.__call__" ⟨.ref C :: us, kw⟩).guards A.guards = A.guards
  rw [h]
  cases A.guards <;> rfl

/-- a body's context -/
structure BdG (X : Cx) (W : WX) (k : Nat) : Prop extends Bd X W where
  gd : X.A.guards = some []
  room : Room k X.A
theorem BdG.hu {X : Cx} {W : WX} {k : Nat} (B : BdG X W k) : X.A.units + 1 < cLine := hu_of B.room

section
variable {P : Program} {w : World} {K : PySem.W.Frag} {mg : Str → Option Value} {base : Heap}
/-- from the library's rule for a def at any place to one where no guard runs: the body is read in its context -/
theorem fnG_of {x qual : Str} {params : Arguments} {body : List Stmt} {scope : Scope} {f : Addr} {fd : FuncData} {N ps : List Str} {k : Nat} {sp : Sp} (F : FunD K x qual params body scope [] [] f fd) (S : FnScope N ps scope) (len : ∀ vs H Q E, sp vs H Q E → vs.length = ps.length)
    (hb : ∀ (cdv : Value) (A : Around) (outer : List Env) (s : Shared) (H : Hp) (vs : List V) (Q : VK) (E : XK), BdG (cxOf (L2.CX P w) P w K mg base N qual scope f cdv A outer s H E) (fun cls d _ H => E cls d H) k →
      sp vs H Q E → RSs (cxOf (L2.CX P w) P w K mg base N qual scope f cdv A outer s H E) body { nx := fun _ H' => Q .non H', rt := Q } (start N vs) H) : FnG P w K mg base (k + 1) f fd ps sp := by
  refine ⟨len, fun A outer s H args us vs Q E hg hr e0 hbd r hsp => ?_⟩
  obtain ⟨oc, od, dV, kV, doc, pm, an, cdv, ct, osl, rfl, lk, hcd, _, _⟩ := F.ex
  have hl := len _ _ _ _ hsp
  have KX : K.In s.heap := e0.mod.kin.keeps fun b o e => (e0.bs b o e).1
  have kinds : ∀ y ∈ ps.zip us, scope.names.lookup y.1 = some .local ∨ (scope.names.lookup y.1 = some .cell ∧ ((cellsFrom (s.heap.objs.size + 1) scope.names []).lookup y.1).isSome = true) := by
    rintro ⟨n, v⟩ hy
    rcases S.par n (List.of_mem_zip hy).1 with q | q
    · exact .inl q
    · exact .inr ⟨q, PySem.W.cellsFrom_some _ _ _ (.inl q)⟩
  refine codeAny_call_function hr.depth (KX _ _ lk) rfl S.co S.gen rfl (PySem.W.codeRec_of KX hcd) (hbd _ _ _ _ ?_)
  refine wpAny_newFunctionEnv_cells S.kind kinds fun env he s1 x => ?_
  subst he
  refine ⟨(e0.mod.nolimit.keeps fun b o e => (e0.bs b o e).1).keeps x.toInCall.keep, codeAny_func ?_⟩
  have I := inv_start (CX := L2.CX P w) (E := E) (cd := cdv) S hr.hd e0 hl r x
  have B : BdG (cxOf (L2.CX P w) P w K mg base N qual scope f cdv A outer s H E) (fun cls d _ H => E cls d H) k :=
    { nd := S.nd, calm := rfl, tk := takes_of rfl rfl rfl rfl, po := passes_of rfl, gd := hg, room := hr.deeper _ }
  refine wpAny_mono ((hb cdv A outer s H vs Q E B hsp).run [] s1 I) (fun fl s' hs => ?_) fun e s' hs => hs
  cases fl with
  | next =>
    obtain ⟨σ', H', J, q⟩ := hs
    exact ⟨.non, H', J.os, J.bare, J.base, J.hok, rfl, q⟩
  | ret u =>
    obtain ⟨v, σ', H', J, rv, q⟩ := hs
    exact ⟨v, H', J.os, J.bare, J.base, J.hok, rv, q⟩
  | brk => exact (hs.elim fun _ z => z.elim fun _ z => z.2).elim
  | cont => exact (hs.elim fun _ z => z.elim fun _ z => z.2).elim
end

/-! ### calls of defs -/
/-- a def of the module, for its callers -/
structure Cal (P : Program) (w : World) (K : PySem.W.Frag) (mg : Str → Option Value) (base : Heap) (k : Nat) (x : Str) (ps : List Str) (sp : Sp) : Prop where
  ex : ∃ f fd, FnG P w K mg base k f fd ps sp ∧ mg x = some (.ref f) ∧ PySem.W.keepIn K (.ref f) = true ∧ Binds K fd ps []
/-- a method of the class at C -/
structure CalM (P : Program) (w : World) (K : PySem.W.Frag) (mg : Str → Option Value) (base : Heap) (k : Nat) (C : Addr) (m : Str) (ps : List Str) (sp : Sp) : Prop where
  ex : ∃ f fd, FnG P w K mg base k f fd ps sp ∧ Cls K C ∧ Meth K C m f ∧ Binds K fd ps []
/-- the making of an instance -/
structure CalC (P : Program) (w : World) (K : PySem.W.Frag) (mg : Str → Option Value) (base : Heap) (k : Nat) (x : Str) (C : Addr) (ps : List Str) (sp : Sp) : Prop where
  ex : ∃ f fd, FnG P w K mg base k f fd ps sp ∧ mg x = some (.ref C) ∧ Mk K C f ∧ Binds K fd ps []
section
variable {X : Cx} {σ : St} {H : Hp} {Q : VK} {pos p apos : Pos} {e o : Expr} {es : List Expr} {W : WX} {k j : Nat} {x m : Str} {ps : List Str} {sp : Sp} {C : Addr}
theorem run_fnG {f : Addr} {fd : FuncData} {E : XK} {pins : List (Addr × Obj)} {s : Shared} {us : List Value} {vs : List V} (F : FnG X.prog X.w X.K X.mg X.base k f fd ps sp) (hg : X.A.guards = some []) (hr : Room k X.A) (hb : Binds X.K fd ps [])
    (hx : ∀ e s', L2.CX X.prog X.w X.stack H s E e s' → X.xe e s') (I : Inv X pins σ H s) (r : Vals vs us) (h : sp vs H Q E) : wpAny (model X.prog X.w) X.A (call (.ref f) us) (EP X pins σ Q) X.xe s := by
  have bd : BindsTo s fd ⟨us, []⟩ (ps.zip us) := by
    have hl : (us ++ []).length = ps.length := by rw [List.append_nil, ← r.length, F.len _ _ _ _ h]
    have q := hb s us I.kIn hl
    rwa [List.append_nil] at q
  refine wpAny_call (codeAny_mono (F.run X.A X.stack s H ⟨us, []⟩ us vs Q E hg hr I.env0 bd r h) ?_)
  intro res s' hq
  match res, hq with
  | .error e, hq => exact hx e s' hq
  | .ok (.ret u), hq => exact I.after hq
  | .ok .next, hq => exact False.elim hq
  | .ok .brk, hq => exact False.elim hq
  | .ok .cont, hq => exact False.elim hq
theorem re_call (B : BdG X W j) (c : Cal X.prog X.w X.K X.mg X.base k x ps sp) (hk : k ≤ j) (h : RA X (e :: es) σ H fun vs H1 => sp vs H1 Q (WE W σ)) (hg : Gl X x := by rfl) (hdb : (x == ("__debug__" : Str)) = false := by decide)
    (he : starEach (e :: es) X.env = (false, eval e X.env) :: starEach es X.env := by rfl) (hpl : (backTo pos (starEach es X.env)).any (·.1) = false := by rfl) : RE X (.Call (.Name x p) (e :: es) [] pos) σ H Q := by
  obtain ⟨f, fd, F, hm, kp, hb⟩ := c.ex
  refine ⟨fun pins s I => wpAny_Call_Name_kw (ld_glob I hg hm ?_ hdb)⟩
  refine PySem.W.callWith_K (h₀ := X.base) I.ok.mod.kin kp (thn (h.run pos pins s I) fun us s1 ⟨vs, H1, I1, r, q⟩ => ⟨I1.kIn, ?_⟩) he hpl
  exact run_fnG F B.gd (B.room.mono hk) hb (fun e s' z => B.tk e s' (XE.of_call I1 (fun _ _ _ q => q) z)) I1 r q
theorem re_call0 (B : BdG X W j) (c : Cal X.prog X.w X.K X.mg X.base k x ps sp) (hk : k ≤ j) (h : sp [] H Q (WE W σ)) (hg : Gl X x := by rfl) (hdb : (x == ("__debug__" : Str)) = false := by decide) : RE X (.Call (.Name x p) [] [] pos) σ H Q := by
  obtain ⟨f, fd, F, hm, kp, hb⟩ := c.ex
  refine ⟨fun pins s I => wpAny_Call_Name_kw (ld_glob I hg hm ?_ hdb)⟩
  exact PySem.W.callWith_K0 I.kIn kp (run_fnG (us := []) F B.gd (B.room.mono hk) hb (fun e s' z => B.tk e s' (XE.of_call I (fun _ _ _ q => q) z)) I .nil h)
/-- the receiver of a method -/
structure uRec (C : Addr) (m : Str) (x : V) (H : Hp) (N : Hp → Prop) : Prop where
  run : ∃ a dx fs, x = .ref a ∧ H a = some (.ins C dx fs) ∧ fs.lookup m = none ∧ N H
theorem uRec_mk {a dx : Addr} {fs : List (Str × V)} {N : Hp → Prop} (h : H a = some (.ins C dx fs)) (l : fs.lookup m = none) (q : N H) : uRec C m (.ref a) H N := ⟨⟨a, dx, fs, rfl, h, l, q⟩⟩
theorem re_meth {pl : Sem Bool} (B : BdG X W j) (c : CalM X.prog X.w X.K X.mg X.base k C m ps sp) (hk : k ≤ j) (h : RE X o σ H fun x H1 => uRec C m x H1 fun H1 => RA X (e :: es) σ H1 fun vs H2 => sp (x :: vs) H2 Q (WE W σ))
    (hst : starEach (e :: es) X.env = (false, eval e X.env) :: starEach es X.env := by rfl) (hpl : (backTo pos (starEach es X.env)).any (·.1) = false := by rfl)
    (ht : eval (.Call (.Attribute o m apos) (e :: es) [] pos) X.env = (do
      let ov ← eval o X.env
      standAt apos.atName
      let (f, first) ← holding [ov] (getMethod ov m pl)
      callWith pos f first (backTo pos (starEach (e :: es) X.env)) (backToKw pos (keywordEach [] X.env))) := by rfl) : RE X (.Call (.Attribute o m apos) (e :: es) [] pos) σ H Q := by
  obtain ⟨f, fd, F, cl, hm, hb⟩ := c.ex
  refine ⟨fun pins s I => PySem.W.methodCall_KW (pl := pl) (thn (h.run pins s I) fun u s1 ⟨x, H1, I1, rx, ⟨a, dx, fs, ex, ea, l, q⟩⟩ => ?_) ht⟩
  subst ex
  cases (show u = Value.ref a from rx)
  refine getmeth_ok I1 ea cl hm l ?_
  refine PySem.W.callWith_K (first := [.ref a]) (h₀ := X.base) I.ok.mod.kin hm.kp (thn (q.run pos pins s1 I1) fun us s2 ⟨vs, H2, I2, r, q2⟩ => ⟨I2.kIn, ?_⟩) hst hpl
  exact run_fnG (us := .ref a :: us) (vs := .ref a :: vs) F B.gd (B.room.mono hk) hb (fun e s' z => B.tk e s' (XE.of_call I2 (fun _ _ _ q => q) z)) I2 (.cons rfl r) q2
theorem re_meth0 {pl : Sem Bool} (B : BdG X W j) (c : CalM X.prog X.w X.K X.mg X.base k C m ps sp) (hk : k ≤ j) (h : RE X o σ H fun x H1 => uRec C m x H1 fun H1 => sp [x] H1 Q (WE W σ))
    (ht : eval (.Call (.Attribute o m apos) [] [] pos) X.env = (do
      let ov ← eval o X.env
      standAt apos.atName
      let (f, first) ← holding [ov] (getMethod ov m pl)
      callWith pos f first (backTo pos (starEach [] X.env)) (backToKw pos (keywordEach [] X.env))) := by rfl) : RE X (.Call (.Attribute o m apos) [] [] pos) σ H Q := by
  obtain ⟨f, fd, F, cl, hm, hb⟩ := c.ex
  refine ⟨fun pins s I => PySem.W.methodCall_KW (pl := pl) (thn (h.run pins s I) fun u s1 ⟨x, H1, I1, rx, ⟨a, dx, fs, ex, ea, l, q⟩⟩ => ?_) ht⟩
  subst ex
  cases (show u = Value.ref a from rx)
  refine getmeth_ok I1 ea cl hm l ?_
  exact PySem.W.callWith_K0 (first := [.ref a]) I1.kIn hm.kp (run_fnG (us := [.ref a]) (vs := [.ref a]) F B.gd (B.room.mono hk) hb (fun e s' z => B.tk e s' (XE.of_call I1 (fun _ _ _ q => q) z)) I1 (.cons rfl .nil) q)
theorem run_mkG {f : Addr} {fd : FuncData} {pins : List (Addr × Obj)} {s : Shared} {us : List Value} {vs : List V} (M : Mk X.K C f) (F : FnG X.prog X.w X.K X.mg X.base k f fd ps sp) (hg : X.A.guards = some []) (hr : Room (k + 1) X.A) (hb : Binds X.K fd ps [])
    (tk : Takes X W) (I : Inv X pins σ H s) (r : Vals vs us)
    (h : ∀ x dx, H x = none → H dx = none → dx ≠ x → sp (.ref x :: vs) (upd (upd H dx (.own x)) x (.ins C dx [])) (fun v H2 => v = .non ∧ Q (.ref x) H2) (WE W σ)) : wpAny (model X.prog X.w) X.A (call (.ref C) us) (EP X pins σ Q) X.xe s := by
  have sph := h (s.heap.objs.size + 1) s.heap.objs.size (I.hok.fresh (Nat.le_succ _)) (I.hok.fresh (Nat.le_refl _)) (Nat.ne_of_lt (Nat.lt_succ_self _))
  have J := Inv.made (C := C) I
  have rr : Vals (V.ref (s.heap.objs.size + 1) :: vs) (Value.ref (s.heap.objs.size + 1) :: us) := .cons rfl r
  have bd : BindsTo { s with heap := (s.heap.push PySem.W.emptyDict).push (PySem.W.instObj C s.heap.objs.size) } fd ⟨Value.ref (s.heap.objs.size + 1) :: us, []⟩ (ps.zip (Value.ref (s.heap.objs.size + 1) :: us)) := by
    have hl : ((Value.ref (s.heap.objs.size + 1) :: us) ++ []).length = ps.length := by rw [List.append_nil, ← rr.length, F.len _ _ _ _ sph]
    have q := hb _ (Value.ref (s.heap.objs.size + 1) :: us) J.kIn hl
    rwa [List.append_nil] at q
  refine wpAny_call (make_map (f := f) I.kIn M.makes M.init (beq_iff_eq.mp M.fn) (codeAny_mono (F.run _ X.stack _ _ ⟨_, []⟩ _ _ _ _ ((guards_make _ _ _ _).trans hg) (hr.make C us []) (J.env0.make C us []) bd rr sph) ?_))
  intro res s' hq
  match res, hq with
  | .error e, hq => exact tk e s' (XE.of_call J (fun _ _ _ q => q) hq)
  | .ok (.ret u), hq =>
    obtain ⟨v, H', I3, rv, ev, q3⟩ := J.after hq
    subst ev
    exact ⟨rv, ⟨V.ref (s.heap.objs.size + 1), H', I3, rfl, q3⟩⟩
  | .ok .next, hq => exact False.elim hq
  | .ok .brk, hq => exact False.elim hq
  | .ok .cont, hq => exact False.elim hq
theorem re_make (B : BdG X W j) (c : CalC X.prog X.w X.K X.mg X.base k x C ps sp) (hk : k + 1 ≤ j)
    (h : RA X (e :: es) σ H fun vs H1 => ∀ x dx, H1 x = none → H1 dx = none → dx ≠ x → sp (.ref x :: vs) (upd (upd H1 dx (.own x)) x (.ins C dx [])) (fun v H2 => v = .non ∧ Q (.ref x) H2) (WE W σ))
    (hg : Gl X x := by rfl) (hdb : (x == ("__debug__" : Str)) = false := by decide)
    (he : starEach (e :: es) X.env = (false, eval e X.env) :: starEach es X.env := by rfl) (hpl : (backTo pos (starEach es X.env)).any (·.1) = false := by rfl) : RE X (.Call (.Name x p) (e :: es) [] pos) σ H Q := by
  obtain ⟨f, fd, F, hm, M, hb⟩ := c.ex
  refine ⟨fun pins s I => wpAny_Call_Name_kw (ld_glob I hg hm ?_ hdb)⟩
  refine PySem.W.callWith_K (h₀ := X.base) I.ok.mod.kin M.kp (thn (h.run pos pins s I) fun us s1 ⟨vs, H1, I1, r, q⟩ => ⟨I1.kIn, ?_⟩) he hpl
  exact run_mkG M F B.gd (B.room.mono hk) hb B.tk I1 r q
theorem re_make0 (B : BdG X W j) (c : CalC X.prog X.w X.K X.mg X.base k x C ps sp) (hk : k + 1 ≤ j)
    (h : ∀ x dx, H x = none → H dx = none → dx ≠ x → sp [.ref x] (upd (upd H dx (.own x)) x (.ins C dx [])) (fun v H2 => v = .non ∧ Q (.ref x) H2) (WE W σ))
    (hg : Gl X x := by rfl) (hdb : (x == ("__debug__" : Str)) = false := by decide) : RE X (.Call (.Name x p) [] [] pos) σ H Q := by
  obtain ⟨f, fd, F, hm, M, hb⟩ := c.ex
  refine ⟨fun pins s I => wpAny_Call_Name_kw (ld_glob I hg hm ?_ hdb)⟩
  exact PySem.W.callWith_K0 I.kIn M.kp (run_mkG (us := []) M F B.gd (B.room.mono hk) hb B.tk I .nil h)
end

/-! ### loops -/
section
variable {X : Cx} {σ : St} {H : Hp} {D : Ends} {pos p yp : Pos} {iter e c : Expr} {body : List Stmt} {W : WX} {y : Str} {j : Nat}
structure uForL (X : Cx) (j : Nat) (body : List Stmt) (D : Ends) (σ : St) (x : V) (H : Hp) : Prop where
  run : ∃ (a : Addr) (xs : List V) (Pv : Nat → St → Hp → Prop), x = .ref a ∧ SqL X.K H a xs ∧ Pv 0 σ H ∧ (∀ i σ' H', i ≤ xs.length → Pv i σ' H' → SqL X.K H' a xs) ∧
    (∀ i v σ' H', xs[i]? = some v → Pv i σ' H' → RSs X body { D with nx := Pv (i + 1), ct := Pv (i + 1), bk := D.nx } (σ'.set j (some v)) H') ∧ (∀ σ' H', Pv xs.length σ' H' → D.nx σ' H')
theorem uForL_mk {a : Addr} {xs : List V} (Pv : Nat → St → Hp → Prop) (hx : SqL X.K H a xs) (h0 : Pv 0 σ H) (hl : ∀ i σ' H', i ≤ xs.length → Pv i σ' H' → SqL X.K H' a xs)
    (hs : ∀ i v σ' H', xs[i]? = some v → Pv i σ' H' → RSs X body { D with nx := Pv (i + 1), ct := Pv (i + 1), bk := D.nx } (σ'.set j (some v)) H') (hd : ∀ σ' H', Pv xs.length σ' H' → D.nx σ' H') : uForL X j body D σ (.ref a) H := ⟨⟨a, xs, Pv, rfl, hx, h0, hl, hs, hd⟩⟩
theorem rs_forL (B : Bd X W) (hj : X.N[j]? = some y) (hy : Loc X.env.scope y) (h : RE X iter σ H fun x H1 => uForL X j body D σ x H1) (hf : X.fn y = true ∨ X.env.scope.names.lookup y = some .local := by first | exact .inl rfl | exact .inr rfl | assumption)
    (hs : ∀ x, foldedSetIterable iter X.env x = pure x := by intro _; rfl) : RS X (.For (.Name y yp) iter body [] pos) D σ H := by
  refine rs_of (ps_for (wi := iList X.K (RE X iter)) (g := gName j) (tb := RSs X body) B.po B.calm (pi_list pe_self) (pg_name B.nd hj hy hf) pss_self hs) ?_
  refine ⟨fun pins s I => thn (h.run pins s I) fun v s1 ⟨z, H1, I1, r1, q⟩ => ⟨z, H1, I1, r1, ?_⟩⟩
  obtain ⟨a, xs, Pv, e, hx, h0, hl, hs, hd⟩ := q.run
  exact ⟨a, e, ⟨xs, hx⟩, for_list Pv h0 hl (fun i v σ' H' hi hp => hs i v σ' H' hi hp) hd⟩
structure uForR (X : Cx) (j : Nat) (body : List Stmt) (D : Ends) (σ : St) (lo hi : Int) (H : Hp) : Prop where
  run : (-(2 ^ 62) ≤ lo ∧ lo < 2 ^ 62 ∧ -(2 ^ 62) ≤ hi ∧ hi < 2 ^ 62) ∧ ∃ (Pv : Nat → St → Hp → Prop), Pv 0 σ H ∧
    (∀ i σ' H', i < (hi - lo).toNat → Pv i σ' H' → RSs X body { D with nx := Pv (i + 1), ct := Pv (i + 1), bk := D.nx } (σ'.set j (some (.int (lo + i)))) H') ∧ (∀ σ' H', Pv (hi - lo).toNat σ' H' → D.nx σ' H')
theorem uForR_mk {lo hi : Int} (Pv : Nat → St → Hp → Prop) (hb : -(2 ^ 62) ≤ lo ∧ lo < 2 ^ 62 ∧ -(2 ^ 62) ≤ hi ∧ hi < 2 ^ 62) (h0 : Pv 0 σ H)
    (hs : ∀ i σ' H', i < (hi - lo).toNat → Pv i σ' H' → RSs X body { D with nx := Pv (i + 1), ct := Pv (i + 1), bk := D.nx } (σ'.set j (some (.int (lo + i)))) H') (hd : ∀ σ' H', Pv (hi - lo).toNat σ' H' → D.nx σ' H') : uForR X j body D σ lo hi H := ⟨hb, Pv, h0, hs, hd⟩
/-- over range(n), n a Nat -/
theorem uForN_mk {n : Nat} (Pv : Nat → St → Hp → Prop) (hb : n < 2 ^ 62) (h0 : Pv 0 σ H)
    (hs : ∀ i σ' H', i < n → Pv i σ' H' → RSs X body { D with nx := Pv (i + 1), ct := Pv (i + 1), bk := D.nx } (σ'.set j (some (.int i))) H') (hd : ∀ σ' H', Pv n σ' H' → D.nx σ' H') : uForR X j body D σ 0 (n : Int) H := by
  have e : ((n : Int) - 0).toNat = n := by omega
  refine ⟨⟨by omega, by omega, by omega, by omega⟩, Pv, h0, fun i σ' H' hi p => ?_, by rw [e]; exact hd⟩
  have e2 : (0 : Int) + (i : Int) = (i : Int) := by omega
  rw [e2]
  exact hs i σ' H' (by omega) p
theorem rs_forR (B : Bd X W) (hj : X.N[j]? = some y) (hy : Loc X.env.scope y) (hm : X.mg "range" = none) (h : RE X e σ H fun x H1 => toI (fun n H1 => uForR X j body D σ 0 n H1) x H1) (hg : Gl X "range" := by rfl)
    (hf : X.fn y = true ∨ X.env.scope.names.lookup y = some .local := by first | exact .inl rfl | exact .inr rfl | assumption) (hs1 : starEach [e] X.env = [(false, eval e X.env)] := by rfl)
    (hs : ∀ x, foldedSetIterable (.Call (.Name "range" p) [e] [] pos) X.env x = pure x := by intro _; rfl) {pos2 : Pos} : RS X (.For (.Name y yp) (.Call (.Name "range" p) [e] [] pos) body [] pos2) D σ H := by
  refine rs_of (ps_for (wi := iRng1 (tCons (RE X e) tNil)) (g := gName j) (tb := RSs X body) B.po B.calm (pi_range1 hg hm (pa_cons pe_self pa_nil hs1) hs1) (pg_name B.nd hj hy hf) pss_self hs) ?_
  refine ⟨fun pins s I => thn (h.run pins s I) fun v s1 ⟨z, H1, I1, r1, q⟩ => ⟨z, H1, I1, r1, ?_⟩⟩
  obtain ⟨n, e1, q⟩ := q.run
  obtain ⟨⟨_, _, b3, b4⟩, Pv, h0, hs, hd⟩ := q.run
  have e2 : (n - 0).toNat = n.toNat := by omega
  rw [e2] at hs hd
  subst e1
  exact ⟨n, rfl, b3, b4, for_range Pv h0 (fun i σ' H' hi hp => hs i σ' H' hi hp) hd⟩
structure to2I (N : Int → Int → Hp → Prop) (vs : List V) (H : Hp) : Prop where
  run : ∃ i k, vs = [.int i, .int k] ∧ N i k H
theorem to2I_mk {N : Int → Int → Hp → Prop} {i k : Int} (q : N i k H) : to2I N [.int i, .int k] H := ⟨i, k, rfl, q⟩
theorem rs_forR2 {e2 : Expr} (B : Bd X W) (hj : X.N[j]? = some y) (hy : Loc X.env.scope y) (hm : X.mg "range" = none) (h : RA X [e, e2] σ H (to2I fun n n2 H2 => uForR X j body D σ n n2 H2)) (hg : Gl X "range" := by rfl)
    (hf : X.fn y = true ∨ X.env.scope.names.lookup y = some .local := by first | exact .inl rfl | exact .inr rfl | assumption) (hs1 : starEach [e, e2] X.env = [(false, eval e X.env), (false, eval e2 X.env)] := by rfl) (hs2 : starEach [e2] X.env = [(false, eval e2 X.env)] := by rfl)
    (hs : ∀ x, foldedSetIterable (.Call (.Name "range" p) [e, e2] [] pos) X.env x = pure x := by intro _; rfl) {pos2 : Pos} : RS X (.For (.Name y yp) (.Call (.Name "range" p) [e, e2] [] pos) body [] pos2) D σ H := by
  refine rs_of (ps_for (wi := iRng2 (RA X [e, e2])) (g := gName j) (tb := RSs X body) B.po B.calm (pi_range2 hg hm pa_self hs1 hs2) (pg_name B.nd hj hy hf) pss_self hs) ?_
  refine ⟨fun ps pins s I => thn (h.run ps pins s I) fun v s1 ⟨z, H1, I1, r1, q⟩ => ⟨z, H1, I1, r1, ?_⟩⟩
  obtain ⟨n, n2, e1, q2⟩ := q.run
  subst e1
  obtain ⟨bb, Pv, h0, hs, hd⟩ := q2.run
  exact ⟨n, n2, rfl, bb, for_range Pv h0 (fun i σ' H' hi hp => hs i σ' H' hi hp) hd⟩
/-- while, by a word with its measure -/
theorem rs_while (B : Bd X W) (Pv : Nat → St → Hp → Prop) (h0 : ∃ m, Pv m σ H)
    (hs : ∀ m σ' H', Pv m σ' H' → RT X c σ' H' fun k H1 => ifB k (RSs X body { D with nx := fun σ2 H2 => ∃ m', m' < m ∧ Pv m' σ2 H2, ct := fun σ2 H2 => ∃ m', m' < m ∧ Pv m' σ2 H2, bk := D.nx } σ' H1) (D.nx σ' H1)) : RS X (.While c body [] pos) D σ H := by
  refine rs_of (ps_while B.po pt_self pss_self) ⟨Pv, h0, fun m σ' H' p => ?_⟩
  refine ⟨fun pins s I => thn ((hs m σ' H' p).run pins s I) fun k s1 ⟨H1, I1, q⟩ => ⟨H1, I1, ?_⟩⟩
  cases k with
  | true => exact (if_pos rfl).mpr ⟨_, fun _ _ z => z, q.t rfl⟩
  | false => exact (if_neg Bool.false_ne_true).mpr (q.f rfl)
end

/-! ### comprehensions -/
section
variable {X : Cx} {σ : St} {H : Hp} {Q : VK} {pos p rp yp : Pos} {elt iter e c : Expr} {W : WX} {y : Str} {j k : Nat} {scope : Scope}
theorem bdG_blk (B : BdG X W k) {s' : Shared} {H' : Hp} {ce : Env} {fp : List Addr} : BdG (X.blk s' H' scope ce fp) (fun _ _ _ _ => False) k :=
  { nd := B.nd, calm := B.calm, tk := takes0, po := PassesOwn.never, gd := B.gd, room := B.room }
theorem blk_loc {env : Env} {C : Addr} {cl : List (Str × Addr)} (h : scope.names.lookup y = some .local) : (compEnvC scope cl C env).scope.names.lookup y = some .local := lookup_relabel_local h
/-- the element, in the block's context -/
def rBlk (X : Cx) (scope : Scope) (elt : Expr) : TE := fun σ H Q => ∀ (s' : Shared) (H' : Hp) (C : Addr) (cl : List (Str × Addr)) (fp : List Addr), RE (X.blk s' H' scope (compEnvC scope cl C X.env) fp) elt σ H Q
theorem pe_blk (s' : Shared) (H' : Hp) (C : Addr) (cl : List (Str × Addr)) (fp : List Addr) : PE (X.blk s' H' scope (compEnvC scope cl C X.env) fp) elt (rBlk X scope elt) := ⟨fun pins s σ H Q I h => (h s' H' C cl fp).run pins s I⟩
structure uLcN (X : Cx) (scope : Scope) (elt : Expr) (j : Nat) (σ : St) (n : Int) (H : Hp) (Q : VK) : Prop where
  run : n < 2 ^ 62 ∧ -(2 ^ 62) ≤ n ∧ ∀ D, H D = none → ∃ Pv : Nat → Hp → Prop, Pv 0 (upd H D (.lst [])) ∧ (∀ (i : Nat) H', (i : Int) < n → Pv i H' → rBlk X scope elt ((wipe σ [j]).set j (some (.int i))) H' fun y H4 => ∃ acc, H4 D = some (.lst acc) ∧ acc.length < sizeLine ∧ Pv (i + 1) (upd H4 D (.lst (acc ++ [y])))) ∧
    ∀ H', Pv n.toNat H' → Q (.ref D) H'
/-- [elt for y in range(e)] -/
theorem re_lcN (B : Bd X W) (hm : X.mg "range" = none) (hb : blkC X.N X.env.scope scope [(y, j)] = true) (hj : X.N[j]? = some y) (hy : scope.names.lookup y = some .local) (h : RE X e σ H fun x H1 => toI (fun n H1 => uLcN X scope elt j σ n H1 Q) x H1) (hg : Gl X "range" := by rfl)
    (hs1 : starEach [e] X.env = [(false, eval e X.env)] := by rfl) (hs : ∀ x, foldedSetIterable (.Call (.Name "range" p) [e] [] rp) X.env x = pure x := by intro _; rfl) :
    RE X (.ListComp elt [⟨.Name y yp, .Call (.Name "range" p) [e] [] rp, [], 0⟩] scope pos) σ H Q := by
  refine re_of (pe_lc (own := [(y, j)]) (wi := iRng1 (tCons (RE X e) tNil)) (g := gName j) (tt := tYes) (te := rBlk X scope elt) B.calm B.nd (pi_range1 hg hm (pa_cons pe_self pa_nil hs1) hs1) (blkOk_by hb) (fun _ _ _ _ _ => pg_name (X := X.blk _ _ scope (compEnvC scope _ _ X.env) _) B.nd hj (.inl (blk_loc hy)) (.inr (blk_loc hy))) (fun _ _ _ _ _ => pts_nil) pe_blk hs) ?_
  refine ⟨fun pins s I => thn (h.run pins s I) fun v s1 ⟨z, H1, I1, r1, q⟩ => ⟨z, H1, I1, r1, ?_⟩⟩
  obtain ⟨n, e1, q2⟩ := q.run
  subst e1
  obtain ⟨b1, b2, q3⟩ := q2.run
  refine ⟨n, rfl, b2, b1, fun D hD => ?_⟩
  obtain ⟨Pv, h0, hst, hd⟩ := q3 D hD
  refine lc_range (lo := 0) (n := n.toNat) Pv h0 (fun i H' hi p => ?_) hd
  have e0 : (0 : Int) + (i : Int) = (i : Int) := by omega
  show wipe ((wipe σ [j]).set j (some (V.int (0 + (i : Int))))) [j] = wipe σ [j] ∧ _
  rw [e0]
  refine ⟨?_, ?_⟩
  · show ((σ.set j none).set j (some (V.int i))).set j none = σ.set j none
    rw [List.set_set, List.set_set]
  · exact hst i H' (by omega) p
structure uLcL (X : Cx) (scope : Scope) (elt : Expr) (j : Nat) (σ : St) (x : V) (H : Hp) (Q : VK) : Prop where
  run : ∃ (a : Addr) (xs : List V), x = .ref a ∧ SqL X.K H a xs ∧ ∀ D, H D = none → ∃ Pv : Nat → Hp → Prop, Pv 0 (upd H D (.lst [])) ∧ (∀ i H', i ≤ xs.length → Pv i H' → SqL X.K H' a xs) ∧ (∀ i v H', xs[i]? = some v → Pv i H' → rBlk X scope elt ((wipe σ [j]).set j (some v)) H' fun y H4 => ∃ acc, H4 D = some (.lst acc) ∧ acc.length < sizeLine ∧ Pv (i + 1) (upd H4 D (.lst (acc ++ [y])))) ∧
    ∀ H', Pv xs.length H' → Q (.ref D) H'
/-- [elt for y in iter], iter a list -/
theorem re_lcL (B : Bd X W) (hb : blkC X.N X.env.scope scope [(y, j)] = true) (hj : X.N[j]? = some y) (hy : scope.names.lookup y = some .local) (h : RE X iter σ H fun x H1 => uLcL X scope elt j σ x H1 Q)
    (hs : ∀ x, foldedSetIterable iter X.env x = pure x := by intro _; rfl) : RE X (.ListComp elt [⟨.Name y yp, iter, [], 0⟩] scope pos) σ H Q := by
  refine re_of (pe_lc (own := [(y, j)]) (wi := iList X.K (RE X iter)) (g := gName j) (tt := tYes) (te := rBlk X scope elt) B.calm B.nd (pi_list pe_self) (blkOk_by hb) (fun _ _ _ _ _ => pg_name (X := X.blk _ _ scope (compEnvC scope _ _ X.env) _) B.nd hj (.inl (blk_loc hy)) (.inr (blk_loc hy))) (fun _ _ _ _ _ => pts_nil) pe_blk hs) ?_
  refine ⟨fun pins s I => thn (h.run pins s I) fun v s1 ⟨z, H1, I1, r1, q⟩ => ⟨z, H1, I1, r1, ?_⟩⟩
  obtain ⟨a, xs, e1, hx, q2⟩ := q.run
  subst e1
  refine ⟨a, rfl, ⟨xs, hx⟩, fun D hD => ?_⟩
  obtain ⟨Pv, h0, hl, hst, hd⟩ := q2 D hD
  refine lc_list (K := X.K) (a := a) (xs := xs) Pv h0 hl (fun i v H' hi p => ?_) hd
  refine ⟨?_, ?_⟩
  · show ((σ.set j none).set j (some v)).set j none = σ.set j none
    rw [List.set_set, List.set_set]
  · exact hst i v H' hi p
structure uLcK (X : Cx) (scope : Scope) (elt : Expr) (j : Nat) (σ : St) (x : V) (H : Hp) (Q : VK) : Prop where
  run : ∃ (d : Addr) (kvs : List (Key × V)), x = .ref d ∧ H d = some (.dK kvs) ∧ ∀ (od : Obj) D, (upd H d (.frz od (.dK kvs))) D = none → ∃ Pv : Nat → Hp → Prop, Pv 0 (upd (upd H d (.frz od (.dK kvs))) D (.lst [])) ∧ (∀ i H', i ≤ kvs.length → Pv i H' → H' d = some (.frz od (.dK kvs))) ∧
    (∀ i kv H', kvs[i]? = some kv → Pv i H' → rBlk X scope elt ((wipe σ [j]).set j (some (kV kv.1))) H' fun y H4 => ∃ acc, H4 D = some (.lst acc) ∧ acc.length < sizeLine ∧ Pv (i + 1) (upd H4 D (.lst (acc ++ [y])))) ∧
    ∀ H', Pv kvs.length H' → Q (.ref D) (upd H' d (.dK kvs))
/-- [elt for y in d], d a dict in the slot i: locked meanwhile -/
theorem re_lcK {i : Nat} {x : Str} {xp : Pos} {v0 : V} (B : Bd X W) (hb : blkC X.N X.env.scope scope [(y, j)] = true) (hj : X.N[j]? = some y) (hy : scope.names.lookup y = some .local) (hi : X.N[i]? = some x) (hx : Vis X.env.scope x) (hv : σ[i]? = some (some v0)) (h : uLcK X scope elt j σ v0 H Q)
    (hs : ∀ z, foldedSetIterable (.Name x xp) X.env z = pure z := by intro _; rfl) (hd : (x == ("__debug__" : Str)) = false := by decide) (hcd : (x == ("__classdict__" : Str)) = false := by decide) : RE X (.ListComp elt [⟨.Name y yp, .Name x xp, [], 0⟩] scope pos) σ H Q := by
  obtain ⟨d, kvs, e1, hD, q⟩ := h.run
  subst e1
  refine re_of (pe_lock (pe_lc (own := [(y, j)]) (wi := iKeys (tVar i)) (g := gName j) (tt := tYes) (te := rBlk X scope elt) B.calm B.nd (pi_keys (pe_var hi hx hd hcd)) (blkOk_by hb) (fun _ _ _ _ _ => pg_name (X := X.blk _ _ scope (compEnvC scope _ _ X.env) _) B.nd hj (.inl (blk_loc hy)) (.inr (blk_loc hy))) (fun _ _ _ _ _ => pts_nil) pe_blk hs)) ?_
  refine ⟨d, .dK kvs, hD, trivial, fun od => ?_⟩
  refine ⟨.ref d, hv, d, od, rfl, .inl ⟨kvs, upd_same, fun D hn => ?_⟩⟩
  obtain ⟨Pv, h0, hl, hst, hd⟩ := q od D hn
  refine ⟨fun i m H' => m = kvs.length - i ∧ i ≤ kvs.length ∧ Pv i H', ⟨kvs.length, by omega, Nat.zero_le _, h0⟩, ?_⟩
  rintro i m H' ⟨rfl, hle, p⟩
  have fz := hl i H' hle p
  by_cases hlt : i < kvs.length
  · refine .inr ⟨⟨fz, hlt⟩, Pv (i + 1), fun H2 p2 => ⟨kvs.length - (i + 1), by omega, rfl, hlt, p2⟩, fun x H2 z => ?_⟩
    obtain ⟨e2, kk, vv, e3, e4⟩ := z
    subst e2 e4
    refine ⟨?_, ?_⟩
    · show ((σ.set j none).set j (some (kV kk))).set j none = σ.set j none
      rw [List.set_set, List.set_set]
    · exact hst i (kk, vv) _ e3 p
  · have e2 : i = kvs.length := by omega
    subst e2
    exact .inl ⟨⟨fz, Nat.le_refl _⟩, fz, hd H' p⟩
end

/-! ### exceptions -/
/-- an own exception class over ValueError without an __init__ -/
structure ExcV (K : PySem.W.Frag) (mg : Str → Option Value) (x : Str) (C : Addr) : Prop where
  ex : PySem.W.excIn K C [.type "ValueError", .type "Exception", .type "BaseException", .type "object"] "ValueError.__new__" = true
  g : mg x = some (.ref C)
  kp : PySem.W.keepIn K (.ref C) = true
  sub : PySem.W.subIn K (.ref C) (.type "BaseException") = some true
  ty : PySem.W.typeIn K (.ref C) = some (.type "type")
section
variable {X : Cx} {σ : St} {H : Hp} {D : Ends} {pos p pos' np : Pos} {e : Expr} {W : WX} {x : Str} {C : Addr} {body suite : List Stmt} {b₀ : Stmt} {k : Nat} {c : Value}
theorem rs_raise1 (B : Bd X W) (ex : ExcV X.K X.mg x C) (h : RE X e σ H fun _ H1 => W (.ref C) none σ H1) (hg : Gl X x := by rfl) (hs : starEach [e] X.env = (false, eval e X.env) :: starEach [] X.env := by rfl) (hdb : (x == ("__debug__" : Str)) = false := by decide) :
    RS X (.Raise (some (.Call (.Name x p) [e] [] pos')) none pos) D σ H :=
  rs_of (ps_raise B.calm B.tk (SkE.pmk_own1 PySem.F.excBase_ValueError ex.ex ex.g ex.kp (raises_own ex.sub ex.ty) hg pe_self hs hdb)) h
/-- what a clause wishes -/
def wTry (X : Cx) (c : Value) (suite : List Stmt) (W : WX) (D : Ends) : WX := fun cls d σ H =>
  ∃ b, PySem.W.exmOne X.K cls c = some b ∧ (b = true → ∀ a, H a = none → ∀ (oe : Obj) (pn : List (Addr × Obj)), Zc cls d oe → RSs (X.suite a ((a, oe) :: pn)) suite D σ H) ∧ (b = false → W cls d σ H)
theorem rs_try (B : BdG X W k) (hc : Names X x c) (hs : X.stack = X.env :: X.outer) (hf : X.env.frame = some X.env.locals)
    (h : ∀ (pn : List (Addr × Obj)) (xe : Value → Shared → Prop), BdG (X.tr pn xe) (wTry X c (b₀ :: suite) W D) k → RSs (X.tr pn xe) body D σ H) :
    RS X (.Try body [.ExceptHandler (some (.Name x np)) none (b₀ :: suite) pos'] [] [] pos) D σ H := by
  refine rs_of (ps_try_only (c := c) (Wout := W) (tb := fun W' => fun D σ H => ∀ (pn : List (Addr × Obj)) (xe : Value → Shared → Prop), Takes (X.tr pn xe) W' → PassesOwn (model X.prog X.w) X.A X.env xe → RSs (X.tr pn xe) body D σ H)
    (ts := fun a cls d => fun D σ H => ∀ (oe : Obj) (pn : List (Addr × Obj)), Zc cls d oe → RSs (X.suite a ((a, oe) :: pn)) (b₀ :: suite) D σ H) hs hf hc B.tk
    (fun W' pn xe tk po => ⟨fun pins s σ H D I h => (h pn xe tk po).run pins s I⟩) (fun a oe cls d pn hz _ => ⟨fun pins s σ H D I h => (h oe pn hz).run pins s I⟩)) ?_
  intro pn xe tk po
  exact h pn xe { nd := B.nd, calm := B.calm, tk := tk, po := po, gd := B.gd, room := B.room }
end

/-! ### methods of texts and lists -/
section
variable {X : Cx} {σ : St} {H : Hp} {Q : VK} {pos apos cpos : Pos} {o e e2 : Expr}
structure toS (N : Str → Hp → Prop) (z : V) (H : Hp) : Prop where
  run : ∃ a, z = .str a ∧ N a H
theorem toS_mk {N : Str → Hp → Prop} {a : Str} (q : N a H) : toS N (.str a) H := ⟨a, rfl, q⟩
structure uJoin (K : PySem.W.Frag) (a : Str) (y : V) (H : Hp) (Q : VK) : Prop where
  run : ∃ p, ∃ ys : List Str, y = .ref p ∧ (SqL K H p (ys.map V.str) ∨ SqT K H p (ys.map V.str)) ∧ (ys.map (·.length)).sum + ys.length * a.length ≤ 16777216 ∧ Q (.str (Txt.join a ys)) H
theorem uJoin_mk {K : PySem.W.Frag} {a : Str} {p : Addr} {ys : List Str} (h : SqL K H p (ys.map V.str)) (hl : (ys.map (·.length)).sum + ys.length * a.length ≤ 16777216) (q : Q (.str (Txt.join a ys)) H) : uJoin K a (.ref p) H Q := ⟨p, ys, rfl, .inl h, hl, q⟩
theorem re_join (h : RE X o σ H (toS fun a H1 => RE X e σ H1 fun y H2 => uJoin X.K a y H2 Q)) (hs : starEach [e] X.env = [(false, eval e X.env)] := by rfl) (hbase : attributeBase o "join" X.env (eval o X.env) = eval o X.env := by rfl) (hline : (apos.endLine == pos.line) = true := by rfl) :
    RE X (.Call (.Attribute o "join" apos) [e] [] pos) σ H Q := by
  refine re_of (pe_join pe_self pe_self hs hbase hline) ?_
  refine ⟨fun pins s I => thn (h.run pins s I) fun v s1 ⟨z, H1, I1, r1, q⟩ => ⟨z, H1, I1, r1, ?_⟩⟩
  obtain ⟨a, e1, q2⟩ := q.run
  refine ⟨⟨a, e1⟩, ⟨fun pins s I => thn (q2.run pins s I) fun v s1 ⟨z2, H1, I1, r1, q⟩ => ⟨z2, H1, I1, r1, ?_⟩⟩⟩
  obtain ⟨p, ys, e2, h1, h2, h3⟩ := q.run
  exact ⟨a, p, ys, e1, by rw [e2], h1, h2, h3⟩
/-- s.startswith(t), s.startswith(t, i) -/
theorem re_starts (h : RE X o σ H (toS fun a H1 => RE X e σ H1 (toS fun b H2 => Q (.bl (Txt.startswith a b)) H2))) (hs : starEach [e] X.env = [(false, eval e X.env)] := by rfl) (hbase : attributeBase o "startswith" X.env (eval o X.env) = eval o X.env := by rfl) (hline : (apos.endLine == pos.line) = true := by rfl) :
    RE X (.Call (.Attribute o "startswith" apos) [e] [] pos) σ H Q := by
  refine re_of (pe_m1 PySem.F.slot_str_startswith PySem.F.type_str_startswith mt_startswith pe_self pe_self hs hbase hline) ?_
  refine ⟨fun pins s I => thn (h.run pins s I) fun v s1 ⟨z, H1, I1, r1, q⟩ => ⟨z, H1, I1, r1, ?_⟩⟩
  obtain ⟨a, e1, q2⟩ := q.run
  refine ⟨⟨a, e1⟩, ⟨fun pins s I => thn (q2.run pins s I) fun v s1 ⟨z2, H1, I1, r1, q⟩ => ⟨z2, H1, I1, r1, ?_⟩⟩⟩
  obtain ⟨b, e2, h3⟩ := q.run
  exact ⟨a, b, e1, by rw [e2], h3⟩
structure uSt3 (a : Str) (vs : List V) (H : Hp) (Q : VK) : Prop where
  run : ∃ b i, vs = [.str b, .int i] ∧ Q (.bl (Txt.startswith3 a b i)) H
theorem uSt3_mk {a b : Str} {i : Int} (q : Q (.bl (Txt.startswith3 a b i)) H) : uSt3 a [.str b, .int i] H Q := ⟨b, i, rfl, q⟩
theorem re_starts3 (h : RE X o σ H (toS fun a H1 => RA X [e, e2] σ H1 fun vs H2 => uSt3 a vs H2 Q)) (hbase : attributeBase o "startswith" X.env (eval o X.env) = eval o X.env := by rfl)
    (hfew : ((backTo cpos (starEach (e :: [e2]) X.env)).all (fun x => !x.1) && (backToKw cpos (keywordEach [] X.env)).all (fun x => x.1.isSome) && decide ((e :: [e2]).length + ([] : List Keyword).length + (if ([] : List Keyword).isEmpty then 0 else 1) < 30)) = true := by rfl)
    (hline : (apos.endLine == cpos.line) = true := by rfl) (hs : starEach (e :: [e2]) X.env = (false, eval e X.env) :: starEach [e2] X.env := by rfl) (hplain : (backTo cpos (starEach [e2] X.env)).any (·.1) = false := by rfl) :
    RE X (.Call (.Attribute o "startswith" apos) [e, e2] [] cpos) σ H Q := by
  refine re_of (pe_bm PySem.F.plainAttrs_str PySem.F.slot_str_startswith PySem.F.type_str_startswith mt_startswith3 pe_self pa_self hbase hfew hline hs hplain) ?_
  refine ⟨fun pins s I => thn (h.run pins s I) fun v s1 ⟨z, H1, I1, r1, q⟩ => ⟨z, H1, I1, r1, ?_⟩⟩
  obtain ⟨a, e1, q2⟩ := q.run
  refine ⟨by rw [e1]; exact rfl, ⟨fun ps pins s I => thn (q2.run ps pins s I) fun v s1 ⟨z2, H1, I1, r1, q⟩ => ⟨z2, H1, I1, r1, ?_⟩⟩⟩
  obtain ⟨b, i, e2, h3⟩ := q.run
  exact ⟨a, b, i, e1, e2, h3⟩
/-- a list that stands -/
structure toL (K : PySem.W.Frag) (N : Addr → Hp → Prop) (z : V) (H : Hp) : Prop where
  run : ∃ l xs, z = .ref l ∧ SqL K H l xs ∧ N l H
theorem toL_mk {K : PySem.W.Frag} {N : Addr → Hp → Prop} {l : Addr} {xs : List V} (h : SqL K H l xs) (q : N l H) : toL K N (.ref l) H := ⟨l, xs, rfl, h, q⟩
structure uApp (l : Addr) (y : V) (H : Hp) (Q : VK) : Prop where
  run : ∃ xs, H l = some (.lst xs) ∧ xs.length < sizeLine ∧ Q .non (upd H l (.lst (xs ++ [y])))
theorem uApp_mk {l : Addr} {y : V} {xs : List V} (h : H l = some (.lst xs)) (hl : xs.length < sizeLine) (q : Q .non (upd H l (.lst (xs ++ [y])))) : uApp l y H Q := ⟨xs, h, hl, q⟩
theorem re_append (h : RE X o σ H (toL X.K fun l H1 => RE X e σ H1 fun y H2 => uApp l y H2 Q)) (hbase : attributeBase o "append" X.env (eval o X.env) = eval o X.env := by rfl)
    (hfew : ((backTo cpos (starEach (e :: []) X.env)).all (fun x => !x.1) && (backToKw cpos (keywordEach [] X.env)).all (fun x => x.1.isSome) && decide ((e :: []).length + ([] : List Keyword).length + (if ([] : List Keyword).isEmpty then 0 else 1) < 30)) = true := by rfl)
    (hline : (apos.endLine == cpos.line) = true := by rfl) (hs : starEach (e :: []) X.env = (false, eval e X.env) :: starEach [] X.env := by rfl) (hplain : (backTo cpos (starEach [] X.env)).any (·.1) = false := by rfl) :
    RE X (.Call (.Attribute o "append" apos) [e] [] cpos) σ H Q := by
  refine re_of (pe_bm PySem.F.plainAttrs_list PySem.F.slot_list_append PySem.F.type_list_append mt_append pe_self (pa_cons pe_self pa_nil hs) hbase hfew hline hs hplain) ?_
  refine ⟨fun pins s I => thn (h.run pins s I) fun v s1 ⟨z, H1, I1, r1, q⟩ => ⟨z, H1, I1, r1, ?_⟩⟩
  obtain ⟨l, xs, e1, hx, q2⟩ := q.run
  refine ⟨by rw [e1]; exact .inl ⟨rfl, xs, hx⟩, ⟨fun pins s I => thn (q2.run pins s I) fun v s1 ⟨z2, H1, I1, r1, q⟩ => ⟨z2, H1, I1, r1, ?_⟩⟩⟩
  obtain ⟨ys, h1, h2, h3⟩ := q.run
  exact ⟨l, ys, z2, e1, rfl, h1, h2, h3⟩
end
end VL

/-! VLD: nested data that stand in the heap: lists, tuples, dicts with text keys; the addresses that bear them; repr. -/
namespace VL
open PySem PySem.Spec L2
open PyProof.Rows hiding St

mutual
/-- v stands for d; the containers are at as -/
inductive Dq (H : Hp) : V → PyData → List Addr → Prop
  | non : Dq H .non .none []
  | bl (b : Bool) : Dq H (.bl b) (.bool b) []
  | int (i : Int) : Dq H (.int i) (.int i) []
  | str (x : Str) : Dq H (.str x) (.str x) []
  | lst {a : Addr} {xs : List V} {ds : List PyData} {as : List Addr} : H a = some (.lst xs) → DqAll H xs ds as → a ∉ as → Dq H (.ref a) (.list ds) (a :: as)
  | tup {a : Addr} {xs : List V} {ds : List PyData} {as : List Addr} : H a = some (.tup xs) → DqAll H xs ds as → a ∉ as → Dq H (.ref a) (.tuple ds) (a :: as)
  | dic {a : Addr} {kvs : List (Key × V)} {ds : List (PyData × PyData)} {as : List Addr} : H a = some (.dK kvs) → DqKv H kvs ds as → a ∉ as → Dq H (.ref a) (.dict ds) (a :: as)
inductive DqAll (H : Hp) : List V → List PyData → List Addr → Prop
  | nil : DqAll H [] [] []
  | cons {v : V} {d : PyData} {as bs : List Addr} {vs : List V} {ds : List PyData} : Dq H v d as → DqAll H vs ds bs → DqAll H (v :: vs) (d :: ds) (as ++ bs)
inductive DqKv (H : Hp) : List (Key × V) → List (PyData × PyData) → List Addr → Prop
  | nil : DqKv H [] [] []
  | cons {k : Str} {v : V} {d : PyData} {as bs : List Addr} {r : List (Key × V)} {rs : List (PyData × PyData)} : Dq H v d as → DqKv H r rs bs → DqKv H ((.inr k, v) :: r) ((.str k, d) :: rs) (as ++ bs)
end

section
variable {H H' : Hp}
mutual
theorem Dq.mono : ∀ {v : V} {d : PyData} {as : List Addr}, Dq H v d as → (∀ a ∈ as, H' a = H a) → Dq H' v d as
  | _, _, _, .non, _ => .non
  | _, _, _, .bl b, _ => .bl b
  | _, _, _, .int i, _ => .int i
  | _, _, _, .str x, _ => .str x
  | _, _, _, .lst h1 h2 h3, k => .lst ((k _ List.mem_cons_self).trans h1) (DqAll.mono h2 fun a ha => k a (List.mem_cons_of_mem _ ha)) h3
  | _, _, _, .tup h1 h2 h3, k => .tup ((k _ List.mem_cons_self).trans h1) (DqAll.mono h2 fun a ha => k a (List.mem_cons_of_mem _ ha)) h3
  | _, _, _, .dic h1 h2 h3, k => .dic ((k _ List.mem_cons_self).trans h1) (DqKv.mono h2 fun a ha => k a (List.mem_cons_of_mem _ ha)) h3
theorem DqAll.mono : ∀ {vs : List V} {ds : List PyData} {as : List Addr}, DqAll H vs ds as → (∀ a ∈ as, H' a = H a) → DqAll H' vs ds as
  | _, _, _, .nil, _ => .nil
  | _, _, _, .cons h1 h2, k => .cons (Dq.mono h1 fun a ha => k a (List.mem_append_left _ ha)) (DqAll.mono h2 fun a ha => k a (List.mem_append_right _ ha))
theorem DqKv.mono : ∀ {vs : List (Key × V)} {ds : List (PyData × PyData)} {as : List Addr}, DqKv H vs ds as → (∀ a ∈ as, H' a = H a) → DqKv H' vs ds as
  | _, _, _, .nil, _ => .nil
  | _, _, _, .cons h1 h2, k => .cons (Dq.mono h1 fun a ha => k a (List.mem_append_left _ ha)) (DqKv.mono h2 fun a ha => k a (List.mem_append_right _ ha))
end
mutual
theorem Dq.there : ∀ {v : V} {d : PyData} {as : List Addr}, Dq H v d as → ∀ a ∈ as, ∃ o, H a = some o
  | _, _, _, .non, a, ha => by cases ha
  | _, _, _, .bl b, a, ha => by cases ha
  | _, _, _, .int i, a, ha => by cases ha
  | _, _, _, .str x, a, ha => by cases ha
  | _, _, _, .lst h1 h2 h3, a, ha => by
    rcases List.mem_cons.mp ha with e | e
    · exact ⟨_, e ▸ h1⟩
    · exact DqAll.there h2 a e
  | _, _, _, .tup h1 h2 h3, a, ha => by
    rcases List.mem_cons.mp ha with e | e
    · exact ⟨_, e ▸ h1⟩
    · exact DqAll.there h2 a e
  | _, _, _, .dic h1 h2 h3, a, ha => by
    rcases List.mem_cons.mp ha with e | e
    · exact ⟨_, e ▸ h1⟩
    · exact DqKv.there h2 a e
theorem DqAll.there : ∀ {vs : List V} {ds : List PyData} {as : List Addr}, DqAll H vs ds as → ∀ a ∈ as, ∃ o, H a = some o
  | _, _, _, .nil, a, ha => by cases ha
  | _, _, _, .cons h1 h2, a, ha => by
    rcases List.mem_append.mp ha with e | e
    · exact Dq.there h1 a e
    · exact DqAll.there h2 a e
theorem DqKv.there : ∀ {vs : List (Key × V)} {ds : List (PyData × PyData)} {as : List Addr}, DqKv H vs ds as → ∀ a ∈ as, ∃ o, H a = some o
  | _, _, _, .nil, a, ha => by cases ha
  | _, _, _, .cons h1 h2, a, ha => by
    rcases List.mem_append.mp ha with e | e
    · exact Dq.there h1 a e
    · exact DqKv.there h2 a e
end
theorem eq_of_same (s : Same H H') {a : Addr} (h : ∃ o, H a = some o) : H' a = H a := by
  obtain ⟨o, e⟩ := h
  rw [e, s a o e]
theorem Dq.same {v : V} {d : PyData} {as : List Addr} (h : Dq H v d as) (s : Same H H') : Dq H' v d as := h.mono fun a ha => eq_of_same s (h.there a ha)
theorem DqAll.same {v : List V} {d : List PyData} {as : List Addr} (h : DqAll H v d as) (s : Same H H') : DqAll H' v d as := h.mono fun a ha => eq_of_same s (h.there a ha)
theorem DqKv.same {v : List (Key × V)} {d : List (PyData × PyData)} {as : List Addr} (h : DqKv H v d as) (s : Same H H') : DqKv H' v d as := h.mono fun a ha => eq_of_same s (h.there a ha)
theorem Same.new {p : Addr} {o : HO} (h : H p = none) : Same H (upd H p o) := fun b u e => by rw [upd_ne (ne_of_none e h)]; exact e
/-- all but p stands -/
def Keep (p : Addr) (H H' : Hp) : Prop := ∀ b o, b ≠ p → H b = some o → H' b = some o
theorem Keep.refl {p : Addr} : Keep p H H := fun _ _ _ h => h
theorem Keep.trans {p : Addr} {H1 H2 H3 : Hp} (a : Keep p H1 H2) (b : Keep p H2 H3) : Keep p H1 H3 := fun x o hx h => b x o hx (a x o hx h)
theorem Keep.upd {p : Addr} {o : HO} : Keep p H (upd H p o) := fun b u hb e => by rw [upd_ne hb]; exact e
theorem Keep.of {p : Addr} (s : Same H H') : Keep p H H' := fun b o _ e => s b o e
theorem Same.back {q : Addr} (s : Same H H') (h : H' q = none) : H q = none := s.free h
/-- an object made meanwhile may change -/
theorem Same.mut {q : Addr} {o : HO} (s : Same H H') (h : H q = none) : Same H (upd H' q o) := fun b u e => by rw [upd_ne (ne_of_none e h)]; exact s b u e
end

mutual
/-- as dicts only with text keys -/
def okD : PyData → Bool
  | .list xs | .tuple xs => okDAll xs
  | .dict kvs => okDKv kvs
  | _ => true
def okDAll : List PyData → Bool
  | [] => true
  | x :: r => okD x && okDAll r
def okDKv : List (PyData × PyData) → Bool
  | [] => true
  | (.str _, v) :: r => okD v && okDKv r
  | _ :: _ => false
end

section
variable {X : Cx} {pins : List (Addr × Obj)} {σ : St} {H : Hp} {s : Shared}
mutual
theorem Dq.reads (I : Inv X pins σ H s) : ∀ (d : PyData) (v : V) (u : Value) (as : List Addr), Dq H v d as → RelV v u → ∃ bs, Reads s.heap u d bs ∧ ∀ b ∈ bs, b ∈ as
  | .none, _, _, _, h, r => by
    cases h
    cases r
    exact ⟨_, Reads.none, fun _ h => h⟩
  | .bool b, _, _, _, h, r => by
    cases h
    cases r
    exact ⟨_, Reads.bool b, fun _ h => h⟩
  | .int i, _, _, _, h, r => by
    cases h
    obtain ⟨t, rfl⟩ := r
    exact ⟨_, Reads.int i t, fun _ h => h⟩
  | .str x, _, _, _, h, r => by
    cases h
    obtain ⟨t, rfl⟩ := r
    exact ⟨_, Reads.str x t, fun _ h => h⟩
  | .list ds, _, _, _, h, r => by
    cases h with
    | lst hs ha hn =>
      cases r
      obtain ⟨its, rv, ⟨o, n, ho, hc, _, hd⟩, _⟩ := I.list (SqL.of hs)
      obtain ⟨bs, hr, hb⟩ := DqAll.reads I ds _ its _ ha rv
      exact ⟨_, Reads.list ho hc hd hr, fun b hm => (List.mem_cons.mp hm).elim (fun e => e ▸ List.mem_cons_self) fun e => List.mem_cons_of_mem _ (hb b e)⟩
  | .tuple ds, _, _, _, h, r => by
    cases h with
    | tup hs ha hn =>
      cases r
      obtain ⟨its, rv, ⟨o, ho, hc, n, hd⟩, _⟩ := I.tuple (SqT.of hs)
      obtain ⟨bs, hr, hb⟩ := DqAll.reads I ds _ its _ ha rv
      exact ⟨_, Reads.tuple ho hc hd hr, fun b hm => List.mem_cons_of_mem _ (hb b hm)⟩
  | .dict ds, _, _, _, h, r => by
    cases h with
    | @dic a kvs _ as hs ha hn =>
      cases r
      obtain ⟨_, _, vs, rv, o, es, ep, ho, ex, hd, _, hp, _⟩ := dk_of I.hok hs
      obtain ⟨ks, bs, h1, h2, h3⟩ := DqKv.reads I ds kvs _ vs es.toList ha rv hp
      refine ⟨_, Reads.dict ho ex.1 hd h1 h2, fun b hm => ?_⟩
      rcases List.mem_cons.mp (show b ∈ a :: (ks ++ bs) by simpa using hm) with e | e
      · exact e ▸ List.mem_cons_self
      · exact List.mem_cons_of_mem _ (h3 b e)
theorem DqAll.reads (I : Inv X pins σ H s) : ∀ (ds : List PyData) (vs : List V) (us : List Value) (as : List Addr), DqAll H vs ds as → Vals vs us → ∃ bs, ReadsAll s.heap us ds bs ∧ ∀ b ∈ bs, b ∈ as
  | [], _, _, _, h, r => by
    cases h
    cases r
    exact ⟨_, ReadsAll.nil, fun _ h => h⟩
  | d :: ds, _, _, _, h, r => by
    cases h with
    | cons h1 h2 =>
      cases r with
      | cons r1 r2 =>
        obtain ⟨as, q1, m1⟩ := Dq.reads I d _ _ _ h1 r1
        obtain ⟨bs, q2, m2⟩ := DqAll.reads I ds _ _ _ h2 r2
        exact ⟨_, ReadsAll.cons q1 q2, fun b hm => (List.mem_append.mp hm).elim (fun e => List.mem_append_left _ (m1 b e)) fun e => List.mem_append_right _ (m2 b e)⟩
theorem DqKv.reads (I : Inv X pins σ H s) : ∀ (ds : List (PyData × PyData)) (kvs : List (Key × V)) (as : List Addr) (vs : List (Key × Value)) (es : List DictEntry), DqKv H kvs ds as → KV kvs vs → Pairs (mixKind X.prog X.w) es vs →
    ∃ ks bs, ReadsAll s.heap (es.map (·.key)) (ds.map (·.1)) ks ∧ ReadsAll s.heap (es.map (·.val)) (ds.map (·.2)) bs ∧ ∀ b ∈ ks ++ bs, b ∈ as
  | [], _, _, _, _, h, r, p => by
    cases h
    cases r
    cases p
    exact ⟨_, _, ReadsAll.nil, ReadsAll.nil, fun _ h => by simp at h⟩
  | (k, d) :: ds, _, _, _, _, h, r, p => by
    cases h with
    | @cons x v _ as bs rr rs h1 h2 =>
      cases r with
      | @cons _ q _ _ r1 r2 =>
        cases p with
        | @cons e kv _ _ p1 p2 p3 =>
          obtain ⟨q1, q2⟩ := q
          have ek : Sum.inr x = q1 := r1.1
          have rv : RelV v q2 := r1.2
          subst ek
          obtain ⟨as1, hr1, m1⟩ := Dq.reads I d _ _ _ h1 rv
          obtain ⟨ks, bs1, hr2, hr3, m2⟩ := DqKv.reads I ds _ _ _ _ h2 r2 p3
          have kx : keyIs (Sum.inr x) e.key = true := p1
          rcases keyIs_shape kx with ⟨i, t, e1, _⟩ | ⟨y, t, e1, e2⟩
          · cases e1
          · cases e1
            refine ⟨[] ++ ks, as1 ++ bs1, ?_, ?_, fun b hm => ?_⟩
            · show ReadsAll s.heap (e.key :: _) (.str x :: _) _
              rw [e2]
              exact ReadsAll.cons (Reads.str x t) hr2
            · show ReadsAll s.heap (e.val :: _) (d :: _) _
              rw [show e.val = q2 from p2]
              exact ReadsAll.cons hr1 hr3
            · rcases List.mem_append.mp hm with z | z
              · exact List.mem_append_right _ (m2 b (List.mem_append_left _ (by simpa using z)))
              · rcases List.mem_append.mp z with z | z
                · exact List.mem_append_left _ (m1 b z)
                · exact List.mem_append_right _ (m2 b (List.mem_append_right _ z))
end
/-- repr of nested data -/
structure uRepr (vs : List V) (H : Hp) (Q : VK) : Prop where
  run : ∃ v d as, vs = [v] ∧ Dq H v d as ∧ PyData.showable d = true ∧ d.shown.length ≤ sizeLine ∧ d.depth ≤ 50 ∧ Q (.str d.shown) H
theorem uRepr_mk {v : V} {d : PyData} {as : List Addr} {Q : VK} (h : Dq H v d as) (h1 : PyData.showable d = true) (h2 : d.shown.length ≤ sizeLine) (h3 : d.depth ≤ 50) (q : Q (.str d.shown) H) : uRepr [v] H Q := ⟨v, d, as, rfl, h, h1, h2, h3, q⟩
theorem call_reprD (hg : X.A.guards = some []) (hu : X.A.units + 64 < cLine) (hK : ∃ o, X.K.lookup sysModules = some o) : CallR X (.builtin "repr") (fun xs H Q => uRepr xs H Q) := by
  intro pins s σ H xs us Q I r h
  obtain ⟨v, d, as, rfl, hd, h1, h2, h3, q⟩ := h.run
  obtain ⟨u, rfl, rv⟩ : ∃ u, us = [u] ∧ RelV v u := by
    cases r with
    | cons a b => cases b; exact ⟨_, rfl, a⟩
  obtain ⟨bs, hr, hb⟩ := hd.reads I d v u as rv
  have hsm : sysModules ∉ bs := fun hm => by
    obtain ⟨o, e⟩ := hd.there _ (hb _ hm)
    obtain ⟨ob, hk⟩ := hK
    have := (I.bs _ _ (I.mod.kin _ _ hk)).2
    rw [this] at e
    cases e
  have fin : ∀ h' t tk, (∀ b o, s.heap.get? b = some o → h'.get? b = some o) → EP X pins σ Q (.str d.shown t) { s with heap := h', toks := tk } := fun h' t tk k => ⟨.str d.shown, H, I.kept k, ⟨t, rfl⟩, q⟩
  cases hr with
  | none => exact PySem.P.repr_of_none (fin s.heap _ _ fun _ _ e => e)
  | bool b => exact PySem.P.repr_of_bool (fin s.heap _ _ fun _ _ e => e)
  | int i t => exact PySem.P.repr_of_int (by simpa [PyData.showable] using h1) (fin s.heap _ _ fun _ _ e => e)
  | str x t => exact PySem.P.repr_of_str (fin s.heap _ _ fun _ _ e => e)
  | list a1 a2 a3 a4 => exact repr_of_reads' (.list a1 a2 a3 a4) h1 (fun _ => hsm) hg (by omega) (fun _ _ e => e) (fun h' u tk k => fin h' u tk k) h2
  | tuple a1 a2 a3 a4 => exact repr_of_reads' (.tuple a1 a2 a3 a4) h1 (fun _ => hsm) hg (by omega) (fun _ _ e => e) (fun h' u tk k => fin h' u tk k) h2
  | dict a1 a2 a3 a4 a5 => exact repr_of_reads' (.dict a1 a2 a3 a4 a5) h1 (fun _ => hsm) hg (by omega) (fun _ _ e => e) (fun h' u tk k => fin h' u tk k) h2
end
section
variable {X : Cx} {σ : St} {H : Hp} {Q : VK} {pos p : Pos} {e : Expr} {W : WX} {k : Nat}
theorem re_repr (B : BdG X W k) (hK : ∃ o, X.K.lookup sysModules = some o) (hm : X.mg "repr" = none) (h : RA X [e] σ H fun xs H1 => uRepr xs H1 Q) (hg : Gl X "repr" := by rfl) (he : starEach [e] X.env = (false, eval e X.env) :: starEach [] X.env := by rfl) : RE X (.Call (.Name "repr" p) [e] [] pos) σ H Q :=
  re_of (pe_callB (call_reprD B.gd B.room.units hK) hg hm boot_repr' pa_self (by decide) (by decide) he rfl) ⟨fun ps pins s I => h.run ps pins s I⟩
end
end VL

/-! VLT: texts by their lists of signs. -/
namespace VL
open PySem PySem.Spec L2
open PyProof.Rows hiding St
/-- what stands behind the first i statements of a def's body -/
def afterW (st : Stmt) (i : Nat) : List Stmt := (defBody st).drop i
/-- the body of a loop, or of an if -/
def loopB : Stmt → List Stmt
  | .For _ _ b _ _ => b
  | .While _ b _ _ => b
  | .If _ b _ _ => b
  | _ => []
/-- what stands behind the first k statements of the body of the i-th statement of a def -/
def inW (st : Stmt) (i k : Nat) : List Stmt := (loopB ((defBody st).getD i (.Pass ⟨0, 0, 0, 0⟩))).drop k
theorem SqL.same {K : PySem.W.Frag} {H H' : Hp} {a : Addr} {xs : List V} (h : SqL K H a xs) (s : Same H H') : SqL K H' a xs := by
  rcases h with h | h
  · rcases h with h | ⟨o, h⟩
    · exact .inl (.inl (s a _ h))
    · exact .inl (.inr ⟨o, s a _ h⟩)
  · exact .inr h
theorem szl {n : Nat} (h : n ≤ 16000000) : n ≤ sizeLine := Nat.le_trans h (by decide)
theorem szlt {n : Nat} (h : n < 16000000) : n < sizeLine := Nat.lt_of_lt_of_le h (by decide)
theorem str_ext {a b : Str} (h : a.cps.toList = b.cps.toList) : a = b := PyProof.Rows.ext_toList h
theorem str_len (a : Str) : a.length = a.cps.toList.length := by
  show a.cps.size = _
  simp
theorem str_app (a b : Str) : (a ++ b).cps.toList = a.cps.toList ++ b.cps.toList := by
  show (a.cps ++ b.cps).toList = _
  simp
theorem starts3_nat (a b : Str) (k : Nat) (hk : k ≤ a.length) : Txt.startswith3 a b (k : Int) = b.cps.toList.isPrefixOf (a.cps.toList.drop k) := by
  have hf : fromIndex a.length (k : Int) = k := by
    unfold fromIndex
    rw [if_neg (by omega)]
    omega
  unfold Txt.startswith3
  rw [hf]
  have hl := str_len b
  have ha := str_len a
  have hs : Builtin.Str.subAt a b k = decide ((a.cps.toList.drop k).take b.cps.toList.length = b.cps.toList) := by
    unfold Builtin.Str.subAt
    rw [hl]
    have e : (a.cps.extract k (k + b.cps.toList.length)).toList = (a.cps.toList.drop k).take b.cps.toList.length := by
      rw [Array.toList_extract, List.extract_eq_drop_take]
      congr 1
      omega
    by_cases h : (a.cps.toList.drop k).take b.cps.toList.length = b.cps.toList
    · rw [decide_eq_true h, beq_iff_eq]
      exact Array.toList_inj.mp (e.trans h)
    · rw [decide_eq_false h]
      refine beq_eq_false_iff_ne.mpr fun z => h ?_
      rw [← e, z]
  rw [hs]
  by_cases h : b.cps.toList <+: a.cps.toList.drop k
  · rw [List.isPrefixOf_iff_prefix.mpr h]
    have h1 := h.length_le
    rw [List.length_drop] at h1
    have h2 := List.prefix_iff_eq_take.mp h
    rw [decide_eq_true h2.symm, Bool.and_true, decide_eq_true_eq]
    by_cases h0 : b.cps.toList.length = 0
    · omega
    · omega
  · have h3 : ¬ (a.cps.toList.drop k).take b.cps.toList.length = b.cps.toList := fun z => h (List.prefix_iff_eq_take.mpr z.symm)
    rw [decide_eq_false h3, Bool.and_false]
    cases q : b.cps.toList.isPrefixOf (a.cps.toList.drop k) with
    | false => rfl
    | true => exact absurd (List.isPrefixOf_iff_prefix.mp q) h
theorem starts0 (a b : Str) : Txt.startswith a b = b.cps.toList.isPrefixOf a.cps.toList := by
  have h := starts3_nat a b 0 (Nat.zero_le _)
  rw [List.drop_zero] at h
  rw [← h]
  have hf : fromIndex a.length (0 : Int) = 0 := by
    unfold fromIndex
    rw [if_neg (by omega)]
    omega
  unfold Txt.startswith Txt.startswith3
  show _ = (decide (fromIndex a.length (0 : Int) + b.length ≤ a.length) && Builtin.Str.subAt a b (fromIndex a.length (0 : Int)))
  rw [hf]
theorem atI_drop {α : Type} {l : List α} {k : Nat} {c : α} {r : List α} (h : l.drop k = c :: r) : atI l (k : Int) = some c := by
  have hk : k < l.length := by
    rcases Nat.lt_or_ge k l.length with z | z
    · exact z
    · rw [List.drop_eq_nil_of_le z] at h; cases h
  unfold atI ixN
  rw [if_pos (by omega), if_pos (by omega)]
  show l[(k : Int).toNat]? = some c
  rw [Int.toNat_natCast]
  have : l[k]? = (l.drop k)[0]? := by simp
  rw [this, h]
  rfl
theorem atI_nat' {α : Type} {l : List α} {k : Nat} {c : α} (h : l[k]? = some c) : atI l (k : Int) = some c := by
  have hk : k < l.length := (List.getElem?_eq_some_iff.mp h).1
  unfold atI ixN
  rw [if_pos (by omega), if_pos (by omega)]
  show l[(k : Int).toNat]? = some c
  rw [Int.toNat_natCast, h]
theorem cutS_nat (z : Str) {a b : Nat} (hb : b ≤ z.length) (hab : a ≤ b) : (cutS z (some (a : Int)) (some (b : Int))).cps.toList = (z.cps.toList.drop a).take (b - a) := by
  unfold cutS
  rw [HT.sIx_nat, HT.sIx_nat, Nat.min_eq_left hb, Nat.min_eq_left (Nat.le_trans hab hb)]
theorem cutS_any (z : Str) (a b : Nat) : (cutS z (some (a : Int)) (some (b : Int))).cps.toList = (z.cps.toList.drop a).take (b - a) := by
  unfold cutS
  rw [HT.sIx_nat, HT.sIx_nat]
  show (z.cps.toList.drop (min a z.length)).take (min b z.length - min a z.length) = _
  have hl := str_len z
  rcases Nat.le_total a z.length with h | h
  · rw [Nat.min_eq_left h]
    rcases Nat.le_total b z.length with h2 | h2
    · rw [Nat.min_eq_left h2]
    · rw [Nat.min_eq_right h2]
      rw [List.take_of_length_le (by rw [List.length_drop]; omega), List.take_of_length_le (by rw [List.length_drop]; omega)]
  · rw [Nat.min_eq_right h]
    rw [List.drop_eq_nil_of_le (by omega), List.drop_eq_nil_of_le (by omega)]
    simp
theorem cutS_from (z : Str) (a : Nat) : (cutS z (some (a : Int)) none).cps.toList = z.cps.toList.drop a := by
  unfold cutS
  rw [HT.sIx_nat, HT.sIx_none]
  show (z.cps.toList.drop (min a z.length)).take (z.length - min a z.length) = _
  have hl := str_len z
  rcases Nat.le_total a z.length with h | h
  · rw [Nat.min_eq_left h]
    exact List.take_of_length_le (by rw [List.length_drop]; omega)
  · rw [Nat.min_eq_right h, List.drop_eq_nil_of_le (by omega), List.drop_eq_nil_of_le (by omega)]
    simp
theorem cutS_to (z : Str) (b : Nat) : (cutS z none (some (b : Int))).cps.toList = z.cps.toList.take b := by
  unfold cutS
  rw [HT.sIx_nat, HT.sIx_none]
  show (z.cps.toList.drop 0).take (min b z.length - 0) = _
  have hl := str_len z
  rw [List.drop_zero, Nat.sub_zero]
  rcases Nat.le_total b z.length with h | h
  · rw [Nat.min_eq_left h]
  · rw [Nat.min_eq_right h, List.take_of_length_le (by omega), List.take_of_length_le (by omega)]
/-- one sign replaced -/
theorem replL_one (c : Nat) (z : List Nat) : ∀ l : List Nat, PySem.StrLaws.replL [c] z l = l.flatMap fun d => if d = c then z else [d]
  | [] => PySem.StrLaws.replL_nil
  | d :: r => by
    have ih := replL_one c z r
    by_cases h : d = c
    · subst h
      rw [PySem.StrLaws.replL_hit (List.cons_ne_nil _ _) rfl]
      show z ++ PySem.StrLaws.replL [d] z r = _
      rw [ih, List.flatMap_cons, if_pos rfl]
    · rw [PySem.StrLaws.replL_miss (by intro e; exact h (List.cons.inj e).1), ih, List.flatMap_cons, if_neg h]
      rfl
theorem replace_one {x z : Str} (c : Nat) (y : Str) (hy : y.cps.toList = [c]) : (Txt.replace x y z).cps.toList = x.cps.toList.flatMap fun d => if d = c then z.cps.toList else [d] := by
  rw [PySem.StrLaws.replace_list (by rw [str_len, hy]; exact Nat.le_refl 1), hy, replL_one]
/-- join -/
theorem glueL_empty : ∀ r : List Str, PySem.StrLaws.glueL [] r = r.flatMap (fun y => y.cps.toList)
  | [] => rfl
  | p :: r => by
    show [] ++ p.cps.toList ++ PySem.StrLaws.glueL [] r = _
    rw [glueL_empty r]
    rfl
theorem join_empty (a : Str) (h : a.cps.toList = []) (ys : List Str) : (Txt.join a ys).cps.toList = ys.flatMap (fun y => y.cps.toList) := by
  cases ys with
  | nil => rfl
  | cons p r =>
    show (Builtin.Str.glued a (p :: r)).cps.toList = _
    rw [PySem.StrLaws.glued_list, h]
    show p.cps.toList ++ PySem.StrLaws.glueL [] r = _
    rw [glueL_empty]
    rfl
/-! ### fresh data -/
/-- v stands for d, its containers are among F -/
def DqP (F : Addr → Prop) (H : Hp) (v : V) (d : PyData) : Prop := ∃ as, Dq H v d as ∧ ∀ a ∈ as, F a
def DqAllP (F : Addr → Prop) (H : Hp) (vs : List V) (ds : List PyData) : Prop := ∃ as, DqAll H vs ds as ∧ ∀ a ∈ as, F a
def DqKvP (F : Addr → Prop) (H : Hp) (vs : List (Key × V)) (ds : List (PyData × PyData)) : Prop := ∃ as, DqKv H vs ds as ∧ ∀ a ∈ as, F a
section
variable {F F' : Addr → Prop} {H H' : Hp} {v : V} {d : PyData} {vs : List V} {ds : List PyData} {ks : List (Key × V)} {kd : List (PyData × PyData)} {a : Addr}
theorem DqP.imp (h : DqP F H v d) (hF : ∀ a, F a → F' a) : DqP F' H v d := let ⟨as, h1, h2⟩ := h; ⟨as, h1, fun a ha => hF a (h2 a ha)⟩
theorem DqP.keep (h : DqP F H v d) (k : ∀ a o, F a → H a = some o → H' a = some o) : DqP F H' v d := let ⟨as, h1, h2⟩ := h; ⟨as, h1.mono fun a ha => let ⟨o, e⟩ := h1.there a ha; by rw [e, k a o (h2 a ha) e], h2⟩
theorem DqAllP.imp (h : DqAllP F H vs ds) (hF : ∀ a, F a → F' a) : DqAllP F' H vs ds := let ⟨as, h1, h2⟩ := h; ⟨as, h1, fun a ha => hF a (h2 a ha)⟩
theorem DqAllP.keep (h : DqAllP F H vs ds) (k : ∀ a o, F a → H a = some o → H' a = some o) : DqAllP F H' vs ds := let ⟨as, h1, h2⟩ := h; ⟨as, h1.mono fun a ha => let ⟨o, e⟩ := h1.there a ha; by rw [e, k a o (h2 a ha) e], h2⟩
theorem DqKvP.imp (h : DqKvP F H ks kd) (hF : ∀ a, F a → F' a) : DqKvP F' H ks kd := let ⟨as, h1, h2⟩ := h; ⟨as, h1, fun a ha => hF a (h2 a ha)⟩
theorem DqKvP.keep (h : DqKvP F H ks kd) (k : ∀ a o, F a → H a = some o → H' a = some o) : DqKvP F H' ks kd := let ⟨as, h1, h2⟩ := h; ⟨as, h1.mono fun a ha => let ⟨o, e⟩ := h1.there a ha; by rw [e, k a o (h2 a ha) e], h2⟩
theorem DqAllP.nil : DqAllP F H [] [] := ⟨[], .nil, fun _ h => by cases h⟩
theorem DqKvP.nil : DqKvP F H [] [] := ⟨[], .nil, fun _ h => by cases h⟩
theorem DqAll.snoc : ∀ {vs : List V} {ds : List PyData} {as bs : List Addr} {v : V} {d : PyData}, DqAll H vs ds as → Dq H v d bs → ∃ cs, DqAll H (vs ++ [v]) (ds ++ [d]) cs ∧ ∀ c ∈ cs, c ∈ as ∨ c ∈ bs
  | _, _, _, _, _, _, .nil, h => ⟨_, .cons h .nil, fun c hc => .inr (by simpa using hc)⟩
  | _, _, _, _, _, _, .cons h1 h2, h => by
    obtain ⟨cs, h3, h4⟩ := DqAll.snoc h2 h
    refine ⟨_, .cons h1 h3, fun c hc => ?_⟩
    rcases List.mem_append.mp hc with z | z
    · exact .inl (List.mem_append_left _ z)
    · rcases h4 c z with z | z
      · exact .inl (List.mem_append_right _ z)
      · exact .inr z
theorem DqAllP.snoc (h : DqAllP F H vs ds) (h2 : DqP F H v d) : DqAllP F H (vs ++ [v]) (ds ++ [d]) := by
  obtain ⟨as, a1, a2⟩ := h
  obtain ⟨bs, b1, b2⟩ := h2
  obtain ⟨cs, c1, c2⟩ := DqAll.snoc a1 b1
  exact ⟨cs, c1, fun c hc => (c2 c hc).elim (a2 c) (b2 c)⟩
theorem DqKv.snoc {x : Str} : ∀ {vs : List (Key × V)} {ds : List (PyData × PyData)} {as bs : List Addr} {v : V} {d : PyData}, DqKv H vs ds as → Dq H v d bs → ∃ cs, DqKv H (vs ++ [(.inr x, v)]) (ds ++ [(.str x, d)]) cs ∧ ∀ c ∈ cs, c ∈ as ∨ c ∈ bs
  | _, _, _, _, _, _, .nil, h => ⟨_, .cons h .nil, fun c hc => .inr (by simpa using hc)⟩
  | _, _, _, _, _, _, .cons h1 h2, h => by
    obtain ⟨cs, h3, h4⟩ := DqKv.snoc (x := x) h2 h
    refine ⟨_, .cons h1 h3, fun c hc => ?_⟩
    rcases List.mem_append.mp hc with z | z
    · exact .inl (List.mem_append_left _ z)
    · rcases h4 c z with z | z
      · exact .inl (List.mem_append_right _ z)
      · exact .inr z
theorem DqKvP.snoc {x : Str} (h : DqKvP F H ks kd) (h2 : DqP F H v d) : DqKvP F H (ks ++ [(.inr x, v)]) (kd ++ [(.str x, d)]) := by
  obtain ⟨as, a1, a2⟩ := h
  obtain ⟨bs, b1, b2⟩ := h2
  obtain ⟨cs, c1, c2⟩ := DqKv.snoc (x := x) a1 b1
  exact ⟨cs, c1, fun c hc => (c2 c hc).elim (a2 c) (b2 c)⟩
theorem DqP.lst (h : H a = some (.lst vs)) (h2 : DqAllP F H vs ds) (hn : ¬ F a) (hF : ∀ b, F b → F' b) (ha : F' a) : DqP F' H (.ref a) (.list ds) := by
  obtain ⟨as, a1, a2⟩ := h2
  exact ⟨_, .lst h a1 fun z => hn (a2 a z), fun b hb => (List.mem_cons.mp hb).elim (fun e => e ▸ ha) fun e => hF b (a2 b e)⟩
theorem DqP.dic (h : H a = some (.dK ks)) (h2 : DqKvP F H ks kd) (hn : ¬ F a) (hF : ∀ b, F b → F' b) (ha : F' a) : DqP F' H (.ref a) (.dict kd) := by
  obtain ⟨as, a1, a2⟩ := h2
  exact ⟨_, .dic h a1 fun z => hn (a2 a z), fun b hb => (List.mem_cons.mp hb).elim (fun e => e ▸ ha) fun e => hF b (a2 b e)⟩
theorem DqP.non : DqP F H .non .none := ⟨[], .non, fun _ h => by cases h⟩
theorem DqP.bl (b : Bool) : DqP F H (.bl b) (.bool b) := ⟨[], .bl b, fun _ h => by cases h⟩
theorem DqP.int (i : Int) : DqP F H (.int i) (.int i) := ⟨[], .int i, fun _ h => by cases h⟩
theorem DqP.str (x : Str) : DqP F H (.str x) (.str x) := ⟨[], .str x, fun _ h => by cases h⟩
end
/-! ### kinds -/
theorem kit_NoneType_int : kitB "NoneType" "int" = some false := by decide +kernel
theorem kit_NoneType_str : kitB "NoneType" "str" = some false := by decide +kernel
theorem kit_NoneType_list : kitB "NoneType" "list" = some false := by decide +kernel
theorem kit_NoneType_dict : kitB "NoneType" "dict" = some false := by decide +kernel
theorem kit_NoneType_bool : kitB "NoneType" "bool" = some false := by decide +kernel
theorem kit_NoneType_tuple : kitB "NoneType" "tuple" = some false := by decide +kernel
theorem kit_bool_int : kitB "bool" "int" = some true := by decide +kernel
theorem kit_bool_str : kitB "bool" "str" = some false := by decide +kernel
theorem kit_bool_list : kitB "bool" "list" = some false := by decide +kernel
theorem kit_bool_dict : kitB "bool" "dict" = some false := by decide +kernel
theorem kit_bool_bool : kitB "bool" "bool" = some true := by decide +kernel
theorem kit_bool_tuple : kitB "bool" "tuple" = some false := by decide +kernel
theorem kit_int_int : kitB "int" "int" = some true := by decide +kernel
theorem kit_int_str : kitB "int" "str" = some false := by decide +kernel
theorem kit_int_list : kitB "int" "list" = some false := by decide +kernel
theorem kit_int_dict : kitB "int" "dict" = some false := by decide +kernel
theorem kit_int_bool : kitB "int" "bool" = some false := by decide +kernel
theorem kit_int_tuple : kitB "int" "tuple" = some false := by decide +kernel
theorem kit_str_int : kitB "str" "int" = some false := by decide +kernel
theorem kit_str_str : kitB "str" "str" = some true := by decide +kernel
theorem kit_str_list : kitB "str" "list" = some false := by decide +kernel
theorem kit_str_dict : kitB "str" "dict" = some false := by decide +kernel
theorem kit_str_bool : kitB "str" "bool" = some false := by decide +kernel
theorem kit_str_tuple : kitB "str" "tuple" = some false := by decide +kernel
theorem kit_list_int : kitB "list" "int" = some false := by decide +kernel
theorem kit_list_str : kitB "list" "str" = some false := by decide +kernel
theorem kit_list_list : kitB "list" "list" = some true := by decide +kernel
theorem kit_list_dict : kitB "list" "dict" = some false := by decide +kernel
theorem kit_list_bool : kitB "list" "bool" = some false := by decide +kernel
theorem kit_list_tuple : kitB "list" "tuple" = some false := by decide +kernel
theorem kit_dict_int : kitB "dict" "int" = some false := by decide +kernel
theorem kit_dict_str : kitB "dict" "str" = some false := by decide +kernel
theorem kit_dict_list : kitB "dict" "list" = some false := by decide +kernel
theorem kit_dict_dict : kitB "dict" "dict" = some true := by decide +kernel
theorem kit_dict_bool : kitB "dict" "bool" = some false := by decide +kernel
theorem kit_dict_tuple : kitB "dict" "tuple" = some false := by decide +kernel
theorem kit_tuple_int : kitB "tuple" "int" = some false := by decide +kernel
theorem kit_tuple_str : kitB "tuple" "str" = some false := by decide +kernel
theorem kit_tuple_list : kitB "tuple" "list" = some false := by decide +kernel
theorem kit_tuple_dict : kitB "tuple" "dict" = some false := by decide +kernel
theorem kit_tuple_bool : kitB "tuple" "bool" = some false := by decide +kernel
theorem kit_tuple_tuple : kitB "tuple" "tuple" = some true := by decide +kernel
end VL

/-! VLC: comprehensions, assigned ones and ones with a test -/
namespace VL
open PySem PySem.Spec L2
open PyProof.Rows hiding St
/-- one turn: the test, the element, the list that grows -/
def fStep (tt : TT) (te : TE) (D : Addr) (N : Hp → Prop) (σ : St) (H : Hp) : Prop := tt σ H fun b H3 => if b = true then te σ H3 fun y H4 => ∃ acc, H4 D = some (.lst acc) ∧ acc.length < sizeLine ∧ N (upd H4 D (.lst (acc ++ [y]))) else N H3
theorem fStep_yes {te : TE} {D : Addr} {N : Hp → Prop} {σ : St} {H : Hp} (h : te σ H fun y H4 => ∃ acc, H4 D = some (.lst acc) ∧ acc.length < sizeLine ∧ N (upd H4 D (.lst (acc ++ [y])))) : fStep tYes te D N σ H := by
  unfold fStep tYes
  dsimp only
  rw [if_pos rfl]
  exact h
theorem fStep_if {tt : TT} {te : TE} {D : Addr} {N : Hp → Prop} {σ : St} {H : Hp} (h : tt σ H fun b H3 => ifB b (te σ H3 fun y H4 => ∃ acc, H4 D = some (.lst acc) ∧ acc.length < sizeLine ∧ N (upd H4 D (.lst (acc ++ [y])))) (N H3)) (mono : ∀ Q Q' : Bool → Hp → Prop, (∀ b H', Q b H' → Q' b H') → tt σ H Q → tt σ H Q') : fStep tt te D N σ H := mono _ _ (fun b H' q => q.ite) h
structure uCN (tt : TT) (te : TE) (j : Nat) (σ : St) (n : Int) (H : Hp) (Q : VK) : Prop where
  run : n < 2 ^ 62 ∧ -(2 ^ 62) ≤ n ∧ ∀ D, H D = none → ∃ Pv : Nat → Hp → Prop, Pv 0 (upd H D (.lst [])) ∧ (∀ (i : Nat) H', (i : Int) < n → Pv i H' → fStep tt te D (Pv (i + 1)) ((wipe σ [j]).set j (some (.int i))) H') ∧ ∀ H', Pv n.toNat H' → Q (.ref D) H'
structure uCL (K : PySem.W.Frag) (tt : TT) (te : TE) (j : Nat) (σ : St) (x : V) (H : Hp) (Q : VK) : Prop where
  run : ∃ (a : Addr) (xs : List V), x = .ref a ∧ SqL K H a xs ∧ ∀ D, H D = none → ∃ Pv : Nat → Hp → Prop, Pv 0 (upd H D (.lst [])) ∧ (∀ i H', i ≤ xs.length → Pv i H' → SqL K H' a xs) ∧ (∀ i v H', xs[i]? = some v → Pv i H' → fStep tt te D (Pv (i + 1)) ((wipe σ [j]).set j (some v)) H') ∧ ∀ H', Pv xs.length H' → Q (.ref D) H'
structure uCK (tt : TT) (te : TE) (j : Nat) (σ : St) (x : V) (H : Hp) (Q : VK) : Prop where
  run : ∃ (d : Addr) (kvs : List (Key × V)), x = .ref d ∧ H d = some (.dK kvs) ∧ ∀ (od : Obj) D, (upd H d (.frz od (.dK kvs))) D = none → ∃ Pv : Nat → Hp → Prop, Pv 0 (upd (upd H d (.frz od (.dK kvs))) D (.lst [])) ∧ (∀ i H', i ≤ kvs.length → Pv i H' → H' d = some (.frz od (.dK kvs))) ∧
    (∀ i kv H', kvs[i]? = some kv → Pv i H' → fStep tt te D (Pv (i + 1)) ((wipe σ [j]).set j (some (kV kv.1))) H') ∧ ∀ H', Pv kvs.length H' → Q (.ref D) (upd H' d (.dK kvs))
theorem wipe_set (σ : St) (j : Nat) (v : V) : wipe ((wipe σ [j]).set j (some v)) [j] = wipe σ [j] := by
  show ((σ.set j none).set j (some v)).set j none = σ.set j none
  rw [List.set_set, List.set_set]
section
variable {X : Cx} {σ : St} {H : Hp} {Q : VK} {pos p rp yp py spos : Pos} {elt iter e c : Expr} {W : WX} {y z : Str} {j k i : Nat} {scope : Scope} {tt : TT} {te : TE} {D : Ends}
theorem restN {n : Int} (h : uCN tt te j σ n H Q) : tLc (fun _ H R => R (Itr 0 n.toNat) H) (gName j) tt te [j] σ H Q := by
  intro D hD
  obtain ⟨b1, b2, q3⟩ := h.run
  obtain ⟨Pv, h0, hst, hd⟩ := q3 D hD
  refine lc_range (lo := 0) (n := n.toNat) Pv h0 (fun i H' hi p => ?_) hd
  show wipe ((wipe σ [j]).set j (some (V.int (0 + (i : Int))))) [j] = wipe σ [j] ∧ _
  rw [show (0 : Int) + (i : Int) = (i : Int) by omega]
  exact ⟨wipe_set _ _ _, hst i H' (by omega) p⟩
theorem restL {K : PySem.W.Frag} {a : Addr} {xs : List V} (h : ∀ D, H D = none → ∃ Pv : Nat → Hp → Prop, Pv 0 (upd H D (.lst [])) ∧ (∀ i H', i ≤ xs.length → Pv i H' → SqL K H' a xs) ∧ (∀ i v H', xs[i]? = some v → Pv i H' → fStep tt te D (Pv (i + 1)) ((wipe σ [j]).set j (some v)) H') ∧ ∀ H', Pv xs.length H' → Q (.ref D) H') :
    tLc (fun _ H R => R (Itl K a) H) (gName j) tt te [j] σ H Q := by
  intro D hD
  obtain ⟨Pv, h0, hl, hst, hd⟩ := h D hD
  exact lc_list (K := K) (a := a) (xs := xs) Pv h0 hl (fun i v H' hi p => ⟨wipe_set _ _ _, hst i v H' hi p⟩) hd
theorem restK {d : Addr} {kvs : List (Key × V)} {od : Obj} (h : ∀ D, H D = none → ∃ Pv : Nat → Hp → Prop, Pv 0 (upd H D (.lst [])) ∧ (∀ i H', i ≤ kvs.length → Pv i H' → H' d = some (.frz od (.dK kvs))) ∧ (∀ i kv H', kvs[i]? = some kv → Pv i H' → fStep tt te D (Pv (i + 1)) ((wipe σ [j]).set j (some (kV kv.1))) H') ∧ ∀ H', Pv kvs.length H' → Q (.ref D) (upd H' d (.dK kvs))) :
    tLc (fun _ H R => R (Itk d od kvs) H) (gName j) tt te [j] σ H fun v H' => H' d = some (.frz od (.dK kvs)) ∧ Q v (upd H' d (.dK kvs)) := by
  intro D hD
  obtain ⟨Pv, h0, hl, hst, hd⟩ := h D hD
  refine ⟨fun i m H' => m = kvs.length - i ∧ i ≤ kvs.length ∧ Pv i H', ⟨kvs.length, by omega, Nat.zero_le _, h0⟩, ?_⟩
  rintro i m H' ⟨rfl, hle, p⟩
  have fz := hl i H' hle p
  by_cases hlt : i < kvs.length
  · refine .inr ⟨⟨fz, hlt⟩, Pv (i + 1), fun H2 p2 => ⟨kvs.length - (i + 1), by omega, rfl, hlt, p2⟩, fun x H2 z => ?_⟩
    obtain ⟨e2, kk, vv, e3, e4⟩ := z
    subst e2 e4
    exact ⟨wipe_set _ _ _, hst i (kk, vv) _ e3 p⟩
  · have e2 : i = kvs.length := by omega
    subst e2
    exact .inl ⟨⟨fz, Nat.le_refl _⟩, fz, hd H' p⟩
/-- a test, in the block's context -/
def rBlkT (X : Cx) (scope : Scope) (c : Expr) : TT := fun σ H Q => ∀ (s' : Shared) (H' : Hp) (C : Addr) (cl : List (Str × Addr)) (fp : List Addr), RT (X.blk s' H' scope (compEnvC scope cl C X.env) fp) c σ H Q
theorem pt_blk (s' : Shared) (H' : Hp) (C : Addr) (cl : List (Str × Addr)) (fp : List Addr) : PT (X.blk s' H' scope (compEnvC scope cl C X.env) fp) c (rBlkT X scope c) := ⟨fun pins s σ H Q I h => (h s' H' C cl fp).run pins s I⟩
theorem RT.mono {X : Cx} {e : Expr} {σ : St} {H : Hp} {Q Q' : Bool → Hp → Prop} (h : RT X e σ H Q) (hq : ∀ b H', Q b H' → Q' b H') : RT X e σ H Q' := ⟨fun pins s I => thn (h.run pins s I) fun b s' ⟨H1, I1, q⟩ => ⟨H1, I1, hq _ _ q⟩⟩
theorem rBlkT_mono {Q Q' : Bool → Hp → Prop} (hq : ∀ b H', Q b H' → Q' b H') (h : rBlkT X scope c σ H Q) : rBlkT X scope c σ H Q' := fun s' H' C cl fp => (h s' H' C cl fp).mono hq
/-- the turn with one test -/
theorem fStep_one {te : TE} {D : Addr} {N : Hp → Prop} (h : ∀ (s' : Shared) (H' : Hp) (C : Addr) (cl : List (Str × Addr)) (fp : List Addr), RT (X.blk s' H' scope (compEnvC scope cl C X.env) fp) c σ H fun b H3 => ifB b (te σ H3 fun y H4 => ∃ acc, H4 D = some (.lst acc) ∧ acc.length < sizeLine ∧ N (upd H4 D (.lst (acc ++ [y])))) (N H3)) : fStep (rBlkT X scope c) te D N σ H :=
  fun s' H' C cl fp => (h s' H' C cl fp).mono fun b H' q => q.ite
theorem rBlk_mk (B : BdG X W k) (h : ∀ (s' : Shared) (H' : Hp) (C : Addr) (cl : List (Str × Addr)) (fp : List Addr), BdG (X.blk s' H' scope (compEnvC scope cl C X.env) fp) (fun _ _ _ _ => False) k → RE (X.blk s' H' scope (compEnvC scope cl C X.env) fp) elt σ H Q) : rBlk X scope elt σ H Q := fun s' H' C cl fp => h s' H' C cl fp (bdG_blk B)
theorem fStep_mk (B : BdG X W k) {te : TE} {D : Addr} {N : Hp → Prop} (h : ∀ (s' : Shared) (H' : Hp) (C : Addr) (cl : List (Str × Addr)) (fp : List Addr), BdG (X.blk s' H' scope (compEnvC scope cl C X.env) fp) (fun _ _ _ _ => False) k → RT (X.blk s' H' scope (compEnvC scope cl C X.env) fp) c σ H fun b H3 => ifB b (te σ H3 fun y H4 => ∃ acc, H4 D = some (.lst acc) ∧ acc.length < sizeLine ∧ N (upd H4 D (.lst (acc ++ [y])))) (N H3)) : fStep (rBlkT X scope c) te D N σ H := fStep_one fun s' H' C cl fp => h s' H' C cl fp (bdG_blk B)
/-- [elt for y in range(e) if c] -/
theorem re_lcNf (B : Bd X W) (hm : X.mg "range" = none) (hb : blkC X.N X.env.scope scope [(y, j)] = true) (hj : X.N[j]? = some y) (hy : scope.names.lookup y = some .local) (h : RE X e σ H fun x H1 => toI (fun n H1 => uCN (rBlkT X scope c) (rBlk X scope elt) j σ n H1 Q) x H1) (hg : Gl X "range" := by rfl)
    (hs1 : starEach [e] X.env = [(false, eval e X.env)] := by rfl) (hs : ∀ x, foldedSetIterable (.Call (.Name "range" p) [e] [] rp) X.env x = pure x := by intro _; rfl) : RE X (.ListComp elt [⟨.Name y yp, .Call (.Name "range" p) [e] [] rp, [c], 0⟩] scope pos) σ H Q := by
  refine re_of (pe_lc (own := [(y, j)]) (wi := iRng1 (tCons (RE X e) tNil)) (g := gName j) (tt := rBlkT X scope c) (te := rBlk X scope elt) B.calm B.nd (pi_range1 hg hm (pa_cons pe_self pa_nil hs1) hs1) (blkOk_by hb) (fun _ _ _ _ _ => pg_name (X := X.blk _ _ scope (compEnvC scope _ _ X.env) _) B.nd hj (.inl (blk_loc hy)) (.inr (blk_loc hy))) (fun s' H' C cl fp => pts_one (pt_blk s' H' C cl fp)) pe_blk hs) ?_
  refine ⟨fun pins s I => thn (h.run pins s I) fun v s1 ⟨z, H1, I1, r1, q⟩ => ⟨z, H1, I1, r1, ?_⟩⟩
  obtain ⟨n, e1, q2⟩ := q.run
  subst e1
  exact ⟨n, rfl, q2.run.2.1, q2.run.1, restN q2⟩
/-- [elt for y in iter if c], iter a list -/
theorem re_lcLf (B : Bd X W) (hb : blkC X.N X.env.scope scope [(y, j)] = true) (hj : X.N[j]? = some y) (hy : scope.names.lookup y = some .local) (h : RE X iter σ H fun x H1 => uCL X.K (rBlkT X scope c) (rBlk X scope elt) j σ x H1 Q)
    (hs : ∀ x, foldedSetIterable iter X.env x = pure x := by intro _; rfl) : RE X (.ListComp elt [⟨.Name y yp, iter, [c], 0⟩] scope pos) σ H Q := by
  refine re_of (pe_lc (own := [(y, j)]) (wi := iList X.K (RE X iter)) (g := gName j) (tt := rBlkT X scope c) (te := rBlk X scope elt) B.calm B.nd (pi_list pe_self) (blkOk_by hb) (fun _ _ _ _ _ => pg_name (X := X.blk _ _ scope (compEnvC scope _ _ X.env) _) B.nd hj (.inl (blk_loc hy)) (.inr (blk_loc hy))) (fun s' H' C cl fp => pts_one (pt_blk s' H' C cl fp)) pe_blk hs) ?_
  refine ⟨fun pins s I => thn (h.run pins s I) fun v s1 ⟨z, H1, I1, r1, q⟩ => ⟨z, H1, I1, r1, ?_⟩⟩
  obtain ⟨a, xs, e1, hx, q2⟩ := q.run
  subst e1
  exact ⟨a, rfl, ⟨xs, hx⟩, restL q2⟩
/-- [elt for y in d if c], d a dict in the slot i -/
theorem re_lcKf {x : Str} {xp : Pos} {v0 : V} (B : Bd X W) (hb : blkC X.N X.env.scope scope [(y, j)] = true) (hj : X.N[j]? = some y) (hy : scope.names.lookup y = some .local) (hi : X.N[i]? = some x) (hx : Vis X.env.scope x) (hv : σ[i]? = some (some v0)) (h : uCK (rBlkT X scope c) (rBlk X scope elt) j σ v0 H Q)
    (hs : ∀ z, foldedSetIterable (.Name x xp) X.env z = pure z := by intro _; rfl) (hd : (x == ("__debug__" : Str)) = false := by decide) (hcd : (x == ("__classdict__" : Str)) = false := by decide) : RE X (.ListComp elt [⟨.Name y yp, .Name x xp, [c], 0⟩] scope pos) σ H Q := by
  obtain ⟨d, kvs, e1, hD, q⟩ := h.run
  subst e1
  refine re_of (pe_lock (pe_lc (own := [(y, j)]) (wi := iKeys (tVar i)) (g := gName j) (tt := rBlkT X scope c) (te := rBlk X scope elt) B.calm B.nd (pi_keys (pe_var hi hx hd hcd)) (blkOk_by hb) (fun _ _ _ _ _ => pg_name (X := X.blk _ _ scope (compEnvC scope _ _ X.env) _) B.nd hj (.inl (blk_loc hy)) (.inr (blk_loc hy))) (fun s' H' C cl fp => pts_one (pt_blk s' H' C cl fp)) pe_blk hs)) ?_
  exact ⟨d, .dK kvs, hD, trivial, fun od => ⟨.ref d, hv, d, od, rfl, .inl ⟨kvs, upd_same, restK (q od)⟩⟩⟩
/-- z = [elt for y in d], d a dict in the slot i, z in the slot k, one line -/
theorem rs_setLcK {x : Str} {xp : Pos} {v0 : V} (B : Bd X W) (hz : X.N[k]? = some z) (hzl : X.env.scope.names.lookup z = some .local) (hk : X.env.scope.kind = .function) (hl : (py.line == pos.line) = true) (ha : (scope.names.any fun (n, k) => n == z && (k == .local || k == .cell)) = false) (hb : blkC X.N X.env.scope scope [(y, j)] = true) (hj : X.N[j]? = some y) (hy : scope.names.lookup y = some .local) (hi : X.N[i]? = some x) (hx : Vis X.env.scope x) (hv : σ[i]? = some (some v0)) (h : uCK tYes (rBlk X scope elt) j σ v0 H fun v H1 => D.nx (σ.set k (some v)) H1)
    (hs : ∀ z, foldedSetIterable (.Name x xp) X.env z = pure z := by intro _; rfl) (hd : (x == ("__debug__" : Str)) = false := by decide) (hcd : (x == ("__classdict__" : Str)) = false := by decide) : RS X (.Assign [.Name z py] (.ListComp elt [⟨.Name y yp, .Name x xp, [], 0⟩] scope pos) spos) D σ H := by
  obtain ⟨d, kvs, e1, hD, q⟩ := h.run
  subst e1
  refine rs_of (ps_lock (ps_setLc (own := [(y, j)]) (wi := iKeys (tVar i)) (g := gName j) (tt := tYes) (te := rBlk X scope elt) B.calm B.nd hz hzl (sw_true hk hzl hl ha) (pi_keys (pe_var hi hx hd hcd)) (blkOk_by hb) (fun _ _ _ _ _ => pg_name (X := X.blk _ _ scope (compEnvC scope _ _ X.env) _) B.nd hj (.inl (blk_loc hy)) (.inr (blk_loc hy))) (fun _ _ _ _ _ => pts_nil) pe_blk hs)) ?_
  exact ⟨d, .dK kvs, hD, trivial, fun od => ⟨.ref d, hv, d, od, rfl, .inl ⟨kvs, upd_same, restK (Q := fun v H1 => D.nx (σ.set k (some v)) H1) (q od)⟩⟩⟩
/-- z = [elt for y in iter], iter a list -/
theorem rs_setLcL (B : Bd X W) (hz : X.N[k]? = some z) (hzl : X.env.scope.names.lookup z = some .local) (hk : X.env.scope.kind = .function) (hl : (py.line == pos.line) = true) (ha : (scope.names.any fun (n, k) => n == z && (k == .local || k == .cell)) = false) (hb : blkC X.N X.env.scope scope [(y, j)] = true) (hj : X.N[j]? = some y) (hy : scope.names.lookup y = some .local) (h : RE X iter σ H fun x H1 => uCL X.K tYes (rBlk X scope elt) j σ x H1 fun v H1 => D.nx (σ.set k (some v)) H1)
    (hs : ∀ x, foldedSetIterable iter X.env x = pure x := by intro _; rfl) : RS X (.Assign [.Name z py] (.ListComp elt [⟨.Name y yp, iter, [], 0⟩] scope pos) spos) D σ H := by
  refine rs_of (ps_setLc (own := [(y, j)]) (wi := iList X.K (RE X iter)) (g := gName j) (tt := tYes) (te := rBlk X scope elt) B.calm B.nd hz hzl (sw_true hk hzl hl ha) (pi_list pe_self) (blkOk_by hb) (fun _ _ _ _ _ => pg_name (X := X.blk _ _ scope (compEnvC scope _ _ X.env) _) B.nd hj (.inl (blk_loc hy)) (.inr (blk_loc hy))) (fun _ _ _ _ _ => pts_nil) pe_blk hs) ?_
  refine ⟨fun pins s I => thn (h.run pins s I) fun v s1 ⟨z, H1, I1, r1, q⟩ => ⟨z, H1, I1, r1, ?_⟩⟩
  obtain ⟨a, xs, e1, hx, q2⟩ := q.run
  subst e1
  exact ⟨a, rfl, ⟨xs, hx⟩, restL (σ := σ) (H := H1) (j := j) (Q := fun v H1 => D.nx (σ.set k (some v)) H1) q2⟩
end
/-! ### records written out -/
section
variable {X : Cx} {σ : St} {H : Hp} {Q : VK} {pos : Pos} {k1 v1 k2 v2 : Expr}
structure uDisp (p : Addr) (ps : List (V × V)) (H : Hp) (Q : VK) : Prop where
  run : H p = some (.dK []) ∧ ∃ kvs : List (Key × V), ps = kvs.map (fun kv => (kV kv.1, kv.2)) ∧ kvs.length ≤ 15 ∧ Q (.ref p) (upd H p (.dK (mergeK [] kvs)))
theorem uDisp1 {p : Addr} {a : Str} {y : V} (h : H p = some (.dK [])) (q : Q (.ref p) (upd H p (.dK [(.inr a, y)]))) : uDisp p [(.str a, y)] H Q := ⟨h, [(.inr a, y)], rfl, (by show 1 ≤ 15; decide), q⟩
theorem uDisp2 {p : Addr} {a b : Str} {y z : V} (h : H p = some (.dK [])) (hab : a ≠ b) (q : Q (.ref p) (upd H p (.dK [(.inr a, y), (.inr b, z)]))) : uDisp p [(.str a, y), (.str b, z)] H Q := by
  refine ⟨h, [(.inr a, y), (.inr b, z)], rfl, (by show 2 ≤ 15; decide), ?_⟩
  have e : mergeK [] [((.inr a : Key), y), ((.inr b : Key), z)] = [((.inr a : Key), y), ((.inr b : Key), z)] := by
    show putK (putK ([] : List (Key × V)) (.inr a) y) (.inr b) z = _
    have e1 : putK ([] : List (Key × V)) (.inr a) y = [(.inr a, y)] := rfl
    rw [e1, putK_new z ((valV_neg (fun e => hab (Sum.inr.inj e))).trans rfl)]
    rfl
  rw [e]
  exact q
theorem re_disp1 (h : ∀ p, H p = none → RE X k1 σ (upd H p (.dK [])) fun x1 H1 => RE X v1 σ H1 fun y1 H2 => uDisp p [(x1, y1)] H2 Q) : RE X (.Dict [some k1] [v1] pos) σ H Q :=
  re_of (pe_disp (pps_cons pe_self pe_self pps_nil) rfl rfl (by simp) (by show 1 ≤ 15; decide)) fun p hp => ⟨fun pins s I => thn ((h p hp).run pins s I) fun v s1 ⟨z, H1, I1, r1, q⟩ => ⟨z, H1, I1, r1, ⟨fun pins s I => thn (q.run pins s I) fun v s1 ⟨z, H1, I1, r1, q⟩ => ⟨z, H1, I1, r1, q.run⟩⟩⟩⟩
theorem re_disp2 (h : ∀ p, H p = none → RE X k1 σ (upd H p (.dK [])) fun x1 H1 => RE X v1 σ H1 fun y1 H2 => RE X k2 σ H2 fun x2 H3 => RE X v2 σ H3 fun y2 H4 => uDisp p [(x1, y1), (x2, y2)] H4 Q) : RE X (.Dict [some k1, some k2] [v1, v2] pos) σ H Q :=
  re_of (pe_disp (pps_cons pe_self pe_self (pps_cons pe_self pe_self pps_nil)) rfl rfl (by simp) (by show 2 ≤ 15; decide)) fun p hp => ⟨fun pins s I => thn ((h p hp).run pins s I) fun v s1 ⟨z, H1, I1, r1, q⟩ => ⟨z, H1, I1, r1, ⟨fun pins s I => thn (q.run pins s I) fun v s1 ⟨z, H1, I1, r1, q⟩ => ⟨z, H1, I1, r1,
    ⟨fun pins s I => thn (q.run pins s I) fun v s1 ⟨z, H1, I1, r1, q⟩ => ⟨z, H1, I1, r1, ⟨fun pins s I => thn (q.run pins s I) fun v s1 ⟨z, H1, I1, r1, q⟩ => ⟨z, H1, I1, r1, q.run⟩⟩⟩⟩⟩⟩⟩⟩
end
/-! ### data compared, keys listed -/
section
variable {X : Cx} {σ : St} {H : Hp} {Q : VK} {QB : Bool → Hp → Prop} {pos p : Pos} {a b e : Expr} {W : WX} {k : Nat}
theorem re_neD (B : BdG X W k) (h : RE X a σ H fun x H1 => RE X b σ H1 fun y H2 => uOp (rNeD X.K) x y H2 Q) : RE X (.Compare a [.NotEq] [b] pos) σ H Q := re_cmp (op_neD B.room.units) h
theorem re_eqD (B : BdG X W k) (h : RE X a σ H fun x H1 => RE X b σ H1 fun y H2 => uOp (rEqD X.K) x y H2 Q) : RE X (.Compare a [.Eq] [b] pos) σ H Q := re_cmp (op_eqD B.room.units) h
theorem rt_neD (B : BdG X W k) (h : RE X a σ H fun x H1 => RE X b σ H1 fun y H2 => uOp (rNeD X.K) x y H2 (toB QB)) : RT X (.Compare a [.NotEq] [b] pos) σ H QB := rt_pc (tPC_op (op_uOp (op_neD B.room.units)) h)
theorem rt_eqD (B : BdG X W k) (h : RE X a σ H fun x H1 => RE X b σ H1 fun y H2 => uOp (rEqD X.K) x y H2 (toB QB)) : RT X (.Compare a [.Eq] [b] pos) σ H QB := rt_pc (tPC_op (op_uOp (op_eqD B.room.units)) h)
theorem uNeD_mk {K : PySem.W.Frag} {x y : V} {d e : PyData} (hx : Dp K H x d) (hy : Dp K H y e) (h1 : SeqAt.shaped d = true) (h2 : SeqAt.shaped e = true) (q : Q (.bl (!PyData.eqv d e)) H) : uOp (rNeD K) x y H Q := ⟨d, e, hx, hy, h1, h2, q⟩
theorem uEqD_mk {K : PySem.W.Frag} {x y : V} {d e : PyData} (hx : Dp K H x d) (hy : Dp K H y e) (h1 : SeqAt.shaped d = true) (h2 : SeqAt.shaped e = true) (q : Q (.bl (PyData.eqv d e)) H) : uOp (rEqD K) x y H Q := ⟨d, e, hx, hy, h1, h2, q⟩
def vListD : List V → Hp → VK → Prop := fun xs H Q => ∃ (a : Addr) (kvs : List (Key × V)), xs = [.ref a] ∧ Rd H a (.dK kvs) ∧ ∀ p, H p = none → Q (.ref p) (upd H p (.lst (kvs.map fun kv => kV kv.1)))
theorem re_listD (B : Bd X W) (hm : X.mg "list" = none) (h : RA X [e] σ H fun xs H1 => uC vListD xs H1 Q) (hg : Gl X "list" := by rfl) (he : starEach [e] X.env = (false, eval e X.env) :: starEach [] X.env := by rfl) : RE X (.Call (.Name "list" p) [e] [] pos) σ H Q :=
  re_callTy (r := vListD) (call_listD B.calm) hm boot_list' h hg (by decide) (by decide) he rfl
theorem uListD {a : Addr} {kvs : List (Key × V)} (h : H a = some (.dK kvs)) (q : ∀ p, H p = none → Q (.ref p) (upd H p (.lst (kvs.map fun kv => kV kv.1)))) : uC vListD [.ref a] H Q := ⟨⟨a, kvs, rfl, .inl h, q⟩⟩
end
end VL

/-! VLE: a law's end, over a promise that may use repr -/
namespace VL
open PySem PySem.Spec L2
open PyProof.Rows hiding St
section
variable {P : Program} {w : World} {K : PySem.W.Frag} {mg mb : Str → Option Value} {s : Shared} {H : Hp}
/-- what a call from outside finds -/
theorem env0_top (kin : K.In s.heap) (glob : s.heap.Ns mainGlobals mg) (bns : s.heap.Ns builtinsNs mb) (beq : ∀ x : Str, x ≠ "__name__" → mb x = bootBuiltins x) (nl : s.heap.NoLimit) (ng : s.gens = #[]) (hok : HOk P w H s.heap)
    (nodict : ∀ (b : Addr) (o : Obj) (es : Array DictEntry) (ep : Nat), s.heap.get? b = some o → o.data = .dict es ep → H b = none) (noK : ∀ b o, K.lookup b = some o → H b = none) : Env0 P w K mg (hidT s.heap H) callerA [] s H := by
  have ns : ∀ {b : Addr} {m : Str → Option Value}, s.heap.Ns b m → (hidT s.heap H).Ns b m := by
    rintro b m ⟨o, es, ep, h1, h2, h3⟩
    exact ⟨o, es, ep, hidT_get h1 (nodict b o es ep h1 h2), h2, h3⟩
  obtain ⟨ml, l1, l2⟩ := nl
  refine ⟨rfl, ⟨fun b o e => hidT_get (kin b o e) (noK b o e), ns glob, ⟨mb, ns bns, beq⟩, ⟨ml, ns l1, l2⟩⟩, fun b o => of_hidT, ?_, trivial, fun b hb => ?_, hok, .of_eq ng⟩
  · exact Nat.le_of_eq (hidT_size _ _)
  · cases hb
/-- the same call's outcome, for who called -/
theorem out_top {E' : Value → Shared → Prop} {r : Except Value Flow} {s' : Shared} (only : ∀ b, H b = none ∨ ∃ o xs, H b = some (.frz o (.lst xs))) (hok : HOk P w H s.heap) (c : CR (L2.CX P w) [] P w H s (fun v _ => v = .bl true) (fun _ _ _ => False) r s') : r = .ok (.ret (.bool true)) ∧ OldK s.heap s'.heap ∧ s'.os = s.os ∧ AllBare s'.gens := by
  match r, c with
  | .error e, c =>
    obtain ⟨_, _, _, _, _, _, _, _, _, _, _, _, z⟩ := c
    exact z.elim
  | .ok (.ret u), ⟨v, H', os, bare, un, hok', rv, q⟩ =>
    have q : v = .bl true := q
    subst q
    have rv : u = Value.bool true := rv
    subst rv
    refine ⟨rfl, OldK.of_keep fun b o hb => ?_, os, bare⟩
    rcases only b with z | ⟨ob, xs, z⟩
    · exact un.keep b o hb z (fun m => by cases m) (by simp)
    · have i1 := (hok b _ z).1
      have i2 := (hok' b _ (un.frzs b ob _ z)).1
      rw [hb] at i1
      cases i1
      exact i2
  | .ok .next, c => exact c.elim
  | .ok .brk, c => exact c.elim
  | .ok .cont, c => exact c.elim
theorem law_callG {k : Nat} {fa a : Addr} {fd : FuncData} {x : Str} {sp : Sp} {vs : List Value} {ns : List Int} (kin : K.In s.heap) (glob : s.heap.Ns mainGlobals mg) (bns : s.heap.Ns builtinsNs mb) (beq : ∀ x : Str, x ≠ "__name__" → mb x = bootBuiltins x) (nl : s.heap.NoLimit) (ng : s.gens = #[])
    (obj : s.heap.get? a = some { cls := .type "list", data := .seq vs.toArray }) (are : IntsAre vs ns) (few : ns.length ≤ sizeLine) (room : Room k callerA) (F : ∀ base : Heap, K.In base → base.Ns mainGlobals mg → FnG P w K mg base k fa fd [x] sp) (bd : ∀ (s : Shared) (u : Value), BindsTo s fd ⟨[u], []⟩ [(x, u)])
    (says : ∀ H : Hp, SqL K H a (ns.map V.int) → sp [.ref a] H (fun v _ => v = .bl true) fun _ _ _ => False) :
    codeAny (model P w) callerA (.call (.ref fa) ⟨[.ref a], []⟩) (fun r s' => r = .ok (.ret (.bool true)) ∧ OldK s.heap s'.heap ∧ s'.os = s.os ∧ AllBare s'.gens) s := by
  have vv := vals_ints are
  have run : ∀ H : Hp, (∀ b, H b = none ∨ ∃ o xs, H b = some (.frz o (.lst xs))) → SqL K H a (ns.map V.int) → HOk P w H s.heap → (∀ (b : Addr) (o : Obj) (es : Array DictEntry) (ep : Nat), s.heap.get? b = some o → o.data = .dict es ep → H b = none) → (∀ b o, K.lookup b = some o → H b = none) →
      codeAny (model P w) callerA (.call (.ref fa) ⟨[.ref a], []⟩) (fun r s' => r = .ok (.ret (.bool true)) ∧ OldK s.heap s'.heap ∧ s'.os = s.os ∧ AllBare s'.gens) s := fun H only hS hok nd nk => by
    have e0 := env0_top (mg := mg) (mb := mb) kin glob bns beq nl ng hok nd nk
    exact codeAny_mono ((F _ e0.mod.kin e0.mod.glob).run callerA [] s H ⟨[.ref a], []⟩ [.ref a] [.ref a] _ _ rfl room e0 (bd s (.ref a)) (.cons rfl .nil) (says H hS)) fun r s' c => out_top (E' := fun _ _ => False) only hok c
  by_cases hk : ∃ o, K.lookup a = some o
  · obtain ⟨o, hk⟩ := hk
    have e := kin a o hk
    rw [obj] at e
    cases e
    exact run (fun _ => none) (fun _ => .inl rfl) (.inr ⟨_, vs.toArray, _, hk, rfl, rfl, rfl, by rw [List.size_toArray, are.length]; exact few, by simpa using vv⟩) (fun b u z => by cases z) (fun _ _ _ _ _ _ => rfl) fun _ _ _ => rfl
  · have ha : ∀ {b : Addr} {u : HO}, (if b = a then some (HO.frz { cls := .type "list", data := .seq vs.toArray } (.lst (ns.map V.int))) else none) = some u → b = a ∧ u = .frz { cls := .type "list", data := .seq vs.toArray } (.lst (ns.map V.int)) := fun {b u} z => by
      split at z
      · next e => exact ⟨e, (Option.some.inj z).symm⟩
      · cases z
    refine run (fun b => if b = a then some (.frz { cls := .type "list", data := .seq vs.toArray } (.lst (ns.map V.int))) else none) (fun b => ?_) (.inl (.inr ⟨_, if_pos rfl⟩)) (fun b u z => ?_) (fun b o es ep e d => ?_) (fun b o e => ?_)
    · by_cases e : b = a
      · exact .inr ⟨_, _, if_pos e⟩
      · exact .inl (if_neg e)
    · obtain ⟨rfl, rfl⟩ := ha z
      exact ⟨obj, by rw [List.length_map]; exact few, vs, _, vv, obj⟩
    · refine if_neg fun z => ?_
      subst z
      rw [obj] at e
      cases e
      have d : Data.seq vs.toArray _ = Data.dict es ep := d
      cases d
    · refine if_neg fun z => ?_
      subst z
      exact hk ⟨o, e⟩
end
/-- the goal behind the head, for such a promise -/
theorem walk_ofG {l : PySem.W.OpenLaw} {n k : Nat} {q : Program} {loose : List Str} {XP : (Str → Option Value) → Heap → Prop} {YP : World → Heap → Prop} {d : DefRec} {x : Str}
    (hn : l.most = some n) (few : n ≤ sizeLine) (nodef : d.params.defaults = []) (room : Room k callerA)
    (F : ∀ (w : World) (mg : Str → Option Value) (fa : Addr) (h : Heap), YP w h → h.Ns mainGlobals mg → mg d.name = some (.ref fa) → ∃ (K : PySem.W.Frag) (fd : FuncData) (sp : Sp), K.In h ∧ (∀ (s : Shared) (u : Value), BindsTo s fd ⟨[u], []⟩ [(x, u)]) ∧
      (∀ (H : Hp) (a : Addr) (ns : List Int), ns.length ≤ n → (∀ z ∈ ns, Builtin.Int.intBits z ≤ 1048576) → SqL K H a (ns.map V.int) → sp [.ref a] H (fun v _ => v = .bl true) fun _ _ _ => False) ∧ ∀ base : Heap, K.In base → base.Ns mainGlobals mg → FnG l.prog w K mg base k fa fd [x] sp) :
    PySem.W.WalkO q loose XP YP l.row.toRowW d [] (fun f vs => PySem.call f vs) := by
  refine Att.attach_callB hn nodef fun w s₀ s₁ mg mb fa o pm cd doc a vs ns G Y ho hd hcd hmg hobj hints hlen hbits hg => ?_
  obtain ⟨K, fd, sp, KX, hb, hsp, hF⟩ := F w mg fa _ Y G.T.g hmg
  exact law_callG KX G.T.g G.T.b G.T.builtins G.T.nolimit hg hobj hints (Nat.le_trans hlen few) room hF hb fun H hS => hsp H a ns hlen hbits hS
theorem bits_abs {z : Int} {n : Nat} (h : Builtin.Int.intBits z ≤ n) : z.natAbs < 2 ^ n := by
  unfold Builtin.Int.intBits at h
  by_cases hz : z = 0
  · subst hz
    exact Nat.two_pow_pos n
  · rw [if_neg (by simpa using hz)] at h
    exact (Nat.log2_lt (by omega)).mp (by omega)
/-! ### the hook: the top's facts, and sys.modules looked at -/
abbrev AlS : Type := He.AlD × Bool
def obsS (n : Nat) (fa : List He.Fa) (fn : List He.DefD) (g : Addr → Option Obj) : AlS := (He.obsD fa fn (He.frG g (sysModules :: He.asD g n)), ((He.frG g (sysModules :: He.asD g n)).lookup sysModules).isSome)
def hookS (n : Nat) (fa : List He.Fa) (fn : List He.DefD) : PySem.W.Hook where
  α := AlS
  obs := fun s => obsS n fa fn s.heap.get?
  val := fun _ => (He.valD fn, true)
  says := fun _ h => ∃ K : PySem.W.Frag, K.In h ∧ He.SaysD fa fn K ∧ ∃ o, K.lookup sysModules = some o
  of := fun _ _ e => ⟨_, He.frG_in, congrArg Prod.fst e, Option.isSome_iff_exists.mp (congrArg Prod.snd e)⟩
  keeps := fun _ _ _ ⟨K, hK, c⟩ k => ⟨K, PySem.W.Frag.In.keeps hK k, c⟩
theorem obsS_eq {n : Nat} {fa : List He.Fa} {fn : List He.DefD} {g : Addr → Option Obj} {s : Shared} (h : ∀ a, g a = s.heap.get? a) : obsS n fa fn g = (hookS n fa fn).obs s := by
  have e : g = s.heap.get? := funext h
  rw [e] <;> rfl
end VL

/-! M72: calls as texts, in plain Lean: what write_value writes (wv), what read_value reads (rd), that the one is the other's way back. Texts are lists of code points. -/
namespace C72
open PySem PySem.NumText PySem.W.KIN
abbrev L := List Nat
def nullL : L := [110, 117, 108, 108]
def trueL : L := [116, 114, 117, 101]
def falseL : L := [102, 97, 108, 115, 101]
def esc (c : Nat) : L := if c = 92 then [92, 92] else if c = 34 then [92, 34] else if c = 10 then [92, 110] else [c]
def wt (s : L) : L := 34 :: (s.flatMap esc ++ [34])
def intL (i : Int) : L := (Str.ofString (toString i)).cps.toList
/-- with a comma between -/
def sepJ : List L → L
  | [] => []
  | [x] => x
  | x :: y :: r => x ++ 44 :: sepJ (y :: r)
mutual
def wv : PyData → L
  | .none => nullL
  | .bool b => if b then trueL else falseL
  | .int i => intL i
  | .str x => wt x.cps.toList
  | .list xs => 91 :: (sepJ (wvA xs) ++ [93])
  | .dict kvs => 123 :: (sepJ (wvK kvs) ++ [125])
  | .tuple _ => []
def wvA : List PyData → List L
  | [] => []
  | x :: r => wv x :: wvA r
def wvK : List (PyData × PyData) → List L
  | [] => []
  | (k, v) :: r => ((match k with | .str x => wt x.cps.toList | _ => []) ++ 58 :: wv v) :: wvK r
end
/-! ### reading -/
def skip (f l : L) : Option L := if f.isPrefixOf l then some (l.drop f.length) else none
def isDig (c : Nat) : Bool := 48 ≤ c && c ≤ 57
/-- the signs behind the first quote, to the last one -/
def rdChars : L → Option (L × L)
  | [] => none
  | c :: r => if c = 34 then some ([], r) else if c = 10 then none else if c = 92 then (match r with
      | [] => none
      | d :: r2 => if d = 110 then (rdChars r2).map fun p => (10 :: p.1, p.2) else if d = 34 ∨ d = 92 then (rdChars r2).map fun p => (d :: p.1, p.2) else none)
    else (rdChars r).map fun p => (c :: p.1, p.2)
def rdText (l : L) : Option (L × L) := match l with
  | [] => none
  | c :: r => if c = 34 then rdChars r else none
def mostN : Nat := 10 ^ 30
/-- the digits ds behind a sign (or none) -/
def numOf (neg : Bool) (ds : L) : Option Int :=
  if ds = [] ∨ 31 < ds.length ∨ (ds.head? = some 48 ∧ (neg = true ∨ ds ≠ [48])) then none
  else if mostN < digitsVal ds then none else some (if neg then -((digitsVal ds : Nat) : Int) else ((digitsVal ds : Nat) : Int))
def rdNum (l : L) : Option (Int × L) :=
  let neg := l.head? == some 45
  let l1 := if neg then l.tail else l
  (numOf neg (l1.takeWhile isDig)).map fun i => (i, l1.dropWhile isDig)
def rdL (f : L → Option (PyData × L)) : Nat → L → Option (List PyData × L)
  | 0, _ => none
  | m + 1, l => match f l with
    | none => none
    | some (d, l1) => match skip [44] l1 with
      | some l2 => (rdL f m l2).map fun p => (d :: p.1, p.2)
      | none => (skip [93] l1).map fun r => ([d], r)
def rdF1 (f : L → Option (PyData × L)) (seen : List L) (l : L) : Option (L × PyData × L) := match rdText l with
  | none => none
  | some (k, l1) => if k ∈ seen then none else match skip [58] l1 with
    | none => none
    | some l2 => (f l2).map fun p => (k, p.1, p.2)
def rdF (f : L → Option (PyData × L)) : Nat → List L → L → Option (List (L × PyData) × L)
  | 0, _, _ => none
  | m + 1, seen, l => match rdF1 f seen l with
    | none => none
    | some (k, d, l1) => match skip [44] l1 with
      | some l2 => (rdF f m (seen ++ [k]) l2).map fun p => ((k, d) :: p.1, p.2)
      | none => (skip [125] l1).map fun r => ([(k, d)], r)
def tOf (l : L) : Str := ⟨l.toArray⟩
def toKv (p : L × PyData) : PyData × PyData := (.str (tOf p.1), p.2)
/-- n: how many levels may still be opened, one more -/
def rd : Nat → L → Option (PyData × L)
  | 0, _ => none
  | n + 1, l => match skip nullL l with
    | some r => some (.none, r)
    | none => match skip trueL l with
      | some r => some (.bool true, r)
      | none => match skip falseL l with
        | some r => some (.bool false, r)
        | none => match skip [91] l with
          | some r => (match skip [93] r with
            | some r2 => some (.list [], r2)
            | none => (rdL (rd n) (r.length + 1) r).map fun p => (.list p.1, p.2))
          | none => match skip [123] l with
            | some r => (match skip [125] r with
              | some r2 => some (.dict [], r2)
              | none => (rdF (rd n) (r.length + 1) [] r).map fun p => (.dict (p.1.map toKv), p.2))
            | none => if l.head? = some 34 then (rdText l).map fun p => (.str (tOf p.1), p.2) else (rdNum l).map fun p => (.int p.1, p.2)

/-! ### digits -/
def dg (n : Nat) : L := (Nat.toDigits 10 n).map Char.toNat
theorem dg_val (n : Nat) : digitsVal (dg n) = n := val_back n
theorem intL_nat (n : Nat) : intL (n : Int) = dg n := signs_num n
theorem digitChar_range : ∀ d : Nat, d < 10 → 48 ≤ (Nat.digitChar d).toNat ∧ (Nat.digitChar d).toNat ≤ 57 := by decide
theorem toDigitsCore_ok : ∀ (fuel n : Nat) (acc : List Char), (∀ c ∈ acc, 48 ≤ c.toNat ∧ c.toNat ≤ 57) → ∀ c ∈ Nat.toDigitsCore 10 fuel n acc, 48 ≤ c.toNat ∧ c.toNat ≤ 57
  | 0, n, acc, h => by simpa [Nat.toDigitsCore] using h
  | fuel + 1, n, acc, h => by
    have hd := digitChar_range (n % 10) (Nat.mod_lt _ (by decide))
    have h2 : ∀ c ∈ Nat.digitChar (n % 10) :: acc, 48 ≤ c.toNat ∧ c.toNat ≤ 57 := fun c hc => by
      rcases List.mem_cons.mp hc with e | e
      · rw [e]; exact hd
      · exact h c e
    unfold Nat.toDigitsCore
    dsimp only
    split
    · exact h2
    · exact toDigitsCore_ok fuel (n / 10) _ h2
theorem dg_all (n : Nat) : AllDigits (dg n) := fun c hc => by
  obtain ⟨x, hx, rfl⟩ := List.mem_map.mp hc
  exact toDigitsCore_ok (n + 1) n [] (fun c h => by cases h) x hx
theorem dg_ne (n : Nat) : dg n ≠ [] := by
  intro e
  have h : ∀ (fuel m : Nat) (acc : List Char), (acc ≠ [] ∨ 0 < fuel) → Nat.toDigitsCore 10 fuel m acc ≠ [] := by
    intro fuel
    induction fuel with
    | zero => intro m acc h; rcases h with h | h; simpa [Nat.toDigitsCore] using h; exact absurd h (Nat.lt_irrefl _)
    | succ k ih =>
      intro m acc _
      unfold Nat.toDigitsCore
      dsimp only
      split
      · exact List.cons_ne_nil _ _
      · exact ih _ _ (.inl (List.cons_ne_nil _ _))
  exact h (n + 1) n [] (.inr (Nat.succ_pos n)) (List.map_eq_nil_iff.mp e)
theorem ofNat_toNat_map : ∀ cs : L, AllDigits cs → (cs.map Char.ofNat).map Char.toNat = cs
  | [], _ => rfl
  | c :: r, h => by
    have e : (Char.ofNat c).toNat = c := by
      have hc := h.head
      have hall : ∀ d : Nat, d < 58 → (Char.ofNat d).toNat = d := by decide
      exact hall c (by omega)
    rw [List.map_cons, List.map_cons, e, ofNat_toNat_map r h.tail]
/-- the digits of a number that was read are the ones that were read -/
theorem dg_of {ds : L} (h : AllDigits ds) (hne : ds ≠ []) (h0 : ds.head? = some 48 → ds = [48]) : dg (digitsVal ds) = ds := by
  unfold dg
  have hl : ds.length = (ds.length - 1) + 1 := by
    cases ds with
    | nil => exact absurd rfl hne
    | cons c r => simp
  rw [toDigits_digitsVal (ds.length - 1) ds hl h ?_, ofNat_toNat_map ds h]
  cases ds with
  | nil => exact absurd rfl hne
  | cons c r =>
    by_cases hc : c = 48
    · left
      have e := h0 (by rw [hc]; rfl)
      rw [e]; rfl
    · right
      have := h.head
      exact ⟨c, r, rfl, by omega⟩
theorem dg_zero {n : Nat} (h : (dg n).head? = some 48) : dg n = [48] := by
  have e1 := toDigits_all (dg n) (dg_all n)
  rw [dg_val] at e1
  cases hd : (dg n) with
  | nil => exact absurd hd (dg_ne n)
  | cons c r =>
    rw [hd] at h
    have hc : c = 48 := Option.some.inj h
    subst hc
    rw [hd] at e1
    have e2 : List.dropWhile (fun x => x == 48) (48 :: r) = List.dropWhile (fun x => x == 48) r := by simp [List.dropWhile]
    rw [e2] at e1
    have hlen : (Nat.toDigits 10 n).length = r.length + 1 := by
      have := congrArg List.length hd
      simpa [dg] using this
    have hle := len_dropWhile (fun x => x == 48) r
    cases hr : List.dropWhile (fun x => x == 48) r with
    | nil =>
      rw [hr] at e1
      have : (Nat.toDigits 10 n).length = 1 := by rw [e1]; rfl
      have hz : r = [] := List.eq_nil_of_length_eq_zero (by omega)
      rw [hz]
    | cons a b =>
      rw [hr] at e1 hle
      have := congrArg List.length e1
      simp only [List.length_map] at this
      rw [hlen] at this
      omega
theorem foldl_pow : ∀ (cs : L) (a : Nat), a * 10 ^ cs.length ≤ cs.foldl (fun acc c => acc * 10 + (c - 48)) a
  | [], a => by simp
  | c :: r, a => by
    have h := foldl_pow r (a * 10 + (c - 48))
    rw [List.foldl_cons, List.length_cons]
    refine Nat.le_trans ?_ h
    rw [Nat.pow_succ, Nat.mul_comm (10 ^ r.length) 10, ← Nat.mul_assoc]
    exact Nat.mul_le_mul_right _ (by omega)
theorem dg_len {n : Nat} (h : n ≤ mostN) : (dg n).length ≤ 31 := by
  cases hd : dg n with
  | nil => simp
  | cons c r =>
    by_cases hc : c = 48
    · have e := dg_zero (n := n) (by rw [hd, hc]; rfl)
      rw [← hd, e]; decide
    · have hr := (dg_all n) c (by rw [hd]; exact List.mem_cons_self)
      have h1 : 10 ^ r.length ≤ n := by
        have e := dg_val n
        rw [hd] at e
        rw [← e]
        have := foldl_pow r (c - 48)
        have h2 : digitsVal (c :: r) = r.foldl (fun acc c => acc * 10 + (c - 48)) (c - 48) := by
          show r.foldl (fun acc c => acc * 10 + (c - 48)) (0 * 10 + (c - 48)) = _
          rw [Nat.zero_mul, Nat.zero_add]
        rw [h2]
        refine Nat.le_trans ?_ this
        have : 1 ≤ c - 48 := by omega
        exact Nat.le_trans (by rw [Nat.one_mul]; exact Nat.le_refl _) (Nat.mul_le_mul_right _ this)
      have h2 : 10 ^ r.length ≤ 10 ^ 30 := Nat.le_trans h1 h
      have h3 : r.length ≤ 30 := (Nat.pow_le_pow_iff_right (by decide)).mp h2
      simp only [List.length_cons]
      omega
theorem intL_neg {n : Nat} (h : 0 < n) : intL (-(n : Int)) = 45 :: dg n := by
  obtain ⟨m, rfl⟩ : ∃ m, n = m + 1 := ⟨n - 1, by omega⟩
  unfold intL
  rw [PyProof.Rows.signs_ofString]
  show ("-" ++ Nat.repr (m + 1)).toList.map Char.toNat = _
  rw [String.toList_append, List.map_append, Nat.toList_repr]
  rfl

/-! ### the way back -/
theorem skip_some {f l r : L} (h : skip f l = some r) : l = f ++ r := by
  unfold skip at h
  split at h
  · rename_i hp
    rw [← Option.some.inj h]
    exact (List.prefix_iff_eq_append.mp (List.isPrefixOf_iff_prefix.mp hp)).symm
  · cases h
theorem skip_app (f r : L) : skip f (f ++ r) = some r := by
  unfold skip
  rw [if_pos (List.isPrefixOf_iff_prefix.mpr (List.prefix_append f r))]
  simp
theorem skip_one (c : Nat) (r : L) : skip [c] (c :: r) = some r := skip_app [c] r
theorem skip_no {a c : Nat} {f l : L} (h : a ≠ c) : skip (a :: f) (c :: l) = none := by
  unfold skip
  rw [if_neg]
  intro hp
  have := List.isPrefixOf_iff_prefix.mp hp
  obtain ⟨t, e⟩ := this
  rw [List.cons_append] at e
  injection e with e1 _
  exact h e1
theorem skip_nil {a : Nat} {f : L} : skip (a :: f) [] = none := by
  unfold skip
  rfl
/-- a rest ahead of which a number ends -/
def NoDig (l : L) : Prop := ∀ c, l.head? = some c → isDig c = false
theorem noDig_nil : NoDig [] := fun _ h => by cases h
theorem noDig_cons {c : Nat} {l : L} (h : isDig c = false) : NoDig (c :: l) := fun d e => by
  have : c = d := Option.some.inj e
  rw [← this]; exact h
theorem rdChars_last (r : L) : rdChars (34 :: r) = some ([], r) := by
  rw [rdChars.eq_def]; rfl
theorem rdChars_nl (r : L) : rdChars (10 :: r) = none := by
  rw [rdChars.eq_def]; rfl
theorem rdChars_n (r : L) : rdChars (92 :: 110 :: r) = (rdChars r).map fun p => (10 :: p.1, p.2) := by
  rw [rdChars.eq_def]; rfl
theorem rdChars_q {d : Nat} (h : d = 34 ∨ d = 92) (r : L) : rdChars (92 :: d :: r) = (rdChars r).map fun p => (d :: p.1, p.2) := by
  rw [rdChars.eq_def]
  have h1 : d ≠ 110 := by omega
  simp [h1, h]
theorem rdChars_bad {d : Nat} (h1 : d ≠ 110) (h2 : ¬ (d = 34 ∨ d = 92)) (r : L) : rdChars (92 :: d :: r) = none := by
  rw [rdChars.eq_def]
  simp only [show ¬ (92 : Nat) = 34 by decide, show ¬ (92 : Nat) = 10 by decide, if_false, if_true, if_neg h1, if_neg h2]
theorem rdChars_end : rdChars [92] = none := by
  rw [rdChars.eq_def]; rfl
theorem rdChars_plain {c : Nat} (h1 : c ≠ 92) (h2 : c ≠ 34) (h3 : c ≠ 10) (r : L) : rdChars (c :: r) = (rdChars r).map fun p => (c :: p.1, p.2) := by
  rw [rdChars.eq_def]
  simp only [if_neg h1, if_neg h2, if_neg h3]
theorem rdChars_esc : ∀ (k rest : L), rdChars (k.flatMap esc ++ 34 :: rest) = some (k, rest)
  | [], rest => rdChars_last rest
  | c :: k, rest => by
    have ih := rdChars_esc k rest
    rw [List.flatMap_cons, List.append_assoc]
    by_cases h1 : c = 92
    · subst h1
      show rdChars (92 :: 92 :: (k.flatMap esc ++ 34 :: rest)) = _
      rw [rdChars_q (.inr rfl), ih]; rfl
    · by_cases h2 : c = 34
      · subst h2
        show rdChars (92 :: 34 :: (k.flatMap esc ++ 34 :: rest)) = _
        rw [rdChars_q (.inl rfl), ih]; rfl
      · by_cases h3 : c = 10
        · subst h3
          show rdChars (92 :: 110 :: (k.flatMap esc ++ 34 :: rest)) = _
          rw [rdChars_n, ih]; rfl
        · have e : esc c = [c] := by unfold esc; rw [if_neg h1, if_neg h2, if_neg h3]
          rw [e]
          show rdChars (c :: (k.flatMap esc ++ 34 :: rest)) = _
          rw [rdChars_plain h1 h2 h3, ih]; rfl
theorem rdText_wt (k rest : L) : rdText (wt k ++ rest) = some (k, rest) := by
  unfold wt rdText
  rw [List.cons_append, List.append_assoc]
  show (if (34 : Nat) = 34 then rdChars (k.flatMap esc ++ 34 :: rest) else none) = _
  rw [if_pos rfl, rdChars_esc]
theorem takeWhile_dig {ds rest : L} (h : AllDigits ds) (hr : NoDig rest) : (ds ++ rest).takeWhile isDig = ds ∧ (ds ++ rest).dropWhile isDig = rest := by
  induction ds with
  | nil =>
    cases rest with
    | nil => exact ⟨rfl, rfl⟩
    | cons c r =>
      have e := hr c rfl
      simp [List.takeWhile, List.dropWhile, e]
  | cons c r ih =>
    have hc : isDig c = true := by
      have := h.head
      unfold isDig
      simp [this]
    obtain ⟨a, b⟩ := ih h.tail
    simp [List.takeWhile, List.dropWhile, hc, a, b]
theorem rdNum_intL {i : Int} (h : i.natAbs ≤ mostN) {rest : L} (hr : NoDig rest) : rdNum (intL i ++ rest) = some (i, rest) := by
  rcases Int.lt_or_le i 0 with hi | hi
  · obtain ⟨n, rfl, hn⟩ : ∃ n : Nat, i = -(n : Int) ∧ 0 < n := ⟨i.natAbs, by omega, by omega⟩
    have hle : n ≤ mostN := by omega
    rw [intL_neg hn]
    obtain ⟨a, b⟩ := takeWhile_dig (dg_all n) hr
    have h48 : ¬ (dg n).head? = some 48 := fun e => by
      have e1 := dg_val n
      rw [dg_zero e] at e1
      have : digitsVal [48] = 0 := rfl
      omega
    have hl := dg_len hle
    unfold rdNum
    simp only [List.cons_append, List.head?_cons, beq_self_eq_true, if_true, List.tail_cons, a, b]
    unfold numOf
    rw [if_neg (by intro z; rcases z with z | z | z; exact dg_ne n z; omega; exact h48 z.1), dg_val, if_neg (by omega)]
    rfl
  · obtain ⟨n, rfl⟩ := Int.eq_ofNat_of_zero_le hi
    have hle : n ≤ mostN := by omega
    rw [intL_nat]
    obtain ⟨a, b⟩ := takeWhile_dig (dg_all n) hr
    have hl := dg_len hle
    have hneg : ((dg n ++ rest).head? == some 45) = false := by
      cases hd : dg n with
      | nil => exact absurd hd (dg_ne n)
      | cons c r =>
        have := (dg_all n) c (by rw [hd]; exact List.mem_cons_self)
        have : c ≠ 45 := by omega
        simp [this]
    unfold rdNum
    simp only [hneg, Bool.false_eq_true, if_false, a, b]
    unfold numOf
    rw [if_neg (by
      intro z; rcases z with z | z | z
      · exact dg_ne n z
      · omega
      · rcases z.2 with q | q
        · cases q
        · exact q (dg_zero z.1)), dg_val, if_neg (by omega)]
    rfl
/-- data that are written and read: n as in rd -/
inductive OkV : Nat → PyData → Prop
  | none (n : Nat) : OkV (n + 1) .none
  | bool (n : Nat) (b : Bool) : OkV (n + 1) (.bool b)
  | int (n : Nat) (i : Int) : i.natAbs ≤ mostN → OkV (n + 1) (.int i)
  | str (n : Nat) (x : Str) : OkV (n + 1) (.str x)
  | list (n : Nat) (xs : List PyData) : (∀ x ∈ xs, OkV n x) → OkV (n + 1) (.list xs)
  | dict (n : Nat) (ks : List (L × PyData)) : (∀ p ∈ ks, OkV n p.2) → (ks.map (·.1)).Nodup → OkV (n + 1) (.dict (ks.map toKv))
theorem OkV.succ {n : Nat} {d : PyData} (h : OkV n d) : OkV (n + 1) d := by
  induction h with
  | none n => exact .none _
  | bool n b => exact .bool _ b
  | int n i h => exact .int _ i h
  | str n x => exact .str _ x
  | list n xs _ ih => exact .list _ xs ih
  | dict n ks _ nd ih => exact .dict _ ks ih nd
theorem OkV.mono {n m : Nat} {d : PyData} (h : OkV n d) (hm : n ≤ m) : OkV m d := by
  induction hm with
  | refl => exact h
  | step _ ih => exact ih.succ
theorem wvK_keys (ks : List (L × PyData)) : wvK (ks.map toKv) = ks.map fun p => wt p.1 ++ 58 :: wv p.2 := by
  induction ks with
  | nil => simp [wvK]
  | cons p r ih =>
    simp only [List.map_cons, toKv, wvK, ih]
    rfl
theorem wvA_map (xs : List PyData) : wvA xs = xs.map wv := by
  induction xs with
  | nil => simp [wvA]
  | cons x r ih => simp [wvA, ih]
/-- how a value's text begins -/
theorem wv_head {n : Nat} {d : PyData} (h : OkV n d) : ∃ c t, wv d = c :: t ∧ c ≠ 93 ∧ c ≠ 125 ∧ c ≠ 44 := by
  cases h with
  | none n => exact ⟨110, _, by simp only [wv]; rfl, by decide, by decide, by decide⟩
  | bool n b =>
    cases b with
    | true => exact ⟨116, _, by simp only [wv]; rfl, by decide, by decide, by decide⟩
    | false => exact ⟨102, _, by simp only [wv]; rfl, by decide, by decide, by decide⟩
  | int n i h =>
    simp only [wv]
    rcases Int.lt_or_le i 0 with hi | hi
    · obtain ⟨n, rfl, hn⟩ : ∃ n : Nat, i = -(n : Int) ∧ 0 < n := ⟨i.natAbs, by omega, by omega⟩
      exact ⟨45, _, intL_neg hn, by decide, by decide, by decide⟩
    · obtain ⟨n, rfl⟩ := Int.eq_ofNat_of_zero_le hi
      rw [intL_nat]
      cases hd : dg n with
      | nil => exact absurd hd (dg_ne n)
      | cons c r =>
        have := (dg_all n) c (by rw [hd]; exact List.mem_cons_self)
        exact ⟨c, r, rfl, by omega, by omega, by omega⟩
  | str n x => exact ⟨34, _, by simp only [wv]; rfl, by decide, by decide, by decide⟩
  | list n xs h => exact ⟨91, _, by simp only [wv]; rfl, by decide, by decide, by decide⟩
  | dict n ks h nd => exact ⟨123, _, by simp only [wv]; rfl, by decide, by decide, by decide⟩
theorem sepJ_len : ∀ l : List L, l.length ≤ (sepJ l).length + 1
  | [] => by simp [sepJ]
  | [x] => by simp [sepJ]
  | x :: y :: r => by
    have := sepJ_len (y :: r)
    simp only [sepJ, List.length_cons, List.length_append] at *
    omega
theorem rdL_sep {n : Nat} {f : L → Option (PyData × L)} (hf : ∀ d, OkV n d → ∀ rest, NoDig rest → f (wv d ++ rest) = some (d, rest)) (rest : L) : ∀ (xs : List PyData) (m : Nat), xs ≠ [] → xs.length ≤ m → (∀ x ∈ xs, OkV n x) → rdL f m (sepJ (xs.map wv) ++ 93 :: rest) = some (xs, rest)
  | [], _, h, _, _ => absurd rfl h
  | [x], 0, _, h, _ => by simp at h
  | [x], m + 1, _, _, h => by
    have e := hf x (h x List.mem_cons_self) (93 :: rest) (noDig_cons rfl)
    simp only [List.map_cons, List.map_nil, sepJ, rdL, e]
    rw [skip_no (by decide), skip_one]
    rfl
  | x :: y :: r, 0, _, h, _ => by simp at h
  | x :: y :: r, m + 1, _, hm, h => by
    have e := hf x (h x List.mem_cons_self) (44 :: (sepJ ((y :: r).map wv) ++ 93 :: rest)) (noDig_cons rfl)
    have ih := rdL_sep hf rest (y :: r) m (List.cons_ne_nil _ _) (by simp only [List.length_cons] at *; omega) fun z hz => h z (List.mem_cons_of_mem _ hz)
    simp only [List.map_cons, sepJ, rdL, List.append_assoc, List.cons_append]
    simp only [List.map_cons] at e ih
    rw [e]
    simp only [skip_one, ih]
    rfl
theorem rdF1_ok {n : Nat} {f : L → Option (PyData × L)} (hf : ∀ d, OkV n d → ∀ rest, NoDig rest → f (wv d ++ rest) = some (d, rest)) {seen : List L} {k : L} {d : PyData} (hk : k ∉ seen) (hd : OkV n d) {rest : L} (hr : NoDig rest) : rdF1 f seen ((wt k ++ 58 :: wv d) ++ rest) = some (k, d, rest) := by
  unfold rdF1
  rw [List.append_assoc, rdText_wt, List.cons_append]
  simp only [if_neg hk, skip_one, hf d hd rest hr]
  rfl
theorem rdF_sep {n : Nat} {f : L → Option (PyData × L)} (hf : ∀ d, OkV n d → ∀ rest, NoDig rest → f (wv d ++ rest) = some (d, rest)) (rest : L) : ∀ (ks : List (L × PyData)) (m : Nat) (seen : List L), ks ≠ [] → ks.length ≤ m → (∀ p ∈ ks, OkV n p.2) → (ks.map (·.1)).Nodup → (∀ p ∈ ks, p.1 ∉ seen) →
    rdF f m seen (sepJ (ks.map fun p => wt p.1 ++ 58 :: wv p.2) ++ 125 :: rest) = some (ks, rest)
  | [], _, _, h, _, _, _, _ => absurd rfl h
  | [p], 0, _, _, h, _, _, _ => by simp at h
  | [p], m + 1, seen, _, _, h, _, hs => by
    have e := rdF1_ok hf (hs p List.mem_cons_self) (h p List.mem_cons_self) (noDig_cons (c := 125) (l := rest) rfl)
    simp only [List.map_cons, List.map_nil, sepJ, rdF, e]
    rw [skip_no (by decide), skip_one]
    rfl
  | p :: q :: r, 0, _, _, h, _, _, _ => by simp at h
  | p :: q :: r, m + 1, seen, _, hm, h, nd, hs => by
    have e := rdF1_ok hf (hs p List.mem_cons_self) (h p List.mem_cons_self) (noDig_cons (c := 44) (l := sepJ ((q :: r).map fun p => wt p.1 ++ 58 :: wv p.2) ++ 125 :: rest) rfl)
    have nd' := List.nodup_cons.mp nd
    have ih := rdF_sep hf rest (q :: r) m (seen ++ [p.1]) (List.cons_ne_nil _ _) (by simp only [List.length_cons] at *; omega) (fun z hz => h z (List.mem_cons_of_mem _ hz)) nd'.2 fun z hz hm => by
      rcases List.mem_append.mp hm with q | q
      · exact hs z (List.mem_cons_of_mem _ hz) q
      · have : z.1 = p.1 := by simpa using q
        exact nd'.1 (List.mem_map.mpr ⟨z, hz, this⟩)
    simp only [List.map_cons, sepJ, rdF, List.append_assoc, List.cons_append]
    simp only [List.map_cons, List.append_assoc, List.cons_append] at e ih
    rw [e]
    simp only [skip_one, ih]
    rfl
/-- what is written is read back -/
theorem rd_wv : ∀ (n : Nat) (d : PyData), OkV n d → ∀ rest, NoDig rest → rd n (wv d ++ rest) = some (d, rest) := by
  intro n
  induction n with
  | zero => intro d h; cases h
  | succ n ih =>
    intro d h rest hr
    cases h with
    | none => simp only [wv, rd]; rw [skip_app]
    | bool n b =>
      cases b with
      | true =>
        have e1 : wv (.bool true) = trueL := by simp [wv]
        rw [e1]
        simp only [rd]
        rw [show skip nullL (trueL ++ rest) = none from skip_no (by decide), skip_app]
      | false =>
        have e1 : wv (.bool false) = falseL := by simp [wv]
        rw [e1]
        simp only [rd]
        rw [show skip nullL (falseL ++ rest) = none from skip_no (by decide), show skip trueL (falseL ++ rest) = none from skip_no (by decide), skip_app]
    | int n i hi =>
      obtain ⟨c, t, e, h1, h2, h3⟩ := wv_head (OkV.int n i hi)
      simp only [wv] at e ⊢
      have hc : c = 45 ∨ (48 ≤ c ∧ c ≤ 57) := by
        rcases Int.lt_or_le i 0 with hi | hi
        · obtain ⟨n, rfl, hn⟩ : ∃ n : Nat, i = -(n : Int) ∧ 0 < n := ⟨i.natAbs, by omega, by omega⟩
          rw [intL_neg hn] at e
          injection e with e1 _
          exact .inl e1.symm
        · obtain ⟨n, rfl⟩ := Int.eq_ofNat_of_zero_le hi
          rw [intL_nat] at e
          exact .inr (dg_all n c (by rw [e]; exact List.mem_cons_self))
      have e2 : intL i ++ rest = c :: (t ++ rest) := by rw [e]; rfl
      have hh : (intL i ++ rest).head? = some c := by rw [e2]; rfl
      simp only [rd]
      rw [e2, show skip nullL (c :: (t ++ rest)) = none from skip_no (by omega), show skip trueL (c :: (t ++ rest)) = none from skip_no (by omega), show skip falseL (c :: (t ++ rest)) = none from skip_no (by omega), skip_no (by omega), skip_no (by omega), ← e2, hh, rdNum_intL hi hr]
      simp only []
      rw [if_neg (by intro z; have := Option.some.inj z; omega)]
      rfl
    | str n x =>
      have e1 : wv (.str x) = wt x.cps.toList := by simp [wv]
      rw [e1]
      have e2 : wt x.cps.toList ++ rest = 34 :: (x.cps.toList.flatMap esc ++ [34] ++ rest) := by simp [wt]
      have hh : (wt x.cps.toList ++ rest).head? = some 34 := by rw [e2]; rfl
      simp only [rd]
      rw [e2, show skip nullL (34 :: (x.cps.toList.flatMap esc ++ [34] ++ rest)) = none from skip_no (by decide), show skip trueL (34 :: (x.cps.toList.flatMap esc ++ [34] ++ rest)) = none from skip_no (by decide), show skip falseL (34 :: (x.cps.toList.flatMap esc ++ [34] ++ rest)) = none from skip_no (by decide), skip_no (by decide), skip_no (by decide), ← e2, hh, rdText_wt]
      simp only [if_true]
      rfl
    | list n xs hx =>
      have e1 : wv (.list xs) ++ rest = 91 :: (sepJ (xs.map wv) ++ 93 :: rest) := by simp [wv, wvA_map]
      rw [e1]
      simp only [rd]
      rw [show skip nullL (91 :: (sepJ (xs.map wv) ++ 93 :: rest)) = none from skip_no (by decide), show skip trueL (91 :: (sepJ (xs.map wv) ++ 93 :: rest)) = none from skip_no (by decide), show skip falseL (91 :: (sepJ (xs.map wv) ++ 93 :: rest)) = none from skip_no (by decide), skip_one]
      cases xs with
      | nil =>
        simp only [List.map_nil, sepJ, List.nil_append]
        rw [skip_one]
      | cons x r =>
        have hs : skip [93] (sepJ ((x :: r).map wv) ++ 93 :: rest) = none := by
          obtain ⟨c, t, e, h1, _⟩ := wv_head (hx x List.mem_cons_self)
          cases r with
          | nil => simp only [List.map_cons, List.map_nil, sepJ, e, List.cons_append]; exact skip_no (Ne.symm h1)
          | cons y r => simp only [List.map_cons, sepJ, e, List.cons_append]; exact skip_no (Ne.symm h1)
        have hl := sepJ_len ((x :: r).map wv)
        simp only [hs]
        rw [rdL_sep ih rest (x :: r) _ (List.cons_ne_nil _ _) (by rw [List.length_map] at hl; rw [List.length_append]; omega) hx]
        rfl
    | dict n ks hx nd =>
      have e1 : wv (.dict (ks.map toKv)) ++ rest = 123 :: (sepJ (ks.map fun p => wt p.1 ++ 58 :: wv p.2) ++ 125 :: rest) := by simp [wv, wvK_keys]
      rw [e1]
      simp only [rd]
      rw [show skip nullL (123 :: (sepJ (ks.map fun p => wt p.1 ++ 58 :: wv p.2) ++ 125 :: rest)) = none from skip_no (by decide), show skip trueL (123 :: (sepJ (ks.map fun p => wt p.1 ++ 58 :: wv p.2) ++ 125 :: rest)) = none from skip_no (by decide), show skip falseL (123 :: (sepJ (ks.map fun p => wt p.1 ++ 58 :: wv p.2) ++ 125 :: rest)) = none from skip_no (by decide), skip_no (by decide), skip_one]
      cases ks with
      | nil =>
        simp only [List.map_nil, sepJ, List.nil_append]
        rw [skip_one]
      | cons p r =>
        have hs : skip [125] (sepJ ((p :: r).map fun p => wt p.1 ++ 58 :: wv p.2) ++ 125 :: rest) = none := by
          cases r with
          | nil => simp only [List.map_cons, List.map_nil, sepJ, wt, List.cons_append]; exact skip_no (by decide)
          | cons y r => simp only [List.map_cons, sepJ, wt, List.cons_append]; exact skip_no (by decide)
        have hl := sepJ_len ((p :: r).map fun p => wt p.1 ++ 58 :: wv p.2)
        simp only [hs]
        rw [rdF_sep ih rest (p :: r) _ [] (List.cons_ne_nil _ _) (by rw [List.length_map] at hl; rw [List.length_append]; omega) hx nd (fun _ _ h => by cases h)]
        rfl
end C72

/-! M73: what is read was written so -/
namespace C72
open PySem PySem.NumText PySem.W.KIN
theorem map_some {α β : Type} {o : Option α} {f : α → β} {y : β} (h : o.map f = some y) : ∃ x, o = some x ∧ f x = y := by
  cases o with
  | none => cases h
  | some x => exact ⟨x, rfl, Option.some.inj h⟩
theorem rdChars_inv : ∀ (m : Nat) (l k r : L), l.length ≤ m → rdChars l = some (k, r) → l = k.flatMap esc ++ 34 :: r
  | 0, [], k, r, _, h => by rw [rdChars.eq_def] at h; cases h
  | m + 1, [], k, r, _, h => by rw [rdChars.eq_def] at h; cases h
  | 0, c :: t, k, r, hl, h => by simp at hl
  | m + 1, c :: t, k, r, hl, h => by
    have hl : t.length ≤ m := by simpa using hl
    by_cases h34 : c = 34
    · subst h34
      rw [rdChars_last] at h
      cases h
      rfl
    by_cases h10 : c = 10
    · subst h10
      rw [rdChars_nl] at h
      cases h
    by_cases h92 : c = 92
    · subst h92
      cases t with
      | nil => rw [rdChars_end] at h; cases h
      | cons d t2 =>
        have hl2 : t2.length ≤ m := by simp at hl; omega
        by_cases hn : d = 110
        · subst hn
          rw [rdChars_n] at h
          obtain ⟨⟨k2, r2⟩, e, e2⟩ := map_some h
          cases e2
          rw [rdChars_inv m t2 k2 r2 hl2 e]
          rfl
        by_cases hq : d = 34 ∨ d = 92
        · rw [rdChars_q hq] at h
          obtain ⟨⟨k2, r2⟩, e, e2⟩ := map_some h
          cases e2
          rw [rdChars_inv m t2 k2 r2 hl2 e]
          rcases hq with q | q <;> (subst q; rfl)
        · rw [rdChars_bad hn hq] at h
          cases h
    · rw [rdChars_plain h92 h34 h10] at h
      obtain ⟨⟨k2, r2⟩, e, e2⟩ := map_some h
      cases e2
      rw [rdChars_inv m t k2 r2 hl e]
      show c :: (k2.flatMap esc ++ 34 :: r2) = (c :: k2).flatMap esc ++ 34 :: r2
      rw [List.flatMap_cons]
      unfold esc
      rw [if_neg h92, if_neg h34, if_neg h10]
      rfl
theorem rdText_inv {l k r : L} (h : rdText l = some (k, r)) : l = wt k ++ r := by
  cases l with
  | nil => cases h
  | cons c t =>
    have h : (if c = 34 then rdChars t else none) = some (k, r) := h
    split at h
    · next e =>
      subst e
      rw [rdChars_inv _ t k r (Nat.le_refl _) h]
      simp [wt]
    · cases h
theorem takeDrop (l : L) : l = l.takeWhile isDig ++ l.dropWhile isDig := (List.takeWhile_append_dropWhile).symm
theorem takeAll (l : L) : AllDigits (l.takeWhile isDig) := by
  induction l with
  | nil => intro c h; cases h
  | cons a r ih =>
    intro c h
    rw [List.takeWhile_cons] at h
    split at h
    · next e =>
      rcases List.mem_cons.mp h with z | z
      · subst z
        simpa [isDig] using e
      · exact ih c z
    · cases h
theorem numOf_inv {neg : Bool} {ds : L} {i : Int} (had : AllDigits ds) (h : numOf neg ds = some i) : intL i = (if neg then 45 :: ds else ds) ∧ i.natAbs ≤ mostN := by
  unfold numOf at h
  split at h
  · cases h
  next hc =>
  split at h
  · cases h
  next hm =>
  have hne : ds ≠ [] := fun z => hc (.inl z)
  have h0 : ds.head? = some 48 → ds = [48] := fun z => by
    by_cases q : ds = [48]
    · exact q
    · exact absurd (.inr (.inr ⟨z, .inr q⟩)) hc
  have hdg := dg_of had hne h0
  have hi := Option.some.inj h
  cases neg with
  | true =>
    have hi : -((digitsVal ds : Nat) : Int) = i := hi
    have hpos : 0 < digitsVal ds := by
      rcases Nat.eq_zero_or_pos (digitsVal ds) with z | z
      · rw [z] at hdg
        have : ds.head? = some 48 := by rw [← hdg]; rfl
        exact absurd (.inr (.inr ⟨this, .inl rfl⟩)) hc
      · exact z
    rw [← hi, intL_neg hpos, hdg]
    exact ⟨rfl, by omega⟩
  | false =>
    have hi : ((digitsVal ds : Nat) : Int) = i := hi
    rw [← hi, intL_nat, hdg]
    exact ⟨rfl, by omega⟩
theorem rdNum_inv {l r : L} {i : Int} (h : rdNum l = some (i, r)) : l = intL i ++ r ∧ i.natAbs ≤ mostN := by
  unfold rdNum at h
  obtain ⟨j, e, e2⟩ := map_some h
  cases e2
  obtain ⟨h1, h2⟩ := numOf_inv (takeAll _) e
  refine ⟨?_, h2⟩
  rw [h1]
  by_cases hn : (l.head? == some 45) = true
  · rw [if_pos hn, if_pos hn]
    cases l with
    | nil => cases hn
    | cons c t =>
      have : c = 45 := by simpa using hn
      subst this
      show 45 :: t = 45 :: (t.takeWhile isDig ++ t.dropWhile isDig)
      rw [← takeDrop]
  · rw [if_neg hn, if_neg hn]
    exact takeDrop l
theorem rdL_inv {n : Nat} {f : L → Option (PyData × L)} (hf : ∀ l d r, f l = some (d, r) → l = wv d ++ r ∧ OkV n d) : ∀ (m : Nat) (l : L) (ds : List PyData) (r : L), rdL f m l = some (ds, r) → l = sepJ (ds.map wv) ++ 93 :: r ∧ (∀ d ∈ ds, OkV n d) ∧ ds ≠ []
  | 0, l, ds, r, h => by cases h
  | m + 1, l, ds, r, h => by
    simp only [rdL] at h
    split at h
    · cases h
    next d l1 e =>
    obtain ⟨h1, h2⟩ := hf l d l1 e
    split at h
    · next l2 e2 =>
      obtain ⟨⟨ds2, r2⟩, e3, e4⟩ := map_some h
      cases e4
      obtain ⟨a, b, c⟩ := rdL_inv hf m l2 ds2 r2 e3
      refine ⟨?_, fun x hx => ?_, List.cons_ne_nil _ _⟩
      · rw [h1, skip_some e2, a]
        cases ds2 with
        | nil => exact absurd rfl c
        | cons x y => simp [sepJ]
      · rcases List.mem_cons.mp hx with z | z
        · rw [z]; exact h2
        · exact b x z
    · next e2 =>
      obtain ⟨r2, e3, e4⟩ := map_some h
      cases e4
      refine ⟨?_, fun x hx => ?_, List.cons_ne_nil _ _⟩
      · rw [h1, skip_some e3]; rfl
      · rw [List.mem_singleton.mp hx]; exact h2
theorem rdF1_inv {n : Nat} {f : L → Option (PyData × L)} (hf : ∀ l d r, f l = some (d, r) → l = wv d ++ r ∧ OkV n d) {seen : List L} {l r k : L} {d : PyData} (h : rdF1 f seen l = some (k, d, r)) : l = (wt k ++ 58 :: wv d) ++ r ∧ OkV n d ∧ k ∉ seen := by
  unfold rdF1 at h
  split at h
  · cases h
  next k2 l1 e =>
  split at h
  · cases h
  next hk =>
  split at h
  · cases h
  next l2 e2 =>
  obtain ⟨⟨d2, r2⟩, e3, e4⟩ := map_some h
  cases e4
  obtain ⟨a, b⟩ := hf l2 d2 r2 e3
  refine ⟨?_, b, hk⟩
  rw [rdText_inv e, skip_some e2, a]
  simp
theorem rdF_inv {n : Nat} {f : L → Option (PyData × L)} (hf : ∀ l d r, f l = some (d, r) → l = wv d ++ r ∧ OkV n d) : ∀ (m : Nat) (seen : List L) (l : L) (ks : List (L × PyData)) (r : L), rdF f m seen l = some (ks, r) →
    l = sepJ (ks.map fun p => wt p.1 ++ 58 :: wv p.2) ++ 125 :: r ∧ (∀ p ∈ ks, OkV n p.2) ∧ (ks.map (·.1)).Nodup ∧ (∀ p ∈ ks, p.1 ∉ seen) ∧ ks ≠ []
  | 0, _, l, ds, r, h => by cases h
  | m + 1, seen, l, ks, r, h => by
    simp only [rdF] at h
    split at h
    · cases h
    next k d l1 e =>
    obtain ⟨h1, h2, h3⟩ := rdF1_inv hf e
    split at h
    · next l2 e2 =>
      obtain ⟨⟨ks2, r2⟩, e3, e4⟩ := map_some h
      cases e4
      obtain ⟨a, b, c, dd, ee⟩ := rdF_inv hf m (seen ++ [k]) l2 ks2 r2 e3
      refine ⟨?_, fun x hx => ?_, ?_, fun x hx => ?_, List.cons_ne_nil _ _⟩
      · rw [h1, skip_some e2, a]
        cases ks2 with
        | nil => exact absurd rfl ee
        | cons x y => simp [sepJ]
      · rcases List.mem_cons.mp hx with z | z
        · rw [z]; exact h2
        · exact b x z
      · rw [List.map_cons, List.nodup_cons]
        refine ⟨fun hm => ?_, c⟩
        obtain ⟨p, hp, e⟩ := List.mem_map.mp hm
        exact dd p hp (List.mem_append_right _ (by rw [e]; exact List.mem_singleton.mpr rfl))
      · rcases List.mem_cons.mp hx with z | z
        · rw [z]; exact h3
        · exact fun q => dd x z (List.mem_append_left _ q)
    · next e2 =>
      obtain ⟨r2, e3, e4⟩ := map_some h
      cases e4
      refine ⟨?_, fun x hx => ?_, ?_, fun x hx => ?_, List.cons_ne_nil _ _⟩
      · rw [h1, skip_some e3]; simp [sepJ]
      · rw [List.mem_singleton.mp hx]; exact h2
      · exact List.nodup_cons.mpr ⟨fun h => (by cases h), List.nodup_nil⟩
      · rw [List.mem_singleton.mp hx]; exact h3
theorem rd_inv : ∀ (n : Nat) (l : L) (d : PyData) (r : L), rd n l = some (d, r) → l = wv d ++ r ∧ OkV n d
  | 0, l, d, r, h => by cases h
  | n + 1, l, d, r, h => by
    simp only [rd] at h
    split at h
    · next r2 e => cases h; exact ⟨by rw [skip_some e]; simp [wv], .none n⟩
    split at h
    · next r2 e => cases h; exact ⟨by rw [skip_some e]; simp [wv], .bool n true⟩
    split at h
    · next r2 e => cases h; exact ⟨by rw [skip_some e]; simp [wv], .bool n false⟩
    split at h
    · next r2 e =>
      split at h
      · next r3 e3 =>
        cases h
        exact ⟨by rw [skip_some e, skip_some e3]; simp [wv, wvA, sepJ], .list n [] fun x h => by cases h⟩
      · obtain ⟨⟨ds, r4⟩, e4, e5⟩ := map_some h
        cases e5
        obtain ⟨a, b, c⟩ := rdL_inv (rd_inv n) _ _ _ _ e4
        exact ⟨by rw [skip_some e, a]; simp [wv, wvA_map], .list n ds b⟩
    split at h
    · next r2 e =>
      split at h
      · next r3 e3 =>
        cases h
        exact ⟨by rw [skip_some e, skip_some e3]; simp [wv, wvK, sepJ], .dict n [] (fun x h => by cases h) List.nodup_nil⟩
      · obtain ⟨⟨ds, r4⟩, e4, e5⟩ := map_some h
        cases e5
        obtain ⟨a, b, c, _, _⟩ := rdF_inv (rd_inv n) _ _ _ _ _ e4
        exact ⟨by rw [skip_some e, a]; simp [wv, wvK_keys], .dict n ds b c⟩
    split at h
    · obtain ⟨⟨k, r4⟩, e4, e5⟩ := map_some h
      cases e5
      refine ⟨?_, .str n _⟩
      rw [rdText_inv e4]
      simp [wv, tOf]
    · obtain ⟨⟨k, r4⟩, e4, e5⟩ := map_some h
      cases e5
      obtain ⟨a, b⟩ := rdNum_inv e4
      refine ⟨?_, .int n _ b⟩
      rw [a]
      simp [wv]
/-- reading goes on -/
theorem rd_len {n : Nat} {l : L} {d : PyData} {r : L} (h : rd n l = some (d, r)) : r.length < l.length := by
  obtain ⟨a, b⟩ := rd_inv n l d r h
  obtain ⟨c, t, e, _⟩ := wv_head b
  rw [a, e]
  simp only [List.cons_append, List.length_cons, List.length_append]
  omega
theorem rdF1_len {n : Nat} {seen : List L} {l r k : L} {d : PyData} (h : rdF1 (rd n) seen l = some (k, d, r)) : r.length < l.length := by
  obtain ⟨a, b, _⟩ := rdF1_inv (rd_inv n) h
  rw [a]
  simp only [List.cons_append, List.length_cons, List.length_append, wt]
  omega
end C72

/-! ML: the data that the laws of calls draw -/
namespace C72
open PySem PySem.NumText PySem.W.KIN
/-- nested at most k deep, at most four within each other, of short texts -/
inductive Sm : Nat → PyData → Prop
  | none (k : Nat) : Sm k .none
  | bool (k : Nat) (b : Bool) : Sm k (.bool b)
  | int (k : Nat) (i : Int) : i.natAbs ≤ mostN → Sm k (.int i)
  | str (k : Nat) (x : Str) : x.length ≤ 4 → (∀ c ∈ x.cps.toList, c < 128) → Sm k (.str x)
  | list (k : Nat) (xs : List PyData) : xs.length ≤ 4 → (∀ x ∈ xs, Sm k x) → Sm (k + 1) (.list xs)
  | dict (k : Nat) (ks : List (L × PyData)) : ks.length ≤ 4 → (∀ p ∈ ks, p.1.length ≤ 4 ∧ ∀ c ∈ p.1, c < 128) → (ks.map (·.1)).Nodup → (∀ p ∈ ks, Sm k p.2) → Sm (k + 1) (.dict (ks.map toKv))
theorem Sm.ok {k : Nat} {d : PyData} (h : Sm k d) : OkV (k + 1) d := by
  induction h with
  | none k => exact .none _
  | bool k b => exact .bool _ b
  | int k i h => exact .int _ i h
  | str k x h _ => exact .str _ x
  | list k xs _ _ ih => exact .list _ xs ih
  | dict k ks _ _ nd _ ih => exact .dict _ ks ih nd
def Tk : Nat → Nat
  | 0 => 40
  | k + 1 => 4 * (Tk k + 14)
theorem Tk_ge : ∀ k, 40 ≤ Tk k
  | 0 => Nat.le_refl _
  | k + 1 => by have := Tk_ge k; show 40 ≤ 4 * (Tk k + 14); omega
theorem sum_le {l : List Nat} {B : Nat} (h : ∀ x ∈ l, x ≤ B) : l.sum ≤ l.length * B := by
  induction l with
  | nil => simp
  | cons a r ih =>
    have h1 := h a List.mem_cons_self
    have h2 := ih fun x hx => h x (List.mem_cons_of_mem _ hx)
    rw [List.sum_cons, List.length_cons, Nat.succ_mul]
    omega
theorem sepJ_le : ∀ ls : List L, (sepJ ls).length ≤ (ls.map List.length).sum + ls.length
  | [] => by simp [sepJ]
  | [x] => by simp [sepJ]
  | x :: y :: r => by
    have := sepJ_le (y :: r)
    simp only [sepJ, List.length_append, List.length_cons, List.map_cons, List.sum_cons] at *
    omega
theorem esc_len (c : Nat) : (esc c).length ≤ 2 := by unfold esc; split; decide; split; decide; split <;> simp
theorem wt_le (l : L) : (wt l).length ≤ 2 * l.length + 2 := by
  have h : (l.flatMap esc).length ≤ 2 * l.length := by
    induction l with
    | nil => simp
    | cons a r ih => rw [List.flatMap_cons, List.length_append, List.length_cons]; have := esc_len a; omega
  simp only [wt, List.length_cons, List.length_append, List.length_nil]
  omega
theorem intL_len {i : Int} (h : i.natAbs ≤ mostN) : (intL i).length ≤ 32 := by
  rcases Int.lt_or_le i 0 with hi | hi
  · obtain ⟨n, rfl, hn⟩ : ∃ n : Nat, i = -(n : Int) ∧ 0 < n := ⟨i.natAbs, by omega, by omega⟩
    rw [intL_neg hn, List.length_cons]
    have := dg_len (n := n) (by omega)
    omega
  · obtain ⟨n, rfl⟩ := Int.eq_ofNat_of_zero_le hi
    rw [intL_nat]
    have := dg_len (n := n) (by omega)
    omega
theorem Sm.len {k : Nat} {d : PyData} (h : Sm k d) : (wv d).length ≤ Tk k := by
  induction h with
  | none k => have := Tk_ge k; have e : (wv .none).length = 4 := by simp [wv, nullL]
              omega
  | bool k b => have := Tk_ge k; have e : (wv (.bool b)).length ≤ 5 := by cases b <;> simp [wv, trueL, falseL]
                omega
  | int k i h =>
    have := Tk_ge k
    have e : wv (.int i) = intL i := by simp [wv]
    have := intL_len h
    rw [e]; omega
  | str k x h _ =>
    have := Tk_ge k
    have e : wv (.str x) = wt x.cps.toList := by simp [wv]
    have := wt_le x.cps.toList
    have hx : x.length = x.cps.toList.length := by show x.cps.size = _; simp
    rw [e]; omega
  | list k xs hl hx ih =>
    have e : wv (.list xs) = 91 :: (sepJ (xs.map wv) ++ [93]) := by simp [wv, wvA_map]
    have h1 := sepJ_le (xs.map wv)
    have h2 := sum_le (l := (xs.map wv).map List.length) (B := Tk k) fun z hz => by
      obtain ⟨y, hy, rfl⟩ := List.mem_map.mp hz
      obtain ⟨x, hx2, rfl⟩ := List.mem_map.mp hy
      exact ih x hx2
    rw [List.length_map, List.length_map] at h2
    rw [List.length_map] at h1
    have h3 : xs.length * Tk k ≤ 4 * Tk k := Nat.mul_le_mul_right _ hl
    rw [e]
    show _ ≤ 4 * (Tk k + 14)
    simp only [List.length_cons, List.length_append, List.length_nil]
    omega
  | dict k ks hl hk nd hx ih =>
    have e : wv (.dict (ks.map toKv)) = 123 :: (sepJ (ks.map fun p => wt p.1 ++ 58 :: wv p.2) ++ [125]) := by simp [wv, wvK_keys]
    have h1 := sepJ_le (ks.map fun p => wt p.1 ++ 58 :: wv p.2)
    have h2 := sum_le (l := (ks.map fun p => wt p.1 ++ 58 :: wv p.2).map List.length) (B := Tk k + 11) fun z hz => by
      obtain ⟨y, hy, rfl⟩ := List.mem_map.mp hz
      obtain ⟨p, hp, rfl⟩ := List.mem_map.mp hy
      have a := ih p hp
      have b := wt_le p.1
      have c := (hk p hp).1
      simp only [List.length_append, List.length_cons]
      omega
    rw [List.length_map, List.length_map] at h2
    rw [List.length_map] at h1
    have h3 : ks.length * (Tk k + 11) ≤ 4 * (Tk k + 11) := Nat.mul_le_mul_right _ hl
    rw [e]
    show _ ≤ 4 * (Tk k + 14)
    simp only [List.length_cons, List.length_append, List.length_nil]
    omega
def Bk : Nat → Nat
  | 0 => 4
  | k + 1 => 4 * (Bk k + 6)
theorem Bk_ge : ∀ k, 4 ≤ Bk k
  | 0 => Nat.le_refl _
  | k + 1 => by have := Bk_ge k; show 4 ≤ 4 * (Bk k + 6); omega
theorem bulkAll_le {B : Nat} : ∀ xs : List PyData, (∀ x ∈ xs, x.bulk ≤ B) → PyData.bulkAll xs ≤ xs.length * (B + 1)
  | [], _ => by simp [PyData.bulkAll]
  | x :: r, h => by
    have h1 := h x List.mem_cons_self
    have h2 := bulkAll_le r fun y hy => h y (List.mem_cons_of_mem _ hy)
    simp only [PyData.bulkAll, List.length_cons, Nat.succ_mul]
    omega
theorem bulkKv_le {B : Nat} : ∀ ks : List (L × PyData), (∀ p ∈ ks, p.1.length ≤ 4 ∧ p.2.bulk ≤ B) → PyData.bulkKv (ks.map toKv) ≤ ks.length * (B + 6)
  | [], _ => by simp [PyData.bulkKv]
  | (k, d) :: r, h => by
    have h1 := h (k, d) List.mem_cons_self
    have h2 := bulkKv_le r fun y hy => h y (List.mem_cons_of_mem _ hy)
    have e : (PyData.str (tOf k)).bulk = k.length := by simp [PyData.bulk, tOf]
    simp only [List.map_cons, toKv, PyData.bulkKv, List.length_cons, Nat.succ_mul, e]
    simp only at h1
    omega
theorem leavesAll {B : Nat} : ∀ xs : List PyData, (∀ x ∈ xs, x.leavesShort B = true) → PyData.leavesShortAll B xs = true
  | [], _ => by simp [PyData.leavesShortAll]
  | x :: r, h => by
    simp only [PyData.leavesShortAll, Bool.and_eq_true]
    exact ⟨h x List.mem_cons_self, leavesAll r fun y hy => h y (List.mem_cons_of_mem _ hy)⟩
theorem leavesStr {B : Nat} {x : Str} (h : ∀ c ∈ x.cps.toList, c < 128) : (PyData.str x).leavesShort B = true := by
  simp only [PyData.leavesShort, List.all_eq_true, decide_eq_true_eq]
  intro c hc
  have := h c hc
  omega
theorem leavesKv {B : Nat} : ∀ ks : List (L × PyData), (∀ p ∈ ks, (∀ c ∈ p.1, c < 128) ∧ p.2.leavesShort B = true) → PyData.leavesShortKv B (ks.map toKv) = true
  | [], _ => by simp [PyData.leavesShortKv]
  | (k, d) :: r, h => by
    have h1 := h (k, d) List.mem_cons_self
    simp only [List.map_cons, toKv, PyData.leavesShortKv, Bool.and_eq_true]
    exact ⟨⟨leavesStr (by simpa [tOf] using h1.1), h1.2⟩, leavesKv r fun y hy => h y (List.mem_cons_of_mem _ hy)⟩
theorem shown_int {i : Int} (h : i.natAbs ≤ mostN) : (PyData.shown (.int i)).length ≤ 40 := by
  have e : (PyData.shown (.int i)).length = (intL i).length := by
    simp only [PyData.shown, intL]
    show (Str.ofString (toString i)).cps.size = _
    simp
  rw [e]
  have := intL_len h
  omega
theorem Sm.small {k : Nat} {d : PyData} (h : Sm k d) : d.leavesShort 40 = true ∧ d.bulk ≤ Bk k := by
  induction h with
  | none k => exact ⟨by simp [PyData.leavesShort], by simp [PyData.bulk]⟩
  | bool k b => exact ⟨by simp [PyData.leavesShort], by simp [PyData.bulk]⟩
  | int k i h => exact ⟨by simp only [PyData.leavesShort, decide_eq_true_eq]; exact shown_int h, by simp [PyData.bulk]⟩
  | str k x h hc => exact ⟨leavesStr hc, by have := Bk_ge k; simp only [PyData.bulk]; exact Nat.le_trans h this⟩
  | list k xs hl hx ih =>
    refine ⟨by simp only [PyData.leavesShort]; exact leavesAll xs fun x hx => (ih x hx).1, ?_⟩
    simp only [PyData.bulk]
    have h1 := bulkAll_le (B := Bk k) xs fun x hx => (ih x hx).2
    have h3 : xs.length * (Bk k + 1) ≤ 4 * (Bk k + 1) := Nat.mul_le_mul_right _ hl
    show _ ≤ 4 * (Bk k + 6)
    omega
  | dict k ks hl hk nd hx ih =>
    refine ⟨by simp only [PyData.leavesShort]; exact leavesKv ks fun p hp => ⟨(hk p hp).2, (ih p hp).1⟩, ?_⟩
    simp only [PyData.bulk]
    have h1 := bulkKv_le (B := Bk k) ks fun p hp => ⟨(hk p hp).1, (ih p hp).2⟩
    have h3 : ks.length * (Bk k + 6) ≤ 4 * (Bk k + 6) := Nat.mul_le_mul_right _ hl
    show _ ≤ 4 * (Bk k + 6)
    omega
theorem Sm.shown {k : Nat} {d : PyData} (h : Sm k d) : d.shown.length ≤ 42 * Bk k + 40 := by
  have h1 := PyData.shown_le_bulk 40 (by decide) d h.small.1
  have h2 : 42 * d.bulk ≤ 42 * Bk k := Nat.mul_le_mul_left _ h.small.2
  omega
theorem showAll : ∀ xs : List PyData, (∀ x ∈ xs, PyData.showable x = true) → PyData.showableAll xs = true
  | [], _ => by simp [PyData.showableAll]
  | x :: r, h => by
    simp only [PyData.showableAll, Bool.and_eq_true]
    exact ⟨h x List.mem_cons_self, showAll r fun y hy => h y (List.mem_cons_of_mem _ hy)⟩
theorem showKv : ∀ ks : List (L × PyData), (∀ p ∈ ks, PyData.showable p.2 = true) → PyData.showableKv (ks.map toKv) = true
  | [], _ => by simp [PyData.showableKv]
  | (k, d) :: r, h => by
    simp only [List.map_cons, toKv, PyData.showableKv, Bool.and_eq_true]
    exact ⟨⟨by simp [PyData.showable], h (k, d) List.mem_cons_self⟩, showKv r fun y hy => h y (List.mem_cons_of_mem _ hy)⟩
theorem log_small {i : Int} (h : i.natAbs ≤ mostN) : i.natAbs.log2 < 1920 := by
  rcases Nat.eq_zero_or_pos i.natAbs with z | z
  · rw [z]; decide
  · exact (Nat.log2_lt (by omega)).mpr (Nat.lt_of_le_of_lt h (by decide +kernel))
theorem Sm.showable {k : Nat} {d : PyData} (h : Sm k d) : PyData.showable d = true := by
  induction h with
  | none k => simp [PyData.showable]
  | bool k b => simp [PyData.showable]
  | int k i h => simp only [PyData.showable, decide_eq_true_eq]; exact log_small h
  | str k x h hc => simp [PyData.showable]
  | list k xs hl hx ih => simp only [PyData.showable]; exact showAll xs ih
  | dict k ks hl hk nd hx ih => simp only [PyData.showable]; exact showKv ks ih
theorem depthAll_le {B : Nat} : ∀ xs : List PyData, (∀ x ∈ xs, x.depth ≤ B) → PyData.depthAll xs ≤ B
  | [], _ => by simp [PyData.depthAll]
  | x :: r, h => by
    simp only [PyData.depthAll]
    exact Nat.max_le.mpr ⟨h x List.mem_cons_self, depthAll_le r fun y hy => h y (List.mem_cons_of_mem _ hy)⟩
theorem depthKv_le {B : Nat} : ∀ ks : List (L × PyData), (∀ p ∈ ks, p.2.depth ≤ B) → PyData.depthKv (ks.map toKv) ≤ B
  | [], _ => by simp [PyData.depthKv]
  | (k, d) :: r, h => by
    have h1 := h (k, d) List.mem_cons_self
    have h2 := depthKv_le r fun y hy => h y (List.mem_cons_of_mem _ hy)
    simp only [List.map_cons, toKv, PyData.depthKv, PyData.depth]
    simp only at h1
    omega
theorem Sm.depth {k : Nat} {d : PyData} (h : Sm k d) : d.depth ≤ k := by
  induction h with
  | none k => simp [PyData.depth]
  | bool k b => simp [PyData.depth]
  | int k i h => simp [PyData.depth]
  | str k x h hc => simp [PyData.depth]
  | list k xs hl hx ih =>
    simp only [PyData.depth]
    have := depthAll_le xs ih
    omega
  | dict k ks hl hk nd hx ih =>
    simp only [PyData.depth]
    have := depthKv_le ks ih
    omega
theorem intL_no10 (i : Int) : 10 ∉ intL i := by
  intro h
  rcases Int.lt_or_le i 0 with hi | hi
  · obtain ⟨n, rfl, hn⟩ : ∃ n : Nat, i = -(n : Int) ∧ 0 < n := ⟨i.natAbs, by omega, by omega⟩
    rw [intL_neg hn] at h
    rcases List.mem_cons.mp h with e | e
    · cases e
    · have := dg_all n 10 e
      omega
  · obtain ⟨n, rfl⟩ := Int.eq_ofNat_of_zero_le hi
    rw [intL_nat] at h
    have := dg_all n 10 h
    omega
theorem wt_no10 (l : L) : 10 ∉ wt l := by
  intro h
  rcases List.mem_cons.mp h with e | e
  · cases e
  rcases List.mem_append.mp e with e | e
  · obtain ⟨c, _, hc⟩ := List.mem_flatMap.mp e
    unfold esc at hc
    split at hc
    · simp at hc
    split at hc
    · simp at hc
    split at hc
    · simp at hc
    next h10 => exact h10 (List.mem_singleton.mp hc).symm
  · simp at e
theorem sepJ_no10 : ∀ ls : List L, (∀ l ∈ ls, 10 ∉ l) → 10 ∉ sepJ ls
  | [], _ => by simp [sepJ]
  | [x], h => by simpa [sepJ] using h x List.mem_cons_self
  | x :: y :: r, h => by
    have ih := sepJ_no10 (y :: r) fun l hl => h l (List.mem_cons_of_mem _ hl)
    have h1 := h x List.mem_cons_self
    simp only [sepJ, List.mem_append, List.mem_cons, not_or]
    exact ⟨h1, by decide, ih⟩
theorem wv_no10 {n : Nat} {d : PyData} (h : OkV n d) : 10 ∉ wv d := by
  induction h with
  | none n => simp [wv, nullL]
  | bool n b => cases b <;> simp [wv, trueL, falseL]
  | int n i _ => simpa [wv] using intL_no10 i
  | str n x => simpa [wv] using wt_no10 x.cps.toList
  | list n xs _ ih =>
    have := sepJ_no10 (xs.map wv) fun l hl => by
      obtain ⟨x, hx, rfl⟩ := List.mem_map.mp hl
      exact ih x hx
    simp [wv, wvA_map, this]
  | dict n ks _ nd ih =>
    have := sepJ_no10 (ks.map fun p => wt p.1 ++ 58 :: wv p.2) fun l hl => by
      obtain ⟨p, hp, rfl⟩ := List.mem_map.mp hl
      have a := ih p hp
      have b := wt_no10 p.1
      simp [a, b]
    simp [wv, wvK_keys, this]
/-- the length of a call's text -/
theorem call_len {nm : Str} {ds : List PyData} (hn : nm.length ≤ 1000) (hd : ds.length ≤ 4) (h : ∀ d ∈ ds, Sm 5 d) : (wv (.list (.str nm :: ds))).length ≤ 1000000 := by
  have e : wv (.list (.str nm :: ds)) = 91 :: (sepJ (wt nm.cps.toList :: ds.map wv) ++ [93]) := by simp [wv, wvA_map, wvA]
  have h1 := sepJ_le (wt nm.cps.toList :: ds.map wv)
  have h2 := sum_le (l := (ds.map wv).map List.length) (B := Tk 5) fun z hz => by
    obtain ⟨y, hy, rfl⟩ := List.mem_map.mp hz
    obtain ⟨x, hx2, rfl⟩ := List.mem_map.mp hy
    exact (h x hx2).len
  rw [List.length_map, List.length_map] at h2
  have h3 : ds.length * Tk 5 ≤ 4 * Tk 5 := Nat.mul_le_mul_right _ hd
  have h4 := wt_le nm.cps.toList
  have h5 : nm.length = nm.cps.toList.length := by show nm.cps.size = _; simp
  have h6 : Tk 5 = 60056 := by decide
  rw [e]
  rw [List.map_cons, List.sum_cons, List.length_cons, List.length_map] at h1
  simp only [List.length_cons, List.length_append, List.length_nil]
  omega
end C72

namespace K73
open PySem PySem.Spec L2 VL C72
open PyProof.Rows hiding St

local macro_rules | `(tactic| walk_at "vis") => `(tactic| first | exact Or.inl rfl | exact Or.inr (Or.inl rfl) | exact Or.inr (Or.inr rfl))
local macro_rules | `(tactic| walk_at "loc") => `(tactic| first | exact Or.inl rfl | exact Or.inr rfl)
local macro_rules | `(tactic| walk_at "ne") => `(tactic| first | assumption | (apply Ne.symm; assumption))
local macro_rules | `(tactic| walk_at "hp") => `(tactic| first | assumption | exact upd_same | (refine (upd_ne (by walk_at "ne")).trans ?_; walk_at "hp"))
local macro_rules | `(tactic| walk_at "var") => `(tactic| first | refine re_var (i := 0) rfl (by walk_at "vis") rfl ?_ | refine re_var (i := 1) rfl (by walk_at "vis") rfl ?_ | refine re_var (i := 2) rfl (by walk_at "vis") rfl ?_ | refine re_var (i := 3) rfl (by walk_at "vis") rfl ?_ | refine re_var (i := 4) rfl (by walk_at "vis") rfl ?_ | refine re_var (i := 5) rfl (by walk_at "vis") rfl ?_ | refine re_var (i := 6) rfl (by walk_at "vis") rfl ?_ | refine re_var (i := 7) rfl (by walk_at "vis") rfl ?_ | refine re_var (i := 8) rfl (by walk_at "vis") rfl ?_ | refine re_var (i := 9) rfl (by walk_at "vis") rfl ?_ | refine re_var (i := 10) rfl (by walk_at "vis") rfl ?_ | refine re_var (i := 11) rfl (by walk_at "vis") rfl ?_ | refine re_var (i := 12) rfl (by walk_at "vis") rfl ?_ | refine re_var (i := 13) rfl (by walk_at "vis") rfl ?_ | refine re_var (i := 14) rfl (by walk_at "vis") rfl ?_ | refine re_var (i := 15) rfl (by walk_at "vis") rfl ?_ | refine re_var (i := 16) rfl (by walk_at "vis") rfl ?_ | refine re_var (i := 17) rfl (by walk_at "vis") rfl ?_ | refine re_var (i := 18) rfl (by walk_at "vis") rfl ?_ | refine re_var (i := 19) rfl (by walk_at "vis") rfl ?_ | refine re_var (i := 20) rfl (by walk_at "vis") rfl ?_ | refine re_var (i := 21) rfl (by walk_at "vis") rfl ?_ | refine re_var (i := 22) rfl (by walk_at "vis") rfl ?_ | refine re_var (i := 23) rfl (by walk_at "vis") rfl ?_)
local macro_rules | `(tactic| walk_at "set") => `(tactic| first | refine rs_set (i := 0) (BdG.toBd (by assumption)) rfl (by walk_at "loc") ?_ | refine rs_set (i := 1) (BdG.toBd (by assumption)) rfl (by walk_at "loc") ?_ | refine rs_set (i := 2) (BdG.toBd (by assumption)) rfl (by walk_at "loc") ?_ | refine rs_set (i := 3) (BdG.toBd (by assumption)) rfl (by walk_at "loc") ?_ | refine rs_set (i := 4) (BdG.toBd (by assumption)) rfl (by walk_at "loc") ?_ | refine rs_set (i := 5) (BdG.toBd (by assumption)) rfl (by walk_at "loc") ?_ | refine rs_set (i := 6) (BdG.toBd (by assumption)) rfl (by walk_at "loc") ?_ | refine rs_set (i := 7) (BdG.toBd (by assumption)) rfl (by walk_at "loc") ?_ | refine rs_set (i := 8) (BdG.toBd (by assumption)) rfl (by walk_at "loc") ?_ | refine rs_set (i := 9) (BdG.toBd (by assumption)) rfl (by walk_at "loc") ?_ | refine rs_set (i := 10) (BdG.toBd (by assumption)) rfl (by walk_at "loc") ?_ | refine rs_set (i := 11) (BdG.toBd (by assumption)) rfl (by walk_at "loc") ?_ | refine rs_set (i := 12) (BdG.toBd (by assumption)) rfl (by walk_at "loc") ?_ | refine rs_set (i := 13) (BdG.toBd (by assumption)) rfl (by walk_at "loc") ?_ | refine rs_set (i := 14) (BdG.toBd (by assumption)) rfl (by walk_at "loc") ?_ | refine rs_set (i := 15) (BdG.toBd (by assumption)) rfl (by walk_at "loc") ?_ | refine rs_set (i := 16) (BdG.toBd (by assumption)) rfl (by walk_at "loc") ?_ | refine rs_set (i := 17) (BdG.toBd (by assumption)) rfl (by walk_at "loc") ?_ | refine rs_set (i := 18) (BdG.toBd (by assumption)) rfl (by walk_at "loc") ?_ | refine rs_set (i := 19) (BdG.toBd (by assumption)) rfl (by walk_at "loc") ?_ | refine rs_set (i := 20) (BdG.toBd (by assumption)) rfl (by walk_at "loc") ?_ | refine rs_set (i := 21) (BdG.toBd (by assumption)) rfl (by walk_at "loc") ?_ | refine rs_set (i := 22) (BdG.toBd (by assumption)) rfl (by walk_at "loc") ?_ | refine rs_set (i := 23) (BdG.toBd (by assumption)) rfl (by walk_at "loc") ?_)
local macro_rules | `(tactic| walk_at "callN") => `(tactic| first | ((with_reducible show RE _ (.Call (.Name "len" _) _ _ _) _ _ _); refine re_len (by assumption) ?_) | ((with_reducible show RE _ (.Call (.Name "int" _) _ _ _) _ _ _); refine re_intC (by assumption) ?_) | ((with_reducible show RE _ (.Call (.Name "str" _) _ _ _) _ _ _); refine re_strC (by assumption) ?_) | ((with_reducible show RE _ (.Call (.Name "list" _) _ _ _) _ _ _); refine re_listC (by assumption) ?_) | ((with_reducible show RE _ (.Call (.Name "abs" _) _ _ _) _ _ _); refine re_absC (by assumption) ?_) | ((with_reducible show RE _ (.Call (.Name "isinstance" _) _ _ _) _ _ _); refine re_isi (by assumption) ?_) | refine re_call (by assumption) (by assumption) (by first | decide | omega) ?_ | refine re_make (by assumption) (by assumption) (by first | decide | omega) ?_ | refine re_call0 (by assumption) (by assumption) (by first | decide | omega) ?_)
local macro_rules | `(tactic| walk_at "callM") => `(tactic| first | ((with_reducible show RE _ (.Call (.Attribute _ "startswith" _) _ _ _) _ _ _); first | refine re_starts ?_ | refine re_starts3 ?_) | ((with_reducible show RE _ (.Call (.Attribute _ "join" _) _ _ _) _ _ _); first | refine re_join ?_) | ((with_reducible show RE _ (.Call (.Attribute _ "append" _) _ _ _) _ _ _); first | refine re_append ?_) | refine re_meth (by assumption) (by assumption) (by first | decide | omega) ?_ | refine re_meth0 (by assumption) (by assumption) (by first | decide | omega) ?_)
local macro_rules | `(tactic| walk_at "re") => `(tactic| first | ((with_reducible show RE _ (.Call (.Name "list" _) [.Name "_law_one" _] _ _) _ _ _); refine re_listD (BdG.toBd (by assumption)) (by assumption) ?_) | ((with_reducible show RE _ (.Call (.Name "list" _) [.Name "_law_two" _] _ _) _ _ _); refine re_listD (BdG.toBd (by assumption)) (by assumption) ?_) | ((with_reducible show RE _ (.Call (.Name "repr" _) _ _ _) _ _ _); refine re_repr (by assumption) (by assumption) (by assumption) ?_) | ((with_reducible show RE _ (.Name "int" _) _ _ _); refine re_bltn (v := .ty _) (by assumption) boot_int' rfl ?_) | ((with_reducible show RE _ (.Name "str" _) _ _ _); refine re_bltn (v := .ty _) (by assumption) boot_str' rfl ?_) | ((with_reducible show RE _ (.Name "list" _) _ _ _); refine re_bltn (v := .ty _) (by assumption) boot_list' rfl ?_) | ((with_reducible show RE _ (.Name "bool" _) _ _ _); refine re_bltn (v := .ty _) (by assumption) boot_bool' rfl ?_) | ((with_reducible show RE _ (.Name "dict" _) _ _ _); refine re_bltn (v := .ty _) (by assumption) boot_dict' rfl ?_) | ((with_reducible show RE _ (.Name "tuple" _) _ _ _); refine re_bltn (v := .ty _) (by assumption) boot_tuple' rfl ?_) | ((with_reducible show RE _ (.Name _ _) _ _ _); first | walk_at "var" | refine re_glob (v := .int _) (by assumption) ⟨_, rfl⟩ ?_ | refine re_glob (v := .str _) (by assumption) ⟨_, rfl⟩ ?_ | refine re_glob (v := .ref _) (by assumption) rfl ?_) | ((with_reducible show RE _ (.Constant _ _ _) _ _ _); first | refine re_int ?_ | refine re_str ?_ | refine re_non ?_ | refine re_bl ?_) | ((with_reducible show RE _ (.Attribute _ _ _) _ _ _); refine re_fld ?_) | ((with_reducible show RE _ (.BinOp _ _ _ _) _ _ _); first | refine re_add ?_ | refine re_sub ?_ | refine re_mul ?_ | refine re_fdiv ?_ | refine re_mod ?_) | ((with_reducible show RE _ (.Call (.Name _ _) _ _ _) _ _ _); walk_at "callN") | ((with_reducible show RE _ (.Call (.Attribute _ _ _) _ _ _) _ _ _); walk_at "callM") | ((with_reducible show RE _ (.Subscript _ (.Slice _ _ _ _) _) _ _ _); refine re_slice ?_) | ((with_reducible show RE _ (.Subscript _ _ _) _ _ _); refine re_ix (BdG.hu (by assumption)) ?_) | ((with_reducible show RE _ (.IfExp _ _ _ _) _ _ _); refine re_ifExp ?_) | ((with_reducible show RE _ (.Tuple _ _ _) _ _ _); refine re_tup ?_) | ((with_reducible show RE _ (.List _ _) _ _ _); refine re_lst ?_) | ((with_reducible show RE _ (.Dict _ _ _) _ _ _); first | refine re_dnew ?_ | refine re_disp1 ?_ | refine re_disp2 ?_) | ((with_reducible show RE _ (.Compare _ _ _ _) _ _ _); first | refine re_eq ?_ | refine re_ne ?_ | refine re_lt ?_ | refine re_le ?_ | refine re_gt ?_ | refine re_ge ?_ | refine re_is ?_ | refine re_isNot ?_ | refine re_in (BdG.hu (by assumption)) ?_ | refine re_notIn (BdG.hu (by assumption)) ?_) | ((with_reducible show RE _ (.BoolOp _ _ _) _ _ _); first | refine re_and ?_ | refine re_or ?_ | refine re_one ?_) | ((with_reducible show RE _ (.UnaryOp _ _ _) _ _ _); first | refine re_not ?_ | refine re_neg ?_))
local macro_rules | `(tactic| walk_at "rt") => `(tactic| first | ((with_reducible show RT _ (.Compare (.Call (.Name "list" _) _ _ _) [.NotEq] _ _) _ _ _); refine rt_neD (by assumption) ?_) | ((with_reducible show RT _ (.Compare _ _ _ _) _ _ _); first | refine rt_eq ?_ | refine rt_ne ?_ | refine rt_lt ?_ | refine rt_le ?_ | refine rt_gt ?_ | refine rt_ge ?_ | refine rt_is ?_ | refine rt_isNot ?_ | refine rt_in (BdG.hu (by assumption)) ?_ | refine rt_notIn (BdG.hu (by assumption)) ?_) | ((with_reducible show RT _ (.UnaryOp _ _ _) _ _ _); refine rt_not ?_) | ((with_reducible show RT _ (.BoolOp _ _ _) _ _ _); first | refine rt_rw (rw_and ?_) | refine rt_rw (rw_or ?_)) | refine rt_val ?_)
local macro_rules | `(tactic| walk_at "rs") => `(tactic| first | ((with_reducible show RS _ (.Return _ _) _ _ _); first | refine rs_ret ?_ | refine rs_retN ?_) | ((with_reducible show RS _ (.If _ _ _ _) _ _ _); refine rs_if ?_) | ((with_reducible show RS _ (.Expr _ _) _ _ _); refine rs_expr ?_) | ((with_reducible show RS _ (.Assign [.Name _ _] _ _) _ _ _); walk_at "set") | ((with_reducible show RS _ (.Assign [.Attribute _ _ _] _ _) _ _ _); refine rs_fld ?_) | ((with_reducible show RS _ (.Assign [.Subscript _ _ _] _ _) _ _ _); refine rs_dput (BdG.hu (by assumption)) ?_) | ((with_reducible show RS _ (.Pass _) _ _ _); refine rs_pass ?_) | ((with_reducible show RS _ (.Break _) _ _ _); refine rs_break ?_) | ((with_reducible show RS _ (.Continue _) _ _ _); refine rs_continue ?_))
local macro_rules | `(tactic| walk_at "u") => `(tactic| first | ((with_reducible show uAdd _ _ _ _ _); refine uAdd_int ?_) | ((with_reducible show uInt CTrue _ _ _ _ _); refine uInt_mk trivial ?_) | ((with_reducible show uInt CMod0 _ _ _ _ _); refine uInt_mk (by show (0 : Int) < _; decide) ?_) | ((with_reducible show uInt CDivP0 _ _ _ _ _); refine uInt_mk (by show (0 : Int) < _ ∧ _ < (1073741824 : Int); decide) ?_) | ((with_reducible show uOp rEq _ _ _ _); first | refine uEq_int ?_ | refine uEq_str ?_ | refine uEq_mk rfl ?_) | ((with_reducible show uOp rNe _ _ _ _); first | refine uNe_int ?_ | refine uNe_str ?_ | refine uNe_mk rfl ?_) | ((with_reducible show uOp rIsC _ _ _ _); first | refine uIs_non ?_ | refine uIs_bl ?_) | ((with_reducible show uOp rIsNotC _ _ _ _); first | refine uIsNot_non ?_ | refine uIsNot_bl ?_) | ((with_reducible show toB _ _ _); refine toB_bl ?_) | ((with_reducible show toS _ _ _); refine toS_mk ?_) | ((with_reducible show toI _ _ _); refine toI_int ?_) | ((with_reducible show uSt3 _ _ _ _); refine uSt3_mk ?_) | ((with_reducible show uFld _ _ _ _ _); refine uFld_mk (by walk_at "hp") (by assumption) (by assumption) rfl ?_) | ((with_reducible show uSet _ _ _ _ _ _); refine uSet_mk (by walk_at "hp") (by assumption) (by assumption) (by first | (show 0 < 1000; decide) | (show 1 < 1000; decide) | (show 2 < 1000; decide) | decide) ?_) | ((with_reducible show uRec _ _ _ _ _); refine uRec_mk (by walk_at "hp") rfl ?_) | ((with_reducible show uC (vLen _) [V.str _] _ _); refine uLen_str (by walk_at "sz") ?_) | ((with_reducible show uC (vLen _) [V.ref _] _ _); first | refine uLen_lst (SqL.of (by walk_at "hp")) ?_ | refine uLen_lst (by assumption) ?_ | refine uLen_tup (SqT.of (by walk_at "hp")) ?_ | refine uLen_dic (by walk_at "hp") ?_) | ((with_reducible show uSl _ (V.str _) _ _ _ _); refine uSl_str (by walk_at "sz") ?_) | ((with_reducible show uJoin _ _ _ _ _); fail) | ((with_reducible show toL _ _ _ _); first | refine toL_mk (SqL.of (by walk_at "hp")) ?_ | refine toL_mk (by assumption) ?_) | ((with_reducible show uApp _ _ _ _); refine uApp_mk (by walk_at "hp") (by walk_at "szl") ?_) | ((with_reducible show uC (rIsi _) [_, V.ty _] _ _); refine uIsi_ty (by walk_at "ty") (by walk_at "kit") ?_) | ((with_reducible show uC vInt _ _ _); refine uInt_int ?_) | ((with_reducible show uC vAbs _ _ _); refine uAbs_int ?_) | ((with_reducible show ifB (decide (@Eq V _ _)) _ _); first | refine ifB_yes (by rfl) ?_ | refine ifB_no (by rfl) ?_) | ((with_reducible show ifB (!_) _ _); refine ifB_not ?_) | ((with_reducible show ifB true _ _); refine ifB_t ?_) | ((with_reducible show ifB false _ _); refine ifB_f ?_))
local macro_rules | `(tactic| walk_at "go1") => `(tactic| first | ((with_reducible show RE _ _ _ _ _); walk_at "re") | ((with_reducible show RT _ _ _ _ _); walk_at "rt") | ((with_reducible show RSs _ [] _ _ _); refine rss_nil ?_) | ((with_reducible show RSs _ (.Assign _ _ _ :: _) _ _ _); refine rss_cons ?_) | ((with_reducible show RSs _ (.Expr _ _ :: _) _ _ _); refine rss_cons ?_) | ((with_reducible show RSs _ (.Return _ _ :: _) _ _ _); refine rss_cons ?_) | ((with_reducible show RSs _ (.If _ _ _ _ :: _) _ _ _); refine rss_cons ?_) | ((with_reducible show RSs _ (.AugAssign _ _ _ _ :: _) _ _ _); refine rss_cons ?_) | ((with_reducible show RSs _ (.Raise _ _ _ :: _) _ _ _); refine rss_cons ?_) | ((with_reducible show RSs _ (.Pass _ :: _) _ _ _); refine rss_cons ?_) | ((with_reducible show RSs _ (.Break _ :: _) _ _ _); refine rss_cons ?_) | ((with_reducible show RSs _ (.Continue _ :: _) _ _ _); refine rss_cons ?_) | ((with_reducible show RSs _ (afterW _ _) _ _ _); refine rss_cons ?_) | ((with_reducible show RSs _ (defBody _) _ _ _); refine rss_cons ?_) | ((with_reducible show RSs _ (inW _ _ _) _ _ _); refine rss_cons ?_) | ((with_reducible show RSs _ (loopB _) _ _ _); refine rss_cons ?_) | ((with_reducible show RS _ _ _ _ _); walk_at "rs") | ((with_reducible show RA _ _ _ _ _); first | refine ra_cons ?_ | refine ra_nil ?_) | ((with_reducible show RO _ _ _ _ _); first | refine ro_none ?_ | refine ro_some ?_) | ((with_reducible show RW _ _ _ _ _); first | refine rw_and1 ?_ | refine rw_or1 ?_ | refine rw_and ?_ | refine rw_or ?_) | walk_at "u")
local macro_rules | `(tactic| walk_at "sz") => `(tactic| first | (exact szl (by omega)) | (exact szl (by simp only [List.length_map, List.length_append, List.length_cons, List.length_nil]; omega)) | assumption)
local macro_rules | `(tactic| walk_at "szl") => `(tactic| first | (exact szlt (by omega)) | (exact szlt (by simp only [List.length_map, List.length_append, List.length_cons, List.length_nil]; omega)) | assumption)
local macro_rules | `(tactic| walk_at "kit") => `(tactic| with_reducible first | exact kit_NoneType_list | exact kit_bool_list | exact kit_int_list | exact kit_str_list | exact kit_list_list | exact kit_dict_list | exact kit_tuple_list | exact kit_NoneType_str | exact kit_bool_str | exact kit_int_str | exact kit_str_str | exact kit_list_str | exact kit_dict_str | exact kit_tuple_str | exact kit_NoneType_int | exact kit_bool_int | exact kit_int_int | exact kit_str_int | exact kit_list_int | exact kit_dict_int | exact kit_tuple_int | exact kit_NoneType_dict | exact kit_bool_dict | exact kit_int_dict | exact kit_str_dict | exact kit_list_dict | exact kit_dict_dict | exact kit_tuple_dict | exact kit_NoneType_bool | exact kit_bool_bool | exact kit_int_bool | exact kit_str_bool | exact kit_list_bool | exact kit_dict_bool | exact kit_tuple_bool | exact kit_NoneType_tuple | exact kit_bool_tuple | exact kit_int_tuple | exact kit_str_tuple | exact kit_list_tuple | exact kit_dict_tuple | exact kit_tuple_tuple)
local macro_rules | `(tactic| walk_at "ty") => `(tactic| first | exact .base (.non) | exact .base (.bl _) | exact .base (.int _) | exact .base (.str _) | exact .base (.lst (by walk_at "hp")) | exact .base (.tup (by walk_at "hp")) | exact .base (.dK (by walk_at "hp")))
local macro_rules | `(tactic| walk_at "go") => `(tactic| repeat walk_at "go1")

/-! ### the text -/
def top (i : Nat) : Stmt := PySem.Challenge.pw_viewloom_k73_nothing_else_is_read_as_a_c.main.body.getD i (.Pass ⟨0, 0, 0, 0⟩)
abbrev sWriteText : Stmt := top 3
abbrev sWriteValue : Stmt := top 4
abbrev sWriteCall : Stmt := top 5
abbrev sValuereaderInit : Stmt := inClass (top 7) 0
abbrev sValuereaderSkip : Stmt := inClass (top 7) 1
abbrev sValuereaderNeed : Stmt := inClass (top 7) 2
abbrev sValuereaderReadText : Stmt := inClass (top 7) 3
abbrev sValuereaderReadNumber : Stmt := inClass (top 7) 4
abbrev sValuereaderReadList : Stmt := inClass (top 7) 5
abbrev sValuereaderReadField : Stmt := inClass (top 7) 6
abbrev sValuereaderReadRecord : Stmt := inClass (top 7) 7
abbrev sValuereaderReadValue : Stmt := inClass (top 7) 8
abbrev sReadCall : Stmt := top 8
abbrev sLawRows : Stmt := top 10
abbrev sLawText : Stmt := top 11
abbrev sLawValue : Stmt := top 12
abbrev sLawValues : Stmt := top 13
abbrev sLawBent : Stmt := top 14
abbrev sLaw : Stmt := top 15
abbrev FnP (K : PySem.W.Frag) (x q : Str) (st : Stmt) (f : Addr) (fd : FuncData) : Prop := FunD K x q (defArgs st) (defBody st) (defScope st) [] [] f fd
theorem scWriteText : FnScope ["text", "marked"] ["text"] (defScope sWriteText) := ⟨rfl, rfl, rfl, by decide +kernel, rfl, by decide +kernel, by decide +kernel⟩
theorem scWriteValue : FnScope ["value", "part", "fields", "name"] ["value"] (defScope sWriteValue) := ⟨rfl, rfl, rfl, by decide +kernel, rfl, by decide +kernel, by decide +kernel⟩
theorem scWriteCall : FnScope ["name", "values"] ["name", "values"] (defScope sWriteCall) := ⟨rfl, rfl, rfl, by decide +kernel, rfl, by decide +kernel, by decide +kernel⟩
theorem scValuereaderInit : FnScope ["self", "source"] ["self", "source"] (defScope sValuereaderInit) := ⟨rfl, rfl, rfl, by decide +kernel, rfl, by decide +kernel, by decide +kernel⟩
theorem scValuereaderSkip : FnScope ["self", "form"] ["self", "form"] (defScope sValuereaderSkip) := ⟨rfl, rfl, rfl, by decide +kernel, rfl, by decide +kernel, by decide +kernel⟩
theorem scValuereaderNeed : FnScope ["self", "form"] ["self", "form"] (defScope sValuereaderNeed) := ⟨rfl, rfl, rfl, by decide +kernel, rfl, by decide +kernel, by decide +kernel⟩
theorem scValuereaderReadText : FnScope ["self", "parts", "sign"] ["self"] (defScope sValuereaderReadText) := ⟨rfl, rfl, rfl, by decide +kernel, rfl, by decide +kernel, by decide +kernel⟩
theorem scValuereaderReadNumber : FnScope ["self", "start", "digits", "bare"] ["self"] (defScope sValuereaderReadNumber) := ⟨rfl, rfl, rfl, by decide +kernel, rfl, by decide +kernel, by decide +kernel⟩
theorem scValuereaderReadList : FnScope ["self", "depth", "members"] ["self", "depth"] (defScope sValuereaderReadList) := ⟨rfl, rfl, rfl, by decide +kernel, rfl, by decide +kernel, by decide +kernel⟩
theorem scValuereaderReadField : FnScope ["self", "fields", "depth", "name"] ["self", "fields", "depth"] (defScope sValuereaderReadField) := ⟨rfl, rfl, rfl, by decide +kernel, rfl, by decide +kernel, by decide +kernel⟩
theorem scValuereaderReadRecord : FnScope ["self", "depth", "fields"] ["self", "depth"] (defScope sValuereaderReadRecord) := ⟨rfl, rfl, rfl, by decide +kernel, rfl, by decide +kernel, by decide +kernel⟩
theorem scValuereaderReadValue : FnScope ["self", "depth"] ["self", "depth"] (defScope sValuereaderReadValue) := ⟨rfl, rfl, rfl, by decide +kernel, rfl, by decide +kernel, by decide +kernel⟩
theorem scReadCall : FnScope ["text", "reader", "row"] ["text"] (defScope sReadCall) := ⟨rfl, rfl, rfl, by decide +kernel, rfl, by decide +kernel, by decide +kernel⟩
theorem scLawRows : FnScope ["_law_script", "_law_count", "_law_rows_here", "_law_k", "_law_cell"] ["_law_script", "_law_count"] (defScope sLawRows) := ⟨rfl, rfl, rfl, by decide +kernel, rfl, by decide +kernel, by decide +kernel⟩
theorem scLawText : FnScope ["_law_row", "_law_signs", "_law_j"] ["_law_row"] (defScope sLawText) := ⟨rfl, rfl, rfl, by decide +kernel, rfl, by decide +kernel, by decide +kernel⟩
theorem scLawValue : FnScope ["_law_rows_here", "_law_world", "_law_depth", "_law_row", "_law_kind", "_law_many", "_law_j", "_law_record"] ["_law_rows_here", "_law_world", "_law_depth"] (defScope sLawValue) := ⟨rfl, rfl, rfl, by decide +kernel, rfl, by decide +kernel, by decide +kernel⟩
theorem scLawValues : FnScope ["_law_rows_here", "_law_at", "_law_many", "_law_world", "_law_j"] ["_law_rows_here", "_law_at", "_law_many"] (defScope sLawValues) := ⟨rfl, rfl, rfl, by decide +kernel, rfl, by decide +kernel, by decide +kernel⟩
theorem scLawBent : FnScope ["_law_text_here", "_law_row", "_law_signs", "_law_at", "_law_sign", "_law_kind"] ["_law_text_here", "_law_row"] (defScope sLawBent) := ⟨rfl, rfl, rfl, by decide +kernel, rfl, by decide +kernel, by decide +kernel⟩
theorem scLaw : FnScope ["_law_script", "_law_rows_here", "_law_name", "_law_text_here", "_law_k", "_law_bent_here", "_law_told"] ["_law_script"] (defScope sLaw) := ⟨rfl, rfl, rfl, by decide +kernel, rfl, by decide +kernel, by decide +kernel⟩
/-- a method's def, found at the class -/
structure MD (K : PySem.W.Frag) (C : Addr) (m q : Str) (st : Stmt) : Prop where
  ex : ∃ f fd, FnP K m q st f fd ∧ Cls K C ∧ Meth K C m f
/-- a def of the module, found by its name -/
structure GD (K : PySem.W.Frag) (mg : Str → Option Value) (x : Str) (st : Stmt) : Prop where
  ex : ∃ f fd, FnP K x x st f fd ∧ mg x = some (.ref f)
theorem MD.cal {P : Program} {w : World} {K : PySem.W.Frag} {mg : Str → Option Value} {base : Heap} {k : Nat} {C : Addr} {m q : Str} {st : Stmt} {ps : List Str} {sp : Sp} (M : MD K C m q st) (b : ∀ f fd, FnP K m q st f fd → Binds K fd ps []) (h : ∀ f fd, FnP K m q st f fd → FnG P w K mg base k f fd ps sp) : CalM P w K mg base k C m ps sp := by
  obtain ⟨f, fd, F, c, me⟩ := M.ex
  exact ⟨f, fd, h f fd F, c, me, b f fd F⟩
theorem GD.cal {P : Program} {w : World} {K : PySem.W.Frag} {mg : Str → Option Value} {base : Heap} {k : Nat} {x : Str} {st : Stmt} {ps : List Str} {sp : Sp} (M : GD K mg x st) (b : ∀ f fd, FnP K x x st f fd → Binds K fd ps []) (h : ∀ f fd, FnP K x x st f fd → FnG P w K mg base k f fd ps sp) : Cal P w K mg base k x ps sp := by
  obtain ⟨f, fd, F, c⟩ := M.ex
  exact ⟨f, fd, h f fd F, c, F.kp, b f fd F⟩
theorem bdWriteText {K : PySem.W.Frag} (f : Addr) (fd : FuncData) (F : FnP K "write_text" "write_text" sWriteText f fd) : Binds K fd ["text"] [] := F.bindsN fun _ _ _ _ _ _ us hl => match us, hl with | [_], _ => rfl
theorem bdWriteValue {K : PySem.W.Frag} (f : Addr) (fd : FuncData) (F : FnP K "write_value" "write_value" sWriteValue f fd) : Binds K fd ["value"] [] := F.bindsN fun _ _ _ _ _ _ us hl => match us, hl with | [_], _ => rfl
theorem bdWriteCall {K : PySem.W.Frag} (f : Addr) (fd : FuncData) (F : FnP K "write_call" "write_call" sWriteCall f fd) : Binds K fd ["name", "values"] [] := F.bindsN fun _ _ _ _ _ _ us hl => match us, hl with | [_, _], _ => rfl
theorem bdValuereaderInit {K : PySem.W.Frag} (f : Addr) (fd : FuncData) (F : FnP K "__init__" "ValueReader.__init__" sValuereaderInit f fd) : Binds K fd ["self", "source"] [] := F.bindsN fun _ _ _ _ _ _ us hl => match us, hl with | [_, _], _ => rfl
theorem bdValuereaderSkip {K : PySem.W.Frag} (f : Addr) (fd : FuncData) (F : FnP K "skip" "ValueReader.skip" sValuereaderSkip f fd) : Binds K fd ["self", "form"] [] := F.bindsN fun _ _ _ _ _ _ us hl => match us, hl with | [_, _], _ => rfl
theorem bdValuereaderNeed {K : PySem.W.Frag} (f : Addr) (fd : FuncData) (F : FnP K "need" "ValueReader.need" sValuereaderNeed f fd) : Binds K fd ["self", "form"] [] := F.bindsN fun _ _ _ _ _ _ us hl => match us, hl with | [_, _], _ => rfl
theorem bdValuereaderReadText {K : PySem.W.Frag} (f : Addr) (fd : FuncData) (F : FnP K "read_text" "ValueReader.read_text" sValuereaderReadText f fd) : Binds K fd ["self"] [] := F.bindsN fun _ _ _ _ _ _ us hl => match us, hl with | [_], _ => rfl
theorem bdValuereaderReadNumber {K : PySem.W.Frag} (f : Addr) (fd : FuncData) (F : FnP K "read_number" "ValueReader.read_number" sValuereaderReadNumber f fd) : Binds K fd ["self"] [] := F.bindsN fun _ _ _ _ _ _ us hl => match us, hl with | [_], _ => rfl
theorem bdValuereaderReadList {K : PySem.W.Frag} (f : Addr) (fd : FuncData) (F : FnP K "read_list" "ValueReader.read_list" sValuereaderReadList f fd) : Binds K fd ["self", "depth"] [] := F.bindsN fun _ _ _ _ _ _ us hl => match us, hl with | [_, _], _ => rfl
theorem bdValuereaderReadField {K : PySem.W.Frag} (f : Addr) (fd : FuncData) (F : FnP K "read_field" "ValueReader.read_field" sValuereaderReadField f fd) : Binds K fd ["self", "fields", "depth"] [] := F.bindsN fun _ _ _ _ _ _ us hl => match us, hl with | [_, _, _], _ => rfl
theorem bdValuereaderReadRecord {K : PySem.W.Frag} (f : Addr) (fd : FuncData) (F : FnP K "read_record" "ValueReader.read_record" sValuereaderReadRecord f fd) : Binds K fd ["self", "depth"] [] := F.bindsN fun _ _ _ _ _ _ us hl => match us, hl with | [_, _], _ => rfl
theorem bdValuereaderReadValue {K : PySem.W.Frag} (f : Addr) (fd : FuncData) (F : FnP K "read_value" "ValueReader.read_value" sValuereaderReadValue f fd) : Binds K fd ["self", "depth"] [] := F.bindsN fun _ _ _ _ _ _ us hl => match us, hl with | [_, _], _ => rfl
theorem bdReadCall {K : PySem.W.Frag} (f : Addr) (fd : FuncData) (F : FnP K "read_call" "read_call" sReadCall f fd) : Binds K fd ["text"] [] := F.bindsN fun _ _ _ _ _ _ us hl => match us, hl with | [_], _ => rfl
theorem bdLawRows {K : PySem.W.Frag} (f : Addr) (fd : FuncData) (F : FnP K "_law_rows" "_law_rows" sLawRows f fd) : Binds K fd ["_law_script", "_law_count"] [] := F.bindsN fun _ _ _ _ _ _ us hl => match us, hl with | [_, _], _ => rfl
theorem bdLawText {K : PySem.W.Frag} (f : Addr) (fd : FuncData) (F : FnP K "_law_text" "_law_text" sLawText f fd) : Binds K fd ["_law_row"] [] := F.bindsN fun _ _ _ _ _ _ us hl => match us, hl with | [_], _ => rfl
theorem bdLawValue {K : PySem.W.Frag} (f : Addr) (fd : FuncData) (F : FnP K "_law_value" "_law_value" sLawValue f fd) : Binds K fd ["_law_rows_here", "_law_world", "_law_depth"] [] := F.bindsN fun _ _ _ _ _ _ us hl => match us, hl with | [_, _, _], _ => rfl
theorem bdLawValues {K : PySem.W.Frag} (f : Addr) (fd : FuncData) (F : FnP K "_law_values" "_law_values" sLawValues f fd) : Binds K fd ["_law_rows_here", "_law_at", "_law_many"] [] := F.bindsN fun _ _ _ _ _ _ us hl => match us, hl with | [_, _, _], _ => rfl
theorem bdLawBent {K : PySem.W.Frag} (f : Addr) (fd : FuncData) (F : FnP K "_law_bent" "_law_bent" sLawBent f fd) : Binds K fd ["_law_text_here", "_law_row"] [] := F.bindsN fun _ _ _ _ _ _ us hl => match us, hl with | [_, _], _ => rfl
theorem bdLaw {K : PySem.W.Frag} (f : Addr) (fd : FuncData) (F : FnP K "law" "law" sLaw f fd) : Binds K fd ["_law_script"] [] := F.bindsN fun _ _ _ _ _ _ us hl => match us, hl with | [_], _ => rfl

/-- a reader of the text S that stands ahead of l -/
def fl (S : Str) (k : Nat) : List (Str × V) := [("source", .str S), ("at", .int k)]
structure RdAt (C : Addr) (H : Hp) (p : Addr) (S : Str) (l : L) : Prop where
  ex : ∃ dx k, H p = some (.ins C dx (fl S k)) ∧ S.cps.toList.drop k = l ∧ k ≤ S.length
  sz : S.length ≤ 1000000
theorem RdAt.there {C : Addr} {H : Hp} {p : Addr} {S : Str} {l : L} (h : RdAt C H p S l) : ∃ o, H p = some o := let ⟨dx, k, hp, _⟩ := h.ex; ⟨_, hp⟩
theorem RdAt.keep {C : Addr} {H H' : Hp} {p q : Addr} {S : Str} {l : L} (h : RdAt C H p S l) (k : Keep q H H') (hn : p ≠ q) : RdAt C H' p S l := let ⟨⟨dx, j, hp, a, b⟩, z⟩ := h; ⟨⟨dx, j, k p _ hn hp, a, b⟩, z⟩
theorem RdAt.same {C : Addr} {H H' : Hp} {p : Addr} {S : Str} {l : L} (h : RdAt C H p S l) (k : Same H H') : RdAt C H' p S l := let ⟨⟨dx, j, hp, a, b⟩, z⟩ := h; ⟨⟨dx, j, k p _ hp, a, b⟩, z⟩
theorem RdAt.len {C : Addr} {H : Hp} {p : Addr} {S : Str} {l : L} (h : RdAt C H p S l) : l.length ≤ 1000000 := by
  obtain ⟨⟨dx, k, hp, hd, hk⟩, hz⟩ := h
  rw [← hd, List.length_drop, ← str_len]
  omega
/-- the reader has gone on by n signs -/
theorem RdAt.go {C dx : Addr} {H : Hp} {p : Addr} {S : Str} {l r : L} {k n : Nat} (hd : S.cps.toList.drop k = l) (hk : k ≤ S.length) (hz : S.length ≤ 1000000) (hr : l.drop n = r) (hn : n ≤ l.length) (hp : H p = some (.ins C dx (fl S (k + n)))) : RdAt C H p S r := by
  refine ⟨⟨dx, k + n, hp, ?_, ?_⟩, hz⟩
  · rw [← hr, ← hd, List.drop_drop]
  · rw [← hd, List.length_drop, ← str_len] at hn
    omega
theorem fl_go {S : Str} {k n : Nat} {i : Int} (h : i = ((k + n : Nat) : Int)) : putF "at" (.int i) (fl S k) = fl S (k + n) := by
  subst h
  show (if ("source" : Str) = "at" then _ else (("source" : Str), V.str S) :: (if ("at" : Str) = "at" then [(("at" : Str), V.int ((k + n : Nat) : Int))] else _)) = _
  rw [if_neg (by decide), if_pos rfl]
  rfl
/-- what the top has written of the reader's class and of WrongText -/
structure Cl (K : PySem.W.Frag) (mg : Str → Option Value) (C CW : Addr) : Prop where
  cl : Cls K C
  nS : NoAttr K C "source"
  nA : NoAttr K C "at"
  ex : ExcV K mg "WrongText" CW
def spSkip (C : Addr) : Sp := fun vs H Q _ => ∃ p S l f, vs = [.ref p, .str f] ∧ RdAt C H p S l ∧ f.length ≤ 1000 ∧ (∀ r, skip f.cps.toList l = some r → ∀ H', Keep p H H' → RdAt C H' p S r → Q (.bl true) H') ∧ (skip f.cps.toList l = none → Q (.bl false) H)
def spNeed (C CW : Addr) : Sp := fun vs H Q E => ∃ p S l f, vs = [.ref p, .str f] ∧ RdAt C H p S l ∧ f.length ≤ 1000 ∧ (∀ r, skip f.cps.toList l = some r → ∀ H', Keep p H H' → RdAt C H' p S r → Q .non H') ∧ (skip f.cps.toList l = none → ∀ H', Keep p H H' → E (.ref CW) none H')
section
variable {P : Program} {w : World} {K : PySem.W.Frag} {mg : Str → Option Value} {base : Heap} {f C CW : Addr} {fd : FuncData}
theorem ok_skip (F : FnP K "skip" "ValueReader.skip" sValuereaderSkip f fd) (T : Cl K mg C CW) (hlen : mg "len" = none) : FnG P w K mg base 1 f fd ["self", "form"] (spSkip C) := by
  refine fnG_of F scValuereaderSkip (fun vs H Q E h => ?_) (fun cdv A outer s H vs Q E B h => ?_)
  · obtain ⟨p, S, l, f, rfl, _⟩ := h; rfl
  obtain ⟨p, S, l, f, rfl, R, hf, h1, h2⟩ := h
  obtain ⟨⟨dx, k, hp, hd, hk⟩, hsz⟩ := R
  obtain ⟨cl, nS, nA, _⟩ := T
  walk_at "go"
  rw [starts3_nat S f k hk, hd]
  cases e : f.cps.toList.isPrefixOf l with
  | false =>
    walk_at "go"
    exact h2 (by unfold skip; rw [e]; rfl)
  | true =>
    walk_at "go"
    refine rs_fldaug ?_
    walk_at "go"
    refine ⟨p, C, dx, fl S k, k, rfl, hp, cl, nA, rfl, ?_⟩
    walk_at "go"
    have hle : f.length ≤ l.length := by
      rw [str_len]
      exact (List.isPrefixOf_iff_prefix.mp e).length_le
    refine ⟨(f.length : Int), rfl, dx, fl S k, hp, (by show 2 < 1000; decide), ?_⟩
    walk_at "go"
    refine h1 (l.drop f.cps.toList.length) (by unfold skip; rw [e]; rfl) _ Keep.upd (RdAt.go hd hk hsz (by rw [← str_len]) hle (dx := dx) ?_)
    rw [upd_same, fl_go (n := f.length) (by omega)]
theorem ok_need {Wr : Unit} (F : FnP K "need" "ValueReader.need" sValuereaderNeed f fd) (T : Cl K mg C CW) (cS : CalM P w K mg base 1 C "skip" ["self", "form"] (spSkip C)) : FnG P w K mg base 2 f fd ["self", "form"] (spNeed C CW) := by
  refine fnG_of F scValuereaderNeed (fun vs H Q E h => ?_) (fun cdv A outer s H vs Q E B h => ?_)
  · obtain ⟨p, S, l, f, rfl, _⟩ := h; rfl
  obtain ⟨p, S, l, f, rfl, R, hf, h1, h2⟩ := h
  have ⟨⟨dx, k, hp, hd, hk⟩, hsz⟩ := R
  obtain ⟨cl, nS, nA, ex⟩ := T
  walk_at "go"
  refine ⟨p, S, l, f, rfl, R, hf, fun r e H' kp R' => ?_, fun e => ?_⟩
  · walk_at "go"
    exact h1 r e H' kp R'
  · walk_at "go"
    refine rs_raise1 B.toBd ex ?_
    walk_at "go"
    exact h2 e H Keep.refl
end

/-- a method that reads: f is the mirror, R what its value stands for -/
def spRd {α : Type} (C CW : Addr) (f : L → Option (α × L)) (R : Hp → Hp → V → α → Prop) : Sp := fun vs H Q E => ∃ p S l, vs = [.ref p] ∧ RdAt C H p S l ∧
  (∀ a r, f l = some (a, r) → ∀ v H', Keep p H H' → RdAt C H' p S r → R H H' v a → Q v H') ∧ (f l = none → ∀ H', Keep p H H' → E (.ref CW) none H')
abbrev isTxt : Hp → Hp → V → L → Prop := fun _ _ v a => v = .str (tOf a)
abbrev isInt : Hp → Hp → V → Int → Prop := fun _ _ v a => v = .int a
theorem tOf_list (l : L) : (tOf l).cps.toList = l := by simp [tOf]
theorem tOf_len (l : L) : (tOf l).length = l.length := by rw [str_len, tOf_list]
theorem tOf_of {x : Str} {l : L} (h : x.cps.toList = l) : x = tOf l := str_ext (by rw [h, tOf_list])
theorem skip_cons_eq {a : Nat} {l r : L} (h : skip [a] l = some r) : l = a :: r := skip_some h
theorem skip_one_none {a : Nat} {l : L} (h : skip [a] l = none) : l.head? ≠ some a := by
  intro e
  cases l with
  | nil => cases e
  | cons c t =>
    have : c = a := Option.some.inj e
    subst this
    rw [skip_one] at h
    cases h
theorem sgn_eq {c d : Nat} (h : (⟨#[c]⟩ : Str) = ⟨#[d]⟩) : c = d := by
  have := congrArg (fun s : Str => s.cps.toList) h
  simpa using this
theorem Keep.back {q p : Addr} {H H' : Hp} (k : Keep p H H') (hb : q ≠ p) (h : H' q = none) : H q = none := by
  cases e : H q with
  | none => rfl
  | some o => rw [k q o hb e] at h; cases h
section
variable {P : Program} {w : World} {K : PySem.W.Frag} {mg : Str → Option Value} {base : Heap} {f C CW : Addr} {fd : FuncData}
/-- what the loop of read_text has done: acc is read, l is left -/
def preOf (acc : L) : L × L → L × L := fun q => (acc ++ q.1, q.2)
theorem preOf_snoc (acc : L) (c : Nat) (o : Option (L × L)) : (o.map fun q => (c :: q.1, q.2)).map (preOf acc) = o.map (preOf (acc ++ [c])) := by
  cases o with
  | none => rfl
  | some q => simp [preOf]
def wText (C p m : Addr) (S : Str) (H0 : Hp) (l0 : L) : Nat → St → Hp → Prop := fun n σ H => ∃ (acc l : L) (sg : Option V), n = l.length ∧ σ = [some (.ref p), some (.ref m), sg] ∧ RdAt C H p S l ∧ H m = some (.lst (acc.map fun c => V.str ⟨#[c]⟩)) ∧ (∀ b o, b ≠ p → b ≠ m → H0 b = some o → H b = some o) ∧
  H0 m = none ∧ m ≠ p ∧ rdChars l0 = (rdChars l).map (preOf acc) ∧ acc.length + l.length ≤ 1000000
theorem cutS_one {S : Str} {k : Nat} : (cutS S (some (k : Int)) (some ((k : Int) + 1))).cps.toList = (S.cps.toList.drop k).take 1 := by
  have := cutS_any S k (k + 1)
  rw [show ((k + 1 : Nat) : Int) = (k : Int) + 1 by omega, show k + 1 - k = 1 by omega] at this
  exact this
theorem ok_read_text (F : FnP K "read_text" "ValueReader.read_text" sValuereaderReadText f fd) (T : Cl K mg C CW) (hlen : mg "len" = none) (cS : CalM P w K mg base 1 C "skip" ["self", "form"] (spSkip C)) (cN : CalM P w K mg base 2 C "need" ["self", "form"] (spNeed C CW)) :
    FnG P w K mg base 3 f fd ["self"] (spRd C CW rdText isTxt) := by
  refine fnG_of F scValuereaderReadText (fun vs H Q E h => ?_) (fun cdv A outer s H vs Q E B h => ?_)
  · obtain ⟨p, S, l, rfl, _⟩ := h; rfl
  obtain ⟨p, S, l, rfl, R, h1, h2⟩ := h
  have ⟨⟨dx, k, hp, hd, hk⟩, hsz⟩ := R
  obtain ⟨cl, nS, nA, ex⟩ := T
  walk_at "go"
  refine ⟨p, S, l, _, rfl, R, by decide, fun r e H1 k1 R1 => ?_, fun e H1 k1 => ?_⟩
  case refine_2 =>
    refine h2 ?_ H1 k1
    have := skip_one_none (a := 34) e
    cases l with
    | nil => rfl
    | cons c t => exact if_neg (fun z => this (by rw [z]; rfl))
  have el := skip_cons_eq (a := 34) e
  walk_at "go"
  refine ⟨by decide, fun m hm => ?_⟩
  walk_at "go"
  have npm : m ≠ p := fun z => by obtain ⟨o, ho⟩ := R1.there; rw [← z, hm] at ho; cases ho
  have hT : rdText l = rdChars r := by rw [el]; rfl
  have R1l := R1.len
  refine rss_cons (rs_while B.toBd (wText C p m S H1 r) ⟨_, [], r, none, rfl, rfl, R1.same (Same.new hm), upd_same, fun b o hb hbm e => by rw [upd_ne hbm]; exact e, hm, npm, by cases rdChars r <;> rfl, by simpa using R1l⟩ ?_)
  rintro n σ H2 ⟨acc, l2, sg, rfl, rfl, R2, hm2, k2, hm1, nm, hrd, hlen2⟩
  obtain ⟨⟨dx2, j, hp2, hd2, hj⟩, _⟩ := id R2
  have hsl := str_len S
  -- behind the loop
  have fin : l2.head? = some 34 ∨ l2 = [] → RSs (cxOf (CX P w) P w K mg base ["self", "parts", "sign"] "ValueReader.read_text" (defScope sValuereaderReadText) f cdv A outer s H E) (afterW sValuereaderReadText 3) { nx := fun _ H' => Q .non H', rt := Q } [some (.ref p), some (.ref m), sg] H2 := by
    intro hl
    walk_at "go"
    refine ⟨p, S, l2, _, rfl, R2, by decide, fun r2 e2 H3 k3 R3 => ?_, fun e2 H3 k3 => ?_⟩
    · have el2 := skip_cons_eq (a := 34) e2
      walk_at "go"
      have hsum : ((acc.map fun c => (⟨#[c]⟩ : Str)).map (·.length)).sum = acc.length := by
        rw [List.map_map]
        clear hrd hlen2 hm2
        induction acc with
        | nil => rfl
        | cons a r ih => rw [List.map_cons, List.sum_cons, ih, List.length_cons]; show 1 + r.length = _; omega
      have hjoin : Txt.join "" (acc.map fun c => (⟨#[c]⟩ : Str)) = tOf acc := tOf_of (by
        rw [join_empty "" (by rfl)]
        clear hrd hlen2 hm2 hsum
        induction acc with
        | nil => rfl
        | cons a r ih => rw [List.map_cons, List.flatMap_cons, ih]; rfl)
      refine uJoin_mk (ys := acc.map fun c => ⟨#[c]⟩) (SqL.of ((k3 m _ nm hm2).trans (by rw [List.map_map]; rfl))) ?_ ?_
      · rw [hsum, List.length_map]
        show acc.length + acc.length * 0 ≤ 16777216
        omega
      refine h1 acc r2 (by rw [hT, hrd, el2, rdChars_last]; simp [preOf]) _ H3 (fun b o hb e => ?_) R3 (by rw [hjoin])
      have hbm : b ≠ m := fun z => by subst z; rw [Keep.back k1 hb hm1] at e; cases e
      exact k3 b o hb (k2 b o hb hbm (k1 b o hb e))
    · have hn := skip_one_none (a := 34) e2
      have hnil : l2 = [] := hl.resolve_left hn
      refine h2 (by rw [hT, hrd, hnil]; rfl) H3 fun b o hb e => ?_
      have hbm : b ≠ m := fun z => by subst z; rw [Keep.back k1 hb hm1] at e; cases e
      exact k3 b o hb (k2 b o hb hbm (k1 b o hb e))
  walk_at "go"
  cases l2 with
  | nil =>
    refine ifB_no (decide_eq_false (by have := congrArg List.length hd2; rw [List.length_drop, List.length_nil] at this; omega)) ?_
    exact ifB_f (fin (.inr rfl))
  | cons c t =>
    have hjl : j + (t.length + 1) = S.length := by have := congrArg List.length hd2; rw [List.length_drop, List.length_cons] at this; omega
    refine ifB_yes (decide_eq_true (by omega)) ?_
    walk_at "go"
    refine uIx_str (szl (by omega)) (atI_drop hd2) ?_
    walk_at "go"
    refine ifB_dec (fun e => ?_) (fun hne => ?_)
    · have : c = 34 := sgn_eq e
      exact fin (.inl (by rw [this]; rfl))
    have hc34 : c ≠ 34 := fun z => hne (by rw [z]; rfl)
    walk_at "go"
    refine uIx_str (szl (by omega)) (atI_drop hd2) ?_
    walk_at "go"
    refine ifB_dec (fun e => ?_) (fun hn10 => ?_)
    · have hc : c = 10 := sgn_eq e
      walk_at "go"
      refine rs_raise1 B.toBd ex ?_
      walk_at "go"
      refine h2 (by rw [hT, hrd, hc, rdChars_nl]; rfl) H2 fun b o hb e => ?_
      have hbm : b ≠ m := fun z => by subst z; rw [Keep.back k1 hb hm1] at e; cases e
      exact k2 b o hb hbm (k1 b o hb e)
    have hc10 : c ≠ 10 := fun z => hn10 (by rw [z]; rfl)
    have hb2 : ∀ b o, b ≠ p → H b = some o → b ≠ m ∧ H2 b = some o := fun b o hb e => by
      have hbm : b ≠ m := fun z => by subst z; rw [Keep.back k1 hb hm1] at e; cases e
      exact ⟨hbm, k2 b o hb hbm (k1 b o hb e)⟩
    have hbad : rdChars (c :: t) = none → ∀ H', (∀ b o, b ≠ p → b ≠ m → H2 b = some o → H' b = some o) → E (.ref CW) none H' := fun z H' kk =>
      h2 (by rw [hT, hrd, z]; rfl) H' fun b o hb e => kk b o hb (hb2 b o hb e).1 (hb2 b o hb e).2
    have next : ∀ (x : Nat) (l3 : L) (H4 : Hp) (sg : Option V), l3.length < (c :: t).length → RdAt C H4 p S l3 → H4 m = some (.lst ((acc.map fun c => V.str ⟨#[c]⟩) ++ [V.str ⟨#[x]⟩])) → (∀ b o, b ≠ p → b ≠ m → H2 b = some o → H4 b = some o) →
        rdChars (c :: t) = ((rdChars l3).map fun q => (x :: q.1, q.2)) → ∃ n', n' < (c :: t).length ∧ wText C p m S H1 r n' [some (.ref p), some (.ref m), sg] H4 := by
      intro x l3 H4 sg hl R4 hm4 kk e
      refine ⟨_, hl, acc ++ [x], l3, sg, rfl, rfl, R4, by rw [hm4, List.map_append]; rfl, fun b o hb hbm e => kk b o hb hbm (k2 b o hb hbm e), hm1, nm, ?_, ?_⟩
      · rw [hrd, e, preOf_snoc]
      · rw [List.length_append, List.length_singleton]; omega
    walk_at "go"
    refine ⟨p, S, c :: t, _, rfl, R2, by decide, fun r2 e2 H3 k3 R3 => ?_, fun e2 => ?_⟩
    · have hm3 := k3 m _ nm hm2
      have el2 : c :: t = 92 :: 110 :: r2 := skip_some e2
      walk_at "go"
      refine next 10 r2 _ _ (by rw [el2]; simp only [List.length_cons]; omega) (R3.keep Keep.upd (Ne.symm nm)) (upd_same) (fun b o hb hbm e => by rw [upd_ne hbm]; exact k3 b o hb e) (by rw [el2, rdChars_n])
    · walk_at "go"
      refine ifB_dec (fun e92 => ?_) (fun hn92 => ?_)
      · have hc : c = 92 := sgn_eq e92
        refine rss_cons (rs_fldaug ?_)
        walk_at "go"
        refine ⟨p, C, dx2, fl S j, j, rfl, hp2, cl, nA, rfl, ?_⟩
        walk_at "go"
        refine ⟨1, rfl, dx2, fl S j, hp2, (by show 2 < 1000; decide), ?_⟩
        rw [fl_go (n := 1) (by omega)]
        generalize hH4 : upd H2 p (.ins C dx2 (fl S (j + 1))) = H4
        have hp4 : H4 p = some (.ins C dx2 (fl S (j + 1))) := by rw [← hH4]; exact upd_same
        have k4 : Keep p H2 H4 := by rw [← hH4]; exact Keep.upd
        have hm4 := k4 m _ nm hm2
        have hd4 : S.cps.toList.drop (j + 1) = t := by rw [← List.drop_drop, hd2]; rfl
        have hcut : cutS S (some ((j + 1 : Nat) : Int)) (some (((j + 1 : Nat) : Int) + 1)) = tOf (t.take 1) := tOf_of (by rw [cutS_one, hd4])
        walk_at "go"
        rw [hcut]
        refine ⟨by decide, fun m2 hm2' => ?_⟩
        generalize hH5 : upd H4 m2 (.tup [.str "\"", .str "\\"]) = H5
        have hq5 : H5 m2 = some (.tup [.str "\"", .str "\\"]) := by rw [← hH5]; exact upd_same
        have s5 : Same H4 H5 := by rw [← hH5]; exact Same.new hm2'
        have hp5 := s5 p _ hp4
        have hm5 := s5 m _ hm4
        refine uNotIn_seq (.inr (SqT.of hq5)) rfl rfl ?_
        have k5 : ∀ b o, b ≠ p → b ≠ m → H2 b = some o → H5 b = some o := fun b o hb _ e => s5 b o (k4 b o hb e)
        cases t with
        | nil =>
          rw [show inV (.str (tOf (([] : L).take 1))) [.str "\"", .str "\\"] = false by decide +kernel]
          walk_at "go"
          refine rs_raise1 B.toBd ex ?_
          walk_at "go"
          exact hbad (by rw [hc]; exact rdChars_end) _ k5
        | cons d t2 =>
          have hin : inV (.str (tOf ((d :: t2).take 1))) [.str "\"", .str "\\"] = decide (d = 34 ∨ d = 92) := by
            rw [Bool.eq_iff_iff, decide_eq_true_iff]
            simp only [inV, List.any_cons, List.any_nil, Bool.or_false, Bool.or_eq_true, eqV]
            constructor
            · rintro (z | z)
              · exact .inl (sgn_eq (eq_of_beq z)).symm
              · exact .inr (sgn_eq (eq_of_beq z)).symm
            · rintro (z | z)
              · subst z; exact .inl (by rfl)
              · subst z; exact .inr (by rfl)
          rw [hin]
          walk_at "go"
          refine ifB_dec (fun hd => ?_) (fun hd => ?_)
          · walk_at "go"
            refine uIx_str (szl (by omega)) (atI_drop hd4) ?_
            walk_at "go"
            refine rs_fldaug ?_
            walk_at "go"
            have hp6 : upd H5 m (.lst ((acc.map fun c => V.str ⟨#[c]⟩) ++ [V.str ⟨#[d]⟩])) p = some (.ins C dx2 (fl S (j + 1))) := (upd_ne (Ne.symm nm)).trans hp5
            refine ⟨p, C, dx2, fl S (j + 1), ((j + 1 : Nat) : Int), rfl, hp6, cl, nA, rfl, ?_⟩
            walk_at "go"
            refine ⟨1, rfl, dx2, fl S (j + 1), hp6, (by show 2 < 1000; decide), ?_⟩
            rw [fl_go (n := 1) (by omega)]
            walk_at "go"
            simp only [List.length_cons] at hjl
            refine next d t2 _ _ (by simp only [List.length_cons]; omega) (RdAt.go (n := 1) hd4 (by omega) hsz rfl (by simp only [List.length_cons]; omega) (dx := dx2) upd_same) ((upd_ne nm).trans upd_same) (fun b o hb hbm e => by rw [upd_ne hb, upd_ne hbm]; exact k5 b o hb hbm e) (by rw [hc]; exact rdChars_q hd t2)
          · walk_at "go"
            refine rs_raise1 B.toBd ex ?_
            walk_at "go"
            have h110 : d ≠ 110 := fun z => by subst hc z; cases e2
            exact hbad (by rw [hc]; exact rdChars_bad h110 hd t2) _ k5
      · have hc : c ≠ 92 := fun z => hn92 (by rw [z]; rfl)
        walk_at "go"
        refine rs_fldaug ?_
        walk_at "go"
        have hp4 : upd H2 m (.lst ((acc.map fun c => V.str ⟨#[c]⟩) ++ [V.str ⟨#[c]⟩])) p = some (.ins C dx2 (fl S j)) := (upd_ne (Ne.symm nm)).trans hp2
        refine ⟨p, C, dx2, fl S j, j, rfl, hp4, cl, nA, rfl, ?_⟩
        walk_at "go"
        refine ⟨1, rfl, dx2, fl S j, hp4, (by show 2 < 1000; decide), ?_⟩
        rw [fl_go (n := 1) (by omega)]
        walk_at "go"
        refine next c t _ _ (by simp only [List.length_cons]; omega) (RdAt.go (n := 1) hd2 hj hsz rfl (by simp only [List.length_cons]; omega) (dx := dx2) upd_same) ((upd_ne nm).trans upd_same) (fun b o hb hbm e => by rw [upd_ne hb, upd_ne hbm]; exact e) (rdChars_plain hc hc34 hc10 t)
end

section
open PySem.NumText PySem.W.KIN
variable {P : Program} {w : World} {K : PySem.W.Frag} {mg : Str → Option Value} {base : Heap} {f C CW : Addr} {fd : FuncData}
/-- what the loop of read_number has done -/
def wNum (C p : Addr) (S : Str) (H0 : Hp) (l0 : L) (s : V) : Nat → St → Hp → Prop := fun n σ H => ∃ (ds l : L) (u1 u2 : Option V), n = l.length ∧ σ = [some (.ref p), some s, u1, u2] ∧ RdAt C H p S l ∧ Keep p H0 H ∧ l0 = ds ++ l ∧ (∀ c ∈ ds, isDig c = true)
theorem mem_dig (c : Nat) : decide (c ∈ ("0123456789" : Str).cps.toList) = isDig c := by
  have h : ("0123456789" : Str).cps.toList = [48, 49, 50, 51, 52, 53, 54, 55, 56, 57] := by decide +kernel
  rw [h, Bool.eq_iff_iff]
  simp only [isDig, List.mem_cons, List.not_mem_nil, or_false, decide_eq_true_iff, Bool.and_eq_true]
  omega
theorem takeWhile_app {ds l : L} (h : ∀ c ∈ ds, isDig c = true) : (ds ++ l).takeWhile isDig = ds ++ l.takeWhile isDig ∧ (ds ++ l).dropWhile isDig = l.dropWhile isDig := by
  induction ds with
  | nil => exact ⟨rfl, rfl⟩
  | cons a r ih =>
    have := ih fun c hc => h c (List.mem_cons_of_mem _ hc)
    have ha := h a (List.mem_cons_self ..)
    constructor
    · rw [List.cons_append, List.takeWhile_cons, ha, this.1]; rfl
    · rw [List.cons_append, List.dropWhile_cons, ha, this.2]; rfl
theorem ok_read_number {tM : Tok} (F : FnP K "read_number" "ValueReader.read_number" sValuereaderReadNumber f fd) (T : Cl K mg C CW) (hlen : mg "len" = none) (hint : mg "int" = none) (habs : mg "abs" = none) (hM : mg "MOST_NUMBER" = some (.int (10 ^ 30) tM)) (cS : CalM P w K mg base 1 C "skip" ["self", "form"] (spSkip C)) :
    FnG P w K mg base 2 f fd ["self"] (spRd C CW rdNum isInt) := by
  refine fnG_of F scValuereaderReadNumber (fun vs H Q E h => ?_) (fun cdv A outer s H vs Q E B h => ?_)
  · obtain ⟨p, S, l, rfl, _⟩ := h; rfl
  obtain ⟨p, S, l, rfl, R, h1, h2⟩ := h
  have ⟨⟨dx, k, hp, hd, hk⟩, hsz⟩ := R
  obtain ⟨cl, nS, nA, ex⟩ := T
  -- behind the sign
  have main : ∀ (neg : Bool) (l1 : L) (H1 : Hp), l = (if neg then 45 :: l1 else l1) → (neg = false → l1.head? ≠ some 45) → Keep p H H1 → RdAt C H1 p S l1 → RSs (cxOf (CX P w) P w K mg base ["self", "start", "digits", "bare"] "ValueReader.read_number" (defScope sValuereaderReadNumber) f cdv A outer s H E) (afterW sValuereaderReadNumber 2) { nx := fun _ H' => Q .non H', rt := Q } [some (.ref p), some (.int k), none, none] H1 := by
    intro neg l1 H1 el hneg k1 R1
    have hl1 := R1.len
    have hne : ∀ c, isDig c = true → c ≠ 45 := fun c h z => by subst z; cases h
    refine rss_cons (rs_while B.toBd (wNum C p S H1 l1 (.int k)) ⟨_, [], l1, none, none, rfl, rfl, R1, Keep.refl, rfl, fun c h => nomatch h⟩ ?_)
    rintro n σ H2 ⟨ds, l2, u1, u2, rfl, rfl, R2, k2, el1, hds⟩
    obtain ⟨⟨dx2, j, hp2, hd2, hj⟩, _⟩ := id R2
    have hsl := str_len S
    have hkj : j = k + (if neg then 1 else 0) + ds.length := by
      have h1 := congrArg List.length hd
      have h2 := congrArg List.length hd2
      rw [List.length_drop] at h1 h2
      have h3 : l.length = (if neg then 1 else 0) + ds.length + l2.length := by
        rw [el, el1]
        cases neg <;> simp [List.length_append] <;> omega
      have h4 := congrArg List.length hd2
      omega
    have fin : l2.takeWhile isDig = [] → RSs (cxOf (CX P w) P w K mg base ["self", "start", "digits", "bare"] "ValueReader.read_number" (defScope sValuereaderReadNumber) f cdv A outer s H E) (afterW sValuereaderReadNumber 3) { nx := fun _ H' => Q .non H', rt := Q } [some (.ref p), some (.int k), u1, u2] H2 := by
      intro htw
      have htd := takeWhile_app (l := l2) hds
      have hdl2 : l2.dropWhile isDig = l2 := by
        cases l2 with
        | nil => rfl
        | cons c t =>
          rw [List.takeWhile_cons] at htw
          rw [List.dropWhile_cons]
          cases hc : isDig c with
          | false => rfl
          | true => rw [hc] at htw; cases htw
      have hrd : rdNum l = (numOf neg ds).map fun i => (i, l2) := by
        have hh : (l.head? == some 45) = neg := by
          cases neg with
          | true => rw [el]; rfl
          | false => exact beq_false_of_ne (by rw [el]; exact hneg rfl)
        have ht : (if neg then l.tail else l) = l1 := by
          cases neg with
          | true => rw [el]; rfl
          | false => exact el
        show (numOf (l.head? == some 45) ((if l.head? == some 45 then l.tail else l).takeWhile isDig)).map (fun i => (i, (if l.head? == some 45 then l.tail else l).dropWhile isDig)) = _
        rw [hh, ht, el1, htd.1, htd.2, htw, hdl2, List.append_nil]
      have hds1 : ds.length ≤ 1000000 := by rw [el1, List.length_append] at hl1; omega
      generalize hD : (if neg then 45 :: ds else ds) = D
      have hcut : cutS S (some (k : Int)) (some (j : Int)) = tOf D := tOf_of (by
        rw [cutS_any, hd, el, el1, hkj, ← hD]
        cases neg with
        | true => show ((45 :: (ds ++ l2)).take _) = _; rw [show k + (if true = true then 1 else 0) + ds.length - k = ds.length + 1 by rw [if_pos rfl]; omega, List.take_succ_cons, List.take_left']; rfl; rfl
        | false => show ((ds ++ l2).take _) = _; rw [show k + (if false = true then 1 else 0) + ds.length - k = ds.length by rw [if_neg Bool.false_ne_true]; omega, List.take_left']; rfl; rfl)
      have fin2 : RSs (cxOf (CX P w) P w K mg base ["self", "start", "digits", "bare"] "ValueReader.read_number" (defScope sValuereaderReadNumber) f cdv A outer s H E) (afterW sValuereaderReadNumber 5) { nx := fun _ H' => Q .non H', rt := Q } [some (.ref p), some (.int k), some (.str (tOf D)), some (.str (tOf ds))] H2 := by
        have hlt : (tOf ds).length = ds.length := tOf_len ds
        have nil_of : tOf ds = "" → ds = [] := fun z => by
          have := congrArg (fun s : Str => s.cps.toList) z
          rw [tOf_list] at this
          exact this
        have bad : numOf neg ds = none → ∀ H3, Keep p H2 H3 → E (.ref CW) none H3 := fun z H3 k3 => h2 (by rw [hrd, z]; rfl) H3 fun b o hb e => k3 b o hb (k2 b o hb (k1 b o hb e))
        walk_at "go"
        refine ifB_dec (fun e => ?_) (fun hnil => ?_)
        · walk_at "go"
          refine rs_raise1 B.toBd ex ?_
          walk_at "go"
          exact bad (if_pos (.inl (nil_of e))) _ Keep.refl
        have hnil : ds ≠ [] := fun z => hnil (by rw [z]; rfl)
        walk_at "go"
        refine ifB_dec (fun e => ?_) (fun h31 => ?_)
        · walk_at "go"
          refine rs_raise1 B.toBd ex ?_
          walk_at "go"
          exact bad (if_pos (.inr (.inl (by omega)))) _ Keep.refl
        have h31 : ds.length ≤ 31 := by omega
        have main2 : ¬ (ds.head? = some 48 ∧ (neg = true ∨ ds ≠ [48])) → RSs (cxOf (CX P w) P w K mg base ["self", "start", "digits", "bare"] "ValueReader.read_number" (defScope sValuereaderReadNumber) f cdv A outer s H E) (afterW sValuereaderReadNumber 6) { nx := fun _ H' => Q .non H', rt := Q } [some (.ref p), some (.int k), some (.str (tOf D)), some (.str (tOf ds))] H2 := by
          intro hz
          have had : AllDigits ds := fun c hc => by
            have := hds c hc
            simp only [isDig, Bool.and_eq_true, decide_eq_true_iff] at this
            exact this
          have hDl : (tOf D).length ≤ 32 := by rw [tOf_len, ← hD]; cases neg <;> simp <;> omega
          have hn : PySem.intText? (tOf D) = some (if neg then -((digitsVal ds : Nat) : Int) else ((digitsVal ds : Nat) : Int)) := by
            cases neg with
            | true => exact intText_neg (by rw [tOf_list, ← hD]; rfl) had hnil (by omega)
            | false =>
              have hDs : D = ds := hD.symm
              have := intText_digits (x := tOf D) (by rw [tOf_list, hDs]; exact had) (by rw [tOf_list, hDs]; exact hnil) (by omega)
              rw [tOf_list, hDs] at this
              rw [hDs]; exact this
          have hnum : numOf neg ds = (if mostN < digitsVal ds then none else some (if neg then -((digitsVal ds : Nat) : Int) else ((digitsVal ds : Nat) : Int))) := if_neg (by rintro (z | z | z); exact hnil z; omega; exact hz z)
          generalize hi : (if neg then -((digitsVal ds : Nat) : Int) else ((digitsVal ds : Nat) : Int)) = i at hn hnum
          have hab : (if i < 0 then -i else i) = ((digitsVal ds : Nat) : Int) := by
            rw [← hi]
            cases neg with
            | true => simp only [if_true]; split <;> omega
            | false => simp only [Bool.false_eq_true, if_false]; split <;> omega
          walk_at "go"
          refine uInt_str hn (by omega) ?_
          walk_at "go"
          rw [hab]
          have hm : ((10 : Int) ^ 30) = ((mostN : Nat) : Int) := by rfl
          refine ifB_dec (fun e => ?_) (fun hle => ?_)
          · walk_at "go"
            refine rs_raise1 B.toBd ex ?_
            walk_at "go"
            exact bad (by rw [hnum, if_pos (by rw [hm] at e; omega)]) _ Keep.refl
          · walk_at "go"
            refine uInt_str hn (by omega) ?_
            exact h1 i l2 (by rw [hrd, hnum, if_neg (by rw [hm] at hle; omega)]; rfl) _ H2 (fun b o hb e => k2 b o hb (k1 b o hb e)) R2 rfl
        walk_at "go"
        obtain ⟨a, r, hdr⟩ : ∃ a r, ds = a :: r := by
          cases ds with
          | nil => exact absurd rfl hnil
          | cons a r => exact ⟨a, r, rfl⟩
        refine uIx_str (szl (by omega)) (c := a) (by rw [tOf_list, hdr]; exact atI_drop (k := 0) rfl) ?_
        walk_at "go"
        refine ifB_dec (fun e => ?_) (fun h48 => ?_)
        · have ha : a = 48 := sgn_eq e
          walk_at "go"
          refine ifB_dec (fun e0 => ?_) (fun e0 => ?_)
          · refine rss_nil (main2 ?_)
            have hD0 : D = [48] := by
              have := congrArg (fun s : Str => s.cps.toList) e0
              rw [tOf_list] at this
              exact this
            rintro ⟨_, z | z⟩
            · subst z; rw [← hD] at hD0; cases hD0
            · cases neg with
              | true => rw [← hD] at hD0; cases hD0
              | false => exact z (hD.trans hD0)
          · walk_at "go"
            refine rs_raise1 B.toBd ex ?_
            walk_at "go"
            refine bad (if_pos (.inr (.inr ⟨by rw [hdr, ha]; rfl, ?_⟩))) _ Keep.refl
            cases neg with
            | true => exact .inl rfl
            | false => exact .inr fun z => e0 (by rw [← hD, z]; rfl)
        · have ha : a ≠ 48 := fun z => h48 (by rw [z]; rfl)
          refine ifB_f (rss_nil (main2 ?_))
          rintro ⟨z, _⟩
          rw [hdr] at z
          exact ha (Option.some.inj z)
      walk_at "go"
      rw [hcut]
      have hst : Txt.startswith (tOf D) "-" = neg := by
        rw [starts0, tOf_list, ← hD]
        cases neg with
        | true => rfl
        | false =>
          cases ds with
          | nil => rfl
          | cons a r => 
            have := hne a (hds a (List.mem_cons_self ..))
            show ([45].isPrefixOf (a :: r)) = false
            show ((45 : Nat) == a && ([] : L).isPrefixOf r) = false
            rw [beq_false_of_ne (Ne.symm this)]; rfl
      rw [hst]
      cases neg with
      | true =>
        walk_at "go"
        refine uSl_str (szl (by rw [tOf_len, ← hD]; show ds.length + 1 ≤ _; omega)) ?_
        have hb : cutS (tOf D) (some 1) none = tOf ds := tOf_of (by
          have := cutS_from (tOf D) 1
          rw [show ((1 : Nat) : Int) = 1 by rfl] at this
          rw [this, tOf_list, ← hD]; rfl)
        rw [hb]
        exact fin2
      | false =>
        have hDs : D = ds := hD.symm
        iterate 2 walk_at "go1"
        rw [hDs]
        rw [hDs] at fin2
        exact fin2
    walk_at "go"
    cases l2 with
    | nil =>
      refine ifB_no (decide_eq_false (by have := congrArg List.length hd2; rw [List.length_drop, List.length_nil] at this; omega)) ?_
      exact ifB_f (fin rfl)
    | cons c t =>
      have hjl : j + (t.length + 1) = S.length := by have := congrArg List.length hd2; rw [List.length_drop, List.length_cons] at this; omega
      refine ifB_yes (decide_eq_true (by omega)) ?_
      walk_at "go"
      refine uIx_str (szl (by omega)) (atI_drop hd2) ?_
      walk_at "go"
      refine uIn_sign ?_
      rw [mem_dig]
      walk_at "go"
      cases hc : isDig c with
      | false =>
        refine ifB_f (fin ?_)
        rw [List.takeWhile_cons, hc]; rfl
      | true =>
        walk_at "go"
        refine rs_fldaug ?_
        walk_at "go"
        refine ⟨p, C, dx2, fl S j, j, rfl, hp2, cl, nA, rfl, ?_⟩
        walk_at "go"
        refine ⟨1, rfl, dx2, fl S j, hp2, (by show 2 < 1000; decide), ?_⟩
        rw [fl_go (n := 1) (by omega)]
        walk_at "go"
        refine ⟨t.length, Nat.lt_succ_self _, ds ++ [c], t, u1, u2, rfl, rfl, RdAt.go (n := 1) hd2 hj hsz rfl (by simp only [List.length_cons]; omega) (dx := dx2) upd_same, fun b o hb e => (upd_ne hb).trans (k2 b o hb e), by rw [el1, List.append_assoc]; rfl, fun x hx => ?_⟩
        rcases List.mem_append.mp hx with z | z
        · exact hds x z
        · rw [List.mem_singleton.mp z]; exact hc
  walk_at "go"
  refine ⟨p, S, l, _, rfl, R, by decide, fun r e H1 k1 R1 => ?_, fun e => ?_⟩
  · have el := skip_cons_eq (a := 45) e
    walk_at "go"
    exact main true r H1 el (fun z => nomatch z) k1 R1
  · have el := skip_one_none (a := 45) e
    walk_at "go"
    exact main false l H rfl (fun _ => el) Keep.refl R
end

/-- a method that reads with a depth: f is the mirror, n how many levels may still be opened, one more -/
def spRdD {α : Type} (C CW : Addr) (n : Nat) (f : L → Option (α × L)) (R : Hp → Hp → V → α → Prop) : Sp := fun vs H Q E => ∃ p S l dep, vs = [.ref p, .int dep] ∧ dep + (n : Int) = 21 ∧ RdAt C H p S l ∧
  (∀ a r, f l = some (a, r) → ∀ v H', Keep p H H' → RdAt C H' p S r → R H H' v a → Q v H') ∧ (f l = none → ∀ H', Keep p H H' → E (.ref CW) none H')
abbrev isDat : Hp → Hp → V → PyData → Prop := fun H H' v d => DqP (fun a => H a = none) H' v d
def listF (n : Nat) (l : L) : Option (PyData × L) := match skip [93] l with
  | some r2 => some (.list [], r2)
  | none => (rdL (rd n) (l.length + 1) l).map fun p => (.list p.1, p.2)
def recF (n : Nat) (l : L) : Option (PyData × L) := match skip [125] l with
  | some r2 => some (.dict [], r2)
  | none => (rdF (rd n) (l.length + 1) [] l).map fun p => (.dict (p.1.map toKv), p.2)
/-- the rest of a list, behind a value -/
def restL (n m : Nat) (l : L) : Option (List PyData × L) := match skip [44] l with
  | some l2 => rdL (rd n) m l2
  | none => (skip [93] l).map fun r => ([], r)
theorem rdL_step (n m : Nat) (l : L) : rdL (rd n) (m + 1) l = (match rd n l with | none => none | some (d, l1) => (restL n m l1).map fun p => (d :: p.1, p.2)) := by
  simp only [rdL]
  cases rd n l with
  | none => rfl
  | some q =>
    obtain ⟨d, l1⟩ := q
    simp only [restL]
    cases skip [44] l1 with
    | none => simp only []; cases skip [93] l1 <;> rfl
    | some l2 => rfl
/-- the rest of a record, behind a field -/
def restF (n m : Nat) (seen : List L) (l : L) : Option (List (L × PyData) × L) := match skip [44] l with
  | some l2 => rdF (rd n) m seen l2
  | none => (skip [125] l).map fun r => ([], r)
theorem rdF_step (n m : Nat) (seen : List L) (l : L) : rdF (rd n) (m + 1) seen l = (match rdF1 (rd n) seen l with | none => none | some (k, d, l1) => (restF n m (seen ++ [k]) l1).map fun p => ((k, d) :: p.1, p.2)) := by
  simp only [rdF]
  cases rdF1 (rd n) seen l with
  | none => rfl
  | some q =>
    obtain ⟨k, d, l1⟩ := q
    simp only [restF]
    cases skip [44] l1 with
    | none => simp only []; cases skip [125] l1 <;> rfl
    | some l2 => rfl
def preL (ds : List PyData) : List PyData × L → PyData × L := fun p => (.list (ds ++ p.1), p.2)
theorem preL_step (ds : List PyData) (d : PyData) (o : Option (List PyData × L)) : (o.map fun p => (d :: p.1, p.2)).map (preL ds) = o.map (preL (ds ++ [d])) := by
  cases o with
  | none => rfl
  | some q => simp [preL]
section
variable {P : Program} {w : World} {K : PySem.W.Frag} {mg : Str → Option Value} {base : Heap} {f C CW : Addr} {fd : FuncData}
/-- what the loop of read_list has done -/
def wList (C p m : Addr) (S : Str) (H0 : Hp) (nn : Nat) (l0 : L) (dv : V) : Nat → St → Hp → Prop := fun n σ H => ∃ (vs : List V) (ds : List PyData) (l : L) (fu : Nat), n = l.length ∧ l.length ≤ fu ∧ σ = [some (.ref p), some dv, some (.ref m)] ∧ RdAt C H p S l ∧ H m = some (.lst vs) ∧ DqAllP (fun a => H0 a = none ∧ a ≠ m) H vs ds ∧ (∀ b o, b ≠ p → b ≠ m → H0 b = some o → H b = some o) ∧
  listF nn l0 = (restL nn fu l).map (preL ds) ∧ vs.length + l.length ≤ 1000000
theorem ok_read_list {n : Nat} (F : FnP K "read_list" "ValueReader.read_list" sValuereaderReadList f fd) (T : Cl K mg C CW) (cS : CalM P w K mg base 1 C "skip" ["self", "form"] (spSkip C)) (cN : CalM P w K mg base 2 C "need" ["self", "form"] (spNeed C CW))
    (cV : CalM P w K mg base (3 * n + 4) C "read_value" ["self", "depth"] (spRdD C CW n (rd n) isDat)) :
    FnG P w K mg base (3 * n + 5) f fd ["self", "depth"] (spRdD C CW (n + 1) (listF n) isDat) := by
  refine fnG_of F scValuereaderReadList (fun vs H Q E h => ?_) (fun cdv A outer s H vs Q E B h => ?_)
  · obtain ⟨p, S, l, dep, rfl, _⟩ := h; rfl
  obtain ⟨p, S, l, dep, rfl, hdep, R, h1, h2⟩ := h
  have ⟨⟨dx, k, hp, hd, hk⟩, hsz⟩ := R
  obtain ⟨cl, nS, nA, ex⟩ := T
  walk_at "go"
  refine ⟨by decide, fun m hm => ?_⟩
  have npm : m ≠ p := fun z => by rw [z, hp] at hm; cases hm
  have hout : ∀ H2 : Hp, (∀ b o, b ≠ p → b ≠ m → H b = some o → H2 b = some o) → Keep p H H2 := fun H2 kk b o hb e => kk b o hb (fun z => by rw [z, hm] at e; cases e) e
  walk_at "go"
  refine ⟨p, S, l, _, rfl, R.same (Same.new hm), by decide, fun r e H1 k1 R1 => ?_, fun e => ?_⟩
  · walk_at "go"
    refine h1 (.list []) r (by unfold listF; rw [show skip [93] l = some r from e]) _ H1 (hout H1 fun b o hb hbm e => k1 b o hb ((upd_ne hbm).trans e)) R1 ?_
    exact DqP.lst (F := fun _ => False) (k1 m _ npm upd_same) .nil id (fun _ z => z.elim) hm
  have hne : skip [93] l = none := e
  have hlF : listF n l = (rdL (rd n) (l.length + 1) l).map fun p => (.list p.1, p.2) := by unfold listF; rw [hne]
  have hl0 := R.len
  -- the first value
  walk_at "go"
  refine ⟨p, S, l, dep + 1, rfl, by omega, R.same (Same.new hm), fun d r e H3' H3 k3 R3 D3 => ?_, fun e H3 k3 => ?_⟩
  case refine_2 => exact h2 (by rw [hlF, rdL_step, e]; rfl) H3 (hout H3 fun b o hb hbm e => k3 b o hb ((upd_ne hbm).trans e))
  have hm3 := k3 m _ npm upd_same
  have hr := rd_len e
  walk_at "go"
  have kbase : ∀ b o, b ≠ p → b ≠ m → H b = some o → upd H3 m (.lst ([] ++ [H3'])) b = some o := fun b o hb hbm e => (upd_ne hbm).trans (k3 b o hb ((upd_ne hbm).trans e))
  have hF3 : ∀ a, upd H m (.lst []) a = none → H a = none ∧ a ≠ m := fun a ha => by
    have : a ≠ m := fun z => by rw [z, upd_same] at ha; cases ha
    exact ⟨by rwa [upd_ne this] at ha, this⟩
  refine rss_cons (rs_while B.toBd (wList C p m S H n l (.int dep)) ⟨_, [] ++ [H3'], [] ++ [d], r, l.length, rfl, by omega, rfl, R3.keep Keep.upd (Ne.symm npm), upd_same, ?_, kbase, ?_, ?_⟩ ?_)
  · exact DqAllP.keep (DqAllP.snoc .nil (D3.imp hF3)) fun a o ha e => (upd_ne ha.2).trans e
  · rw [hlF, rdL_step, e]
    simp only []
    cases restL n l.length r <;> rfl
  · simp only [List.nil_append, List.length_singleton]; omega
  rintro nn σ H4 ⟨vs, ds, l2, fu, rfl, hfu, rfl, R4, hm4, D4, k4, e4, hlen4⟩
  obtain ⟨⟨dx2, j, hp4, hd4, hj4⟩, _⟩ := id R4
  have hnp : ∀ a, H a = none → a ≠ p := fun a ha z => by rw [z, hp] at ha; cases ha
  walk_at "go"
  refine ⟨p, S, l2, _, rfl, R4, by decide, fun r5 e5 H5 k5 R5 => ?_, fun e5 => ?_⟩
  · have hm5 := k5 m _ npm hm4
    have e5 : skip [44] l2 = some r5 := e5
    have hl2 : l2 = 44 :: r5 := skip_some e5
    obtain ⟨⟨dx5, j5, hp5, hd5, hj5⟩, _⟩ := id R5
    obtain ⟨fu', rfl⟩ : ∃ fu', fu = fu' + 1 := ⟨fu - 1, by rw [hl2, List.length_cons] at hfu; omega⟩
    have hrl : restL n (fu' + 1) l2 = rdL (rd n) (fu' + 1) r5 := by unfold restL; rw [e5]
    walk_at "go"
    refine ⟨p, S, r5, dep + 1, rfl, by omega, R5, fun d6 r6 e6 v6 H6 k6 R6 D6 => ?_, fun e6 H6 k6 => ?_⟩
    case refine_2 => exact h2 (by rw [e4, hrl, rdL_step, e6]; rfl) H6 (hout H6 fun b o hb hbm e => k6 b o hb (k5 b o hb (k4 b o hb hbm e)))
    have hm6 := k6 m _ npm hm5
    have hr6 := rd_len e6
    have hl2l : l2.length = r5.length + 1 := by rw [hl2]; rfl
    walk_at "go"
    refine ⟨_, by omega, vs ++ [v6], ds ++ [d6], r6, fu', rfl, by omega, rfl, R6.keep Keep.upd (Ne.symm npm), upd_same, ?_, fun b o hb hbm e => (upd_ne hbm).trans (k6 b o hb (k5 b o hb (k4 b o hb hbm e))), ?_, ?_⟩
    · refine DqAllP.keep (DqAllP.snoc (D4.keep fun a o ha e => k6 a o (hnp a ha.1) (k5 a o (hnp a ha.1) e)) (D6.imp fun a ha => ?_)) fun a o ha e => (upd_ne ha.2).trans e
      have h1 : a ≠ m := fun z => by rw [z, hm5] at ha; cases ha
      have h2 : a ≠ p := fun z => by rw [z, hp5] at ha; cases ha
      refine ⟨?_, h1⟩
      cases hh : H a with
      | none => rfl
      | some o => rw [k5 a o h2 (k4 a o h2 h1 hh)] at ha; cases ha
    · rw [e4, hrl, rdL_step, e6]
      simp only []
      rw [preL_step]
    · rw [List.length_append, List.length_singleton]; omega
  · have e5 : skip [44] l2 = none := e5
    have hrl : restL n fu l2 = (skip [93] l2).map fun r => ([], r) := by unfold restL; rw [e5]
    walk_at "go"
    refine ⟨p, S, l2, _, rfl, R4, by decide, fun r7 e7 H7 k7 R7 => ?_, fun e7 H7 k7 => ?_⟩
    · have e7 : skip [93] l2 = some r7 := e7
      walk_at "go"
      refine h1 (.list ds) r7 (by rw [e4, hrl, e7]; simp [preL]) _ H7 (hout H7 fun b o hb hbm e => k7 b o hb (k4 b o hb hbm e)) R7 ?_
      exact DqP.lst (k7 m _ npm hm4) (D4.keep fun a o ha e => k7 a o (hnp a ha.1) e) (fun z => z.2 rfl) (fun _ z => z.1) hm
    · have e7 : skip [93] l2 = none := e7
      exact h2 (by rw [e4, hrl, e7]; rfl) H7 (hout H7 fun b o hb hbm e => k7 b o hb (k4 b o hb hbm e))
end

theorem tOf_inj {a b : L} (h : tOf a = tOf b) : a = b := by rw [← tOf_list a, ← tOf_list b, h]
theorem keys_some (k : L) : ∀ (kvs : List (Key × V)) (seen : List L), kvs.map (·.1) = seen.map (fun x => (.inr (tOf x) : Key)) → (valV kvs (.inr (tOf k))).isSome = decide (k ∈ seen)
  | [], [], _ => rfl
  | [], _ :: _, h => by cases h
  | _ :: _, [], h => by cases h
  | (x, v) :: r, y :: s, h => by
    injection h with h1 h2
    have h1 : x = .inr (tOf y) := h1
    subst h1
    have ih := keys_some k r s h2
    by_cases e : y = k
    · subst e
      rw [valV_pos rfl]
      exact (decide_eq_true List.mem_cons_self).symm
    · rw [valV_neg (fun z => e (tOf_inj (Sum.inr.inj z))), ih]
      by_cases hm : k ∈ s
      · rw [decide_eq_true hm, decide_eq_true (List.mem_cons_of_mem _ hm)]
      · rw [decide_eq_false hm, decide_eq_false (fun z => (List.mem_cons.mp z).elim (fun q => e q.symm) hm)]
/-- outside of the reader and of one more -/
def Keep2 (p m : Addr) (H H' : Hp) : Prop := ∀ b o, b ≠ p → b ≠ m → H b = some o → H' b = some o
def spField (C CW : Addr) (n : Nat) : Sp := fun vs H Q E => ∃ p S l m dep kvs seen, vs = [.ref p, .ref m, .int dep] ∧ dep + (n : Int) + 1 = 21 ∧ RdAt C H p S l ∧ H m = some (.dK kvs) ∧ m ≠ p ∧ kvs.map (·.1) = seen.map (fun x => (.inr (tOf x) : Key)) ∧ kvs.length ≤ 1000000 ∧
  (∀ k d r, rdF1 (rd n) seen l = some (k, d, r) → ∀ v H', Keep2 p m H H' → RdAt C H' p S r → H' m = some (.dK (kvs ++ [(.inr (tOf k), v)])) → DqP (fun a => H a = none) H' v d → Q .non H') ∧ (rdF1 (rd n) seen l = none → ∀ H', Keep2 p m H H' → E (.ref CW) none H')
section
variable {P : Program} {w : World} {K : PySem.W.Frag} {mg : Str → Option Value} {base : Heap} {f C CW : Addr} {fd : FuncData}
theorem ok_read_field {n : Nat} (F : FnP K "read_field" "ValueReader.read_field" sValuereaderReadField f fd) (T : Cl K mg C CW) (cN : CalM P w K mg base 2 C "need" ["self", "form"] (spNeed C CW)) (cT : CalM P w K mg base 3 C "read_text" ["self"] (spRd C CW rdText isTxt))
    (cV : CalM P w K mg base (3 * n + 4) C "read_value" ["self", "depth"] (spRdD C CW n (rd n) isDat)) :
    FnG P w K mg base (3 * n + 5) f fd ["self", "fields", "depth"] (spField C CW n) := by
  refine fnG_of F scValuereaderReadField (fun vs H Q E h => ?_) (fun cdv A outer s H vs Q E B h => ?_)
  · obtain ⟨p, S, l, m, dep, kvs, seen, rfl, _⟩ := h; rfl
  obtain ⟨p, S, l, m, dep, kvs, seen, rfl, hdep, R, hm, npm, hks, hlen, h1, h2⟩ := h
  have ⟨⟨dx, k, hp, hd, hk⟩, hsz⟩ := R
  obtain ⟨cl, nS, nA, ex⟩ := T
  walk_at "go"
  refine ⟨p, S, l, rfl, R, fun a r e v H1 k1 R1 ev => ?_, fun e H1 k1 => ?_⟩
  case refine_2 => exact h2 (by unfold rdF1; rw [e]) H1 fun b o hb _ e => k1 b o hb e
  subst ev
  have hm1 := k1 m _ npm hm
  obtain ⟨⟨dx1, j1, hp1, _, _⟩, _⟩ := id R1
  walk_at "go"
  refine uIn_dict (DGet.k (k := .inr (tOf a)) hm1) ?_
  rw [keys_some a kvs seen hks]
  walk_at "go"
  refine ifB_dec (fun hmem => ?_) (fun hmem => ?_)
  · walk_at "go"
    refine rs_raise1 B.toBd ex ?_
    walk_at "go"
    refine h2 ?_ H1 fun b o hb _ e => k1 b o hb e
    unfold rdF1
    rw [e]
    exact if_pos hmem
  walk_at "go"
  refine ⟨p, S, r, _, rfl, R1, by decide, fun r2 e2 H2 k2 R2 => ?_, fun e2 H2 k2 => ?_⟩
  case refine_2 =>
    refine h2 ?_ H2 fun b o hb _ e => k2 b o hb (k1 b o hb e)
    have e2 : skip [58] r = none := e2
    unfold rdF1
    rw [e]
    simp only [if_neg hmem, e2]
  have e2 : skip [58] r = some r2 := e2
  have hm2 := k2 m _ npm hm1
  obtain ⟨⟨dx2, j2, hp2, _, _⟩, _⟩ := id R2
  have hF : rdF1 (rd n) seen l = (rd n r2).map fun p => (a, p.1, p.2) := by
    unfold rdF1
    rw [e]
    simp only [if_neg hmem, e2]
  walk_at "go"
  refine ⟨p, S, r2, dep + 1, rfl, by omega, R2, fun d r3 e3 v H3 k3 R3 D3 => ?_, fun e3 H3 k3 => ?_⟩
  case refine_2 => exact h2 (by rw [hF, e3]; rfl) H3 fun b o hb _ e => k3 b o hb (k2 b o hb (k1 b o hb e))
  have hm3 := k3 m _ npm hm2
  walk_at "go"
  refine uPut_s hm3 (szlt (by omega)) ?_
  have hput : putK kvs (.inr (tOf a)) v = kvs ++ [(.inr (tOf a), v)] := putK_new v (by
    have := keys_some a kvs seen hks
    rw [decide_eq_false hmem] at this
    cases hh : valV kvs (.inr (tOf a)) with
    | none => rfl
    | some o => rw [hh] at this; cases this)
  rw [hput]
  walk_at "go"
  refine h1 a d r3 (by rw [hF, e3]; rfl) v _ (fun b o hb hbm e => (upd_ne hbm).trans (k3 b o hb (k2 b o hb (k1 b o hb e)))) (R3.keep Keep.upd (Ne.symm npm)) upd_same ?_
  refine DqP.keep (D3.imp fun x hx => ?_) (fun x o hx e => (upd_ne hx.2).trans e) (F := fun x => H x = none ∧ x ≠ m) |>.imp fun x hx => hx.1
  have a1 : x ≠ m := fun z => by rw [z, hm2] at hx; cases hx
  have a2 : x ≠ p := fun z => by rw [z, hp2] at hx; cases hx
  exact ⟨Keep.back k1 a2 (Keep.back k2 a2 hx), a1⟩
def preF (ks : List (L × PyData)) : List (L × PyData) × L → PyData × L := fun p => (.dict ((ks ++ p.1).map toKv), p.2)
theorem preF_step (ks : List (L × PyData)) (k : L) (d : PyData) (o : Option (List (L × PyData) × L)) : (o.map fun p => ((k, d) :: p.1, p.2)).map (preF ks) = o.map (preF (ks ++ [(k, d)])) := by
  cases o with
  | none => rfl
  | some q => simp [preF]
def wRec (C p m : Addr) (S : Str) (H0 : Hp) (nn : Nat) (l0 : L) (dv : V) : Nat → St → Hp → Prop := fun n σ H => ∃ (kvs : List (Key × V)) (ks : List (L × PyData)) (l : L) (fu : Nat), n = l.length ∧ l.length ≤ fu ∧ σ = [some (.ref p), some dv, some (.ref m)] ∧ RdAt C H p S l ∧ H m = some (.dK kvs) ∧ DqKvP (fun a => H0 a = none ∧ a ≠ m) H kvs (ks.map toKv) ∧ Keep2 p m H0 H ∧
  kvs.map (·.1) = (ks.map (·.1)).map (fun x => (.inr (tOf x) : Key)) ∧ recF nn l0 = (restF nn fu (ks.map (·.1)) l).map (preF ks) ∧ kvs.length + l.length ≤ 1000000
theorem ok_read_record {n : Nat} (F : FnP K "read_record" "ValueReader.read_record" sValuereaderReadRecord f fd) (T : Cl K mg C CW) (cS : CalM P w K mg base 1 C "skip" ["self", "form"] (spSkip C)) (cN : CalM P w K mg base 2 C "need" ["self", "form"] (spNeed C CW))
    (cV : CalM P w K mg base (3 * n + 5) C "read_field" ["self", "fields", "depth"] (spField C CW n)) :
    FnG P w K mg base (3 * n + 6) f fd ["self", "depth"] (spRdD C CW (n + 1) (recF n) isDat) := by
  refine fnG_of F scValuereaderReadRecord (fun vs H Q E h => ?_) (fun cdv A outer s H vs Q E B h => ?_)
  · obtain ⟨p, S, l, dep, rfl, _⟩ := h; rfl
  obtain ⟨p, S, l, dep, rfl, hdep, R, h1, h2⟩ := h
  have ⟨⟨dx, k, hp, hd, hk⟩, hsz⟩ := R
  obtain ⟨cl, nS, nA, ex⟩ := T
  walk_at "go"
  intro m hm
  have npm : m ≠ p := fun z => by rw [z, hp] at hm; cases hm
  have hout : ∀ H2 : Hp, Keep2 p m H H2 → Keep p H H2 := fun H2 kk b o hb e => kk b o hb (fun z => by rw [z, hm] at e; cases e) e
  have hnp : ∀ a, H a = none → a ≠ p := fun a ha z => by rw [z, hp] at ha; cases ha
  walk_at "go"
  refine ⟨p, S, l, _, rfl, R.same (Same.new hm), by decide, fun r e H1 k1 R1 => ?_, fun e => ?_⟩
  · walk_at "go"
    refine h1 (.dict []) r (by unfold recF; rw [show skip [125] l = some r from e]) _ H1 (hout H1 fun b o hb hbm e => k1 b o hb ((upd_ne hbm).trans e)) R1 ?_
    exact DqP.dic (F := fun _ => False) (k1 m _ npm upd_same) .nil id (fun _ z => z.elim) hm
  have hne : skip [125] l = none := e
  have hlF : recF n l = (rdF (rd n) (l.length + 1) [] l).map fun p => (.dict (p.1.map toKv), p.2) := by unfold recF; rw [hne]
  have hl0 := R.len
  have hk0 : Keep2 p m H (upd H m (.dK [])) := fun b o hb hbm e => (upd_ne hbm).trans e
  walk_at "go"
  refine ⟨p, S, l, m, dep, [], [], rfl, by omega, R.same (Same.new hm), upd_same, npm, rfl, by decide, fun kk d r e v H3 k3 R3 hm3 D3 => ?_, fun e H3 k3 => ?_⟩
  case refine_2 => exact h2 (by rw [hlF, rdF_step, e]; rfl) H3 (hout H3 fun b o hb hbm e => k3 b o hb hbm (hk0 b o hb hbm e))
  have hr := rdF1_len e
  have hF3 : ∀ a, upd H m (.dK []) a = none → H a = none ∧ a ≠ m := fun a ha => by
    have : a ≠ m := fun z => by rw [z, upd_same] at ha; cases ha
    exact ⟨by rwa [upd_ne this] at ha, this⟩
  walk_at "go"
  refine rss_cons (rs_while B.toBd (wRec C p m S H n l (.int dep)) ⟨_, [] ++ [(.inr (tOf kk), v)], [] ++ [(kk, d)], r, l.length, rfl, by omega, rfl, R3, hm3, ?_, fun b o hb hbm e => k3 b o hb hbm (hk0 b o hb hbm e), rfl, ?_, ?_⟩ ?_)
  · exact DqKvP.snoc .nil (D3.imp hF3)
  · rw [hlF, rdF_step, e]
    simp only []
    show _ = (restF n l.length ([] ++ [kk]) r).map _
    cases restF n l.length ([] ++ [kk]) r <;> rfl
  · simp only [List.nil_append, List.length_singleton]; omega
  rintro nn σ H4 ⟨kvs, ks, l2, fu, rfl, hfu, rfl, R4, hm4, D4, k4, hks4, e4, hlen4⟩
  obtain ⟨⟨dx2, j, hp4, hd4, hj4⟩, _⟩ := id R4
  walk_at "go"
  refine ⟨p, S, l2, _, rfl, R4, by decide, fun r5 e5 H5 k5 R5 => ?_, fun e5 => ?_⟩
  · have hm5 := k5 m _ npm hm4
    have e5 : skip [44] l2 = some r5 := e5
    have hl2 : l2 = 44 :: r5 := skip_some e5
    have hl2l : l2.length = r5.length + 1 := by rw [hl2]; rfl
    obtain ⟨⟨dx5, j5, hp5, hd5, hj5⟩, _⟩ := id R5
    obtain ⟨fu', rfl⟩ : ∃ fu', fu = fu' + 1 := ⟨fu - 1, by omega⟩
    have hrl : restF n (fu' + 1) (ks.map (·.1)) l2 = rdF (rd n) (fu' + 1) (ks.map (·.1)) r5 := by unfold restF; rw [e5]
    walk_at "go"
    refine ⟨p, S, r5, m, dep, kvs, ks.map (·.1), rfl, by omega, R5, hm5, npm, hks4, by omega, fun k6 d6 r6 e6 v6 H6 kp6 R6 hm6 D6 => ?_, fun e6 H6 k6 => ?_⟩
    case refine_2 => exact h2 (by rw [e4, hrl, rdF_step, e6]; rfl) H6 (hout H6 fun b o hb hbm e => k6 b o hb hbm (k5 b o hb (k4 b o hb hbm e)))
    have hr6 := rdF1_len e6
    walk_at "go"
    refine ⟨_, by omega, kvs ++ [(.inr (tOf k6), v6)], ks ++ [(k6, d6)], r6, fu', rfl, by omega, rfl, R6, hm6, ?_, fun b o hb hbm e => kp6 b o hb hbm (k5 b o hb (k4 b o hb hbm e)), ?_, ?_, ?_⟩
    · rw [List.map_append]
      refine DqKvP.snoc (D4.keep fun a o ha e => kp6 a o (hnp a ha.1) ha.2 (k5 a o (hnp a ha.1) e)) (D6.imp fun a ha => ?_)
      have h1 : a ≠ m := fun z => by rw [z, hm5] at ha; cases ha
      have h2 : a ≠ p := fun z => by rw [z, hp5] at ha; cases ha
      refine ⟨?_, h1⟩
      cases hh : H a with
      | none => rfl
      | some o => rw [k5 a o h2 (k4 a o h2 h1 hh)] at ha; cases ha
    · rw [List.map_append, List.map_append, List.map_append, hks4]; rfl
    · rw [e4, hrl, rdF_step, e6]
      simp only []
      rw [preF_step, List.map_append]; rfl
    · rw [List.length_append, List.length_singleton]; omega
  · have e5 : skip [44] l2 = none := e5
    have hrl : restF n fu (ks.map (·.1)) l2 = (skip [125] l2).map fun r => ([], r) := by unfold restF; rw [e5]
    walk_at "go"
    refine ⟨p, S, l2, _, rfl, R4, by decide, fun r7 e7 H7 k7 R7 => ?_, fun e7 H7 k7 => ?_⟩
    · have e7 : skip [125] l2 = some r7 := e7
      walk_at "go"
      refine h1 (.dict (ks.map toKv)) r7 (by rw [e4, hrl, e7]; simp [preF]) _ H7 (hout H7 fun b o hb hbm e => k7 b o hb (k4 b o hb hbm e)) R7 ?_
      exact DqP.dic (k7 m _ npm hm4) (D4.keep fun a o ha e => k7 a o (hnp a ha.1) e) (fun z => z.2 rfl) (fun _ z => z.1) hm
    · have e7 : skip [125] l2 = none := e7
      exact h2 (by rw [e4, hrl, e7]; rfl) H7 (hout H7 fun b o hb hbm e => k7 b o hb (k4 b o hb hbm e))
end

section
variable {P : Program} {w : World} {K : PySem.W.Frag} {mg : Str → Option Value} {base : Heap} {f C CW : Addr} {fd : FuncData}
theorem str1_quote {S : Str} {k : Nat} {l : L} (hd : S.cps.toList.drop k = l) : (cutS S (some (k : Int)) (some ((k : Int) + 1)) = "\"") ↔ l.head? = some 34 := by
  have h := cutS_one (S := S) (k := k)
  rw [hd] at h
  constructor
  · intro e
    rw [e] at h
    cases l with
    | nil => exact absurd h (by decide +kernel)
    | cons c t =>
      have : [34] = [c] := h
      injection this with e _
      rw [← e]; rfl
  · intro e
    cases l with
    | nil => cases e
    | cons c t =>
      have : c = 34 := Option.some.inj e
      subst this
      exact str_ext h
/-- the body of read_value, given the methods it calls (j: one less than its own level) -/
theorem body_read_value {n j : Nat} {tD : Tok} (F : FnP K "read_value" "ValueReader.read_value" sValuereaderReadValue f fd) (T : Cl K mg C CW) (hM : mg "MOST_DEPTH" = some (.int 20 tD)) (hj : 3 ≤ j) (cS : CalM P w K mg base 1 C "skip" ["self", "form"] (spSkip C)) (cT : CalM P w K mg base 3 C "read_text" ["self"] (spRd C CW rdText isTxt)) (cU : CalM P w K mg base 2 C "read_number" ["self"] (spRd C CW rdNum isInt))
    (hL : ∀ m, n = m + 1 → ∃ i, i ≤ j ∧ CalM P w K mg base i C "read_list" ["self", "depth"] (spRdD C CW (m + 1) (listF m) isDat)) (hR : ∀ m, n = m + 1 → ∃ i, i ≤ j ∧ CalM P w K mg base i C "read_record" ["self", "depth"] (spRdD C CW (m + 1) (recF m) isDat)) :
    FnG P w K mg base (j + 1) f fd ["self", "depth"] (spRdD C CW n (rd n) isDat) := by
  refine fnG_of F scValuereaderReadValue (fun vs H Q E h => ?_) (fun cdv A outer s H vs Q E B h => ?_)
  · obtain ⟨p, S, l, dep, rfl, _⟩ := h; rfl
  obtain ⟨p, S, l, dep, rfl, hdep, R, h1, h2⟩ := h
  have ⟨⟨dx, k, hp, hd, hk⟩, hsz⟩ := R
  obtain ⟨cl, nS, nA, ex⟩ := T
  walk_at "go"
  refine ifB_dec (fun hdeep => ?_) (fun hdeep => ?_)
  · walk_at "go"
    refine rs_raise1 B.toBd ex ?_
    walk_at "go"
    have : n = 0 := by omega
    subst this
    exact h2 rfl H Keep.refl
  obtain ⟨m, rfl⟩ : ∃ m, n = m + 1 := ⟨n - 1, by omega⟩
  obtain ⟨iL, hiL, cL⟩ := hL m rfl
  obtain ⟨iR, hiR, cR⟩ := hR m rfl
  walk_at "go"
  refine ⟨p, S, l, _, rfl, R, by decide, fun r e H1 k1 R1 => ?_, fun eN => ?_⟩
  · have e : skip nullL l = some r := e
    walk_at "go"
    exact h1 .none r (by simp only [rd, e]) _ H1 k1 R1 .non
  have eN : skip nullL l = none := eN
  walk_at "go"
  refine ⟨p, S, l, _, rfl, R, by decide, fun r e H1 k1 R1 => ?_, fun eT => ?_⟩
  · have e : skip trueL l = some r := e
    walk_at "go"
    exact h1 (.bool true) r (by simp only [rd, eN, e]) _ H1 k1 R1 (.bl true)
  have eT : skip trueL l = none := eT
  walk_at "go"
  refine ⟨p, S, l, _, rfl, R, by decide, fun r e H1 k1 R1 => ?_, fun eF => ?_⟩
  · have e : skip falseL l = some r := e
    walk_at "go"
    exact h1 (.bool false) r (by simp only [rd, eN, eT, e]) _ H1 k1 R1 (.bl false)
  have eF : skip falseL l = none := eF
  have back : ∀ {H1 H2 : Hp} {v : V} {d : PyData}, Keep p H H1 → (∃ o, H1 p = some o) → DqP (fun a => H1 a = none) H2 v d → DqP (fun a => H a = none) H2 v d := fun {H1 H2 v d} k1 ⟨o, ho⟩ D => D.imp fun a ha => Keep.back k1 (fun z => by rw [z, ho] at ha; cases ha) ha
  walk_at "go"
  refine ⟨p, S, l, _, rfl, R, by decide, fun r e H1 k1 R1 => ?_, fun eL => ?_⟩
  · have e : skip [91] l = some r := e
    have hrd : rd (m + 1) l = listF m r := by (simp only [rd, eN, eT, eF, e, listF]; try rfl)
    obtain ⟨⟨dx1, j1, hp1, _, _⟩, _⟩ := id R1
    walk_at "go"
    refine ⟨p, S, r, dep, rfl, by omega, R1, fun d r2 e2 v H2 k2 R2 D => ?_, fun e2 H2 k2 => ?_⟩
    · exact h1 d r2 (hrd.trans e2) v H2 (Keep.trans k1 k2) R2 (back k1 ⟨_, hp1⟩ D)
    · exact h2 (hrd.trans e2) H2 (Keep.trans k1 k2)
  have eL : skip [91] l = none := eL
  walk_at "go"
  refine ⟨p, S, l, _, rfl, R, by decide, fun r e H1 k1 R1 => ?_, fun eR => ?_⟩
  · have e : skip [123] l = some r := e
    have hrd : rd (m + 1) l = recF m r := by (simp only [rd, eN, eT, eF, eL, e, recF]; try rfl)
    obtain ⟨⟨dx1, j1, hp1, _, _⟩, _⟩ := id R1
    walk_at "go"
    refine ⟨p, S, r, dep, rfl, by omega, R1, fun d r2 e2 v H2 k2 R2 D => ?_, fun e2 H2 k2 => ?_⟩
    · exact h1 d r2 (hrd.trans e2) v H2 (Keep.trans k1 k2) R2 (back k1 ⟨_, hp1⟩ D)
    · exact h2 (hrd.trans e2) H2 (Keep.trans k1 k2)
  have eR : skip [123] l = none := eR
  walk_at "go"
  refine ifB_dec (fun hq => ?_) (fun hq => ?_)
  · have hrd : rd (m + 1) l = (rdText l).map fun p => (.str (tOf p.1), p.2) := by simp only [rd, eN, eT, eF, eL, eR, if_pos ((str1_quote hd).mp hq)]
    walk_at "go"
    refine ⟨p, S, l, rfl, R, fun a r2 e2 v H2 k2 R2 D => ?_, fun e2 H2 k2 => ?_⟩
    · subst D
      exact h1 _ r2 (by rw [hrd, e2]; rfl) _ H2 k2 R2 (.str _)
    · exact h2 (by rw [hrd, e2]; rfl) H2 k2
  · have hrd : rd (m + 1) l = (rdNum l).map fun p => (.int p.1, p.2) := by simp only [rd, eN, eT, eF, eL, eR, if_neg (fun z => hq ((str1_quote hd).mpr z))]
    walk_at "go"
    refine ⟨p, S, l, rfl, R, fun a r2 e2 v H2 k2 R2 D => ?_, fun e2 H2 k2 => ?_⟩
    · subst D
      exact h1 _ r2 (by rw [hrd, e2]; rfl) _ H2 k2 R2 (.int _)
    · exact h2 (by rw [hrd, e2]; rfl) H2 k2
/-- what the top has written: the reader's methods -/
structure Rdr (K : PySem.W.Frag) (mg : Str → Option Value) (C CW : Addr) : Prop where
  cl : Cl K mg C CW
  sk : MD K C "skip" "ValueReader.skip" sValuereaderSkip
  ne : MD K C "need" "ValueReader.need" sValuereaderNeed
  tx : MD K C "read_text" "ValueReader.read_text" sValuereaderReadText
  nu : MD K C "read_number" "ValueReader.read_number" sValuereaderReadNumber
  li : MD K C "read_list" "ValueReader.read_list" sValuereaderReadList
  fi : MD K C "read_field" "ValueReader.read_field" sValuereaderReadField
  re : MD K C "read_record" "ValueReader.read_record" sValuereaderReadRecord
  va : MD K C "read_value" "ValueReader.read_value" sValuereaderReadValue
  hlen : mg "len" = none
  hint : mg "int" = none
  habs : mg "abs" = none
  hD : ∃ t, mg "MOST_DEPTH" = some (.int 20 t)
  hN : ∃ t, mg "MOST_NUMBER" = some (.int (10 ^ 30) t)
theorem cal_value (T : Rdr K mg C CW) : ∀ n, CalM P w K mg base (3 * n + 4) C "read_value" ["self", "depth"] (spRdD C CW n (rd n) isDat) := by
  obtain ⟨tD, hD⟩ := T.hD
  obtain ⟨tN, hN⟩ := T.hN
  have cS : CalM P w K mg base 1 C "skip" ["self", "form"] (spSkip C) := T.sk.cal bdValuereaderSkip fun f fd F => ok_skip F T.cl T.hlen
  have cN : CalM P w K mg base 2 C "need" ["self", "form"] (spNeed C CW) := T.ne.cal bdValuereaderNeed fun f fd F => ok_need (Wr := ()) F T.cl cS
  have cT : CalM P w K mg base 3 C "read_text" ["self"] (spRd C CW rdText isTxt) := T.tx.cal bdValuereaderReadText fun f fd F => ok_read_text F T.cl T.hlen cS cN
  have cU : CalM P w K mg base 2 C "read_number" ["self"] (spRd C CW rdNum isInt) := T.nu.cal bdValuereaderReadNumber fun f fd F => ok_read_number F T.cl T.hlen T.hint T.habs hN cS
  intro n
  induction n with
  | zero => exact T.va.cal bdValuereaderReadValue fun f fd F => body_read_value (j := 3) F T.cl hD (by omega) cS cT cU (fun m z => nomatch z) (fun m z => nomatch z)
  | succ n ih =>
    refine T.va.cal bdValuereaderReadValue fun f fd F => body_read_value (j := 3 * n + 6) F T.cl hD (by omega) cS cT cU (fun m z => ?_) (fun m z => ?_)
    · cases z
      exact ⟨3 * n + 5, by omega, T.li.cal bdValuereaderReadList fun f fd F => ok_read_list F T.cl cS cN ih⟩
    · cases z
      exact ⟨3 * n + 6, by omega, T.re.cal bdValuereaderReadRecord fun f fd F => ok_read_record F T.cl cS cN (T.fi.cal bdValuereaderReadField fun f fd F => ok_read_field F T.cl cN cT ih)⟩
end

/-- what read_call reads -/
def asCall : PyData → Option PyData
  | .list (.str name :: vals) => if name = "" then none else some (.tuple [.str name, .list vals])
  | _ => none
def readC (l : L) : Option PyData := match rd 21 l with
  | none => none
  | some (d, r) => if r = [] then asCall d else none
section
variable {F : Addr → Prop} {H : Hp} {v : V}
theorem DqP.inv_non (h : DqP F H v .none) : v = .non := by obtain ⟨as, h, _⟩ := h; cases h; rfl
theorem DqP.inv_bl {b : Bool} (h : DqP F H v (.bool b)) : v = .bl b := by obtain ⟨as, h, _⟩ := h; cases h; rfl
theorem DqP.inv_int {i : Int} (h : DqP F H v (.int i)) : v = .int i := by obtain ⟨as, h, _⟩ := h; cases h; rfl
theorem DqP.inv_str {x : Str} (h : DqP F H v (.str x)) : v = .str x := by obtain ⟨as, h, _⟩ := h; cases h; rfl
theorem DqP.inv_lst {ds : List PyData} (h : DqP F H v (.list ds)) : ∃ a vs, v = .ref a ∧ H a = some (.lst vs) ∧ F a ∧ DqAllP (fun b => F b ∧ b ≠ a) H vs ds := by
  obtain ⟨as, h, hF⟩ := h
  cases h with
  | lst h1 h2 h3 => exact ⟨_, _, rfl, h1, hF _ List.mem_cons_self, _, h2, fun b hb => ⟨hF b (List.mem_cons_of_mem _ hb), fun z => h3 (z ▸ hb)⟩⟩
theorem DqP.inv_tup {ds : List PyData} (h : DqP F H v (.tuple ds)) : ∃ a vs, v = .ref a ∧ H a = some (.tup vs) ∧ F a ∧ DqAllP (fun b => F b ∧ b ≠ a) H vs ds := by
  obtain ⟨as, h, hF⟩ := h
  cases h with
  | tup h1 h2 h3 => exact ⟨_, _, rfl, h1, hF _ List.mem_cons_self, _, h2, fun b hb => ⟨hF b (List.mem_cons_of_mem _ hb), fun z => h3 (z ▸ hb)⟩⟩
theorem DqP.inv_dic {ds : List (PyData × PyData)} (h : DqP F H v (.dict ds)) : ∃ a kvs, v = .ref a ∧ H a = some (.dK kvs) ∧ F a ∧ DqKvP (fun b => F b ∧ b ≠ a) H kvs ds := by
  obtain ⟨as, h, hF⟩ := h
  cases h with
  | dic h1 h2 h3 => exact ⟨_, _, rfl, h1, hF _ List.mem_cons_self, _, h2, fun b hb => ⟨hF b (List.mem_cons_of_mem _ hb), fun z => h3 (z ▸ hb)⟩⟩
theorem DqAllP.inv_nil {vs : List V} (h : DqAllP F H vs []) : vs = [] := by obtain ⟨as, h, _⟩ := h; cases h; rfl
theorem DqAllP.inv_cons {vs : List V} {d : PyData} {ds : List PyData} (h : DqAllP F H vs (d :: ds)) : ∃ v vs', vs = v :: vs' ∧ DqP F H v d ∧ DqAllP F H vs' ds := by
  obtain ⟨as, h, hF⟩ := h
  cases h with
  | cons h1 h2 => exact ⟨_, _, rfl, ⟨_, h1, fun a ha => hF a (List.mem_append_left _ ha)⟩, ⟨_, h2, fun a ha => hF a (List.mem_append_right _ ha)⟩⟩
theorem DqAllP.length : ∀ {ds : List PyData} {vs : List V}, DqAllP F H vs ds → vs.length = ds.length
  | [], vs, h => by rw [DqAllP.inv_nil h]; rfl
  | d :: ds, vs, h => by
    obtain ⟨v, vs', rfl, _, h2⟩ := DqAllP.inv_cons h
    rw [List.length_cons, List.length_cons, DqAllP.length h2]
theorem DqP.tup {F' : Addr → Prop} {a : Addr} {vs : List V} {ds : List PyData} (h : H a = some (.tup vs)) (h2 : DqAllP F H vs ds) (hn : ¬ F a) (hF : ∀ b, F b → F' b) (ha : F' a) : DqP F' H (.ref a) (.tuple ds) := by
  obtain ⟨as, a1, a2⟩ := h2
  exact ⟨_, .tup h a1 fun z => hn (a2 a z), fun b hb => (List.mem_cons.mp hb).elim (fun e => e ▸ ha) fun e => hF b (a2 b e)⟩
theorem DqAllP.cons {d : PyData} {vs : List V} {ds : List PyData} (h : DqP F H v d) (h2 : DqAllP F H vs ds) : DqAllP F H (v :: vs) (d :: ds) := by
  obtain ⟨as, a1, a2⟩ := h
  obtain ⟨bs, b1, b2⟩ := h2
  exact ⟨_, .cons a1 b1, fun b hb => (List.mem_append.mp hb).elim (a2 b) (b2 b)⟩
end
theorem DqAllP.imp2 {F F' : Addr → Prop} {H : Hp} {vs : List V} {ds : List PyData} (h : DqAllP F H vs ds) (hF : ∀ a, (∃ o, H a = some o) → F a → F' a) : DqAllP F' H vs ds := let ⟨as, h1, h2⟩ := h; ⟨as, h1, fun a ha => hF a (h1.there a ha) (h2 a ha)⟩
theorem cutV_from1 (x : V) (r : List V) : cutV (x :: r) (some 1) none = r := by
  unfold cutV
  rw [show (1 : Int) = ((1 : Nat) : Int) by rfl, HT.sIx_nat, HT.sIx_none, Nat.min_eq_left (by rw [List.length_cons]; omega)]
  exact List.take_of_length_le (by rw [List.length_drop]; omega)
def spInit (C : Addr) : Sp := fun vs H Q _ => ∃ x dx S, vs = [.ref x, .str S] ∧ H x = some (.ins C dx []) ∧ Q .non (upd H x (.ins C dx (fl S 0)))
def spCall : Sp := fun vs H Q _ => ∃ S, vs = [.str S] ∧ S.length ≤ 1000000 ∧ (readC S.cps.toList = none → ∀ H', Same H H' → Q .non H') ∧ (∀ d, readC S.cps.toList = some d → ∀ v H', Same H H' → DqP (fun a => H a = none) H' v d → Q v H')
section
variable {P : Program} {w : World} {K : PySem.W.Frag} {mg : Str → Option Value} {base : Heap} {f C CW : Addr} {fd : FuncData}
theorem ok_init (F : FnP K "__init__" "ValueReader.__init__" sValuereaderInit f fd) (T : Cl K mg C CW) : FnG P w K mg base 1 f fd ["self", "source"] (spInit C) := by
  refine fnG_of F scValuereaderInit (fun vs H Q E h => ?_) (fun cdv A outer s H vs Q E B h => ?_)
  · obtain ⟨x, dx, S, rfl, _⟩ := h; rfl
  obtain ⟨x, dx, S, rfl, hx, q⟩ := h
  obtain ⟨cl, nS, nA, ex⟩ := T
  walk_at "go"
  rw [upd_upd]
  exact q
theorem ok_read_call (F : FnP K "read_call" "read_call" sReadCall f fd) (T : Rdr K mg C CW) (cI : CalC P w K mg base 1 "ValueReader" C ["self", "source"] (spInit C)) (hisi : mg "isinstance" = none) (hlist : mg "list" = none) (hstr : mg "str" = none) (hex : PySem.W.exmOne K (.ref CW) (.ref CW) = some true) : FnG P w K mg base 69 f fd ["text"] spCall := by
  have cV := cal_value (P := P) (w := w) (base := base) T 21
  have hlen := T.hlen
  refine fnG_of F scReadCall (fun vs H Q E h => ?_) (fun cdv A outer s H vs Q E B h => ?_)
  · obtain ⟨S, rfl, _⟩ := h; rfl
  obtain ⟨S, rfl, hS, h1, h2⟩ := h
  obtain ⟨cl, nS, nA, ex⟩ := T.cl
  walk_at "go"
  intro x dx hx hdx hne
  refine ⟨x, dx, S, rfl, upd_same, rfl, ?_⟩
  rw [upd_upd]
  generalize hH1 : upd (upd H dx (.own x)) x (.ins C dx (fl S 0)) = H1
  have hp1 : H1 x = some (.ins C dx (fl S 0)) := by rw [← hH1]; exact upd_same
  have s1 : Same H H1 := by
    rw [← hH1]
    exact fun b o e => (upd_ne (fun z => by rw [z, hx] at e; cases e)).trans ((upd_ne (fun z => by rw [z, hdx] at e; cases e)).trans e)
  have R1 : RdAt C H1 x S S.cps.toList := ⟨⟨dx, 0, hp1, rfl, Nat.zero_le _⟩, hS⟩
  have hout : ∀ H2, Keep x H1 H2 → Same H H2 := fun H2 k b o e => k b o (fun z => by rw [z, hx] at e; cases e) (s1 b o e)
  refine rss_cons (rs_try (c := .ref CW) B ⟨rfl, by decide, .inl ex.g⟩ rfl rfl fun pn xe Bt => ?_)
  walk_at "go"
  refine ⟨x, S, S.cps.toList, 0, rfl, rfl, R1, fun d r e v H2 k2 R2 D2 => ?_, fun e H2 k2 => ?_⟩
  case refine_2 =>
    refine ⟨true, hex, fun _ a ha oe pn2 _ => ?_, fun z => nomatch z⟩
    walk_at "go"
    exact h1 (by unfold readC; rw [e]) H2 (hout H2 k2)
  obtain ⟨⟨dx2, j, hp2, hd2, hj2⟩, _⟩ := id R2
  have okd := (rd_inv 21 _ _ _ e).2
  have hD : DqP (fun a => H a = none ∧ a ≠ x) H2 v d := D2.imp fun a ha => by
    have : a ≠ x := fun z => by rw [z, hp1] at ha; cases ha
    exact ⟨Same.back s1 ha, this⟩
  have hjr : j + r.length = S.length := by
    have := congrArg List.length hd2
    rw [List.length_drop, ← str_len] at this
    omega
  have hC : readC S.cps.toList = if r = [] then asCall d else none := by unfold readC; rw [e]
  walk_at "go"
  refine ifB_dec (fun heq => ?_) (fun hne => ?_)
  case refine_2 =>
    walk_at "go"
    refine h1 (hC.trans (if_neg fun z => hne ?_)) H2 (hout H2 k2)
    rw [z, List.length_nil] at hjr
    omega
  have hr : r = [] := List.eq_nil_of_length_eq_zero (by omega)
  have hC : readC S.cps.toList = asCall d := hC.trans (if_pos hr)
  cases okd with
  | none n =>
    cases DqP.inv_non D2
    walk_at "go"
    exact h1 hC H2 (hout H2 k2)
  | bool n b =>
    cases DqP.inv_bl D2
    walk_at "go"
    exact h1 hC H2 (hout H2 k2)
  | int n i hi =>
    cases DqP.inv_int D2
    walk_at "go"
    exact h1 hC H2 (hout H2 k2)
  | str n t =>
    cases DqP.inv_str D2
    walk_at "go"
    exact h1 hC H2 (hout H2 k2)
  | dict n ks hks nd =>
    obtain ⟨a, kvs, rfl, ha, _, _⟩ := DqP.inv_dic D2
    walk_at "go"
    exact h1 hC H2 (hout H2 k2)
  | list n xs hxs =>
    obtain ⟨a, vs, rfl, ha, ⟨hFa, hax⟩, Ds⟩ := DqP.inv_lst hD
    walk_at "go"
    cases xs with
    | nil =>
      cases DqAllP.inv_nil Ds
      refine ifB_yes (by rfl) ?_
      walk_at "go"
      exact h1 hC H2 (hout H2 k2)
    | cons d0 ds0 =>
      obtain ⟨v0, vs0, rfl, D0, Ds0⟩ := DqAllP.inv_cons Ds
      refine ifB_no (decide_eq_false (by rw [List.length_cons]; omega)) ?_
      walk_at "go"
      refine uIx_lst (SqL.of ha) (v := v0) (atI_drop (k := 0) rfl) ?_
      have fin : asCall (.list (d0 :: ds0)) = none → Q .non H2 := fun z => h1 (hC.trans z) H2 (hout H2 k2)
      cases hxs d0 List.mem_cons_self with
      | none n =>
        cases DqP.inv_non D0
        walk_at "go"
        exact fin rfl
      | bool n b =>
        cases DqP.inv_bl D0
        walk_at "go"
        exact fin rfl
      | int n i hi =>
        cases DqP.inv_int D0
        walk_at "go"
        exact fin rfl
      | dict n ks hks nd =>
        obtain ⟨a, kvs, rfl, ha, _, _⟩ := DqP.inv_dic D0
        walk_at "go"
        exact fin rfl
      | list n ks hks =>
        obtain ⟨a, kvs, rfl, ha, _, _⟩ := DqP.inv_lst D0
        walk_at "go"
        exact fin rfl
      | str n t =>
        cases DqP.inv_str D0
        walk_at "go"
        refine uIx_lst (SqL.of ha) (v := .str t) (atI_drop (k := 0) rfl) ?_
        walk_at "go"
        refine ifB_dec (fun hn => ?_) (fun hn => ?_)
        · walk_at "go"
          exact fin (if_pos hn)
        have hA : asCall (.list (.str t :: ds0)) = some (.tuple [.str t, .list ds0]) := if_neg hn
        walk_at "go"
        refine uIx_lst (SqL.of ha) (v := .str t) (atI_drop (k := 0) rfl) ?_
        walk_at "go"
        have hcut : cutV (V.str t :: vs0) (some 1) none = vs0 := cutV_from1 _ _
        refine uSl_lst (SqL.of ha) fun q hq => ?_
        rw [hcut]
        walk_at "go"
        refine ⟨by show 2 ≤ 16777216; decide, fun tt htt => ?_⟩
        walk_at "go"
        have hqt : q ≠ tt := fun z => by rw [z, upd_same] at htt; cases htt
        have htt2 : H2 tt = none := by rwa [upd_ne (Ne.symm hqt)] at htt
        refine h2 _ (hC.trans hA) _ _ (fun b o e => ?_) ?_
        · have e2 := hout H2 k2 b o e
          exact (upd_ne (fun z => by rw [z, htt2] at e2; cases e2)).trans ((upd_ne (fun z => by rw [z, hq] at e2; cases e2)).trans e2)
        have hq2 : H q = none := Same.back (hout H2 k2) hq
        have ht2 : H tt = none := Same.back (hout H2 k2) htt2
        refine DqP.tup (F := fun b => H b = none ∧ b ≠ tt) upd_same (DqAllP.cons (.str t) (DqAllP.cons (DqP.lst (F := fun b => H b = none ∧ b ≠ tt ∧ b ≠ q) ((upd_ne hqt).trans upd_same) ?_ (fun z => z.2.2 rfl) (fun b hb => ⟨hb.1, hb.2.1⟩) ⟨hq2, hqt⟩) .nil)) (fun z => z.2 rfl) (fun b hb => hb.1) ht2
        refine DqAllP.keep (F := fun b => H b = none ∧ b ≠ tt ∧ b ≠ q) (DqAllP.imp2 Ds0 fun b hb hF => ?_) fun b o hb e => (upd_ne hb.2.1).trans ((upd_ne hb.2.2).trans e)
        exact ⟨hF.1.1, (fun z => by obtain ⟨o, ho⟩ := hb; rw [z, htt2] at ho; cases ho), (fun z => by obtain ⟨o, ho⟩ := hb; rw [z, hq] at ho; cases ho)⟩
end

def spWT : Sp := fun vs H Q _ => ∃ x : Str, vs = [.str x] ∧ x.length ≤ 1000000 ∧ Q (.str (tOf (wt x.cps.toList))) H
theorem marked_eq (x : Str) : (Txt.replace (Txt.replace (Txt.replace x "\\" "\\\\") "\"" "\\\"") "\n" "\\n").cps.toList = x.cps.toList.flatMap esc := by
  rw [replace_one 10 "\n" rfl, replace_one 34 "\"" rfl, replace_one 92 "\\" rfl, List.flatMap_assoc, List.flatMap_assoc]
  congr 1
  funext c
  unfold esc
  by_cases h1 : c = 92
  · subst h1; rfl
  rw [if_neg h1, if_neg h1]
  by_cases h2 : c = 34
  · subst h2; rfl
  rw [if_neg h2, List.flatMap_singleton, if_neg h2, List.flatMap_singleton]
  by_cases h3 : c = 10
  · subst h3; rfl
  rw [if_neg h3, if_neg h3]
theorem len_flat {g : Nat → L} {k : Nat} (hg : ∀ c, (g c).length ≤ k) (l : L) : (l.flatMap g).length ≤ k * l.length := by
  induction l with
  | nil => simp
  | cons a r ih =>
    rw [List.flatMap_cons, List.length_append, List.length_cons, Nat.mul_succ]
    have := hg a
    omega
theorem len_repl (x z : Str) (c : Nat) {y : Str} (hy : y.cps.toList = [c]) (hz : 1 ≤ z.length) : (Txt.replace x y z).length ≤ z.length * x.length := by
  rw [str_len, str_len x, replace_one c y hy]
  refine len_flat (fun d => ?_) _
  split
  · rw [str_len]; exact Nat.le_refl _
  · exact hz
theorem pst_set {X : Cx} {i : Nat} {x : Str} {e : Expr} {te : TE} {pos pos' : Pos} (hN : X.N.Nodup) (hi : X.N[i]? = some x) (hx : Loc X.env.scope x) (he : PET X e te) (hs : swapsWith e (some (.Name x pos')) pos.line X.env = pure false := by rfl) (hf : X.fn x = true ∨ X.env.scope.names.lookup x = some .local := by first | exact .inl rfl | exact .inr rfl) :
    PST X (.Assign [.Name x pos'] e pos) (tAsg te (gName i)) := fun pins s σ H D h0 I h =>
  wpAny_Assign_Name (thn (he pins s σ H _ h0 I h) fun v s1 ⟨y, H1, I1, r1, q1⟩ => store_ok I1 hN hi hx r1 (fun s2 I2 => ⟨_, H1, I2, q1⟩) hf) hs
section
variable {P : Program} {w : World} {K : PySem.W.Frag} {mg : Str → Option Value} {base : Heap} {f C CW : Addr} {fd : FuncData}
theorem ok_write_text (F : FnP K "write_text" "write_text" sWriteText f fd) : FnG P w K mg base 1 f fd ["text"] spWT := by
  obtain ⟨oc, od, dV, kV, doc, pm, an, cdv, ct, osl, rfl, lk, hcd, _, _⟩ := F.ex
  have G : FnOk P w K mg base (L2.CX P w) (0 + 1) f _ ["text"] spWT := fn_ofT lk hcd scWriteText (by decide +kernel) (by decide) (fun vs H Q E h => by obtain ⟨x, rfl, _⟩ := h; rfl) fun A outer s H vs Q E hr h => by
    obtain ⟨x, rfl, hx, q⟩ := h
    refine ⟨_, psst_cons (pst_set (i := 1) scWriteText.nd rfl (.inl rfl) (CwR.pet_replT (CwR.pet_replT (CwR.pet_replC (pv 0))))) (PSsT.of pss_self), ?_⟩
    have l1 := len_repl x "\\\\" 92 (y := "\\") rfl (by decide +kernel)
    have l2 := len_repl (Txt.replace x "\\" "\\\\") "\\\"" 34 (y := "\"") rfl (by decide +kernel)
    have l3 := len_repl (Txt.replace (Txt.replace x "\\" "\\\\") "\"" "\\\"") "\\n" 10 (y := "\n") rfl (by decide +kernel)
    rw [show ("\\\\" : Str).length = 2 by rfl] at l1
    rw [show ("\\\"" : Str).length = 2 by rfl] at l2
    rw [show ("\\n" : Str).length = 2 by rfl] at l3
    have me := marked_eq x
    generalize hm : Txt.replace (Txt.replace (Txt.replace x "\\" "\\\\") "\"" "\\\"") "\n" "\\n" = m3 at l3 me
    refine ⟨_, rfl, _, rfl, ?_, _, rfl, ?_, _, rfl, ?_, ?_⟩
    · rw [show ("\\\\" : Str).length = 2 by rfl]; omega
    · rw [show ("\\\"" : Str).length = 2 by rfl]; omega
    · rw [show ("\\n" : Str).length = 2 by rfl]; omega
    show RSs _ _ _ _ _
    rw [hm]
    walk_at "go"
    refine uAdd_str (szl (by show 1 + m3.length ≤ _; omega)) ?_
    walk_at "go"
    refine uAdd_str (szl (by rw [str_len, str_app, List.length_append, ← str_len, ← str_len]; show 1 + m3.length + 1 ≤ _; omega)) ?_
    have e : ("\"" : Str) ++ m3 ++ ("\"" : Str) = tOf (wt x.cps.toList) := tOf_of (by
      rw [str_app, str_app, me]
      show ([34] ++ x.cps.toList.flatMap esc) ++ [34] = 34 :: (x.cps.toList.flatMap esc ++ [34])
      rfl)
    rw [e]
    exact q
  exact ⟨G.len, fun A outer s H args us vs Q E _ => G.run A outer s H args us vs Q E⟩
end

theorem glue_sep (ls : List L) : PySem.StrLaws.glueL [44] (ls.map tOf) = ls.flatMap fun l => 44 :: l := by
  induction ls with
  | nil => rfl
  | cons a r ih =>
    show [44] ++ (tOf a).cps.toList ++ PySem.StrLaws.glueL [44] (r.map tOf) = _
    rw [ih, tOf_list]
    rfl
theorem sepJ_cons (x : L) : ∀ r : List L, sepJ (x :: r) = x ++ r.flatMap fun l => 44 :: l
  | [] => by simp [sepJ]
  | y :: r => by
    have := sepJ_cons y r
    simp only [sepJ, this, List.flatMap_cons, List.cons_append]
theorem join_sep (ls : List L) : Txt.join "," (ls.map tOf) = tOf (sepJ ls) := by
  apply tOf_of
  cases ls with
  | nil => rfl
  | cons a r =>
    rw [List.map_cons]
    refine (PySem.StrLaws.glued_list "," (tOf a) (r.map tOf)).trans ?_
    show (tOf a).cps.toList ++ PySem.StrLaws.glueL [44] (r.map tOf) = _
    rw [glue_sep, tOf_list, sepJ_cons]
theorem sum_sep : ∀ ls : List L, (ls.map List.length).sum + ls.length ≤ (sepJ ls).length + 1
  | [] => by simp [sepJ]
  | x :: r => by
    have h : ∀ r : List L, (r.flatMap fun l => 44 :: l).length = (r.map List.length).sum + r.length := fun r => by
      induction r with
      | nil => rfl
      | cons a r ih => rw [List.flatMap_cons, List.length_append, ih, List.map_cons, List.sum_cons]; simp only [List.length_cons]; omega
    rw [sepJ_cons, List.length_append, h, List.map_cons, List.sum_cons, List.length_cons]
    omega
/-- each part is not longer than the whole -/
theorem part_sep {l : L} : ∀ {ls : List L}, l ∈ ls → l.length ≤ (sepJ ls).length
  | x :: r, h => by
    rw [sepJ_cons, List.length_append]
    rcases List.mem_cons.mp h with z | z
    · rw [z]; omega
    · have : l.length ≤ (r.flatMap fun l => 44 :: l).length := by
        clear h
        induction r with
        | nil => cases z
        | cons a r ih =>
          rw [List.flatMap_cons, List.length_append, List.length_cons]
          rcases List.mem_cons.mp z with q | q
          · rw [q]; omega
          · have := ih q; omega
      omega
def DqT (H : Hp) (v : V) (d : PyData) : Prop := DqP (fun _ => True) H v d
theorem DqT.same {H H' : Hp} {v : V} {d : PyData} (h : DqT H v d) (s : Same H H') : DqT H' v d := DqP.keep h fun a o _ e => s a o e
theorem DqAllP.get {F : Addr → Prop} {H : Hp} : ∀ {vs : List V} {ds : List PyData} {i : Nat} {v : V}, DqAllP F H vs ds → vs[i]? = some v → ∃ d, ds[i]? = some d ∧ DqP F H v d
  | _, [], i, v, h, hv => by rw [DqAllP.inv_nil h] at hv; cases hv
  | _, d :: ds, i, v, h, hv => by
    obtain ⟨v0, vs', rfl, h1, h2⟩ := DqAllP.inv_cons h
    cases i with
    | zero => cases hv; exact ⟨d, rfl, h1⟩
    | succ i => exact DqAllP.get (ds := ds) (i := i) h2 hv
theorem DqKvP.inv_nil {F : Addr → Prop} {H : Hp} {vs : List (Key × V)} (h : DqKvP F H vs []) : vs = [] := by obtain ⟨as, h, _⟩ := h; cases h; rfl
theorem DqKvP.inv_cons {F : Addr → Prop} {H : Hp} {vs : List (Key × V)} {kd d : PyData} {ds : List (PyData × PyData)} (h : DqKvP F H vs ((kd, d) :: ds)) : ∃ k v vs', vs = (.inr k, v) :: vs' ∧ kd = .str k ∧ DqP F H v d ∧ DqKvP F H vs' ds := by
  obtain ⟨as, h, hF⟩ := h
  cases h with
  | cons h1 h2 => exact ⟨_, _, _, rfl, rfl, ⟨_, h1, fun a ha => hF a (List.mem_append_left _ ha)⟩, ⟨_, h2, fun a ha => hF a (List.mem_append_right _ ha)⟩⟩
theorem DqKvP.keys {F : Addr → Prop} {H : Hp} : ∀ {ks : List (L × PyData)} {vs : List (Key × V)}, DqKvP F H vs (ks.map toKv) → vs.map (·.1) = ks.map fun p => (.inr (tOf p.1) : Key)
  | [], vs, h => by rw [DqKvP.inv_nil h]; rfl
  | (k, d) :: r, vs, h => by
    obtain ⟨k2, v, vs', rfl, e, _, h2⟩ := DqKvP.inv_cons h
    cases e
    rw [List.map_cons, List.map_cons, DqKvP.keys h2]
theorem DqKvP.get {F : Addr → Prop} {H : Hp} : ∀ {ks : List (L × PyData)} {vs : List (Key × V)} {i : Nat} {k : Key} {v : V}, DqKvP F H vs (ks.map toKv) → vs[i]? = some (k, v) → ∃ kl d, ks[i]? = some (kl, d) ∧ k = .inr (tOf kl) ∧ DqP F H v d
  | [], vs, i, k, v, h, hv => by rw [DqKvP.inv_nil h] at hv; cases hv
  | (kl, d) :: r, vs, i, k, v, h, hv => by
    obtain ⟨k2, v2, vs', rfl, e, h1, h2⟩ := DqKvP.inv_cons h
    cases e
    cases i with
    | zero => cases hv; exact ⟨kl, d, rfl, rfl, h1⟩
    | succ i => exact DqKvP.get (ks := r) (i := i) h2 hv
theorem valV_get : ∀ {kvs : List (Key × V)} {i : Nat} {k : Key} {v : V}, (kvs.map (·.1)).Nodup → kvs[i]? = some (k, v) → valV kvs k = some v
  | [], i, k, v, _, h => by cases h
  | (k0, v0) :: r, i, k, v, nd, h => by
    cases i with
    | zero => cases h; exact valV_pos rfl
    | succ i =>
      have h : r[i]? = some (k, v) := h
      have nd := List.nodup_cons.mp nd
      rw [valV_neg fun e => nd.1 (List.mem_map.mpr ⟨(k, v), List.mem_of_getElem? h, by show k = k0; exact e.symm⟩)]
      exact valV_get nd.2 h
theorem wt_len (l : L) : l.length + 2 ≤ (wt l).length := by
  have h2 : l.length ≤ (l.flatMap esc).length := by
    induction l with
    | nil => simp
    | cons a r ih =>
      rw [List.flatMap_cons, List.length_append, List.length_cons]
      have : 1 ≤ (esc a).length := by unfold esc; split; decide; split; decide; split <;> simp
      omega
  simp only [wt, List.length_cons, List.length_append, List.length_nil]
  omega
def spWV (n : Nat) : Sp := fun vs H Q _ => ∃ v d, vs = [v] ∧ OkV n d ∧ DqT H v d ∧ (wv d).length ≤ 1000000 ∧ ∀ H', Same H H' → Q (.str (tOf (wv d))) H'
theorem log_small {i : Int} (h : i.natAbs ≤ mostN) : i.natAbs.log2 < 1920 := by
  rcases Nat.eq_zero_or_pos i.natAbs with z | z
  · rw [z]; decide
  · exact (Nat.log2_lt (by omega)).mpr (Nat.lt_of_le_of_lt h (by decide +kernel))
section
variable {P : Program} {w : World} {K : PySem.W.Frag} {mg : Str → Option Value} {base : Heap} {f C CW : Addr} {fd : FuncData}
theorem ok_write_value {n : Nat} (F : FnP K "write_value" "write_value" sWriteValue f fd) (hisi : mg "isinstance" = none) (hlist : mg "list" = none) (hstr : mg "str" = none) (hint : mg "int" = none) (cT : Cal P w K mg base 1 "write_text" ["text"] spWT) (cV : Cal P w K mg base (n + 1) "write_value" ["value"] (spWV n)) :
    FnG P w K mg base (n + 2) f fd ["value"] (spWV (n + 1)) := by
  refine fnG_of F scWriteValue (fun vs H Q E h => ?_) (fun cdv A outer s H vs Q E B h => ?_)
  · obtain ⟨v, d, rfl, _⟩ := h; rfl
  obtain ⟨v, d, rfl, ok, D, hl, q⟩ := h
  cases ok with
  | none n =>
    cases DqP.inv_non D
    walk_at "go"
    have := q H (fun _ _ e => e)
    rw [show tOf (wv .none) = "null" by decide +kernel] at this
    exact this
  | bool n b =>
    cases DqP.inv_bl D
    have := q H (fun _ _ e => e)
    cases b with
    | true =>
      walk_at "go"
      rw [show tOf (wv (.bool true)) = "true" by decide +kernel] at this
      exact this
    | false =>
      walk_at "go"
      rw [show tOf (wv (.bool false)) = "false" by decide +kernel] at this
      exact this
  | int n i hi =>
    cases DqP.inv_int D
    walk_at "go"
    refine uStr_int (log_small hi) ?_
    have := q H (fun _ _ e => e)
    rw [show tOf (wv (.int i)) = Str.ofString (toString i) from (tOf_of (by simp [wv, intL])).symm] at this
    exact this
  | str n x =>
    cases DqP.inv_str D
    have hx : x.length ≤ 1000000 := by
      have : (wv (.str x)).length = (x.cps.toList.flatMap esc).length + 2 := by simp [wv, wt]
      have h2 : x.cps.toList.length ≤ (x.cps.toList.flatMap esc).length := by
        generalize x.cps.toList = l
        induction l with
        | nil => simp
        | cons a r ih =>
          rw [List.flatMap_cons, List.length_append, List.length_cons]
          have : 1 ≤ (esc a).length := by unfold esc; split; decide; split; decide; split <;> simp
          omega
      rw [str_len]
      omega
    walk_at "go"
    refine ⟨x, rfl, hx, ?_⟩
    have := q H (fun _ _ e => e)
    rw [show wv (.str x) = wt x.cps.toList by simp [wv]] at this
    exact this
  | list n xs hxs =>
    obtain ⟨a, vs, rfl, ha, _, Ds⟩ := DqP.inv_lst D
    have hlen : vs.length = xs.length := DqAllP.length Ds
    have hw : wv (.list xs) = 91 :: (sepJ (xs.map wv) ++ [93]) := by simp [wv, wvA_map]
    have hl2 : (sepJ (xs.map wv)).length ≤ 999998 := by rw [hw] at hl; simp only [List.length_cons, List.length_append, List.length_nil] at hl; omega
    have hsum := sum_sep (xs.map wv)
    rw [List.length_map] at hsum
    walk_at "go"
    refine re_lcL (j := 1) B.toBd (by rfl) rfl rfl ?_
    walk_at "go"
    refine ⟨a, vs, rfl, SqL.of ha, fun L hL => ?_⟩
    refine ⟨fun i H' => Same H H' ∧ H' L = some (.lst ((xs.take i).map fun d => V.str (tOf (wv d)))), ⟨Same.new hL, upd_same⟩, fun i H' _ p => SqL.of (p.1 a _ ha), fun i v H' hv p => ?_, fun H' p => ?_⟩
    · refine rBlk_mk B fun s' H0 C cl fp Bb => ?_
      obtain ⟨hS, hA⟩ := p
      have hi : i < vs.length := by
        rcases Nat.lt_or_ge i vs.length with z | z
        · exact z
        · rw [List.getElem?_eq_none z] at hv; cases hv
      obtain ⟨d, hd, Dd⟩ := DqAllP.get Ds hv
      have hdm : d ∈ xs := List.mem_of_getElem? hd
      have hdl := part_sep (List.mem_map_of_mem (f := wv) hdm)
      walk_at "go"
      refine ⟨v, d, rfl, hxs d hdm, DqT.same (Dd.imp fun _ _ => trivial) hS, by omega, fun H4 hS4 => ?_⟩
      refine ⟨_, hS4 L _ hA, szlt (by rw [List.length_map, List.length_take]; omega), ?_, ?_⟩
      · exact Same.mut (fun b o e => hS4 b o (hS b o e)) hL
      · show upd H4 L _ L = _
        rw [upd_same, List.take_add_one, hd, List.map_append]; rfl
    · rw [hlen, List.take_length] at p
      walk_at "go"
      refine uJoin_mk (ys := (xs.map wv).map tOf) (SqL.of (p.2.trans (by rw [List.map_map, List.map_map]; rfl))) ?_ ?_
      · rw [show (((xs.map wv).map tOf).map (·.length)).sum = ((xs.map wv).map List.length).sum by rw [List.map_map]; rfl, List.length_map, List.length_map]
        show _ + xs.length * 1 ≤ _
        omega
      rw [join_sep]
      have hjl := tOf_len (sepJ (xs.map wv))
      refine uAdd_str (szl (by show 1 + _ ≤ _; omega)) ?_
      walk_at "go"
      refine uAdd_str (szl (by rw [str_len, str_app, List.length_append, ← str_len, ← str_len]; show 1 + _ + 1 ≤ _; omega)) ?_
      have e : ("[" : Str) ++ tOf (sepJ (xs.map wv)) ++ ("]" : Str) = tOf (wv (.list xs)) := tOf_of (by
        rw [str_app, str_app, tOf_list, hw]; rfl)
      rw [e]
      exact q H' p.1
  | dict n ks hks nd =>
    obtain ⟨a, kvs, rfl, ha, _, Ds⟩ := DqP.inv_dic D
    have hkeys := DqKvP.keys Ds
    have hlen : kvs.length = ks.length := by have := congrArg List.length hkeys; rwa [List.length_map, List.length_map] at this
    have hnd : (kvs.map (·.1)).Nodup := by
      rw [hkeys]
      exact List.pairwise_map.mpr ((List.pairwise_map.mp nd).imp fun h e => h (tOf_inj (Sum.inr.inj e)))
    have hw : wv (.dict (ks.map toKv)) = 123 :: (sepJ (ks.map fun p => wt p.1 ++ 58 :: wv p.2) ++ [125]) := by simp [wv, wvK_keys]
    have hl2 : (sepJ (ks.map fun p => wt p.1 ++ 58 :: wv p.2)).length ≤ 999998 := by rw [hw] at hl; simp only [List.length_cons, List.length_append, List.length_nil] at hl; omega
    have hsum := sum_sep (ks.map fun p => wt p.1 ++ 58 :: wv p.2)
    rw [List.length_map] at hsum
    walk_at "go"
    refine rs_setLcK (k := 2) (j := 3) (i := 0) B.toBd rfl rfl rfl rfl rfl (by rfl) rfl rfl rfl (by walk_at "vis") rfl ?_
    refine ⟨a, kvs, rfl, ha, fun od LL hL => ?_⟩
    have haL : a ≠ LL := fun z => by rw [z, upd_same] at hL; cases hL
    have hL0 : H LL = none := by rwa [upd_ne (Ne.symm haL)] at hL
    generalize hG : upd H a (.frz od (.dK kvs)) = G at hL
    have hGa : G a = some (.frz od (.dK kvs)) := by rw [← hG]; exact upd_same
    refine ⟨fun i H' => Same G H' ∧ H' LL = some (.lst ((ks.take i).map fun p => V.str (tOf (wt p.1 ++ 58 :: wv p.2)))), ⟨Same.new hL, upd_same⟩, fun i H' _ p => p.1 a _ hGa, fun i kv H' hv p => fStep_yes ?_, fun H' p => ?_⟩
    · refine rBlk_mk B fun s' H0 C cl fp Bb => ?_
      obtain ⟨hS, hA⟩ := p
      have hi : i < kvs.length := by
        rcases Nat.lt_or_ge i kvs.length with z | z
        · exact z
        · rw [List.getElem?_eq_none z] at hv; cases hv
      obtain ⟨k, v⟩ := kv
      obtain ⟨kl, d, hkd, rfl, Dd⟩ := DqKvP.get Ds hv
      have hmem : (kl, d) ∈ ks := List.mem_of_getElem? hkd
      have hdl := part_sep (List.mem_map_of_mem (f := fun p : L × PyData => wt p.1 ++ 58 :: wv p.2) hmem)
      have hkl : (wt kl).length + (wv d).length + 1 ≤ 999998 := by
        simp only [List.length_append, List.length_cons] at hdl
        omega
      have hkx := wt_len kl
      have hDd : DqT H' v d := (DqP.keep Dd fun b o hb e => hS b o (by rw [← hG]; exact (upd_ne hb.2).trans e)).imp fun _ _ => trivial
      have hv0 : valV kvs (.inr (tOf kl)) = some v := valV_get hnd hv
      have hwl := tOf_len (wt kl)
      have hvl := tOf_len (wv d)
      walk_at "go"
      refine ⟨tOf kl, rfl, by rw [tOf_len]; omega, ?_⟩
      rw [tOf_list]
      walk_at "go"
      refine uAdd_str (szl (by show _ + 1 ≤ _; omega)) ?_
      walk_at "go"
      refine uIx_dict (.inl ⟨kvs, .inr (tOf kl), .inr ⟨od, hS a _ hGa⟩, rfl, hv0.symm⟩) ?_
      walk_at "go"
      refine ⟨v, d, rfl, hks _ hmem, hDd, by omega, fun H4 hS4 => ?_⟩
      refine uAdd_str (szl (by rw [str_len, str_app, List.length_append, ← str_len, ← str_len]; show _ + 1 + _ ≤ _; omega)) ?_
      refine ⟨_, hS4 LL _ hA, szlt (by rw [List.length_map, List.length_take]; omega), ?_, ?_⟩
      · exact Same.mut (fun b o e => hS4 b o (hS b o e)) hL
      · show upd H4 LL _ LL = _
        rw [upd_same, List.take_add_one, hkd, List.map_append]
        have e : tOf (wt kl) ++ (":" : Str) ++ tOf (wv d) = tOf (wt kl ++ 58 :: wv d) := tOf_of (by
          rw [str_app, str_app, tOf_list, tOf_list, List.append_assoc]; rfl)
        rw [e]; rfl
    · rw [hlen, List.take_length] at p
      have hjl := tOf_len (sepJ (ks.map fun p => wt p.1 ++ 58 :: wv p.2))
      walk_at "go"
      refine uJoin_mk (ys := (ks.map fun p => wt p.1 ++ 58 :: wv p.2).map tOf) (SqL.of ((upd_ne (Ne.symm haL)).trans (p.2.trans (by rw [List.map_map, List.map_map]; rfl)))) ?_ ?_
      · rw [show (((ks.map fun p => wt p.1 ++ 58 :: wv p.2).map tOf).map (·.length)).sum = ((ks.map fun p => wt p.1 ++ 58 :: wv p.2).map List.length).sum by rw [List.map_map]; rfl, List.length_map, List.length_map]
        show _ + ks.length * 1 ≤ _
        omega
      rw [join_sep]
      refine uAdd_str (szl (by show 1 + _ ≤ _; omega)) ?_
      walk_at "go"
      refine uAdd_str (szl (by rw [str_len, str_app, List.length_append, ← str_len, ← str_len]; show 1 + _ + 1 ≤ _; omega)) ?_
      have e : ("{" : Str) ++ tOf (sepJ (ks.map fun p => wt p.1 ++ 58 :: wv p.2)) ++ ("}" : Str) = tOf (wv (.dict (ks.map toKv))) := tOf_of (by
        rw [str_app, str_app, tOf_list, hw]; rfl)
      rw [e]
      refine q _ fun b o eb => ?_
      by_cases hba : b = a
      · subst hba
        rw [ha] at eb
        cases eb
        exact upd_same
      · exact (upd_ne hba).trans (p.1 b o (by rw [← hG]; exact (upd_ne hba).trans eb))
end

/-- what the top has written: the writers -/
structure Wtr (K : PySem.W.Frag) (mg : Str → Option Value) : Prop where
  tx : GD K mg "write_text" sWriteText
  va : GD K mg "write_value" sWriteValue
  ca : GD K mg "write_call" sWriteCall
  hisi : mg "isinstance" = none
  hlist : mg "list" = none
  hstr : mg "str" = none
  hint : mg "int" = none
def spWC : Sp := fun vs H Q _ => ∃ nm v ds, vs = [.str nm, v] ∧ DqT H v (.list ds) ∧ (∀ d ∈ ds, OkV 20 d) ∧ (wv (.list (.str nm :: ds))).length ≤ 1000000 ∧ ∀ H', Same H H' → Q (.str (tOf (wv (.list (.str nm :: ds))))) H'
section
variable {P : Program} {w : World} {K : PySem.W.Frag} {mg : Str → Option Value} {base : Heap} {f C CW : Addr} {fd : FuncData}
theorem cal_wt (T : Wtr K mg) : Cal P w K mg base 1 "write_text" ["text"] spWT := T.tx.cal bdWriteText fun f fd F => ok_write_text F
theorem cal_wv (T : Wtr K mg) : ∀ n, Cal P w K mg base (n + 1) "write_value" ["value"] (spWV n) := by
  intro n
  induction n with
  | zero =>
    refine T.va.cal bdWriteValue fun f fd F => ⟨fun vs H Q E h => ?_, fun A outer s H args us vs Q E hg hr he hb hv h => ?_⟩
    · obtain ⟨v, d, rfl, _⟩ := h; rfl
    · obtain ⟨v, d, _, ok, _⟩ := h; cases ok
  | succ n ih => exact T.va.cal bdWriteValue fun f fd F => ok_write_value F T.hisi T.hlist T.hstr T.hint (cal_wt T) ih
theorem ok_write_call (F : FnP K "write_call" "write_call" sWriteCall f fd) (T : Wtr K mg) : FnG P w K mg base 23 f fd ["name", "values"] spWC := by
  have cV := cal_wv (P := P) (w := w) (base := base) T 21
  have hlist := T.hlist
  refine fnG_of F scWriteCall (fun vs H Q E h => ?_) (fun cdv A outer s H vs Q E B h => ?_)
  · obtain ⟨nm, v, ds, rfl, _⟩ := h; rfl
  obtain ⟨nm, v, ds, rfl, D, hds, hl, q⟩ := h
  obtain ⟨a, vs, rfl, ha, _, Ds⟩ := DqP.inv_lst D
  have hvl := DqAllP.length Ds
  have hdl : ds.length ≤ 1000000 := by
    have := sepJ_len ((.str nm :: ds).map wv)
    have hw : wv (.list (.str nm :: ds)) = 91 :: (sepJ ((.str nm :: ds).map wv) ++ [93]) := by simp [wv, wvA_map]
    rw [hw] at hl
    simp only [List.length_cons, List.length_append, List.length_nil, List.length_map] at hl this
    omega
  walk_at "go"
  refine ⟨szl (by decide : 1 ≤ 16000000), fun l1 h1 => ?_⟩
  walk_at "go"
  have ha1 : upd H l1 (.lst [.str nm]) a = some (.lst vs) := Same.new h1 a _ ha
  refine uList_lst (SqL.of ha1) fun l2 h2 => ?_
  walk_at "go"
  have n12 : l1 ≠ l2 := fun z => by rw [← z, upd_same] at h2; cases h2
  refine uAdd_lst (xs := [.str nm]) (zs := vs) ((upd_ne n12).trans upd_same) upd_same (szl (by simp only [List.length_cons, List.length_nil]; omega)) fun l3 h3 => ?_
  generalize hG : upd (upd (upd H l1 (.lst [.str nm])) l2 (.lst vs)) l3 (.lst ([.str nm] ++ vs)) = G
  have s1 : Same H G := by
    rw [← hG]
    have a1 : Same H (upd H l1 (.lst [.str nm])) := Same.new h1
    have a2 : Same (upd H l1 (.lst [.str nm])) (upd (upd H l1 (.lst [.str nm])) l2 (.lst vs)) := Same.new h2
    have a3 : Same (upd (upd H l1 (.lst [.str nm])) l2 (.lst vs)) (upd (upd (upd H l1 (.lst [.str nm])) l2 (.lst vs)) l3 (.lst ([.str nm] ++ vs))) := Same.new h3
    exact fun b o e => a3 b o (a2 b o (a1 b o e))
  have hl3 : H l3 = none := by
    have n32 : l3 ≠ l2 := fun z => by rw [z, upd_same] at h3; cases h3
    rw [upd_ne n32] at h3
    have n31 : l3 ≠ l1 := fun z => by rw [z, upd_same] at h3; cases h3
    rwa [upd_ne n31] at h3
  walk_at "go"
  refine ⟨.ref l3, .list (.str nm :: ds), rfl, .list 20 _ fun x hx => ?_, ?_, hl, fun H' s2 => ?_⟩
  · rcases List.mem_cons.mp hx with z | z
    · rw [z]; exact .str 19 nm
    · exact hds x z
  · refine DqP.lst (F := fun b => b ≠ l3) (by rw [← hG]; exact upd_same) (DqAllP.cons (.str nm) ?_) (fun z => z rfl) (fun _ _ => trivial) trivial
    refine DqAllP.keep (F := fun b => b ≠ l3) (DqAllP.imp2 Ds fun b hb _ => fun z => ?_) fun b o _ e => s1 b o e
    obtain ⟨o, ho⟩ := hb
    rw [z, hl3] at ho
    cases ho
  · exact q H' fun b o e => s2 b o (s1 b o e)
end

def spRows (K : PySem.W.Frag) : Sp := fun vs H Q _ => ∃ (a : Addr) (ns : List Int) (n e : Nat), vs = [.ref a, .int ((n : Nat) : Int)] ∧ SqL K H a (ns.map V.int) ∧ ns.length ≤ 1000 ∧ n ≤ 1000 ∧ e ≤ 1048577 ∧ (∀ z ∈ ns, z.natAbs < 2 ^ e) ∧
  ∀ (p : Addr) (H' : Hp) (rs : List Int), H p = none → Same H H' → H' p = some (.lst (rs.map V.int)) → rs.length = n → Q (.ref p) H'
theorem pow_up (e k : Nat) : 2 ^ (e + k) = 2 ^ e * 2 ^ k := Nat.pow_add 2 e k
theorem pow_one (e : Nat) : 1 ≤ 2 ^ e := Nat.one_le_two_pow
theorem bndA {e i : Nat} {c : Int} (hc : c.natAbs < 2 ^ (e + 2)) (hi : i ≤ 1000) : (c + 131 * (i : Int) + 7).natAbs < 2 ^ (e + 20) := by
  have h1 := pow_one e
  rw [pow_up] at hc ⊢
  generalize 2 ^ e = M at *
  omega
theorem bndB {e : Nat} {c : Int} (hc : c.natAbs < 2 ^ e) : (1 - 2 * c).natAbs < 2 ^ (e + 2) := by
  have h1 := pow_one e
  rw [pow_up]
  generalize 2 ^ e = M at *
  omega
theorem bndC {e : Nat} {c : Int} (hc : c.natAbs < 2 ^ e) : c.natAbs < 2 ^ (e + 2) := by
  have h1 := pow_one e
  rw [pow_up]
  generalize 2 ^ e = M at *
  omega
theorem mul_nat {a b c d : Nat} (h1 : a ≤ b) (h2 : c ≤ d) : a * c ≤ b * d := Nat.mul_le_mul h1 h2
section
variable {P : Program} {w : World} {K : PySem.W.Frag} {mg : Str → Option Value} {base : Heap} {f C CW : Addr} {fd : FuncData}
theorem ok_law_rows (F : FnP K "_law_rows" "_law_rows" sLawRows f fd) (hlen : mg "len" = none) (hint : mg "int" = none) (hrange : mg "range" = none) : FnG P w K mg base 1 f fd ["_law_script", "_law_count"] (spRows K) := by
  refine fnG_of F scLawRows (fun vs H Q E h => ?_) (fun cdv A outer s H vs Q E B h => ?_)
  · obtain ⟨a, ns, n, e, rfl, _⟩ := h; rfl
  obtain ⟨a, ns, n, e, rfl, hS, hns, hn, he, hz, q⟩ := h
  walk_at "go"
  refine ⟨szl (by decide : 0 ≤ 16000000), fun p hp => ?_⟩
  walk_at "go"
  refine rss_cons (rs_forR (j := 3) B.toBd rfl (by walk_at "loc") hrange ?_)
  walk_at "go"
  refine uForN_mk (fun i σ H' => ∃ (rs : List Int) (u1 u2 : Option V), σ = [some (.ref a), some (.int n), some (.ref p), u1, u2] ∧ Same H H' ∧ H' p = some (.lst (rs.map V.int)) ∧ rs.length = i) (by omega) ⟨[], none, none, rfl, Same.new hp, upd_same, rfl⟩ ?_ ?_
  case refine_2 =>
    rintro σ' H' ⟨rs, u1, u2, rfl, hs, hp', hl⟩
    walk_at "go"
    exact q p H' rs hp hs hp' hl
  rintro i σ' H' hi ⟨rs, u1, u2, rfl, hs, hp', hl⟩
  have hS' := SqL.same hS hs
  -- the last statement
  have stD : ∀ (c : Int) (D : Ends), (∀ (rs : List Int) (u1 u2 : Option V) H2, Same H H2 → H2 p = some (.lst (rs.map V.int)) → rs.length = i + 1 → D.nx [some (.ref a), some (.int n), some (.ref p), u1, u2] H2) → RSs (cxOf (CX P w) P w K mg base ["_law_script", "_law_count", "_law_rows_here", "_law_k", "_law_cell"] "_law_rows" (defScope sLawRows) f cdv A outer s H E) (inW sLawRows 1 4) D [some (.ref a), some (.int n), some (.ref p), some (.int i), some (.int c)] H' := by
    intro c D hD
    have hll : (rs.map V.int).length < 16000000 := by rw [List.length_map]; omega
    walk_at "go"
    refine hD (rs ++ [c]) _ _ _ (Same.mut hs hp) (by rw [upd_same, List.map_append]; rfl) (by rw [List.length_append, hl]; rfl)
  have stC1 : ∀ (c : Int) (D : Ends), c.natAbs < 2 ^ (e + 2) → (∀ c' : Int, D.nx [some (.ref a), some (.int n), some (.ref p), some (.int i), some (.int c')] H') → RSs (cxOf (CX P w) P w K mg base ["_law_script", "_law_count", "_law_rows_here", "_law_k", "_law_cell"] "_law_rows" (defScope sLawRows) f cdv A outer s H E) (loopB ((inW sLawRows 1 3).getD 0 (.Pass ⟨0, 0, 0, 0⟩))) D [some (.ref a), some (.int n), some (.ref p), some (.int i), some (.int c)] H' := by
    intro c D hc hD
    walk_at "go"
    refine uInt_mk (mulx_ok (a := 8) (b := 10) (by decide) (by omega) (by omega)) ?_
    walk_at "go"
    refine uInt_mk (mulx_ok (a := e + 20) (b := 16) (bndA hc (by omega)) (by decide) (by omega)) ?_
    walk_at "go"
    refine uInt_mk (mulx_ok (a := 10) (b := 10) (by omega) (by omega) (by omega)) ?_
    walk_at "go"
    refine uInt_mk (mulx_ok (a := 20) (b := 17) ?_ (by decide) (by omega)) ?_
    · rw [Int.natAbs_mul]
      have : (i : Int).natAbs * (i : Int).natAbs ≤ 1000 * 1000 := mul_nat (by omega) (by omega)
      omega
    walk_at "go"
    refine uInt_mk (mulx_ok (a := 5) (b := 10) (by decide) (by omega) (by omega)) ?_
    walk_at "go"
    refine uInt_mk (mulx_ok (a := 40) (b := 62) ?_ (by decide) (by omega)) ?_
    · omega
    walk_at "go"
    exact hD _
  have stC : ∀ (c : Int) (D : Ends), c.natAbs < 2 ^ (e + 2) → (∀ (rs : List Int) (u1 u2 : Option V) H2, Same H H2 → H2 p = some (.lst (rs.map V.int)) → rs.length = i + 1 → D.nx [some (.ref a), some (.int n), some (.ref p), u1, u2] H2) → RSs (cxOf (CX P w) P w K mg base ["_law_script", "_law_count", "_law_rows_here", "_law_k", "_law_cell"] "_law_rows" (defScope sLawRows) f cdv A outer s H E) (inW sLawRows 1 3) D [some (.ref a), some (.int n), some (.ref p), some (.int i), some (.int c)] H' := by
    intro c D hc hD
    walk_at "go"
    refine ifB_dec (fun _ => ?_) (fun _ => ?_)
    · refine ifB_t (stC1 c _ hc fun c' => ?_)
      exact stD c' D hD
    walk_at "go"
    refine ifB_dec (fun _ => ?_) (fun _ => ?_)
    · refine stC1 c _ hc fun c' => ?_
      exact stD c' D hD
    · walk_at "go1"
      exact stD c D hD
  have stB : ∀ (c : Int) (D : Ends), c.natAbs < 2 ^ e → (∀ (rs : List Int) (u1 u2 : Option V) H2, Same H H2 → H2 p = some (.lst (rs.map V.int)) → rs.length = i + 1 → D.nx [some (.ref a), some (.int n), some (.ref p), u1, u2] H2) → RSs (cxOf (CX P w) P w K mg base ["_law_script", "_law_count", "_law_rows_here", "_law_k", "_law_cell"] "_law_rows" (defScope sLawRows) f cdv A outer s H E) (inW sLawRows 1 2) D [some (.ref a), some (.int n), some (.ref p), some (.int i), some (.int c)] H' := by
    intro c D hc hD
    walk_at "go"
    refine ifB_dec (fun _ => ?_) (fun _ => ?_)
    · walk_at "go"
      refine uInt_mk (mulx_ok (a := 2) (b := e) (by decide) hc (by omega)) ?_
      iterate 2 walk_at "go1"
      exact stC _ D (bndB hc) hD
    · walk_at "go1"
      exact stC _ D (bndC hc) hD
  have hD : ∀ (rs : List Int) (u1 u2 : Option V) H2, Same H H2 → H2 p = some (.lst (rs.map V.int)) → rs.length = i + 1 → (∃ (rs : List Int) (u3 u4 : Option V), [some (.ref a), some (.int n), some (.ref p), u1, u2] = [some (.ref a), some (.int n), some (.ref p), u3, u4] ∧ Same H H2 ∧ H2 p = some (.lst (rs.map V.int)) ∧ rs.length = i + 1) := fun rs u1 u2 H2 a b c => ⟨rs, u1, u2, rfl, a, b, c⟩
  walk_at "go"
  refine ifB_dec (fun hpos => ?_) (fun _ => ?_)
  · have hnl : 0 < ns.length := by rw [List.length_map] at hpos; omega
    walk_at "go"
    refine uInt_mk (by rw [List.length_map]; exact Int.ofNat_lt.mpr hnl) ?_
    obtain ⟨z, hz1⟩ : ∃ z, ns[i % ns.length]? = some z := ⟨_, List.getElem?_eq_getElem (Nat.mod_lt _ hnl)⟩
    walk_at "go"
    refine uIx_lst hS' (v := .int z) ?_ ?_
    · rw [List.length_map]
      show atI (ns.map V.int) ((i : Int) % ((ns.length : Nat) : Int)) = some (.int z)
      rw [← Int.natCast_emod]
      exact atI_nat' (by rw [List.getElem?_map, hz1]; rfl)
    iterate 3 walk_at "go1"
    exact stB z _ (hz z (List.mem_of_getElem? hz1)) hD
  · walk_at "go1"
    exact stB 0 _ (pow_one e) hD
end

def spLText : Sp := fun vs H Q _ => ∃ r : Int, vs = [.int r] ∧ ∀ (t : Str) (H' : Hp), Same H H' → t.length ≤ 4 → (∀ c ∈ t.cps.toList, c < 128) → Q (.str t) H'
theorem emod_nat (a : Int) {m : Nat} (hm : 0 < m) : ∃ k : Nat, k < m ∧ a % (m : Int) = (k : Int) := by
  have h1 := Int.emod_nonneg a (b := (m : Int)) (by omega)
  have h2 := Int.emod_lt_of_pos a (b := (m : Int)) (by omega)
  exact ⟨(a % (m : Int)).toNat, by omega, by omega⟩
theorem sum_ones (cs : List Nat) : ((cs.map fun c => (⟨#[c]⟩ : Str)).map (·.length)).sum = cs.length := by
  induction cs with
  | nil => rfl
  | cons a r ih => rw [List.map_cons, List.map_cons, List.sum_cons, ih, List.length_cons]; show 1 + r.length = _; omega
theorem join_ones (cs : List Nat) : Txt.join "" (cs.map fun c => (⟨#[c]⟩ : Str)) = (⟨cs.toArray⟩ : Str) := str_ext (by
  rw [join_empty "" (by rfl)]
  induction cs with
  | nil => rfl
  | cons a r ih => rw [List.map_cons, List.flatMap_cons, ih]; rfl)
section
variable {P : Program} {w : World} {K : PySem.W.Frag} {mg : Str → Option Value} {base : Heap} {f C CW : Addr} {fd : FuncData}
theorem ok_law_text (F : FnP K "_law_text" "_law_text" sLawText f fd) (hint : mg "int" = none) (hrange : mg "range" = none) : FnG P w K mg base 1 f fd ["_law_row"] spLText := by
  refine fnG_of F scLawText (fun vs H Q E h => ?_) (fun cdv A outer s H vs Q E B h => ?_)
  · obtain ⟨r, rfl, _⟩ := h; rfl
  obtain ⟨r, rfl, q⟩ := h
  obtain ⟨n, hn, en⟩ := emod_nat r (m := 5) (by decide)
  walk_at "go"
  refine re_lcN (j := 2) B.toBd hrange (by rfl) rfl rfl ?_
  walk_at "go"
  rw [show r % 5 = (n : Int) from en]
  refine ⟨by omega, by omega, fun L hL => ⟨fun i H' => Same H H' ∧ ∃ cs : List Nat, H' L = some (.lst (cs.map fun c => V.str ⟨#[c]⟩)) ∧ cs.length = i ∧ ∀ c ∈ cs, c < 128, ⟨Same.new hL, [], upd_same, rfl, fun c h => nomatch h⟩, fun i H' hi p => ?_, fun H' p => ?_⟩⟩
  · obtain ⟨hs, cs, hc, hl, h128⟩ := p
    refine rBlk_mk B fun s' H0 C cl fp Bb => ?_
    walk_at "go"
    refine uInt_mk (mulx_ok (a := 3) (b := 4) (by decide) (by omega) (by omega)) ?_
    walk_at "go"
    refine uInt_mk (by show (0 : Int) < 3 + 7 * (i : Int) ∧ 3 + 7 * (i : Int) < (1073741824 : Int); omega) ?_
    walk_at "go"
    obtain ⟨k, hk, ek⟩ := emod_nat (r / (3 + 7 * (i : Int))) (m := 15) (by decide)
    rw [show gMod (r / (3 + 7 * (i : Int))) 15 = V.int (k : Int) from congrArg V.int ek]
    have hsl : ("ab \"\\n[]{},:\n1-" : Str).cps.toList.length = 15 := by decide +kernel
    obtain ⟨c, hcc⟩ : ∃ c, ("ab \"\\n[]{},:\n1-" : Str).cps.toList[k]? = some c := ⟨_, List.getElem?_eq_getElem (by rw [hsl]; exact hk)⟩
    refine uIx_str (szl (by rw [str_len, hsl]; decide)) (atI_nat' hcc) ?_
    refine ⟨_, hc, szlt (by rw [List.length_map]; omega), Same.mut hs hL, cs ++ [c], by rw [upd_same, List.map_append]; rfl, by rw [List.length_append, hl]; rfl, fun x hx => ?_⟩
    rcases List.mem_append.mp hx with y | y
    · exact h128 x y
    · rw [List.mem_singleton.mp y]
      have hall : ∀ c ∈ ("ab \"\\n[]{},:\n1-" : Str).cps.toList, c < 128 := by decide +kernel
      exact hall c (List.mem_of_getElem? hcc)
  · obtain ⟨hs, cs, hc, hl, h128⟩ := p
    have hl : cs.length = n := hl
    walk_at "go"
    refine uJoin_mk (ys := cs.map fun c => ⟨#[c]⟩) (SqL.of (hc.trans (by rw [List.map_map]; rfl))) ?_ ?_
    · rw [sum_ones, List.length_map]
      show cs.length + cs.length * 0 ≤ _
      omega
    rw [join_ones]
    exact q _ H' hs (by show cs.toArray.size ≤ 4; rw [List.size_toArray]; omega) (by simpa using h128)
end

/-- the law's counter -/
def wd (a b : Int) : List (Key × V) := [(.inr "at", .int a), (.inr "most", .int b)]
theorem wd_at (a b : Int) : valV (wd a b) (.inr "at") = some (.int a) := valV_pos rfl
theorem wd_most (a b : Int) : valV (wd a b) (.inr "most") = some (.int b) := (valV_neg (show (.inr "at" : Key) ≠ .inr "most" by decide)).trans (valV_pos rfl)
theorem wd_put (a b x : Int) : putK (wd a b) (.inr "at") (.int x) = wd x b := by rfl
theorem wGetA {H : Hp} {m : Addr} {a b : Int} (h : H m = some (.dK (wd a b))) : DGet H m (.str "at") (some (.int a)) := wd_at a b ▸ DGet.k (k := .inr "at") h
theorem wGetM {H : Hp} {m : Addr} {a b : Int} (h : H m = some (.dK (wd a b))) : DGet H m (.str "most") (some (.int b)) := wd_most a b ▸ DGet.k (k := .inr "most") h
def spLV (k : Nat) : Sp := fun vs H Q _ => ∃ (p m : Addr) (dep b : Int) (a : Nat) (rs : List Int), vs = [.ref p, .ref m, .int dep] ∧ dep + (k : Int) = 5 ∧ H p = some (.lst (rs.map V.int)) ∧ 0 < rs.length ∧ rs.length ≤ 1000 ∧ H m = some (.dK (wd a b)) ∧ p ≠ m ∧
  ∀ (v : V) (d : PyData) (a' : Nat) (H' : Hp), Sm k d → Keep m H H' → H' m = some (.dK (wd a' b)) → DqP (fun x => H x = none) H' v d → Q v H'
theorem row_ix {rs : List Int} (h : 0 < rs.length) (a : Nat) : ∃ z, atI (rs.map V.int) ((a : Int) % ((rs.map V.int).length : Int)) = some (.int z) := by
  obtain ⟨z, hz⟩ : ∃ z, rs[a % rs.length]? = some z := ⟨_, List.getElem?_eq_getElem (Nat.mod_lt _ h)⟩
  refine ⟨z, ?_⟩
  rw [List.length_map, ← Int.natCast_emod]
  exact atI_nat' (by rw [List.getElem?_map, hz]; rfl)
theorem DqKvP.cons {F : Addr → Prop} {H : Hp} {k : Str} {v : V} {d : PyData} {vs : List (Key × V)} {ds : List (PyData × PyData)} (h : DqP F H v d) (h2 : DqKvP F H vs ds) : DqKvP F H ((.inr k, v) :: vs) ((.str k, d) :: ds) := by
  obtain ⟨as, a1, a2⟩ := h
  obtain ⟨bs, b1, b2⟩ := h2
  exact ⟨_, .cons a1 b1, fun b hb => (List.mem_append.mp hb).elim (a2 b) (b2 b)⟩
theorem DqKvP.over {F : Addr → Prop} {H : Hp} {t : Str} {v : V} {d : PyData} (D : DqP F H v d) : ∀ {ks : List (L × PyData)} {kvs : List (Key × V)}, DqKvP F H kvs (ks.map toKv) →
    DqKvP F H (kvs.map fun kv => if kv.1 = (.inr t : Key) then (kv.1, v) else kv) ((ks.map fun p => if p.1 = t.cps.toList then (p.1, d) else p).map toKv)
  | [], kvs, h => by rw [DqKvP.inv_nil h]; exact .nil
  | (k, d0) :: r, kvs, h => by
    obtain ⟨k2, v2, vs', rfl, e, h1, h2⟩ := DqKvP.inv_cons h
    cases e
    have ih := DqKvP.over (t := t) D h2
    by_cases e : k = t.cps.toList
    · have e2 : (.inr (tOf k) : Key) = .inr t := by rw [e]; rfl
      rw [List.map_cons, List.map_cons, List.map_cons, if_pos e, if_pos e2]
      exact DqKvP.cons D ih
    · have e2 : (.inr (tOf k) : Key) ≠ .inr t := fun z => e (by rw [← Sum.inr.inj z, tOf_list])
      rw [List.map_cons, List.map_cons, List.map_cons, if_neg e, if_neg e2]
      exact DqKvP.cons h1 ih
theorem putK_le (c : List (Key × V)) (k : Key) (x : V) : (putK c k x).length ≤ c.length + 1 := by
  unfold putK
  split
  · rw [List.length_map]; omega
  · rw [List.length_append]; exact Nat.le_refl _
/-- a field put into a record of data -/
theorem DqKvP.put {F : Addr → Prop} {H : Hp} {t : Str} {v : V} {d : PyData} {ks : List (L × PyData)} {kvs : List (Key × V)} (h : DqKvP F H kvs (ks.map toKv)) (nd : (ks.map (·.1)).Nodup) (D : DqP F H v d) :
    ∃ ks' : List (L × PyData), DqKvP F H (putK kvs (.inr t) v) (ks'.map toKv) ∧ (ks'.map (·.1)).Nodup ∧ ks'.length ≤ ks.length + 1 ∧ ∀ x ∈ ks', (∃ y ∈ ks, x.1 = y.1 ∧ (x.2 = y.2 ∨ x.2 = d)) ∨ (x.1 = t.cps.toList ∧ x.2 = d) := by
  have hk := keys_some t.cps.toList kvs (ks.map (·.1)) (by rw [DqKvP.keys h, List.map_map]; rfl)
  have et : tOf t.cps.toList = t := by rfl
  rw [et] at hk
  have ha := (valV_any (.inr t) kvs).trans hk
  unfold putK
  by_cases hm : t.cps.toList ∈ ks.map (·.1)
  · rw [ha, decide_eq_true hm, if_pos rfl]
    refine ⟨_, DqKvP.over D h, ?_, by rw [List.length_map]; omega, fun x hx => ?_⟩
    · rw [List.map_map, show ((fun x : L × PyData => x.1) ∘ fun p : L × PyData => if p.1 = t.cps.toList then (p.1, d) else p) = (·.1) by funext p; show (if p.1 = t.cps.toList then (p.1, d) else p).1 = p.1; split <;> rfl]
      exact nd
    · obtain ⟨y, hy, rfl⟩ := List.mem_map.mp hx
      refine .inl ⟨y, hy, ?_⟩
      by_cases e : y.1 = t.cps.toList
      · rw [if_pos e]; exact ⟨rfl, .inr rfl⟩
      · rw [if_neg e]; exact ⟨rfl, .inl rfl⟩
  · rw [ha, decide_eq_false hm, if_neg Bool.false_ne_true]
    refine ⟨ks ++ [(t.cps.toList, d)], ?_, ?_, by rw [List.length_append]; exact Nat.le_refl _, fun x hx => ?_⟩
    · rw [List.map_append]
      exact DqKvP.snoc (x := t) h D
    · rw [List.map_append]
      refine List.nodup_append.mpr ⟨nd, List.nodup_cons.mpr ⟨fun h => (by cases h), List.nodup_nil⟩, fun a ha b hb e => ?_⟩
      have hb : b = t.cps.toList := List.mem_singleton.mp hb
      rw [e, hb] at ha
      exact hm ha
    · rcases List.mem_append.mp hx with y | y
      · exact .inl ⟨x, y, rfl, .inl rfl⟩
      · rw [List.mem_singleton.mp y]; exact .inr ⟨rfl, rfl⟩
section
variable {P : Program} {w : World} {K : PySem.W.Frag} {mg : Str → Option Value} {base : Heap} {f C CW : Addr} {fd : FuncData}
theorem ok_law_value {k : Nat} (F : FnP K "_law_value" "_law_value" sLawValue f fd) (hlen : mg "len" = none) (hint : mg "int" = none) (hrange : mg "range" = none) (cT : Cal P w K mg base 1 "_law_text" ["_law_row"] spLText)
    (cV : ∀ k', k = k' + 1 → Cal P w K mg base (k' + 2) "_law_value" ["_law_rows_here", "_law_world", "_law_depth"] (spLV k')) : FnG P w K mg base (k + 2) f fd ["_law_rows_here", "_law_world", "_law_depth"] (spLV k) := by
  refine fnG_of F scLawValue (fun vs H Q E h => ?_) (fun cdv A outer s H vs Q E B h => ?_)
  · obtain ⟨p, m, dep, b, a, rs, rfl, _⟩ := h; rfl
  obtain ⟨p, m, dep, b, a, rs, rfl, hdep, hp, hr0, hr1, hm, npm, q⟩ := h
  obtain ⟨z, hz⟩ := row_ix hr0 a
  walk_at "go"
  refine uIx_dict (wGetA hm) ?_
  walk_at "go"
  refine uInt_mk (by show (0 : Int) < ((rs.map V.int).length : Int); rw [List.length_map]; omega) ?_
  refine uIx_lst (SqL.of hp) hz ?_
  walk_at "go"
  refine uIx_dict (wGetA hm) ?_
  walk_at "go"
  refine uPut_s hm (szlt (show 2 < 16000000 by decide)) ?_
  rw [wd_put]
  generalize hH1 : upd H m (.dK (wd ((a : Int) + 1) b)) = H1
  have hm1 : H1 m = some (.dK (wd ((a + 1 : Nat) : Int) b)) := by rw [← hH1]; exact upd_same
  have k1 : Keep m H H1 := by rw [← hH1]; exact Keep.upd
  have hp1 := k1 p _ npm hp
  have hNm : Keep m H H1 := k1
  have nF : ∀ {H2 : Hp} {v : V} {d : PyData}, Same H1 H2 → DqP (fun _ => False) H2 v d → DqP (fun x => H x = none) H2 v d := fun {H2 v d} _ D => D.imp fun _ z => z.elim
  have k2of : ∀ {H2 : Hp}, Same H1 H2 → Keep m H H2 := fun {H2} s b o hb e => s b o (k1 b o hb e)
  have stA : ∀ (D : Ends), (∀ v H', Q v H' → D.rt v H') → RSs (cxOf (CX P w) P w K mg base ["_law_rows_here", "_law_world", "_law_depth", "_law_row", "_law_kind", "_law_many", "_law_j", "_law_record"] "_law_value" (defScope sLawValue) f cdv A outer s H E) (inW sLawValue 3 0) D [some (.ref p), some (.ref m), some (.int dep), some (.int z), some (.int (z % 9)), none, none, none] H1 := by
    intro D hD
    walk_at "go"
    refine ⟨szl (show 3 ≤ 16000000 by decide), fun l hl => ?_⟩
    walk_at "go"
    obtain ⟨j, hj, ej⟩ := emod_nat (z / 9) (m := 3) (by decide)
    have hj3 : j = 0 ∨ j = 1 ∨ j = 2 := by omega
    have s2 : Same H1 (upd H1 l (.lst [.non, .bl true, .bl false])) := Same.new hl
    have hm2 := s2 m _ hm1
    rw [show gMod (z / 9) 3 = V.int (j : Int) from congrArg V.int ej]
    rcases hj3 with rfl | rfl | rfl
    · refine uIx_lst (SqL.of upd_same) (v := .non) (atI_nat' rfl) ?_
      exact hD _ _ (q _ _ _ _ (.none k) (k2of s2) hm2 .non)
    · refine uIx_lst (SqL.of upd_same) (v := .bl true) (atI_nat' rfl) ?_
      exact hD _ _ (q _ _ _ _ (.bool k true) (k2of s2) hm2 (.bl true))
    · refine uIx_lst (SqL.of upd_same) (v := .bl false) (atI_nat' rfl) ?_
      exact hD _ _ (q _ _ _ _ (.bool k false) (k2of s2) hm2 (.bl false))
  have stB : ∀ (D : Ends), (∀ v H', Q v H' → D.rt v H') → RSs (cxOf (CX P w) P w K mg base ["_law_rows_here", "_law_world", "_law_depth", "_law_row", "_law_kind", "_law_many", "_law_j", "_law_record"] "_law_value" (defScope sLawValue) f cdv A outer s H E) (inW sLawValue 5 0) D [some (.ref p), some (.ref m), some (.int dep), some (.int z), some (.int (z % 9)), none, none, none] H1 := by
    intro D hD
    walk_at "go"
    refine ⟨z / 9, rfl, fun t H2 s2 ht hc => ?_⟩
    exact hD _ _ (q _ _ _ _ (.str k t ht hc) (k2of s2) (s2 m _ hm1) (.str t))
  have num : ∀ i : Int, i.natAbs ≤ mostN → Q (.int i) H1 := fun i hi => q _ _ _ _ (.int k i hi) k1 hm1 (.int i)
  walk_at "go"
  refine ifB_dec (fun _ => ifB_t (stA _ fun v H' h => h)) (fun hk1 => ?_)
  walk_at "go"
  refine uIx_dict (wGetA hm1) ?_
  walk_at "go"
  refine uIx_dict (wGetM hm1) ?_
  walk_at "go"
  refine ifB_dec (fun _ => stA _ fun v H' h => h) (fun _ => ?_)
  walk_at "go"
  refine ifB_dec (fun _ => ?_) (fun hk3 => ?_)
  · walk_at "go"
    refine ifB_dec (fun _ => ?_) (fun _ => ?_)
    · walk_at "go"
      obtain ⟨j, hj, ej⟩ := emod_nat (z / 9) (m := 2001) (by decide)
      have ej : z / 9 % 2001 = (j : Int) := ej
      refine num (z / 9 % 2001 - 1000) ?_
      have : (2001 : Nat) ≤ mostN := by decide +kernel
      omega
    · walk_at "go"
      obtain ⟨j, hj, ej⟩ := emod_nat (z / 9) (m := mostN) (by decide +kernel)
      refine num (z / 9 % 1000000000000000000000000000000) ?_
      rw [show (1000000000000000000000000000000 : Int) = (mostN : Int) by decide +kernel, ej]
      omega
  walk_at "go"
  refine ifB_dec (fun _ => ifB_t (stB _ fun v H' h => h)) (fun hk5 => ?_)
  walk_at "go"
  refine ifB_dec (fun _ => stB _ fun v H' h => h) (fun hd5 => ?_)
  obtain ⟨k', rfl⟩ : ∃ k', k = k' + 1 := ⟨k - 1, by omega⟩
  have cR := cV k' rfl
  obtain ⟨many, hmany, emany⟩ := emod_nat (z / 9) (m := 4) (by decide)
  have emany : z / 9 % 4 = (many : Int) := emany
  walk_at "go"
  refine ifB_dec (fun _ => ?_) (fun hk7 => ?_)
  · refine rss_cons (rs_ret ?_)
    refine re_lcN (j := 6) B.toBd hrange (by rfl) rfl rfl ?_
    walk_at "go"
    rw [show z / 9 % 4 = (many : Int) from emany]
    refine ⟨by omega, by omega, fun D hD => ⟨fun i H' => Keep m H H' ∧ (∃ a' : Nat, H' m = some (.dK (wd a' b))) ∧ ∃ (acc : List V) (ds : List PyData), H' D = some (.lst acc) ∧ acc.length = i ∧ DqAllP (fun x => H x = none ∧ x ≠ D) H' acc ds ∧ ∀ d ∈ ds, Sm k' d, ?_, fun i H' hi pv => ?_, fun H' pv => ?_⟩⟩
    · exact ⟨k2of (Same.new hD), ⟨a + 1, Same.new hD m _ hm1⟩, [], [], upd_same, rfl, .nil, fun d h => nomatch h⟩
    · obtain ⟨kk, ⟨a', hm'⟩, acc, ds, hacc, hal, Ds, hds⟩ := pv
      have nDm : D ≠ m := fun e => by rw [e, hm1] at hD; cases hD
      have hp' := kk p _ npm hp
      refine rBlk_mk B fun s' H0 C cl fp Bb => ?_
      walk_at "go"
      refine ⟨p, m, dep + 1, b, a', rs, rfl, by omega, hp', hr0, hr1, hm', npm, fun v d a2 H4 hSm k4 hm4 D4 => ?_⟩
      refine ⟨acc, k4 D _ nDm hacc, szlt (by omega), fun x o hx e => ?_, ⟨a2, (upd_ne (Ne.symm nDm)).trans hm4⟩, acc ++ [v], ds ++ [d], upd_same, by rw [List.length_append, hal]; rfl, ?_, fun x hx => ?_⟩
      · exact (upd_ne (fun e2 => by rw [e2, Keep.back k1 nDm hD] at e; cases e)).trans (k4 x o hx (kk x o hx e))
      · refine DqAllP.keep (DqAllP.snoc (DqAllP.keep Ds fun x o hx e => k4 x o (fun e2 => by rw [e2, hm] at hx; cases hx.1) e) (D4.imp fun x hx => ?_)) fun x o hx e => (upd_ne hx.2).trans e
        have xm : x ≠ m := fun e2 => by rw [e2, hm'] at hx; cases hx
        exact ⟨Keep.back kk xm hx, fun e2 => by rw [e2, hacc] at hx; cases hx⟩
      · rcases List.mem_append.mp hx with y | y
        · exact hds x y
        · rw [List.mem_singleton.mp y]; exact hSm
    · obtain ⟨kk, ⟨a', hm'⟩, acc, ds, hacc, hal, Ds, hds⟩ := pv
      have hal : acc.length = many := hal
      have nDm : D ≠ m := fun e => by rw [e, hm1] at hD; cases hD
      exact q _ (.list ds) a' H' (.list k' ds (by rw [← DqAllP.length Ds]; omega) hds) kk hm' (DqP.lst hacc Ds (fun y => y.2 rfl) (fun _ y => y.1) (Keep.back k1 nDm hD))
  · walk_at "go"
    intro R hR
    have nRm : R ≠ m := fun e => by rw [e, hm1] at hR; cases hR
    have hR0 : H R = none := Keep.back k1 nRm hR
    walk_at "go"
    refine rss_cons (rs_forR (j := 6) B.toBd rfl (by walk_at "loc") hrange ?_)
    walk_at "go"
    rw [show z / 9 % 4 = (many : Int) from emany]
    refine uForN_mk (fun i σ H' => ∃ u : Option V, σ = [some (.ref p), some (.ref m), some (.int dep), some (.int z), some (.int (z % 9)), some (.int many), u, some (.ref R)] ∧ Keep m H H' ∧ (∃ a' : Nat, H' m = some (.dK (wd a' b))) ∧ ∃ (kvs : List (Key × V)) (ks : List (L × PyData)), H' R = some (.dK kvs) ∧ kvs.length ≤ i ∧ DqKvP (fun x => H x = none ∧ x ≠ R) H' kvs (ks.map toKv) ∧ (ks.map (·.1)).Nodup ∧ ∀ p ∈ ks, (p.1.length ≤ 4 ∧ ∀ c ∈ p.1, c < 128) ∧ Sm k' p.2) (by omega) ?_ ?_ ?_
    · exact ⟨none, by rw [show gMod (z / 9) 4 = V.int (many : Int) from congrArg V.int emany]; rfl, k2of (Same.new hR), ⟨a + 1, Same.new hR m _ hm1⟩, [], [], upd_same, Nat.le_refl _, .nil, List.nodup_nil, fun d h => nomatch h⟩
    · rintro i σ H' hi ⟨u, rfl, kk, ⟨a', hm'⟩, kvs, ks, hkv, hkl, Ds, nd, hks⟩
      have hp' := kk p _ npm hp
      walk_at "go"
      refine ⟨p, m, dep + 1, b, a', rs, rfl, by omega, hp', hr0, hr1, hm', npm, fun v d a2 H4 hSm k4 hm4 D4 => ?_⟩
      have hp4 := k4 p _ npm hp'
      walk_at "go"
      refine uIx_dict (wGetA hm4) ?_
      walk_at "go"
      refine uInt_mk (by show (0 : Int) < ((rs.map V.int).length : Int); rw [List.length_map]; omega) ?_
      obtain ⟨z2, hz2⟩ := row_ix hr0 (a2 + i)
      rw [show ((a2 : Int) + (i : Int)) = ((a2 + i : Nat) : Int) by omega]
      refine uIx_lst (SqL.of hp4) hz2 ?_
      walk_at "go"
      refine ⟨z2 / 13, rfl, fun t H5 s5 ht hc => ?_⟩
      have hkv5 := s5 R _ (k4 R _ nRm hkv)
      refine uPut_s hkv5 (szlt (by omega)) ?_
      have D4' : DqP (fun x => H x = none ∧ x ≠ R) H5 v d := DqP.keep (D4.imp fun x hx => ?_) fun x o _ e => s5 x o e
      · obtain ⟨ks', E1, E2, E3, E4⟩ := DqKvP.put (t := t) (DqKvP.keep Ds fun x o hx e => s5 x o (k4 x o (fun e2 => by rw [e2, hm] at hx; cases hx.1) e)) nd D4'
        walk_at "go"
        refine ⟨_, rfl, fun x o hx e => ?_, ⟨a2, (upd_ne (Ne.symm nRm)).trans (s5 m _ hm4)⟩, _, ks', upd_same, by have := putK_le kvs (.inr t) v; omega, DqKvP.keep E1 fun x o hx e => (upd_ne hx.2).trans e, E2, fun x hx => ?_⟩
        · exact (upd_ne (fun e2 => by rw [e2, hR0] at e; cases e)).trans (s5 x o (k4 x o hx (kk x o hx e)))
        · rcases E4 x hx with y | ⟨y1, y2⟩
          · obtain ⟨y0, hy0, e1, e2⟩ := y
            rw [e1]
            refine ⟨(hks y0 hy0).1, ?_⟩
            rcases e2 with e2 | e2
            · rw [e2]; exact (hks y0 hy0).2
            · rw [e2]; exact hSm
          · rw [y1, y2]
            exact ⟨⟨by rw [← str_len]; exact ht, hc⟩, hSm⟩
      · have xm : x ≠ m := fun e2 => by rw [e2, hm'] at hx; cases hx
        exact ⟨Keep.back kk xm hx, fun e2 => by rw [e2, hkv] at hx; cases hx⟩
    · rintro σ H' ⟨u, rfl, kk, ⟨a', hm'⟩, kvs, ks, hkv, hkl, Ds, nd, hks⟩
      walk_at "go"
      have hkk := DqKvP.keys Ds
      have hkl2 : kvs.length = ks.length := by have := congrArg List.length hkk; rwa [List.length_map, List.length_map] at this
      exact q _ (.dict (ks.map toKv)) a' H' (.dict k' ks (by omega) (fun x hx => (hks x hx).1) nd fun x hx => (hks x hx).2) kk hm' (DqP.dic hkv Ds (fun y => y.2 rfl) (fun _ y => y.1) hR0)
end

def spLVs : Sp := fun vs H Q _ => ∃ (p : Addr) (a many : Nat) (rs : List Int), vs = [.ref p, .int a, .int many] ∧ many ≤ 4 ∧ H p = some (.lst (rs.map V.int)) ∧ 0 < rs.length ∧ rs.length ≤ 1000 ∧
  ∀ (v : V) (ds : List PyData) (H' : Hp), ds.length = many → (∀ d ∈ ds, Sm 5 d) → Same H H' → DqP (fun x => H x = none) H' v (.list ds) → Q v H'
/-- what the top has written: the law's own helpers -/
structure Lwr (K : PySem.W.Frag) (mg : Str → Option Value) : Prop where
  rw : GD K mg "_law_rows" sLawRows
  tx : GD K mg "_law_text" sLawText
  va : GD K mg "_law_value" sLawValue
  vs : GD K mg "_law_values" sLawValues
  hlen : mg "len" = none
  hint : mg "int" = none
  hrange : mg "range" = none
section
variable {P : Program} {w : World} {K : PySem.W.Frag} {mg : Str → Option Value} {base : Heap} {f C CW : Addr} {fd : FuncData}
theorem cal_rows (T : Lwr K mg) : Cal P w K mg base 1 "_law_rows" ["_law_script", "_law_count"] (spRows K) := T.rw.cal bdLawRows fun f fd F => ok_law_rows F T.hlen T.hint T.hrange
theorem cal_ltext (T : Lwr K mg) : Cal P w K mg base 1 "_law_text" ["_law_row"] spLText := T.tx.cal bdLawText fun f fd F => ok_law_text F T.hint T.hrange
theorem cal_lv (T : Lwr K mg) : ∀ k, Cal P w K mg base (k + 2) "_law_value" ["_law_rows_here", "_law_world", "_law_depth"] (spLV k) := by
  intro k
  induction k with
  | zero => exact T.va.cal bdLawValue fun f fd F => ok_law_value F T.hlen T.hint T.hrange (cal_ltext T) (fun k' e => nomatch e)
  | succ k ih => exact T.va.cal bdLawValue fun f fd F => ok_law_value F T.hlen T.hint T.hrange (cal_ltext T) (fun k' e => by cases e; exact ih)
theorem ok_law_values (F : FnP K "_law_values" "_law_values" sLawValues f fd) (T : Lwr K mg) : FnG P w K mg base 8 f fd ["_law_rows_here", "_law_at", "_law_many"] spLVs := by
  have cV := cal_lv (P := P) (w := w) (base := base) T 5
  have hrange := T.hrange
  refine fnG_of F scLawValues (fun vs H Q E h => ?_) (fun cdv A outer s H vs Q E B h => ?_)
  · obtain ⟨p, a, many, rs, rfl, _⟩ := h; rfl
  obtain ⟨p, a, many, rs, rfl, hm4, hp, hr0, hr1, q⟩ := h
  walk_at "go"
  intro m hm
  walk_at "go"
  refine uDisp2 upd_same (by decide) ?_
  rw [upd_upd]
  generalize hH1 : upd H m (.dK [(.inr "at", .int a), (.inr "most", .int ((a : Int) + 25))]) = H1
  have hm1 : H1 m = some (.dK (wd a ((a : Int) + 25))) := by rw [← hH1]; exact upd_same
  have s1 : Same H H1 := by rw [← hH1]; exact Same.new hm
  have npm : p ≠ m := fun e => by rw [e, hm] at hp; cases hp
  walk_at "go"
  refine re_lcN (j := 4) B.toBd hrange (by rfl) rfl rfl ?_
  walk_at "go"
  refine ⟨by omega, by omega, fun D hD => ⟨fun i H' => Keep m H1 H' ∧ (∃ a' : Nat, H' m = some (.dK (wd a' ((a : Int) + 25)))) ∧ ∃ (acc : List V) (ds : List PyData), H' D = some (.lst acc) ∧ acc.length = i ∧ DqAllP (fun x => H1 x = none ∧ x ≠ D) H' acc ds ∧ ∀ d ∈ ds, Sm 5 d, ?_, fun i H' hi pv => ?_, fun H' pv => ?_⟩⟩
  · exact ⟨Keep.of (Same.new hD), ⟨a, Same.new hD m _ hm1⟩, [], [], upd_same, rfl, .nil, fun d h => nomatch h⟩
  · obtain ⟨kk, ⟨a', hm'⟩, acc, ds, hacc, hal, Ds, hds⟩ := pv
    have nDm : D ≠ m := fun e => by rw [e, hm1] at hD; cases hD
    have hp' := kk p _ npm (s1 p _ hp)
    refine rBlk_mk B fun s' H0 C cl fp Bb => ?_
    walk_at "go"
    refine ⟨p, m, 0, _, a', rs, rfl, by omega, hp', hr0, hr1, hm', npm, fun v d a2 H4 hSm k4 hm4 D4 => ?_⟩
    refine ⟨acc, k4 D _ nDm hacc, szlt (by omega), fun x o hx e => ?_, ⟨a2, (upd_ne (Ne.symm nDm)).trans hm4⟩, acc ++ [v], ds ++ [d], upd_same, by rw [List.length_append, hal]; rfl, ?_, fun x hx => ?_⟩
    · exact (upd_ne (fun e2 => by rw [e2, hD] at e; cases e)).trans (k4 x o hx (kk x o hx e))
    · refine DqAllP.keep (DqAllP.snoc (DqAllP.keep Ds fun x o hx e => k4 x o (fun e2 => by rw [e2, hm1] at hx; cases hx.1) e) (D4.imp fun x hx => ?_)) fun x o hx e => (upd_ne hx.2).trans e
      have xm : x ≠ m := fun e2 => by rw [e2, hm'] at hx; cases hx
      exact ⟨Keep.back kk xm hx, fun e2 => by rw [e2, hacc] at hx; cases hx⟩
    · rcases List.mem_append.mp hx with y | y
      · exact hds x y
      · rw [List.mem_singleton.mp y]; exact hSm
  · obtain ⟨kk, ⟨a', hm'⟩, acc, ds, hacc, hal, Ds, hds⟩ := pv
    have hal : acc.length = many := hal
    have nDm : D ≠ m := fun e => by rw [e, hm1] at hD; cases hD
    refine q _ ds H' (by rw [← DqAllP.length Ds]; exact hal) hds (fun x o e => kk x o (fun e2 => by rw [e2, hm] at e; cases e) (s1 x o e)) (DqP.lst (F := fun x => H1 x = none ∧ x ≠ D) hacc Ds (fun y => y.2 rfl) (fun x y => Same.back s1 y.1) (Same.back s1 hD))
theorem cal_lvs (T : Lwr K mg) : Cal P w K mg base 8 "_law_values" ["_law_rows_here", "_law_at", "_law_many"] spLVs := T.vs.cal bdLawValues fun f fd F => ok_law_values F T
end

/-- the top of k72, for the law -/
structure Top72 (K : PySem.W.Frag) (mg : Str → Option Value) (C CW : Addr) : Prop where
  rd : Rdr K mg C CW
  wr : Wtr K mg
  lw : Lwr K mg
  make : ∃ f fd, FnP K "__init__" "ValueReader.__init__" sValuereaderInit f fd ∧ mg "ValueReader" = some (.ref C) ∧ Mk K C f
  rc : GD K mg "read_call" sReadCall
  hex : PySem.W.exmOne K (.ref CW) (.ref CW) = some true
  hK : ∃ o, K.lookup sysModules = some o
  htup : mg "tuple" = none
  hbool : mg "bool" = none
  hdict : mg "dict" = none
  hrepr : mg "repr" = none
section
variable {P : Program} {w : World} {K : PySem.W.Frag} {mg : Str → Option Value} {base : Heap} {f C CW : Addr} {fd : FuncData}
theorem cal_read (T : Top72 K mg C CW) : Cal P w K mg base 69 "read_call" ["text"] spCall := by
  obtain ⟨f, fd, F, hm, M⟩ := T.make
  exact T.rc.cal bdReadCall fun f' fd' F' => ok_read_call F' T.rd ⟨f, fd, ok_init F T.rd.cl, hm, M, bdValuereaderInit f fd F⟩ T.wr.hisi T.wr.hlist T.wr.hstr T.hex
theorem cal_wc (T : Wtr K mg) : Cal P w K mg base 23 "write_call" ["name", "values"] spWC := T.ca.cal bdWriteCall fun f fd F => ok_write_call F T
end

def spBent : Sp := fun vs H Q _ => ∃ (t : Str) (r : Int), vs = [.str t, .int r] ∧ t.length ≤ 1000000 ∧ ∀ t' : Str, t'.length ≤ 3 * t.length + 1 → Q (.str t') H
theorem cutS_len (z : Str) (lo hi : Option Int) : (cutS z lo hi).length ≤ z.length := by
  unfold cutS
  show (List.toArray _).size ≤ _
  rw [List.size_toArray, List.length_take, List.length_drop, str_len]
  omega
theorem app_len (a b : Str) : (a ++ b).length = a.length + b.length := by rw [str_len, str_app, List.length_append, ← str_len, ← str_len]
section
variable {P : Program} {w : World} {K : PySem.W.Frag} {mg : Str → Option Value} {base : Heap} {f C CW : Addr} {fd : FuncData}
theorem ok_law_bent (F : FnP K "_law_bent" "_law_bent" sLawBent f fd) (hlen : mg "len" = none) (hint : mg "int" = none) : FnG P w K mg base 1 f fd ["_law_text_here", "_law_row"] spBent := by
  refine fnG_of F scLawBent (fun vs H Q E h => ?_) (fun cdv A outer s H vs Q E B h => ?_)
  · obtain ⟨t, r, rfl, _⟩ := h; rfl
  obtain ⟨t, r, rfl, hl, q⟩ := h
  have hsl : ("[]{},:\"\\0123-ntflse aur\n" : Str).cps.toList.length = 24 := by decide +kernel
  have hsl2 : ("[]{},:\"\\0123-ntflse aur\n" : Str).length = 24 := by decide +kernel
  walk_at "go"
  refine uInt_mk (by show (0 : Int) < (t.length : Int) + 1; omega) ?_
  walk_at "go"
  obtain ⟨k, hk, ek⟩ := emod_nat (r / 997) (m := 24) (by decide)
  rw [show gMod (r / 997) (("[]{},:\"\\0123-ntflse aur\n" : Str).length : Int) = V.int (k : Int) by rw [hsl2]; exact congrArg V.int ek]
  obtain ⟨c, hc⟩ : ∃ c, ("[]{},:\"\\0123-ntflse aur\n" : Str).cps.toList[k]? = some c := ⟨_, List.getElem?_eq_getElem (by rw [hsl]; exact hk)⟩
  refine uIx_str (szl (by rw [hsl2]; decide)) (atI_nat' hc) ?_
  have hc1 : (⟨#[c]⟩ : Str).length = 1 := rfl
  have cl : ∀ lo hi, (cutS t lo hi).length ≤ t.length := cutS_len t
  walk_at "go"
  refine ifB_dec (fun _ => ?_) (fun _ => ?_)
  · walk_at "go"
    have h1 := cl none (some (r % ((t.length : Int) + 1)))
    have h2 := cl (some (r % ((t.length : Int) + 1))) none
    refine uAdd_str (szl (by omega)) ?_
    walk_at "go"
    refine uAdd_str (szl (by rw [app_len]; omega)) ?_
    exact q _ (by rw [app_len, app_len]; omega)
  walk_at "go"
  refine ifB_dec (fun _ => ?_) (fun _ => ?_)
  · walk_at "go"
    have h1 := cl none (some (r % ((t.length : Int) + 1)))
    have h2 := cl (some (r % ((t.length : Int) + 1) + 1)) none
    refine uAdd_str (szl (by omega)) ?_
    exact q _ (by rw [app_len]; omega)
  walk_at "go"
  refine ifB_dec (fun _ => ?_) (fun _ => ?_)
  · walk_at "go"
    have h1 := cl none (some (r % ((t.length : Int) + 1)))
    have h2 := cl (some (r % ((t.length : Int) + 1) + 1)) none
    refine uAdd_str (szl (by omega)) ?_
    walk_at "go"
    refine uAdd_str (szl (by rw [app_len]; omega)) ?_
    exact q _ (by rw [app_len, app_len]; omega)
  · walk_at "go"
    have h1 := cl none (some (r % ((t.length : Int) + 1)))
    have h2 := cl (some (r % ((t.length : Int) + 1))) none
    have h3 := cl (some (r % ((t.length : Int) + 1))) (some (r % ((t.length : Int) + 1) + 1))
    refine uAdd_str (szl (by omega)) ?_
    walk_at "go"
    refine uAdd_str (szl (by rw [app_len]; omega)) ?_
    exact q _ (by rw [app_len, app_len]; omega)
end

theorem call_len3 {nm : Str} {ds : List PyData} (hn : nm.length ≤ 1000) (hd : ds.length ≤ 4) (h : ∀ d ∈ ds, Sm 5 d) : (wv (.list (.str nm :: ds))).length ≤ 300000 := by
  have e : wv (.list (.str nm :: ds)) = 91 :: (sepJ (wt nm.cps.toList :: ds.map wv) ++ [93]) := by simp [wv, wvA_map, wvA]
  have h1 := sepJ_le (wt nm.cps.toList :: ds.map wv)
  have h2 := sum_le (l := (ds.map wv).map List.length) (B := Tk 5) fun z hz => by
    obtain ⟨y, hy, rfl⟩ := List.mem_map.mp hz
    obtain ⟨x, hx2, rfl⟩ := List.mem_map.mp hy
    exact (h x hx2).len
  rw [List.length_map, List.length_map] at h2
  have h3 : ds.length * Tk 5 ≤ 4 * Tk 5 := Nat.mul_le_mul_right _ hd
  have h4 := wt_le nm.cps.toList
  have h5 := str_len nm
  have h6 : Tk 5 = 60056 := by decide
  rw [e]
  rw [List.map_cons, List.sum_cons, List.length_cons, List.length_map] at h1
  simp only [List.length_cons, List.length_append, List.length_nil]
  omega
theorem list3 {α : Type} (a b c : α) (k : Nat) (h : k < 3) : ∃ x, ([a, b, c] : List α)[k]? = some x ∧ (x = a ∨ x = b ∨ x = c) := by
  rcases (by omega : k = 0 ∨ k = 1 ∨ k = 2) with e | e | e <;> subst e
  · exact ⟨a, rfl, .inl rfl⟩
  · exact ⟨b, rfl, .inr (.inl rfl)⟩
  · exact ⟨c, rfl, .inr (.inr rfl)⟩
/-- what is read as a call was written so -/
theorem readC_inv {l : L} {d : PyData} (h : readC l = some d) : ∃ nm ds, d = .tuple [.str nm, .list ds] ∧ nm ≠ "" ∧ (∀ x ∈ ds, OkV 20 x) ∧ l = wv (.list (.str nm :: ds)) := by
  unfold readC at h
  cases e : rd 21 l with
  | none => rw [e] at h; cases h
  | some q =>
    obtain ⟨d0, r⟩ := q
    rw [e] at h
    have h : (if r = [] then asCall d0 else none) = some d := h
    obtain ⟨h1, h2⟩ := rd_inv 21 l d0 r e
    by_cases hr : r = []
    · rw [if_pos hr] at h
      rw [hr, List.append_nil] at h1
      have no : ∀ {o : Option PyData}, o = none → asCall d0 = o → False := fun ho e => by rw [e, ho] at h; cases h
      cases h2 with
      | none n => exact (no rfl rfl).elim
      | bool n b => exact (no rfl rfl).elim
      | int n i hi => exact (no rfl rfl).elim
      | str n x => exact (no rfl rfl).elim
      | dict n ks hk nd => exact (no rfl rfl).elim
      | list n xs hxs =>
        cases xs with
        | nil => exact (no rfl rfl).elim
        | cons x vals =>
          have hv : ∀ y ∈ vals, OkV 20 y := fun y hy => hxs y (List.mem_cons_of_mem _ hy)
          cases hxs x List.mem_cons_self with
          | none n => exact (no rfl rfl).elim
          | bool n b => exact (no rfl rfl).elim
          | int n i hi => exact (no rfl rfl).elim
          | dict n ks hk nd => exact (no rfl rfl).elim
          | list n xs hxs => exact (no rfl rfl).elim
          | str n nm =>
            have h : (if nm = "" then none else some (PyData.tuple [.str nm, .list vals])) = some d := h
            by_cases hn : nm = ""
            · rw [if_pos hn] at h; cases h
            · rw [if_neg hn] at h
              cases h
              exact ⟨nm, vals, rfl, hn, hv, h1⟩
    · rw [if_neg hr] at h; cases h
theorem read_call_back {nm : Str} {ds : List PyData} (hn : nm ≠ "") (h : ∀ x ∈ ds, OkV 20 x) : readC (wv (.list (.str nm :: ds))) = some (.tuple [.str nm, .list ds]) := by
  have hok : OkV 21 (.list (.str nm :: ds)) := .list 20 _ fun x hx => (List.mem_cons.mp hx).elim (fun e => e ▸ .str 19 nm) (h x)
  have h := rd_wv 21 _ hok [] noDig_nil
  rw [List.append_nil] at h
  unfold readC
  rw [h]
  show (if ([] : L) = [] then asCall (.list (.str nm :: ds)) else none) = _
  rw [if_pos rfl]
  exact if_neg hn

section
variable {P : Program} {w : World} {K : PySem.W.Frag} {mg : Str → Option Value} {base : Heap} {f C CW : Addr} {fd : FuncData}
def spLaw (K : PySem.W.Frag) : Sp := fun vs H Q _ => ∃ (a : Addr) (ns : List Int), vs = [.ref a] ∧ SqL K H a (ns.map V.int) ∧ ns.length ≤ 63 ∧ (∀ z ∈ ns, Builtin.Int.intBits z ≤ 1048576) ∧ ∀ H', Q (.bl true) H'
theorem ok_law (F : FnP K "law" "law" sLaw f fd) (T : Top72 K mg C CW) (G : GD K mg "_law_bent" sLawBent) : FnG P w K mg base 70 f fd ["_law_script"] (spLaw K) := by
  have cR := cal_rows (P := P) (w := w) (base := base) T.lw
  have cVs := cal_lvs (P := P) (w := w) (base := base) T.lw
  have cRd := cal_read (P := P) (w := w) (base := base) T
  have cW := cal_wc (P := P) (w := w) (base := base) T.wr
  have cB : Cal P w K mg base 1 "_law_bent" ["_law_text_here", "_law_row"] spBent := G.cal bdLawBent fun f fd F => ok_law_bent F T.lw.hlen T.lw.hint
  have hrange := T.lw.hrange
  have hint := T.lw.hint
  have hlen := T.lw.hlen
  have hisi := T.wr.hisi
  have hstr := T.wr.hstr
  have htup := T.htup
  refine fnG_of F scLaw (fun vs H Q E h => ?_) (fun cdv A outer s H vs Q E B h => ?_)
  · obtain ⟨a, ns, rfl, _⟩ := h; rfl
  obtain ⟨a, ns, rfl, hS, hns, hz, q⟩ := h
  walk_at "go"
  obtain ⟨e, he⟩ : ∃ e : Nat, e = 1048576 := ⟨_, rfl⟩
  refine ⟨a, ns, 60, e, rfl, hS, by omega, by decide, by omega, fun z hz' => bits_abs (he ▸ hz z hz'), fun p H1 rs hp s1 hp1 hrs => ?_⟩
  have row : ∀ i : Nat, i < 60 → ∃ z, atI (rs.map V.int) (i : Int) = some (.int z) := fun i hi => by
    obtain ⟨z, hz1⟩ : ∃ z, rs[i]? = some z := ⟨_, List.getElem?_eq_getElem (by omega)⟩
    exact ⟨z, atI_nat' (by rw [List.getElem?_map, hz1]; rfl)⟩
  obtain ⟨z0, hz0⟩ := row 0 (by decide)
  walk_at "go"
  refine ⟨szl (show 3 ≤ 16000000 by decide), fun l1 hl1 => ?_⟩
  walk_at "go"
  generalize hH2 : upd H1 l1 (.lst [.str "send", .str "root", .str "a"]) = H2
  have s2 : Same H1 H2 := by rw [← hH2]; exact Same.new hl1
  have hl2 : H2 l1 = some (.lst [.str "send", .str "root", .str "a"]) := by rw [← hH2]; exact upd_same
  have hp2 := s2 p _ hp1
  refine uIx_lst (SqL.of hp2) hz0 ?_
  walk_at "go"
  obtain ⟨j, hj, ej⟩ := emod_nat z0 (m := 3) (by decide)
  rw [show gMod z0 3 = V.int (j : Int) from congrArg V.int ej]
  obtain ⟨x, hx, hx4⟩ := list3 (V.str "send") (.str "root") (.str "a") j hj
  obtain ⟨nm, rfl, hnl, hnm0⟩ : ∃ n0 : Str, x = .str n0 ∧ n0.length ≤ 9 ∧ n0 ≠ "" := by
    rcases hx4 with e | e | e <;> subst e <;> exact ⟨_, rfl, by decide +kernel, by decide +kernel⟩
  refine uIx_lst (SqL.of hl2) (atI_nat' hx) ?_
  walk_at "go"
  refine uIx_lst (SqL.of hp2) hz0 ?_
  walk_at "go"
  obtain ⟨many, hmany, emany⟩ := emod_nat (z0 / 3) (m := 4) (by decide)
  rw [show gMod (z0 / 3) 4 = V.int (many : Int) from congrArg V.int emany]
  refine ⟨p, 1, many, rs, rfl, by omega, hp2, by omega, by omega, fun v ds H3 hdl hds s3 D3 => ?_⟩
  walk_at "go"
  have hcl := call_len3 (nm := nm) (ds := ds) (by omega) (by omega) hds
  have hok20 : ∀ d ∈ ds, OkV 20 d := fun d hd => (hds d hd).ok.mono (by omega)
  refine ⟨nm, v, ds, rfl, D3.imp fun _ _ => trivial, hok20, by omega, fun H4 s4 => ?_⟩
  generalize hW : tOf (wv (.list (.str nm :: ds))) = W
  have hWl : W.cps.toList = wv (.list (.str nm :: ds)) := by rw [← hW, tOf_list]
  have hWn : W.length ≤ 300000 := by rw [str_len, hWl]; exact hcl
  walk_at "go"
  have hback := read_call_back hnm0 hok20
  rw [← hWl] at hback
  refine ⟨W, rfl, by omega, fun e => (by rw [hback] at e; cases e), fun d e v2 H5 s5 D5 => ?_⟩
  have e : some (PyData.tuple [.str nm, .list ds]) = some d := hback.symm.trans e
  cases e
  obtain ⟨t2, vs2, rfl, ht2, hF2, Dt2⟩ := DqP.inv_tup D5
  walk_at "go"
  have hs5 : Same H1 H5 := fun x o e => s5 x o (s4 x o (s3 x o (s2 x o e)))
  refine rss_cons (rs_forR (j := 4) B.toBd rfl (by walk_at "loc") hrange ?_)
  walk_at "go"
  refine uForN_mk (n := 45) (fun i σ H' => ∃ u1 u2 u3 : Option V, σ = [some (.ref a), some (.ref p), some (.str nm), some (.str W), u1, u2, u3] ∧ Same H1 H') (by decide) ⟨none, none, none, rfl, hs5⟩ ?_ ?_
  case refine_2 =>
    rintro σ H' ⟨u1, u2, u3, rfl, hs⟩
    have n1 : readC (("" : Str).cps.toList) = none := by decide +kernel
    have n2 : readC (("[]" : Str).cps.toList) = none := by decide +kernel
    have n3 : readC (("[\"\"]" : Str).cps.toList) = none := by decide +kernel
    walk_at "go"
    refine ⟨"", rfl, by decide +kernel, fun _ H7 s7 => ?_, fun d e => by rw [n1] at e; cases e⟩
    walk_at "go"
    refine ⟨"[]", rfl, by decide +kernel, fun _ H8 s8 => ?_, fun d e => by rw [n2] at e; cases e⟩
    walk_at "go"
    refine ⟨"[\"\"]", rfl, by decide +kernel, fun _ H9 s9 => ?_, fun d e => by rw [n3] at e; cases e⟩
    walk_at "go"
    exact q _
  rintro i σ H6 hi ⟨u1, u2, u3, rfl, s6⟩
  have hp6 := s6 p _ hp1
  -- behind the bending
  have fin : ∀ (D : Ends) (b : Str) (u3 : Option V), b.length ≤ 1000000 → (∀ H' u1 u2 u3, Same H1 H' → D.nx [some (.ref a), some (.ref p), some (.str nm), some (.str W), u1, u2, u3] H') → RSs (cxOf (CX P w) P w K mg base ["_law_script", "_law_rows_here", "_law_name", "_law_text_here", "_law_k", "_law_bent_here", "_law_told"] "law" (defScope sLaw) f cdv A outer s H E) (inW sLaw 4 2) D [some (.ref a), some (.ref p), some (.str nm), some (.str W), some (.int i), some (.str b), u3] H6 := by
    intro D b u3 hb hD
    walk_at "go"
    refine ⟨b, rfl, hb, fun _ H7 s7 => ?_, fun d e v2 H7 s7 D7 => ?_⟩
    · walk_at "go"
      exact hD _ _ _ _ fun x o e => s7 x o (s6 x o e)
    · obtain ⟨n2, ds2, rfl, hn2, hds2, hb2⟩ := readC_inv e
      obtain ⟨t3, vs3, rfl, ht3, hF3, Dt3⟩ := DqP.inv_tup D7
      obtain ⟨w1, vs4, rfl, Dw1, Dt4⟩ := DqAllP.inv_cons Dt3
      cases DqP.inv_str Dw1
      obtain ⟨w2, vs5, rfl, Dw2, Dt5⟩ := DqAllP.inv_cons Dt4
      cases DqAllP.inv_nil Dt5
      walk_at "go"
      refine uIx_tup (SqT.of ht3) (v := .str n2) (atI_drop (k := 0) rfl) ?_
      walk_at "go"
      refine ifB_no (decide_eq_false hn2) ?_
      walk_at "go"
      refine uIx_tup (SqT.of ht3) (v := .str n2) (atI_drop (k := 0) rfl) ?_
      walk_at "go"
      refine uIx_tup (SqT.of ht3) (v := w2) (atI_drop (k := 1) rfl) ?_
      walk_at "go"
      refine ⟨n2, w2, ds2, rfl, Dw2.imp fun _ _ => trivial, hds2, by rw [← hb2, ← str_len]; exact hb, fun H8 s8 => ?_⟩
      rw [← hb2, show tOf b.cps.toList = b from rfl]
      walk_at "go"
      refine ifB_yes (by rw [decide_eq_true rfl]) ?_
      walk_at "go"
      exact hD _ _ _ _ fun x o e => s8 x o (s7 x o (s6 x o e))
  have hDn : ∀ H' u1 u2 u3, Same H1 H' → ∃ v1 v2 v3 : Option V, [some (.ref a), some (.ref p), some (.str nm), some (.str W), u1, u2, u3] = [some (.ref a), some (.ref p), some (.str nm), some (.str W), v1, v2, v3] ∧ Same H1 H' := fun H' u1 u2 u3 hs => ⟨u1, u2, u3, rfl, hs⟩
  have e60 : ((i : Int) % 60) = ((i % 60 : Nat) : Int) := by omega
  obtain ⟨z, hzi⟩ := row (i % 60) (Nat.mod_lt _ (by decide))
  obtain ⟨zi, hzi2⟩ := row i (by omega)
  walk_at "go"
  rw [show gMod (i : Int) 60 = V.int ((i % 60 : Nat) : Int) from congrArg V.int e60]
  refine uIx_lst (SqL.of hp6) hzi ?_
  walk_at "go"
  refine uInt_mk (by show (0 : Int) < 1 + (i : Int) / 30 ∧ 1 + (i : Int) / 30 < (1073741824 : Int); omega) ?_
  walk_at "go"
  refine ⟨W, _, rfl, by omega, fun b1 hb1 => ?_⟩
  walk_at "go"
  refine ifB_dec (fun h30 => ?_) (fun h30 => ?_)
  · walk_at "go"
    refine uIx_lst (SqL.of hp6) hzi2 ?_
    walk_at "go"
    obtain ⟨dgt, hdgt, edgt⟩ := emod_nat zi (m := 30) (by decide)
    rw [show gMod zi 30 = V.int (dgt : Int) from congrArg V.int edgt]
    have hmn : 30 ≤ mostN := by decide +kernel
    have hdm : ((dgt : Int)).natAbs ≤ mostN := by omega
    refine uStr_int (log_small hdm) ?_
    have hsl : (Str.ofString (toString (dgt : Int))).length ≤ 32 := by
      rw [str_len]
      exact intL_len hdm
    generalize Str.ofString (toString (dgt : Int)) = sd at hsl ⊢
    have h5 : ("[\"a\"," : Str).length = 5 := by decide +kernel
    refine uAdd_str (szl (by rw [h5]; omega)) ?_
    walk_at "go"
    refine uAdd_str (szl (by rw [app_len, h5]; show 5 + sd.length + 1 ≤ _; omega)) ?_
    generalize hsr : ("[\"a\"," : Str) ++ sd ++ ("]" : Str) = sr
    have hsrl : sr.length ≤ 38 := by rw [← hsr, app_len, app_len, h5]; show 5 + sd.length + 1 ≤ _; omega
    walk_at "go"
    refine uIx_lst (SqL.of hp6) hzi2 ?_
    walk_at "go"
    refine ⟨sr, _, rfl, by omega, fun b2 hb2 => ?_⟩
    walk_at "go"
    refine uIx_lst (SqL.of hp6) hzi2 ?_
    walk_at "go"
    refine ⟨b2, _, rfl, by omega, fun b3 hb3 => ?_⟩
    iterate 1 walk_at "go1"
    exact fin _ b3 _ (by omega) hDn
  · walk_at "go1"
    exact fin _ b1 _ (by omega) hDn
end

def dWriteText : He.DefD := ⟨("write_text", none), "write_text", "write_text", defArgs sWriteText, defBody sWriteText, defScope sWriteText, [], []⟩
def dWriteValue : He.DefD := ⟨("write_value", none), "write_value", "write_value", defArgs sWriteValue, defBody sWriteValue, defScope sWriteValue, [], []⟩
def dWriteCall : He.DefD := ⟨("write_call", none), "write_call", "write_call", defArgs sWriteCall, defBody sWriteCall, defScope sWriteCall, [], []⟩
def dValuereaderInit : He.DefD := ⟨("ValueReader", some "__init__"), "__init__", "ValueReader.__init__", defArgs sValuereaderInit, defBody sValuereaderInit, defScope sValuereaderInit, [], []⟩
def dValuereaderSkip : He.DefD := ⟨("ValueReader", some "skip"), "skip", "ValueReader.skip", defArgs sValuereaderSkip, defBody sValuereaderSkip, defScope sValuereaderSkip, [], []⟩
def dValuereaderNeed : He.DefD := ⟨("ValueReader", some "need"), "need", "ValueReader.need", defArgs sValuereaderNeed, defBody sValuereaderNeed, defScope sValuereaderNeed, [], []⟩
def dValuereaderReadText : He.DefD := ⟨("ValueReader", some "read_text"), "read_text", "ValueReader.read_text", defArgs sValuereaderReadText, defBody sValuereaderReadText, defScope sValuereaderReadText, [], []⟩
def dValuereaderReadNumber : He.DefD := ⟨("ValueReader", some "read_number"), "read_number", "ValueReader.read_number", defArgs sValuereaderReadNumber, defBody sValuereaderReadNumber, defScope sValuereaderReadNumber, [], []⟩
def dValuereaderReadList : He.DefD := ⟨("ValueReader", some "read_list"), "read_list", "ValueReader.read_list", defArgs sValuereaderReadList, defBody sValuereaderReadList, defScope sValuereaderReadList, [], []⟩
def dValuereaderReadField : He.DefD := ⟨("ValueReader", some "read_field"), "read_field", "ValueReader.read_field", defArgs sValuereaderReadField, defBody sValuereaderReadField, defScope sValuereaderReadField, [], []⟩
def dValuereaderReadRecord : He.DefD := ⟨("ValueReader", some "read_record"), "read_record", "ValueReader.read_record", defArgs sValuereaderReadRecord, defBody sValuereaderReadRecord, defScope sValuereaderReadRecord, [], []⟩
def dValuereaderReadValue : He.DefD := ⟨("ValueReader", some "read_value"), "read_value", "ValueReader.read_value", defArgs sValuereaderReadValue, defBody sValuereaderReadValue, defScope sValuereaderReadValue, [], []⟩
def dReadCall : He.DefD := ⟨("read_call", none), "read_call", "read_call", defArgs sReadCall, defBody sReadCall, defScope sReadCall, [], []⟩
def dLawRows : He.DefD := ⟨("_law_rows", none), "_law_rows", "_law_rows", defArgs sLawRows, defBody sLawRows, defScope sLawRows, [], []⟩
def dLawText : He.DefD := ⟨("_law_text", none), "_law_text", "_law_text", defArgs sLawText, defBody sLawText, defScope sLawText, [], []⟩
def dLawValue : He.DefD := ⟨("_law_value", none), "_law_value", "_law_value", defArgs sLawValue, defBody sLawValue, defScope sLawValue, [], []⟩
def dLawValues : He.DefD := ⟨("_law_values", none), "_law_values", "_law_values", defArgs sLawValues, defBody sLawValues, defScope sLawValues, [], []⟩
def dLawBent : He.DefD := ⟨("_law_bent", none), "_law_bent", "_law_bent", defArgs sLawBent, defBody sLawBent, defScope sLawBent, [], []⟩
def dLaw : He.DefD := ⟨("law", none), "law", "law", defArgs sLaw, defBody sLaw, defScope sLaw, [], []⟩
def fn : List He.DefD := ([dWriteText, dWriteValue, dWriteCall, dValuereaderInit, dValuereaderSkip, dValuereaderNeed, dValuereaderReadText, dValuereaderReadNumber, dValuereaderReadList, dValuereaderReadField, dValuereaderReadRecord, dValuereaderReadValue, dReadCall, dLawRows, dLawText, dLawValue, dLawValues, dLawBent, dLaw] : List He.DefD)
def fa : List He.Fa := ([.glo "write_text", .glo "write_value", .glo "write_call", .meth "ValueReader" "skip", .meth "ValueReader" "need", .meth "ValueReader" "read_text", .meth "ValueReader" "read_number", .meth "ValueReader" "read_list", .meth "ValueReader" "read_field", .meth "ValueReader" "read_record", .meth "ValueReader" "read_value", .glo "read_call", .glo "_law_rows", .glo "_law_text", .glo "_law_value", .glo "_law_values", .glo "_law_bent", .glo "law", .glo "WrongText", .glo "ValueReader", .free "len", .free "isinstance", .free "str", .free "list", .free "int", .free "abs", .free "repr", .free "range", .free "bool", .free "dict"] : List He.Fa) ++ ([.free "tuple", .int "MOST_DEPTH" 20, .int "MOST_NUMBER" 1000000000000000000000000000000, .cls "ValueReader", .noat "ValueReader" "source", .noat "ValueReader" "at", .mkr "ValueReader", .exc "WrongText", .exm "WrongText" "WrongText" true] : List He.Fa)
-- 0 .glo "write_text"
-- 1 .glo "write_value"
-- 2 .glo "write_call"
-- 3 .meth "ValueReader" "skip"
-- 4 .meth "ValueReader" "need"
-- 5 .meth "ValueReader" "read_text"
-- 6 .meth "ValueReader" "read_number"
-- 7 .meth "ValueReader" "read_list"
-- 8 .meth "ValueReader" "read_field"
-- 9 .meth "ValueReader" "read_record"
-- 10 .meth "ValueReader" "read_value"
-- 11 .glo "read_call"
-- 12 .glo "_law_rows"
-- 13 .glo "_law_text"
-- 14 .glo "_law_value"
-- 15 .glo "_law_values"
-- 16 .glo "_law_bent"
-- 17 .glo "law"
-- 18 .glo "WrongText"
-- 19 .glo "ValueReader"
-- 20 .free "len"
-- 21 .free "isinstance"
-- 22 .free "str"
-- 23 .free "list"
-- 24 .free "int"
-- 25 .free "abs"
-- 26 .free "repr"
-- 27 .free "range"
-- 28 .free "bool"
-- 29 .free "dict"
-- 30 .free "tuple"
-- 31 .int "MOST_DEPTH" 20
-- 32 .int "MOST_NUMBER" 1000000000000000000000000000000
-- 33 .cls "ValueReader"
-- 34 .noat "ValueReader" "source"
-- 35 .noat "ValueReader" "at"
-- 36 .mkr "ValueReader"
-- 37 .exc "WrongText"
-- 38 .exm "WrongText" "WrongText" true
abbrev R : PySem.W.OpenRow := PySem.W.OpenLaw.row PySem.Challenge.rw_viewloom_k73_nothing_else_is_read_as_a_c
abbrev hk : PySem.W.Hook := VL.hookS 5 fa fn
def ob (s : PySem.W.SharedT) : VL.AlS := VL.obsS 5 fa fn (HandSHeadRun.getT s)
theorem ob_eq (s : PySem.W.SharedT) : ob s = hk.obs s.abs := VL.obsS_eq (HandSHeadRun.getT_eq s)
abbrev loose : List Str := (["MOST_DEPTH", "MOST_NUMBER", "write_text", "write_value", "write_call", "WrongText", "ValueReader", "read_call", "_law_rows", "_law_text", "_law_value", "_law_values", "_law_bent"] : List Str)
theorem run (w : World) : HandSHeadRun.RunEq R (PySem.W.view R.prog [15]) hk ob 3000 loose w := by
  intro os
  kernel_rfl

theorem gdWriteText {K : PySem.W.Frag} {h : Heap} {mg : Str → Option Value} (X : K.In h) (G : h.Ns mainGlobals mg) (c : He.SaysD fa fn K) : GD K mg "write_text" sWriteText := by
  obtain ⟨fd, F⟩ := c.def_ 0 (d := dWriteText) rfl
  exact ⟨_, fd, F, He.glo_ok X G (c.fact 0 (f := .glo "write_text") rfl)⟩
theorem gdWriteValue {K : PySem.W.Frag} {h : Heap} {mg : Str → Option Value} (X : K.In h) (G : h.Ns mainGlobals mg) (c : He.SaysD fa fn K) : GD K mg "write_value" sWriteValue := by
  obtain ⟨fd, F⟩ := c.def_ 1 (d := dWriteValue) rfl
  exact ⟨_, fd, F, He.glo_ok X G (c.fact 1 (f := .glo "write_value") rfl)⟩
theorem gdWriteCall {K : PySem.W.Frag} {h : Heap} {mg : Str → Option Value} (X : K.In h) (G : h.Ns mainGlobals mg) (c : He.SaysD fa fn K) : GD K mg "write_call" sWriteCall := by
  obtain ⟨fd, F⟩ := c.def_ 2 (d := dWriteCall) rfl
  exact ⟨_, fd, F, He.glo_ok X G (c.fact 2 (f := .glo "write_call") rfl)⟩
theorem mdValuereaderSkip {K : PySem.W.Frag} (c : He.SaysD fa fn K) : MD K (He.ga K "ValueReader") "skip" "ValueReader.skip" sValuereaderSkip := by
  obtain ⟨fd, F⟩ := c.def_ 4 (d := dValuereaderSkip) rfl
  exact ⟨_, fd, F, He.cls_ok (c.fact 33 (f := .cls "ValueReader") rfl), He.meth_ok (c.fact 3 (f := .meth "ValueReader" "skip") rfl)⟩
theorem mdValuereaderNeed {K : PySem.W.Frag} (c : He.SaysD fa fn K) : MD K (He.ga K "ValueReader") "need" "ValueReader.need" sValuereaderNeed := by
  obtain ⟨fd, F⟩ := c.def_ 5 (d := dValuereaderNeed) rfl
  exact ⟨_, fd, F, He.cls_ok (c.fact 33 (f := .cls "ValueReader") rfl), He.meth_ok (c.fact 4 (f := .meth "ValueReader" "need") rfl)⟩
theorem mdValuereaderReadText {K : PySem.W.Frag} (c : He.SaysD fa fn K) : MD K (He.ga K "ValueReader") "read_text" "ValueReader.read_text" sValuereaderReadText := by
  obtain ⟨fd, F⟩ := c.def_ 6 (d := dValuereaderReadText) rfl
  exact ⟨_, fd, F, He.cls_ok (c.fact 33 (f := .cls "ValueReader") rfl), He.meth_ok (c.fact 5 (f := .meth "ValueReader" "read_text") rfl)⟩
theorem mdValuereaderReadNumber {K : PySem.W.Frag} (c : He.SaysD fa fn K) : MD K (He.ga K "ValueReader") "read_number" "ValueReader.read_number" sValuereaderReadNumber := by
  obtain ⟨fd, F⟩ := c.def_ 7 (d := dValuereaderReadNumber) rfl
  exact ⟨_, fd, F, He.cls_ok (c.fact 33 (f := .cls "ValueReader") rfl), He.meth_ok (c.fact 6 (f := .meth "ValueReader" "read_number") rfl)⟩
theorem mdValuereaderReadList {K : PySem.W.Frag} (c : He.SaysD fa fn K) : MD K (He.ga K "ValueReader") "read_list" "ValueReader.read_list" sValuereaderReadList := by
  obtain ⟨fd, F⟩ := c.def_ 8 (d := dValuereaderReadList) rfl
  exact ⟨_, fd, F, He.cls_ok (c.fact 33 (f := .cls "ValueReader") rfl), He.meth_ok (c.fact 7 (f := .meth "ValueReader" "read_list") rfl)⟩
theorem mdValuereaderReadField {K : PySem.W.Frag} (c : He.SaysD fa fn K) : MD K (He.ga K "ValueReader") "read_field" "ValueReader.read_field" sValuereaderReadField := by
  obtain ⟨fd, F⟩ := c.def_ 9 (d := dValuereaderReadField) rfl
  exact ⟨_, fd, F, He.cls_ok (c.fact 33 (f := .cls "ValueReader") rfl), He.meth_ok (c.fact 8 (f := .meth "ValueReader" "read_field") rfl)⟩
theorem mdValuereaderReadRecord {K : PySem.W.Frag} (c : He.SaysD fa fn K) : MD K (He.ga K "ValueReader") "read_record" "ValueReader.read_record" sValuereaderReadRecord := by
  obtain ⟨fd, F⟩ := c.def_ 10 (d := dValuereaderReadRecord) rfl
  exact ⟨_, fd, F, He.cls_ok (c.fact 33 (f := .cls "ValueReader") rfl), He.meth_ok (c.fact 9 (f := .meth "ValueReader" "read_record") rfl)⟩
theorem mdValuereaderReadValue {K : PySem.W.Frag} (c : He.SaysD fa fn K) : MD K (He.ga K "ValueReader") "read_value" "ValueReader.read_value" sValuereaderReadValue := by
  obtain ⟨fd, F⟩ := c.def_ 11 (d := dValuereaderReadValue) rfl
  exact ⟨_, fd, F, He.cls_ok (c.fact 33 (f := .cls "ValueReader") rfl), He.meth_ok (c.fact 10 (f := .meth "ValueReader" "read_value") rfl)⟩
theorem gdReadCall {K : PySem.W.Frag} {h : Heap} {mg : Str → Option Value} (X : K.In h) (G : h.Ns mainGlobals mg) (c : He.SaysD fa fn K) : GD K mg "read_call" sReadCall := by
  obtain ⟨fd, F⟩ := c.def_ 12 (d := dReadCall) rfl
  exact ⟨_, fd, F, He.glo_ok X G (c.fact 11 (f := .glo "read_call") rfl)⟩
theorem gdLawRows {K : PySem.W.Frag} {h : Heap} {mg : Str → Option Value} (X : K.In h) (G : h.Ns mainGlobals mg) (c : He.SaysD fa fn K) : GD K mg "_law_rows" sLawRows := by
  obtain ⟨fd, F⟩ := c.def_ 13 (d := dLawRows) rfl
  exact ⟨_, fd, F, He.glo_ok X G (c.fact 12 (f := .glo "_law_rows") rfl)⟩
theorem gdLawText {K : PySem.W.Frag} {h : Heap} {mg : Str → Option Value} (X : K.In h) (G : h.Ns mainGlobals mg) (c : He.SaysD fa fn K) : GD K mg "_law_text" sLawText := by
  obtain ⟨fd, F⟩ := c.def_ 14 (d := dLawText) rfl
  exact ⟨_, fd, F, He.glo_ok X G (c.fact 13 (f := .glo "_law_text") rfl)⟩
theorem gdLawValue {K : PySem.W.Frag} {h : Heap} {mg : Str → Option Value} (X : K.In h) (G : h.Ns mainGlobals mg) (c : He.SaysD fa fn K) : GD K mg "_law_value" sLawValue := by
  obtain ⟨fd, F⟩ := c.def_ 15 (d := dLawValue) rfl
  exact ⟨_, fd, F, He.glo_ok X G (c.fact 14 (f := .glo "_law_value") rfl)⟩
theorem gdLawValues {K : PySem.W.Frag} {h : Heap} {mg : Str → Option Value} (X : K.In h) (G : h.Ns mainGlobals mg) (c : He.SaysD fa fn K) : GD K mg "_law_values" sLawValues := by
  obtain ⟨fd, F⟩ := c.def_ 16 (d := dLawValues) rfl
  exact ⟨_, fd, F, He.glo_ok X G (c.fact 15 (f := .glo "_law_values") rfl)⟩
theorem gdLawBent {K : PySem.W.Frag} {h : Heap} {mg : Str → Option Value} (X : K.In h) (G : h.Ns mainGlobals mg) (c : He.SaysD fa fn K) : GD K mg "_law_bent" sLawBent := by
  obtain ⟨fd, F⟩ := c.def_ 17 (d := dLawBent) rfl
  exact ⟨_, fd, F, He.glo_ok X G (c.fact 16 (f := .glo "_law_bent") rfl)⟩
theorem gdLaw {K : PySem.W.Frag} {h : Heap} {mg : Str → Option Value} (X : K.In h) (G : h.Ns mainGlobals mg) (c : He.SaysD fa fn K) : GD K mg "law" sLaw := by
  obtain ⟨fd, F⟩ := c.def_ 18 (d := dLaw) rfl
  exact ⟨_, fd, F, He.glo_ok X G (c.fact 17 (f := .glo "law") rfl)⟩
theorem fr_len {K : PySem.W.Frag} {h : Heap} {mg : Str → Option Value} (X : K.In h) (G : h.Ns mainGlobals mg) (c : He.SaysD fa fn K) : mg "len" = none := He.free_ok X G (c.fact 20 (f := .free "len") rfl)
theorem fr_isinstance {K : PySem.W.Frag} {h : Heap} {mg : Str → Option Value} (X : K.In h) (G : h.Ns mainGlobals mg) (c : He.SaysD fa fn K) : mg "isinstance" = none := He.free_ok X G (c.fact 21 (f := .free "isinstance") rfl)
theorem fr_str {K : PySem.W.Frag} {h : Heap} {mg : Str → Option Value} (X : K.In h) (G : h.Ns mainGlobals mg) (c : He.SaysD fa fn K) : mg "str" = none := He.free_ok X G (c.fact 22 (f := .free "str") rfl)
theorem fr_list {K : PySem.W.Frag} {h : Heap} {mg : Str → Option Value} (X : K.In h) (G : h.Ns mainGlobals mg) (c : He.SaysD fa fn K) : mg "list" = none := He.free_ok X G (c.fact 23 (f := .free "list") rfl)
theorem fr_int {K : PySem.W.Frag} {h : Heap} {mg : Str → Option Value} (X : K.In h) (G : h.Ns mainGlobals mg) (c : He.SaysD fa fn K) : mg "int" = none := He.free_ok X G (c.fact 24 (f := .free "int") rfl)
theorem fr_abs {K : PySem.W.Frag} {h : Heap} {mg : Str → Option Value} (X : K.In h) (G : h.Ns mainGlobals mg) (c : He.SaysD fa fn K) : mg "abs" = none := He.free_ok X G (c.fact 25 (f := .free "abs") rfl)
theorem fr_repr {K : PySem.W.Frag} {h : Heap} {mg : Str → Option Value} (X : K.In h) (G : h.Ns mainGlobals mg) (c : He.SaysD fa fn K) : mg "repr" = none := He.free_ok X G (c.fact 26 (f := .free "repr") rfl)
theorem fr_range {K : PySem.W.Frag} {h : Heap} {mg : Str → Option Value} (X : K.In h) (G : h.Ns mainGlobals mg) (c : He.SaysD fa fn K) : mg "range" = none := He.free_ok X G (c.fact 27 (f := .free "range") rfl)
theorem fr_bool {K : PySem.W.Frag} {h : Heap} {mg : Str → Option Value} (X : K.In h) (G : h.Ns mainGlobals mg) (c : He.SaysD fa fn K) : mg "bool" = none := He.free_ok X G (c.fact 28 (f := .free "bool") rfl)
theorem fr_dict {K : PySem.W.Frag} {h : Heap} {mg : Str → Option Value} (X : K.In h) (G : h.Ns mainGlobals mg) (c : He.SaysD fa fn K) : mg "dict" = none := He.free_ok X G (c.fact 29 (f := .free "dict") rfl)
theorem fr_tuple {K : PySem.W.Frag} {h : Heap} {mg : Str → Option Value} (X : K.In h) (G : h.Ns mainGlobals mg) (c : He.SaysD fa fn K) : mg "tuple" = none := He.free_ok X G (c.fact 30 (f := .free "tuple") rfl)
theorem top72 {K : PySem.W.Frag} {h : Heap} {mg : Str → Option Value} (X : K.In h) (G : h.Ns mainGlobals mg) (c : He.SaysD fa fn K) (hs : ∃ o, K.lookup sysModules = some o) : Top72 K mg (He.ga K "ValueReader") (He.ga K "WrongText") := by
  have hx := He.exc_ok (c.fact 37 (f := .exc "WrongText") rfl)
  have cl : Cl K mg (He.ga K "ValueReader") (He.ga K "WrongText") := ⟨He.cls_ok (c.fact 33 (f := .cls "ValueReader") rfl), He.noat_ok (c.fact 34 (f := .noat "ValueReader" "source") rfl), He.noat_ok (c.fact 35 (f := .noat "ValueReader" "at") rfl),
    ⟨hx.1, He.glo_ok X G (c.fact 18 (f := .glo "WrongText") rfl), hx.2.1, hx.2.2.1, hx.2.2.2⟩⟩
  have t1 : Rdr K mg (He.ga K "ValueReader") (He.ga K "WrongText") := ⟨cl, mdValuereaderSkip c, mdValuereaderNeed c, mdValuereaderReadText c, mdValuereaderReadNumber c, mdValuereaderReadList c, mdValuereaderReadField c, mdValuereaderReadRecord c, mdValuereaderReadValue c, fr_len X G c, fr_int X G c, fr_abs X G c, He.int_ok X G (c.fact 31 (f := .int "MOST_DEPTH" 20) rfl), He.int_ok X G (c.fact 32 (f := .int "MOST_NUMBER" 1000000000000000000000000000000) rfl)⟩
  have t2 : Wtr K mg := ⟨gdWriteText X G c, gdWriteValue X G c, gdWriteCall X G c, fr_isinstance X G c, fr_list X G c, fr_str X G c, fr_int X G c⟩
  have t3 : Lwr K mg := ⟨gdLawRows X G c, gdLawText X G c, gdLawValue X G c, gdLawValues X G c, fr_len X G c, fr_int X G c, fr_range X G c⟩
  refine ⟨t1, t2, t3, ?_, gdReadCall X G c, He.exm_ok (c.fact 38 (f := .exm "WrongText" "WrongText" true) rfl), hs, fr_tuple X G c, fr_bool X G c, fr_dict X G c, fr_repr X G c⟩
  obtain ⟨fd, F⟩ := c.def_ 3 (d := dValuereaderInit) rfl
  exact ⟨_, fd, F, He.glo_ok X G (c.fact 19 (f := .glo "ValueReader") rfl), He.mkr_ok (c.fact 36 (f := .mkr "ValueReader") rfl)⟩

theorem law_facts {P : Program} {w : World} {K : PySem.W.Frag} {h : Heap} {mg : Str → Option Value} {f : Addr} (X : K.In h) (G : h.Ns mainGlobals mg) (hf : mg "law" = some (.ref f)) (c : He.SaysD fa fn K) (hs : ∃ o, K.lookup sysModules = some o) :
    ∃ fd : FuncData, (∀ (s : Shared) (v : Value), BindsTo s fd ⟨[v], []⟩ [("_law_script", v)]) ∧ ∀ base : Heap, K.In base → base.Ns mainGlobals mg → FnG P w K mg base 70 f fd ["_law_script"] (spLaw K) := by
  obtain ⟨fl, fd, F, e⟩ := (gdLaw X G c).ex
  cases hf.symm.trans e
  have b := FunD.bindsA (ps := ["_law_script"]) F fun _ _ _ _ _ _ us hl => match us, hl with | [_], _ => rfl
  exact ⟨fd, fun s v => b s [v] rfl, fun base _ _ => ok_law F (top72 X G c hs) (gdLawBent X G c)⟩

end K73
open PySem PySem.W PySem.Calls PyProof.Rows
theorem PySem.Challenge.cw_viewloom_k73_nothing_else_is_read_as_a_c_holds : PySem.Challenge.rw_viewloom_k73_nothing_else_is_read_as_a_c.Holds := by
  w_on; o_law
  refine HandSHeadRun.head_any (q := view (OpenLaw.row PySem.Challenge.rw_viewloom_k73_nothing_else_is_read_as_a_c).prog [15]) (H := K73.hk) (ob := K73.ob) (M := 3000) (loose := K73.loose) (d := HandSHeadRun.topDef (OpenLaw.row PySem.Challenge.rw_viewloom_k73_nothing_else_is_read_as_a_c).prog 15) (kwd := []) K73.ob_eq
    (by kernel_rfl) (fun s => by kernel_rfl) K73.run (by kernel_rfl) (by kernel_rfl) (by kernel_rfl) (by rfl) (by first | assumption | decide +kernel) (by decide +kernel) ⟨rfl, rfl, rfl, rfl, rfl, by decide +kernel⟩ ?wit ?walk
  case wit => w_witness2
  case walk =>
    refine VL.walk_ofG (l := PySem.Challenge.rw_viewloom_k73_nothing_else_is_read_as_a_c) (n := 63) (k := 70) (x := "_law_script") rfl (by decide) (by kernel_rfl) ⟨rfl, by decide, by decide⟩ ?_
    intro w mg fa h Y G hm
    obtain ⟨K, X, c, hs⟩ := Y
    have hl : mg ("law" : PySem.Str) = some (.ref fa) := by
      rw [show ("law" : PySem.Str) = (HandSHeadRun.topDef (OpenLaw.row PySem.Challenge.rw_viewloom_k73_nothing_else_is_read_as_a_c).prog 15).name by kernel_rfl]
      exact hm
    obtain ⟨fd, hb, hF⟩ := K73.law_facts (P := (PySem.Challenge.rw_viewloom_k73_nothing_else_is_read_as_a_c).prog) (w := w) X G hl c hs
    exact ⟨K, fd, K73.spLaw K, X, hb, fun H a ns hn hz hS => ⟨a, ns, rfl, hS, hn, hz, fun _ => rfl⟩, hF⟩

