import PyProof.Rows.All
import Wide.All
import OpenK.AllK
import Wide.FinOn
import HandS.ForMost
import HandS.Defaults
import HandS.Exc
import HandS.TryOnly
import HandS.ExcOwn
import HandS.ExcInit
import HandS.ExcField
import HandS.Flow
import HandS.Style
import HandS.Wide
import HandS.WrittenGet
import HandS.NoneIn
import HandS.HeadHook1
import HandS.HeadHook2
import HandS.HeadHook3
import HandS.HeadHook4
import HandS.Head0
import HandS.Head1
import HandS.Head2
import HandS.HeadEnd
import KE.KStateDown
import Lean
import PySem.Challenge.RW_sillwatch_k62_give_and_drag
set_option Elab.async false
set_option linter.all false
set_option maxRecDepth 100000
set_option maxHeartbeats 0
/-! SWRules: rules that do not ask which kind of value stands there: each reading is the or of the layer's readings. -/
namespace SW
open PySem PySem.Spec PyProof.Rows L2

section
variable {X : Cx} {a b c e : Expr} {ta tb tc te : TE} {pos : Pos}
theorem OpR.or {f : Value → Value → Sem Value} {r r' : R2} (h : OpR X f r) (h' : OpR X f r') : OpR X f (fun x y H Q => r x y H Q ∨ r' x y H Q) := by
  intro pins s σ H x y v u Q I rx ry q
  rcases q with q | q
  · exact h pins s σ H x y v u Q I rx ry q
  · exact h' pins s σ H x y v u Q I rx ry q
theorem CallR.or {f : Value} {r r' : List V → Hp → VK → Prop} (h : CallR X f r) (h' : CallR X f r') : CallR X f (fun xs H Q => r xs H Q ∨ r' xs H Q) := by
  intro pins s σ H xs us Q I rx q
  rcases q with q | q
  · exact h pins s σ H xs us Q I rx q
  · exact h' pins s σ H xs us Q I rx q

/-! ### operators -/
def rAddI : R2 := rI0 fun i j => .int (i + j)
def rAddT : R2 := fun x y H Q => ∃ i j, x = .str i ∧ y = .str j ∧ i.length + j.length ≤ sizeLine ∧ Q (.str (i ++ j)) H
/-- +: ints, texts, lists, tuples -/
def rAdd (K : PySem.W.Frag) : R2 := fun x y H Q => rAddI x y H Q ∨ rAddT x y H Q ∨ rCat x y H Q ∨ rCatT K x y H Q
theorem o_add : OpR X (binaryOp .Add) (rAdd X.K) := OpR.or op_add (OpR.or op_add_str (OpR.or op_cat op_catT))
def rSub : R2 := rI0 fun i j => .int (i - j)
theorem o_sub : OpR X (binaryOp .Sub) rSub := op_sub
def rMulI : R2 := rI CMul fun i j => .int (i * j)
def rMul : R2 := fun x y H Q => rMulI x y H Q ∨ rRep x y H Q
theorem o_mul : OpR X (binaryOp .Mult) rMul := OpR.or op_mul op_rep
def rMod : R2 := rI (fun _ j => 0 < j) fun i j => .int (i % j)
theorem o_mod : OpR X (binaryOp .Mod) rMod := op_mod
def rDiv : R2 := rI CDivW fun i j => .int (i / j)
theorem o_div : OpR X (binaryOp .FloorDiv) rDiv := op_fdivW
def rNeg : V → Hp → VK → Prop := rU fun i => .int (-i)
theorem u_neg : UnR X (unaryOp .USub) rNeg := un_neg

/-! ### comparisons -/
def rLtI : R2 := rI0 fun i j => .bl (decide (i < j))
def rLeI : R2 := rI0 fun i j => .bl (decide (i ≤ j))
def rGtI : R2 := rI0 fun i j => .bl (decide (j < i))
def rGeI : R2 := rI0 fun i j => .bl (decide (j ≤ i))
theorem o_lt : OpR X (compareOp .Lt) rLtI := op_lt
theorem o_le : OpR X (compareOp .LtE) rLeI := op_le
theorem o_gt : OpR X (compareOp .Gt) rGtI := op_gt
theorem o_ge : OpR X (compareOp .GtE) rGeI := op_ge
/-- ==, !=: scalars, or data of any depth -/
def rEqP (K : PySem.W.Frag) : R2 := fun x y H Q => rEq x y H Q ∨ rEqD K x y H Q
def rNeP (K : PySem.W.Frag) : R2 := fun x y H Q => rNe x y H Q ∨ rNeD K x y H Q
theorem o_eq (hu : X.A.units + 64 < cLine) : OpR X (compareOp .Eq) (rEqP X.K) := OpR.or op_eq (op_eqD hu)
theorem o_ne (hu : X.A.units + 64 < cLine) : OpR X (compareOp .NotEq) (rNeP X.K) := OpR.or op_ne (op_neD hu)
/-- is None, is not None; of bools -/
def rIsNone : R2 := fun x y H Q => y = .non ∧ Q (.bl (decide (x = .non))) H
def rNotNone : R2 := fun x y H Q => y = .non ∧ Q (.bl (!decide (x = .non))) H
def rIs : R2 := fun x y H Q => rIsNone x y H Q ∨ rIsB x y H Q
def rIsNot : R2 := fun x y H Q => rNotNone x y H Q ∨ rNotB x y H Q
theorem o_is : OpR X (compareOp .Is) rIs := OpR.or op_isN op_isBl
theorem o_isnot : OpR X (compareOp .IsNot) rIsNot := OpR.or op_notN op_notBl
/-- x in a list or tuple of flat things; one sign in a text -/
def rInP (K : PySem.W.Frag) : R2 := fun x y H Q => rIn K false x y H Q ∨ (∃ (c : Nat) (z : Str), x = .str ⟨#[c]⟩ ∧ y = .str z ∧ Q (.bl (decide (c ∈ z.cps.toList))) H)
def rNotInP (K : PySem.W.Frag) : R2 := fun x y H Q => rIn K true x y H Q ∨ (∃ (c : Nat) (z : Str), x = .str ⟨#[c]⟩ ∧ y = .str z ∧ Q (.bl (!decide (c ∈ z.cps.toList))) H)
theorem o_in : OpR X (compareOp .In) (rInP X.K) := OpR.or op_in_seq op_in_sign
theorem o_notin : OpR X (compareOp .NotIn) (rNotInP X.K) := OpR.or op_notIn_seq op_notIn_sign

/-! ### subscripts, slices, len, truth -/
def rIxP (K : PySem.W.Frag) (w : World) : R2 := fun x y H Q => rIxL K x y H Q ∨ rIxT K x y H Q ∨ rIxS x y H Q ∨ rIxD K w x y H Q
theorem x_any : IxR X (rIxP X.K X.w) := ix_list.or (ix_tup.or (ix_str.or ix_kdict))
def rSlP (K : PySem.W.Frag) : V → Option Int → Option Int → Hp → VK → Prop := fun x lo hi H Q => rSlL K x lo hi H Q ∨ rSlS x lo hi H Q ∨ rSlT K x lo hi H Q
theorem s_any : SlR X (rSlP X.K) := sl_list.or (sl_str.or sl_tup)
def rLenP (K : PySem.W.Frag) : List V → Hp → VK → Prop := fun xs H Q => (∃ p ys, xs = [.ref p] ∧ (SqL K H p ys ∨ SqT K H p ys) ∧ Q (.int ys.length) H) ∨ (∃ z, xs = [.str z] ∧ z.length ≤ sizeLine ∧ Q (.int z.length) H) ∨ (∃ d kvs, xs = [.ref d] ∧ H d = some (.dK kvs) ∧ Q (.int kvs.length) H)
def tTru (K : PySem.W.Frag) (te : TE) : TT := fun σ H Q => te σ H fun x H' => ∃ k, TruV K x H' k ∧ Q k H'
theorem t_tru (ha : PE X a ta) (he : ∀ whole, isTrue a X.env whole = (do let v ← whole; standAt a.pos; holding [v] (truthy v)) := by intro _; rfl) : PT X a (tTru X.K ta) := pt_truth ha he
def rInt : List V → Hp → VK → Prop := fun xs H Q => (∃ i, xs = [.int i] ∧ Q (.int i) H) ∨ ∃ k, xs = [.bl k] ∧ Q (.int (if k then 1 else 0)) H
theorem c_int : CallR X (.type "int") rInt := call_int1
def rStrI : List V → Hp → VK → Prop := fun xs H Q => ∃ i, xs = [.int i] ∧ i.natAbs.log2 < 1920 ∧ Q (.str (toString i)) H
theorem c_str : CallR X (.type "str") rStrI := call_str_int
def rMin2 : List V → Hp → VK → Prop := fun xs H Q => ∃ i j, xs = [.int i, .int j] ∧ Q (.int (if j < i then j else i)) H
def rMax2 : List V → Hp → VK → Prop := fun xs H Q => ∃ i j, xs = [.int i, .int j] ∧ Q (.int (if j > i then j else i)) H
theorem c_min2 (hc : X.calm = true) : CallR X (.builtin "min") rMin2 := call_min2 hc
theorem c_max2 (hc : X.calm = true) : CallR X (.builtin "max") rMax2 := call_max2 hc
def rListOf (K : PySem.W.Frag) : List V → Hp → VK → Prop := fun xs H Q => ∃ p ys, xs = [.ref p] ∧ (SqL K H p ys ∨ SqT K H p ys) ∧ ∀ l, H l = none → Q (.ref l) (upd H l (.lst ys))
theorem c_list : CallR X (.type "list") (rListOf X.K) := call_list_of
end

/-- (a, b, ..) = a tuple or a list of that length -/
def gUnp (K : PySem.W.Frag) (n : Nat) (t : TGs) : TG := fun v σ H Q => gTup K n t v σ H Q ∨ gUnl K n t v σ H Q
theorem pg_unp {X : Cx} {pos : Pos} {es : List Expr} {k : Nat} {t : TGs} {n : Nat} (hc : X.calm = true) (h : PGs X es t) (hn : (assignEach es X.env).length = n := by rfl) (hst : (assignEach es X.env).findIdx? (·.1) = none := by rfl) : PG X (.Tuple es k pos) (gUnp X.K n t) :=
  ⟨fun pins s σ H v u Q I r q => q.elim (fun q => (pg_tup hc h hn hst).run pins s σ H v u Q I r q) fun q => (pg_unl hc h hn hst).run pins s σ H v u Q I r q⟩
/-! ### what is walked -/
/-- a list or a tuple -/
def iSeq (K : PySem.W.Frag) (tl : TE) : TI := fun σ H R => tl σ H fun x H1 => (∃ a xs, x = .ref a ∧ SqL K H1 a xs ∧ R (Itl K a) H1) ∨ (∃ a xs, x = .ref a ∧ SqT K H1 a xs ∧ R (Itt K a) H1) ∨ (∃ z, x = .str z ∧ R (Its z) H1)
section
variable {X : Cx} {tg l : Expr} {tl : TE}
theorem seq_it {pins : List (Addr × Obj)} {s1 : Shared} {σ : L2.St} {H1 : Hp} {R : It → Hp → Prop} {x : V} {v : Value} (I1 : Inv X pins σ H1 s1) (r1 : RelV x v)
    (q : (∃ a xs, x = .ref a ∧ SqL X.K H1 a xs ∧ R (Itl X.K a) H1) ∨ (∃ a xs, x = .ref a ∧ SqT X.K H1 a xs ∧ R (Itt X.K a) H1)) : wpAny (model X.prog X.w) X.A (pyIter v) (PIE X pins σ tg R) X.xe s1 := by
  rcases q with ⟨a, xs, rfl, hq, q⟩ | ⟨a, xs, rfl, hq, q⟩
  · cases r1
    obtain ⟨its, rv, p, hz⟩ := I1.list hq
    refine wpAny_pyIter_list p.isList ?_
    refine ⟨s1.heap.objs.size, [s1.heap.objs.size], _, _, H1, rfl, I1.kept (t' := s1.toks) fun b o e => Heap.get?_push_of_some _ e, turn_list a _, ⟨_, Heap.get?_push_size _ rfl, rfl, rfl⟩, fun b hb => ?_, q⟩
    have e : b = s1.heap.objs.size := by simpa using hb
    subst e
    exact I1.fpOk (Nat.le_refl _) (I1.hok.fresh (Nat.le_refl _))
  · cases r1
    obtain ⟨its, rv, p, hz⟩ := I1.tuple hq
    refine wpAny_pyIter_tuple (show s1.heap.IsTuple a its.toArray from p) ?_
    refine ⟨s1.heap.objs.size, [s1.heap.objs.size], _, _, H1, rfl, I1.kept (t' := s1.toks) fun b o e => Heap.get?_push_of_some _ e, turn_tuple a _, ⟨_, Heap.get?_push_size _ rfl, rfl, rfl⟩, fun b hb => ?_, q⟩
    have e : b = s1.heap.objs.size := by simpa using hb
    subst e
    exact I1.fpOk (Nat.le_refl _) (I1.hok.fresh (Nat.le_refl _))
/-- what a plain for walks: a list, a tuple, a text -/
theorem pi_seq (hl : PE X l tl) : PI X tg l (iSeq X.K tl) := by
  refine ⟨fun pins s σ H R I h => ?_⟩
  refine thn (hl.run pins s σ H _ I h) fun v s1 ⟨x, H1, I1, r1, q1⟩ => ?_
  rcases q1 with q | q | ⟨z, rfl, q⟩
  · exact seq_it I1 r1 (.inl q)
  · exact seq_it I1 r1 (.inr q)
  · obtain ⟨t, rfl⟩ := r1
    cases ha : z.cps.all (· < 128)
    · exact wpAny_pyIter_wide ha (pi_one (tk := s1.toks) I1 _ (turn_str _ z t "str_iterator" (.inr rfl)) ⟨_, Heap.get?_push_size _ rfl, rfl, rfl⟩ q)
    · exact wpAny_pyIter_ascii ha (pi_one (tk := s1.toks) I1 _ (turn_str _ z t "str_ascii_iterator" (.inl rfl)) ⟨_, Heap.get?_push_size _ rfl, rfl, rfl⟩ q)
theorem c_len : CallR X (.builtin "len") (rLenP X.K) := CallR.or call_len_seq (CallR.or call_len_str call_lenD)
end

/-- enumerate(list) -/
def iEnumP (K : PySem.W.Frag) (ta : TA) : TI := iEnum K ta
theorem pi_enumP {X : Cx} {e : Expr} {ta : TA} {p pos tpos : Pos} {elts : List Expr} {kk : Nat} (hg : Gl X "enumerate") (hm : X.mg "enumerate" = none) (ha : PA X [e] ta) (hs : starEach [e] X.env = [(false, eval e X.env)] := by rfl) :
    PI X (.Tuple elts kk tpos) (.Call (.Name "enumerate" p) [e] [] pos) (iEnumP X.K ta) := pi_enum hg hm ha hs

/-! ### calls of the program's own defs -/
/-- fd stands at f -/
def FunAt (K : PySem.W.Frag) (f : Addr) (fd : FuncData) : Prop := ∃ oc od osl, K.lookup f = some ⟨oc, od, .func fd, osl⟩
theorem FunAt.same {K : PySem.W.Frag} {f : Addr} {a b : FuncData} (h : FunAt K f a) (g : FunAt K f b) : a = b := by
  obtain ⟨_, _, _, h⟩ := h
  obtain ⟨_, _, _, g⟩ := g
  rw [h] at g
  injection g with g
  injection g with _ _ g
  injection g
theorem FunAt.of {K : PySem.W.Frag} {x qual : Str} {params : Arguments} {body : List Stmt} {scope : Scope} {dvs : List V} {kws : List (Str × V)} {f : Addr} {fd : FuncData} (F : FunD K x qual params body scope dvs kws f fd) : FunAt K f fd := by
  obtain ⟨oc, od, dV, kV, doc, pm, an, cdv, ct, osl, rfl, lk, _⟩ := F.ex
  exact ⟨oc, od, osl, lk⟩
/-- the def at p keeps sp, whatever its function object is -/
def OkD (P : Program) (w : World) (K : PySem.W.Frag) (mg : Str → Option Value) (base : Heap) (CX : CXT) (k : Nat) (p : Str × Option Str) (ps : List Str) (sp : Sp) : Prop :=
  ∃ fd : FuncData, FnOk P w K mg base CX k (He.fAd K p) fd ps sp ∧ Binds K fd ps [] ∧ PySem.W.keepIn K (.ref (He.fAd K p)) = true ∧ FunAt K (He.fAd K p) fd
section
variable {X : Cx} {CX : CXT} {j k : Nat} {x m : Str} {ps : List Str} {sp : Sp} {e o : Expr} {es : List Expr} {t : TA} {ta : TE} {E : XK} {p pos apos : Pos}
theorem pe_fn (O : OkD X.prog X.w X.K X.mg X.base CX j (x, none) ps sp) (hr : Room k X.A) (hj : j ≤ k) (hm : X.mg x = some (.ref (He.ga X.K x))) (hx : Passes CX X E) (ha : PA X (e :: es) t)
    (hg : Gl X x := by rfl) (hdb : (x == ("__debug__" : Str)) = false := by decide) (he : starEach (e :: es) X.env = (false, eval e X.env) :: starEach es X.env := by rfl) (hpl : (backTo pos (starEach es X.env)).any (·.1) = false := by rfl) :
    PE X (.Call (.Name x p) (e :: es) [] pos) (tCall sp [] E t) := by
  obtain ⟨fd, F, b, kp, _⟩ := O
  exact pe_call F (hr.mono hj) hg hm kp b .nil hx ha hdb he hpl
theorem pe_fn0 (O : OkD X.prog X.w X.K X.mg X.base CX j (x, none) ps sp) (hr : Room k X.A) (hj : j ≤ k) (hm : X.mg x = some (.ref (He.ga X.K x))) (hx : Passes CX X E)
    (hg : Gl X x := by rfl) (hdb : (x == ("__debug__" : Str)) = false := by decide) : PE X (.Call (.Name x p) [] [] pos) (tCall sp [] E tNil) := by
  obtain ⟨fd, F, b, kp, _⟩ := O
  exact pe_call0 F (hr.mono hj) hg hm kp b .nil hx hdb
theorem pe_mt {C : Str} {pl : Sem Bool} (O : OkD X.prog X.w X.K X.mg X.base CX j (C, some m) ps sp) (hr : Room k X.A) (hj : j ≤ k) (he : PE X o ta) (c : Cls X.K (He.ga X.K C)) (hm : Meth X.K (He.ga X.K C) m (He.ma X.K (He.ga X.K C) m)) (hx : Passes CX X E) (ha : PA X (e :: es) t)
    (hst : starEach (e :: es) X.env = (false, eval e X.env) :: starEach es X.env := by rfl) (hpl : (backTo pos (starEach es X.env)).any (·.1) = false := by rfl)
    (ht : eval (.Call (.Attribute o m apos) (e :: es) [] pos) X.env = (do
      let ov ← eval o X.env
      standAt apos.atName
      let (f, first) ← holding [ov] (getMethod ov m pl)
      callWith pos f first (backTo pos (starEach (e :: es) X.env)) (backToKw pos (keywordEach [] X.env))) := by rfl) :
    PE X (.Call (.Attribute o m apos) (e :: es) [] pos) (tMeth (He.ga X.K C) m sp [] E ta t) := by
  obtain ⟨fd, F, b, kp, _⟩ := O
  exact pe_meth (pl := pl) he c hm F (hr.mono hj) b .nil hx ha hst hpl ht
theorem pe_mt0 {C : Str} {pl : Sem Bool} (O : OkD X.prog X.w X.K X.mg X.base CX j (C, some m) ps sp) (hr : Room k X.A) (hj : j ≤ k) (he : PE X o ta) (c : Cls X.K (He.ga X.K C)) (hm : Meth X.K (He.ga X.K C) m (He.ma X.K (He.ga X.K C) m)) (hx : Passes CX X E)
    (ht : eval (.Call (.Attribute o m apos) [] [] pos) X.env = (do
      let ov ← eval o X.env
      standAt apos.atName
      let (f, first) ← holding [ov] (getMethod ov m pl)
      callWith pos f first (backTo pos (starEach [] X.env)) (backToKw pos (keywordEach [] X.env))) := by rfl) :
    PE X (.Call (.Attribute o m apos) [] [] pos) (tMeth (He.ga X.K C) m sp [] E ta tNil) := by
  obtain ⟨fd, F, b, kp, _⟩ := O
  exact pe_meth0 (pl := pl) he c hm F (hr.mono hj) b .nil hx ht
theorem pe_mk (O : OkD X.prog X.w X.K X.mg X.base CX j (x, some "__init__") ps sp) (hr : Room k X.A) (hj : j + 1 ≤ k) (M : Mk X.K (He.ga X.K x) (He.ma X.K (He.ga X.K x) "__init__")) (hm : X.mg x = some (.ref (He.ga X.K x))) (hx : Passes CX X E) (ha : PA X (e :: es) t)
    (hg : Gl X x := by rfl) (hdb : (x == ("__debug__" : Str)) = false := by decide) (he : starEach (e :: es) X.env = (false, eval e X.env) :: starEach es X.env := by rfl) (hpl : (backTo pos (starEach es X.env)).any (·.1) = false := by rfl) :
    PE X (.Call (.Name x p) (e :: es) [] pos) (tMake (He.ga X.K x) sp [] E t) := by
  obtain ⟨fd, F, b, kp, _⟩ := O
  exact pe_make M F (hr.mono hj) hg hm b .nil hx ha hdb he hpl
theorem pe_mk0 (O : OkD X.prog X.w X.K X.mg X.base CX j (x, some "__init__") ps sp) (hr : Room k X.A) (hj : j + 1 ≤ k) (M : Mk X.K (He.ga X.K x) (He.ma X.K (He.ga X.K x) "__init__")) (hm : X.mg x = some (.ref (He.ga X.K x))) (hx : Passes CX X E)
    (hg : Gl X x := by rfl) (hdb : (x == ("__debug__" : Str)) = false := by decide) : PE X (.Call (.Name x p) [] [] pos) (tMake (He.ga X.K x) sp [] E tNil) := by
  obtain ⟨fd, F, b, kp, _⟩ := O
  exact pe_make0 M F (hr.mono hj) hg hm b .nil hx hdb
end
/-- a def's own facts -/
abbrev FnP (K : PySem.W.Frag) (p : Str × Option Str) (x qual : Str) (st : Stmt) : Prop := ∃ fd : FuncData, FunD K x qual (defArgs st) (defBody st) (defScope st) [] [] (He.fAd K p) fd
section
variable {P : Program} {w : World} {K : PySem.W.Frag} {mg : Str → Option Value} {base : Heap} {p : Str × Option Str} {x qual : Str} {st : Stmt} {N ps : List Str} {k : Nat} {t : XK → TS}
/-- what a def of reading t promises -/
def pOf (N : List Str) (n : Nat) (t : XK → TS) : Sp := fun vs H Q E => vs.length = n ∧ t E { nx := fun _ H' => Q .non H', rt := Q } (start N vs) H
/-- a def that lets no exception out -/
theorem ok0 (F : FnP K p x qual st) (S : FnScope N ps (defScope st)) (b : ∀ (kV doc pm : Value) (an : Option Addr) (cdv ct : Value) (us : List Value), us.length = ps.length → bindArgs (PySem.W.fnOf x qual (defArgs st) (defBody st) (defScope st) .none kV doc pm an cdv ct) ⟨us, []⟩ = pure (ps.zip us))
    (h : ∀ (f : Addr) (cdv : Value) (A : Around) (outer : List Env) (s : Shared) (H : Hp) (E : XK), Room k (A.deeper (envOfC qual (defScope st) s.heap.objs.size f cdv)) → PSs (cxOf CX0 P w K mg base N qual (defScope st) f cdv A outer s H E).nox (defBody st) (t E)) :
    OkD P w K mg base CX0 (k + 1) p ps (pOf N ps.length t) := by
  obtain ⟨fd, F⟩ := F
  exact ⟨fd, F.ok S (fun _ _ _ _ h => h.1) (fun cdv A outer s H vs Q E hr q => ⟨t E, (h _ cdv A outer s H E hr).nox, q.2⟩), F.bindsN b, F.kp, FunAt.of F⟩
/-- a def that may -/
theorem ok1 (F : FnP K p x qual st) (S : FnScope N ps (defScope st)) (b : ∀ (kV doc pm : Value) (an : Option Addr) (cdv ct : Value) (us : List Value), us.length = ps.length → bindArgs (PySem.W.fnOf x qual (defArgs st) (defBody st) (defScope st) .none kV doc pm an cdv ct) ⟨us, []⟩ = pure (ps.zip us))
    (h : ∀ (f : Addr) (cdv : Value) (A : Around) (outer : List Env) (s : Shared) (H : Hp) (E : XK), Room k (A.deeper (envOfC qual (defScope st) s.heap.objs.size f cdv)) → PSs (cxOf (L2.CX P w) P w K mg base N qual (defScope st) f cdv A outer s H E) (defBody st) (t E)) :
    OkD P w K mg base (L2.CX P w) (k + 1) p ps (pOf N ps.length t) := by
  obtain ⟨fd, F⟩ := F
  exact ⟨fd, F.ok S (fun _ _ _ _ h => h.1) (fun cdv A outer s H vs Q E hr q => ⟨t E, h _ cdv A outer s H E hr, q.2⟩), F.bindsN b, F.kp, FunAt.of F⟩
end
end SW
/-! SWHook: a head's facts over few addresses: what the names lead to, and no more. -/
namespace SW
open PySem PySem.Spec PyProof.Rows L2
def objRefs (g : Addr → Option Obj) (a : Addr) : List Addr := match g a with
  | some o => He.refsO o
  | none => []
/-- as, then what they name -/
def oneOn (g : Addr → Option Obj) (as : List Addr) : List Addr := as.flatMap (objRefs g)
/-- ns: names of functions, classes, tables; ms: methods; dp: names whose values are followed three steps -/
def asN (ns : List Str) (ms : List (Str × Str)) (dp : List Str) (g : Addr → Option Obj) : List Addr :=
  let K0 := He.frG g [mainGlobals]
  let L1 := ns.map (He.ga K0)
  let L2 := oneOn g L1
  let K2 := He.frG g (mainGlobals :: (L1 ++ L2))
  let L3 := ms.map fun p => He.ma K2 (He.ga K2 p.1) p.2
  let L4 := oneOn g L3
  let D1 := dp.map (He.ga K0)
  let D2 := oneOn g D1
  let D3 := oneOn g D2
  let D4 := oneOn g D3
  mainGlobals :: (L1 ++ (L2 ++ (L3 ++ (L4 ++ (D1 ++ (D2 ++ (D3 ++ D4)))))))
abbrev AlX : Type := He.AlT × Bool
def obsX (fa : List He.Fa) (fn : List He.DefD) (ts : List He.Tab) (ex : PySem.W.Frag → Bool) (K : PySem.W.Frag) : AlX := (He.obsT fa fn ts K, ex K)
def valX (fn : List He.DefD) (ts : List He.Tab) (w : World) : AlX := (He.valT fn ts w, true)
def obsXG (as : (Addr → Option Obj) → List Addr) (fa : List He.Fa) (fn : List He.DefD) (ts : List He.Tab) (ex : PySem.W.Frag → Bool) (g : Addr → Option Obj) : AlX := obsX fa fn ts ex (He.frG g (as g))
def SaysX (fa : List He.Fa) (fn : List He.DefD) (ts : List He.Tab) (ex : PySem.W.Frag → Bool) (w : World) (K : PySem.W.Frag) : Prop := obsX fa fn ts ex K = valX fn ts w
def hookX (as : (Addr → Option Obj) → List Addr) (fa : List He.Fa) (fn : List He.DefD) (ts : List He.Tab) (ex : PySem.W.Frag → Bool) : PySem.W.Hook where
  α := AlX
  obs := fun s => obsXG as fa fn ts ex s.heap.get?
  val := fun w => valX fn ts w
  says := fun w h => ∃ K : PySem.W.Frag, K.In h ∧ SaysX fa fn ts ex w K
  of := fun _ _ e => ⟨_, He.frG_in, e⟩
  keeps := fun _ _ _ ⟨K, hK, c⟩ k => ⟨K, PySem.W.Frag.In.keeps hK k, c⟩
section
variable {as : (Addr → Option Obj) → List Addr} {fa : List He.Fa} {fn : List He.DefD} {ts : List He.Tab} {ex : PySem.W.Frag → Bool} {w : World} {K : PySem.W.Frag}
theorem obsXG_eq {g : Addr → Option Obj} {s : Shared} (h : ∀ a, g a = s.heap.get? a) : obsXG as fa fn ts ex g = (hookX as fa fn ts ex).obs s := by
  have e : g = s.heap.get? := funext h
  rw [e] <;> rfl
theorem SaysX.t (c : SaysX fa fn ts ex w K) : He.SaysT fa fn ts w K := congrArg (fun z : AlX => z.1) c
theorem SaysX.d (c : SaysX fa fn ts ex w K) : He.SaysD fa fn K := c.t.d
theorem SaysX.x (c : SaysX fa fn ts ex w K) : ex K = true := congrArg (fun z : AlX => z.2) c
end
end SW
/-! SWSpec: what is owned, what is frozen; readings taken step by step, by instances. -/
namespace SW
open PySem L2

abbrev Cell := Addr × HO
abbrev Cs := List Cell
/-- the heap H: I never changes, M is ours to change; all else is not spoken of -/
class Own (I : outParam Hp) (M : outParam Cs) (H : Hp) : Prop where
  im : ∀ a o, I a = some o → H a = some o
  ce : ∀ c ∈ M, H c.1 = some c.2
  nd : (M.map (·.1)).Nodup
  di : ∀ c ∈ M, I c.1 = none
class Sub1 (I : outParam Hp) (I' : Hp) : Prop where
  sub : ∀ a o, I a = some o → I' a = some o
class Sub (I I' : Hp) : Prop where
  sub : ∀ a o, I a = some o → I' a = some o
instance Sub.refl {I : Hp} : Sub I I := ⟨fun _ _ h => h⟩
instance (priority := low) Sub.step {I I1 I2 : Hp} [a : Sub1 I1 I2] [b : Sub I I1] : Sub I I2 := ⟨fun x o h => a.sub x o (b.sub x o h)⟩
class Im (I : Hp) (a : Addr) (o : outParam HO) : Prop where
  eq : I a = some o
instance (priority := low) Im.step {I I1 : Hp} {a : Addr} {o : HO} [b : Sub1 I I1] [c : Im I a o] : Im I1 a o := ⟨b.sub _ _ c.eq⟩
class Mem (M : Cs) (a : Addr) (o : outParam HO) : Prop where
  mem : (a, o) ∈ M
instance Mem.head {M : Cs} {a : Addr} {o : HO} : Mem ((a, o) :: M) a o := ⟨List.mem_cons_self⟩
instance (priority := low) Mem.tail {M : Cs} {c : Cell} {a : Addr} {o : HO} [h : Mem M a o] : Mem (c :: M) a o := ⟨List.mem_cons_of_mem _ h.mem⟩
instance Mem.left {A B : Cs} {a : Addr} {o : HO} [h : Mem A a o] : Mem (A ++ B) a o := ⟨List.mem_append_left _ h.mem⟩
instance (priority := low) Mem.right {A B : Cs} {a : Addr} {o : HO} [h : Mem B a o] : Mem (A ++ B) a o := ⟨List.mem_append_right _ h.mem⟩
class SetC (M : Cs) (a : Addr) (o' : HO) (M' : outParam Cs) : Prop where
  ex : ∃ A B o, M = A ++ (a, o) :: B ∧ M' = A ++ (a, o') :: B
instance SetC.head {M : Cs} {a : Addr} {o o' : HO} : SetC ((a, o) :: M) a o' ((a, o') :: M) := ⟨[], M, o, rfl, rfl⟩
instance (priority := low) SetC.tail {M M' : Cs} {c : Cell} {a : Addr} {o' : HO} [h : SetC M a o' M'] : SetC (c :: M) a o' (c :: M') := by
  obtain ⟨A, B, o, e, e'⟩ := h.ex
  exact ⟨c :: A, B, o, by rw [e]; rfl, by rw [e']; rfl⟩
instance SetC.left {A A' B : Cs} {a : Addr} {o' : HO} [h : SetC A a o' A'] : SetC (A ++ B) a o' (A' ++ B) := by
  obtain ⟨C, D, o, e, e'⟩ := h.ex
  exact ⟨C, D ++ B, o, by rw [e, List.append_assoc]; rfl, by rw [e', List.append_assoc]; rfl⟩
instance (priority := low) SetC.right {A B B' : Cs} {a : Addr} {o' : HO} [h : SetC B a o' B'] : SetC (A ++ B) a o' (A ++ B') := by
  obtain ⟨C, D, o, e, e'⟩ := h.ex
  exact ⟨A ++ C, D, o, by rw [e, List.append_assoc], by rw [e', List.append_assoc]⟩
/-- what stands at a -/
class Ob (H : Hp) (a : Addr) (o : outParam HO) : Prop where
  eq : H a = some o
instance Ob.ofM {I : Hp} {M : Cs} {H : Hp} {a : Addr} {o : HO} [h : Own I M H] [m : Mem M a o] : Ob H a o := ⟨h.ce _ m.mem⟩
instance (priority := low) Ob.ofI {I : Hp} {M : Cs} {H : Hp} {a : Addr} {o : HO} [h : Own I M H] [m : Im I a o] : Ob H a o := ⟨h.im _ _ m.eq⟩

section
variable {I : Hp} {M M' : Cs} {H : Hp} {a p : Addr} {o o' : HO}
theorem Own.perm (h : Own I M H) (e : M.Perm M') : Own I M' H :=
  ⟨h.im, fun c hc => h.ce c (e.mem_iff.mpr hc), (e.map _).nodup_iff.mp h.nd, fun c hc => h.di c (e.mem_iff.mpr hc)⟩
theorem Own.notMem (h : Own I M H) (hp : H p = none) : p ∉ M.map (·.1) := fun hm => by
  obtain ⟨c, hc, e⟩ := List.mem_map.mp hm
  have := h.ce c hc
  rw [e, hp] at this
  cases this
theorem Own.notI (h : Own I M H) (hp : H p = none) : I p = none := by
  cases e : I p with
  | none => rfl
  | some u =>
    have := h.im _ _ e
    rw [hp] at this
    cases this
theorem Own.newM (h : Own I M H) (hp : H p = none) : Own I ((p, o) :: M) (upd H p o) := by
  have nm := h.notMem hp
  refine ⟨fun b u e => ?_, fun c hc => ?_, ?_, fun c hc => ?_⟩
  · rw [upd_ne (ne_of_none (h.im _ _ e) hp)]
    exact h.im _ _ e
  · rcases List.mem_cons.mp hc with rfl | hc
    · exact upd_same
    · rw [upd_ne (ne_of_none (h.ce c hc) hp)]
      exact h.ce c hc
  · rw [List.map_cons]
    exact List.nodup_cons.mpr ⟨nm, h.nd⟩
  · rcases List.mem_cons.mp hc with rfl | hc
    · exact h.notI hp
    · exact h.di c hc
theorem Own.newI (h : Own I M H) (hp : H p = none) : Own (upd I p o) M (upd H p o) := by
  refine ⟨fun b u e => ?_, fun c hc => ?_, h.nd, fun c hc => ?_⟩
  · by_cases hb : b = p
    · subst hb
      rw [upd_same] at e ⊢
      exact e
    · rw [upd_ne hb] at e ⊢
      exact h.im _ _ e
  · rw [upd_ne (ne_of_none (h.ce c hc) hp)]
    exact h.ce c hc
  · have : c.1 ≠ p := ne_of_none (h.ce c hc) hp
    rw [upd_ne this]
    exact h.di c hc
theorem Sub1.new (hp : I p = none) : Sub1 I (upd I p o) := ⟨fun b u e => by
  rw [upd_ne (ne_of_none e hp)]
  exact e⟩
theorem Im.new : Im (upd I p o) p o := ⟨upd_same⟩
/-- a cell that is changed no more -/
theorem Own.freeze (h : Own I ((a, o) :: M) H) : Own (upd I a o) M H := by
  have nd := h.nd
  rw [List.map_cons] at nd
  have nm := (List.nodup_cons.mp nd).1
  refine ⟨fun b u e => ?_, fun c hc => h.ce c (List.mem_cons_of_mem _ hc), (List.nodup_cons.mp nd).2, fun c hc => ?_⟩
  · by_cases hb : b = a
    · subst hb
      rw [upd_same] at e
      cases e
      exact h.ce (b, o) List.mem_cons_self
    · rw [upd_ne hb] at e
      exact h.im _ _ e
  · have : c.1 ≠ a := fun e => nm (List.mem_map.mpr ⟨c, hc, e⟩)
    rw [upd_ne this]
    exact h.di c (List.mem_cons_of_mem _ hc)
theorem Own.frzSub (h : Own I ((a, o) :: M) H) : Sub1 I (upd I a o) := Sub1.new (h.di (a, o) List.mem_cons_self)
theorem Own.drop {A : Cs} (h : Own I (A ++ M) H) : Own I M H :=
  ⟨h.im, fun c hc => h.ce c (List.mem_append_right _ hc), by
    have := h.nd
    rw [List.map_append] at this
    exact (List.nodup_append.mp this).2.1, fun c hc => h.di c (List.mem_append_right _ hc)⟩
theorem Own.set (h : Own I M H) [s : SetC M a o' M'] : Own I M' (upd H a o') := by
  obtain ⟨A, B, o, rfl, rfl⟩ := s.ex
  have nd := h.nd
  rw [List.map_append, List.map_cons] at nd
  have nA : a ∉ A.map (·.1) := fun hm => by
    have := (List.nodup_append.mp nd).2.2
    exact this a hm a List.mem_cons_self rfl
  have nB : a ∉ B.map (·.1) := (List.nodup_cons.mp (List.nodup_append.mp nd).2.1).1
  have ne : ∀ c ∈ A ++ B, c.1 ≠ a := fun c hc e => by
    rcases List.mem_append.mp hc with hc | hc
    · exact nA (List.mem_map.mpr ⟨c, hc, e⟩)
    · exact nB (List.mem_map.mpr ⟨c, hc, e⟩)
  refine ⟨fun b u e => ?_, fun c hc => ?_, by rw [List.map_append, List.map_cons]; exact nd, fun c hc => ?_⟩
  · have : b ≠ a := fun z => by
      have q := h.di (a, o) (List.mem_append_right _ List.mem_cons_self)
      rw [← z, e] at q
      cases q
    rw [upd_ne this]
    exact h.im _ _ e
  · rcases List.mem_append.mp hc with hc | hc
    · rw [upd_ne (ne c (List.mem_append_left _ hc))]
      exact h.ce c (List.mem_append_left _ hc)
    · rcases List.mem_cons.mp hc with rfl | hc
      · exact upd_same
      · rw [upd_ne (ne c (List.mem_append_right _ hc))]
        exact h.ce c (List.mem_append_right _ (List.mem_cons_of_mem _ hc))
  · rcases List.mem_append.mp hc with hc | hc
    · exact h.di c (List.mem_append_left _ hc)
    · rcases List.mem_cons.mp hc with rfl | hc
      · exact h.di (a, o) (List.mem_append_right _ List.mem_cons_self)
      · exact h.di c (List.mem_append_right _ (List.mem_cons_of_mem _ hc))
end
/-- two lists of cells, the one an arrangement of the other -/
theorem perm_count {A B : Cs} (h : ∀ (f : Cell → Nat), (A.map f).sum = (B.map f).sum) : A.Perm B := by
  classical
  refine List.perm_iff_count.mpr fun c => ?_
  have e : ∀ l : Cs, (l.map fun x => if x = c then 1 else 0).sum = l.count c := fun l => by
    induction l with
    | nil => rfl
    | cons x l ih =>
      rw [List.map_cons, List.sum_cons, ih, List.count_cons]
      by_cases hx : x = c
      · rw [if_pos hx, if_pos (by simpa using hx), Nat.add_comm]
      · rw [if_neg hx, if_neg (by simpa using hx)]
        omega
  have := h (fun x => if x = c then 1 else 0)
  rw [e, e] at this
  exact this
end SW
/-! SWStep: one lemma a step of a reading. -/
namespace SW
open PySem L2

/-- facts of classes, by instances -/
class CC (K : PySem.W.Frag) (C : Addr) : Prop where
  c : Cls K C
class NA (K : PySem.W.Frag) (C : Addr) (f : Str) : Prop where
  c : NoAttr K C f
class Look (fs : List (Str × V)) (f : Str) (v : outParam V) : Prop where
  eq : fs.lookup f = some v
class NoLook (fs : List (Str × V)) (f : Str) : Prop where
  eq : fs.lookup f = none
class Put (fs : List (Str × V)) (f : Str) (v : V) (fs' : outParam (List (Str × V))) : Prop where
  eq : putF f v fs = fs'
  len : fs.length < 1000

section
variable {K : PySem.W.Frag} {w : World} {σ : L2.St} {H : Hp} {I : Hp} {M M' : Cs} {D : Ends} {Q : VK} {E : XK} {x y v : V} {ta tb tc te : TE} {t u : TT} {t1 t2 : TS} {r : R2} {f m : Str} {a l p C dx : Addr} {fs fs' : List (Str × V)} {vs xs : List V} {i : Nat}
/-! ### names, constants -/
theorem e_var (h : σ[i]? = some (some v)) (q : Q v H) : tVar i σ H Q := ⟨v, h, q⟩
theorem e_c (q : Q v H) : tC v σ H Q := q
/-! ### statements -/
theorem e_seq (h : t1 { D with nx := t2 D } σ H) : tSeq t1 t2 D σ H := h
/-- a test that leaves all as it was: what follows is shown once -/
theorem seq_fin (fin : t2 D σ H) (h : t2 D σ H → t1 { D with nx := t2 D } σ H) : tSeq t1 t2 D σ H := h fin
theorem e_next (h : D.nx σ H) : tNext D σ H := h
theorem e_drop (h : te σ H fun _ H1 => D.nx σ H1) : tDrop te D σ H := h
theorem e_ret (h : te σ H D.rt) : tRet te D σ H := h
theorem e_retN (h : D.rt .non H) : tRetN D σ H := h
theorem e_asgN (h : te σ H fun x H1 => D.nx (σ.set i (some x)) H1) : tAsg te (gName i) D σ H := h
theorem e_asg {g : TG} (h : te σ H fun x H1 => g x σ H1 D.nx) : tAsg te g D σ H := h
theorem e_if {c : TT} (h : c σ H fun b H1 => if b = true then t1 D σ H1 else t2 D σ H1) : tIfS c t1 t2 D σ H := h
theorem e_brk (h : D.bk σ H) : tBreak D σ H := h
theorem e_cont (h : D.ct σ H) : tCont D σ H := h
theorem e_par {j : Nat} {ta : TA} (h : ta σ H fun vs H1 => ∃ v w, vs = [v, w] ∧ D.nx ((σ.set i (some v)).set j (some w)) H1) : tPar i j ta D σ H := h
theorem g_par {P : V → V → Prop} (h : P x y) : ∃ v w, [x, y] = [v, w] ∧ P v w := ⟨x, y, rfl, h⟩
theorem e_aug {ti : TIp} (h : σ[i]? = some (some x)) (q : te σ H fun y H1 => ti x y H1 fun z H2 => D.nx (σ.set i (some z)) H2) : tAug i te ti D σ H := ⟨x, h, q⟩
theorem g_ipI {g : Int → Int → Int} {i j : Int} (q : Q (.int (g i j)) H) : ipI g (.int i) (.int j) H Q := ⟨i, j, rfl, rfl, q⟩
/-! ### tests -/
theorem e_test {te : TE} {Q : Bool → Hp → Prop} (h : te σ H fun x H' => ∃ k, x = .bl k ∧ Q k H') : tTest te σ H Q := h
theorem g_bl {P : Bool → Prop} {b : Bool} (h : P b) : ∃ k, V.bl b = .bl k ∧ P k := ⟨b, rfl, h⟩
theorem e_and {Q : Bool → Hp → Prop} (h : t σ H fun c H1 => if c = true then u σ H1 Q else Q false H1) : tAnd t u σ H Q := h
theorem e_or {Q : Bool → Hp → Prop} (h : t σ H fun c H1 => if c = true then Q true H1 else u σ H1 Q) : tOr t u σ H Q := h
theorem e_not {Q : Bool → Hp → Prop} (h : t σ H fun c H1 => Q (!c) H1) : tNot t σ H Q := h
theorem e_andV (h : ta σ H fun x H1 => ∃ c, x = .bl c ∧ if c = true then tb σ H1 Q else Q (.bl false) H1) : tAndV ta tb σ H Q := h
theorem e_orV (h : ta σ H fun x H1 => ∃ c, x = .bl c ∧ if c = true then Q (.bl true) H1 else tb σ H1 Q) : tOrV ta tb σ H Q := h
theorem e_notV (h : ta σ H fun x H1 => ∃ c, x = .bl c ∧ Q (.bl (!c)) H1) : tNotV ta σ H Q := h
theorem e_ifE (h : t σ H fun c H1 => if c = true then ta σ H1 Q else tb σ H1 Q) : tIf t ta tb σ H Q := h
theorem e_yes {Q : Bool → Hp → Prop} (h : Q true H) : tYes σ H Q := h
theorem if_dec {p : Prop} [Decidable p] {A B : Prop} (h1 : p → A) (h2 : ¬ p → B) : if decide p = true then A else B := by
  by_cases h : p
  · rw [if_pos (decide_eq_true h)]
    exact h1 h
  · rw [if_neg (by simpa using h)]
    exact h2 h
theorem if_ndec {p : Prop} [Decidable p] {A B : Prop} (h1 : ¬ p → A) (h2 : p → B) : if (!decide p) = true then A else B := by
  by_cases h : p
  · rw [if_neg (by simpa using h)]
    exact h2 h
  · rw [if_pos (by simpa using h)]
    exact h1 h
theorem if_b {b : Bool} {A B : Prop} (h1 : b = true → A) (h2 : b = false → B) : if b = true then A else B := by
  cases b with
  | true => exact if_pos rfl ▸ h1 rfl
  | false => rw [if_neg (by decide)]; exact h2 rfl
theorem if_tt {A B : Prop} (q : A) : if true = true then A else B := by rw [if_pos rfl]; exact q
theorem if_ff {A B : Prop} (q : B) : if false = true then A else B := by rw [if_neg Bool.false_ne_true]; exact q
theorem ifT {c A B : Prop} [Decidable c] (h : c) (q : A) : if c then A else B := by rw [if_pos h]; exact q
theorem ifF {c A B : Prop} [Decidable c] (h : ¬ c) (q : B) : if c then A else B := by rw [if_neg h]; exact q
/-- truth -/
def GTru (K : PySem.W.Frag) (x : V) (H : Hp) (Q : Bool → Hp → Prop) : Prop := ∃ k, TruV K x H k ∧ Q k H
theorem e_tru {Q : Bool → Hp → Prop} (h : te σ H fun x H' => GTru K x H' Q) : tTru K te σ H Q := h
theorem g_tru_bl {Q : Bool → Hp → Prop} {b : Bool} (q : Q b H) : GTru K (.bl b) H Q := ⟨b, rfl, q⟩
theorem g_tru_non {Q : Bool → Hp → Prop} (q : Q false H) : GTru K .non H Q := ⟨false, rfl, q⟩
theorem g_tru_int {Q : Bool → Hp → Prop} {i : Int} (q : Q (i != 0) H) : GTru K (.int i) H Q := ⟨_, rfl, q⟩
theorem g_tru_lst {Q : Bool → Hp → Prop} [o : Ob H a (.lst xs)] (q : Q (!xs.isEmpty) H) : GTru K (.ref a) H Q := ⟨_, .inl ⟨xs, SqL.of o.eq, rfl⟩, q⟩
theorem g_tru_tup {Q : Bool → Hp → Prop} [o : Ob H a (.tup xs)] (q : Q (!xs.isEmpty) H) : GTru K (.ref a) H Q := ⟨_, .inr (.inl ⟨xs, SqT.of o.eq, rfl⟩), q⟩
/-! ### arguments, operators -/
theorem e_nil {Q : List V → Hp → Prop} (q : Q [] H) : tNil σ H Q := q
theorem e_cons {tr : TA} {Q : List V → Hp → Prop} (h : te σ H fun x H1 => tr σ H1 fun xs H2 => Q (x :: xs) H2) : tCons te tr σ H Q := h
theorem e_op (h : ta σ H fun x H1 => tb σ H1 fun y H2 => r x y H2 Q) : tOp r ta tb σ H Q := h
theorem e_un {r : V → Hp → VK → Prop} (h : ta σ H fun x H1 => r x H1 Q) : tUn r ta σ H Q := h
theorem e_chain {r r' : R2} (h : ta σ H fun x H1 => tb σ H1 fun y H2 => r x y H2 fun z H3 => ∃ k, z = .bl k ∧ (if k = true then tc σ H3 fun w' H4 => r' y w' H4 Q else Q (.bl false) H3)) : tChain r r' ta tb tc σ H Q := h
theorem e_cb {r : List V → Hp → VK → Prop} {ta : TA} (h : ta σ H fun vs H1 => r vs H1 Q) : tCB r ta σ H Q := h
theorem g_add {i j : Int} (q : Q (.int (i + j)) H) : rAdd K (.int i) (.int j) H Q := .inl ⟨i, j, rfl, rfl, q⟩
theorem g_addT {i j : Str} (h : i.length + j.length ≤ sizeLine) (q : Q (.str (i ++ j)) H) : rAdd K (.str i) (.str j) H Q := .inr (.inl ⟨i, j, rfl, rfl, h, q⟩)
theorem g_sub {i j : Int} (q : Q (.int (i - j)) H) : rSub (.int i) (.int j) H Q := ⟨i, j, rfl, rfl, q⟩
theorem g_mul {i j : Int} (h : CMul i j) (q : Q (.int (i * j)) H) : rMul (.int i) (.int j) H Q := .inl ⟨i, j, rfl, rfl, h, q⟩
theorem g_mod {i j : Int} (h : 0 < j) (q : Q (.int (i % j)) H) : rMod (.int i) (.int j) H Q := ⟨i, j, rfl, rfl, h, q⟩
theorem g_div {i j : Int} (h : CDivW i j) (q : Q (.int (i / j)) H) : rDiv (.int i) (.int j) H Q := ⟨i, j, rfl, rfl, h, q⟩
theorem g_neg {i : Int} (q : Q (.int (-i)) H) : rNeg (.int i) H Q := ⟨i, rfl, q⟩
theorem g_lt {i j : Int} (q : Q (.bl (decide (i < j))) H) : rLtI (.int i) (.int j) H Q := ⟨i, j, rfl, rfl, q⟩
theorem g_le {i j : Int} (q : Q (.bl (decide (i ≤ j))) H) : rLeI (.int i) (.int j) H Q := ⟨i, j, rfl, rfl, q⟩
theorem g_gt {i j : Int} (q : Q (.bl (decide (j < i))) H) : rGtI (.int i) (.int j) H Q := ⟨i, j, rfl, rfl, q⟩
theorem g_ge {i j : Int} (q : Q (.bl (decide (j ≤ i))) H) : rGeI (.int i) (.int j) H Q := ⟨i, j, rfl, rfl, q⟩
theorem g_eqI {i j : Int} (q : Q (.bl (decide (i = j))) H) : rEqP K (.int i) (.int j) H Q := .inl ⟨rfl, by rw [dec_int]; rw [← Bool.beq_eq_decide_eq] at q; exact q⟩
theorem g_neI {i j : Int} (q : Q (.bl (!decide (i = j))) H) : rNeP K (.int i) (.int j) H Q := .inl ⟨rfl, by rw [dec_int]; rw [← Bool.beq_eq_decide_eq] at q; exact q⟩
theorem g_eqS {i j : Str} (q : Q (.bl (decide (i = j))) H) : rEqP K (.str i) (.str j) H Q := .inl ⟨rfl, by rw [dec_str]; rw [← Bool.beq_eq_decide_eq] at q; exact q⟩
theorem g_neS {i j : Str} (q : Q (.bl (!decide (i = j))) H) : rNeP K (.str i) (.str j) H Q := .inl ⟨rfl, by rw [dec_str]; rw [← Bool.beq_eq_decide_eq] at q; exact q⟩
theorem g_eqV (h : scal x y = true) (q : Q (.bl (decide (x = y))) H) : rEqP K x y H Q := .inl ⟨h, q⟩
theorem g_neV (h : scal x y = true) (q : Q (.bl (!decide (x = y))) H) : rNeP K x y H Q := .inl ⟨h, q⟩
theorem g_isN (q : Q (.bl (decide (x = .non))) H) : rIs x .non H Q := .inl ⟨rfl, q⟩
theorem g_notN (q : Q (.bl (!decide (x = .non))) H) : rIsNot x .non H Q := .inl ⟨rfl, q⟩
theorem g_isN_ref {a : Addr} (q : Q (.bl false) H) : rIs (V.ref a) .non H Q := .inl ⟨rfl, by rw [decide_eq_false (by simp)]; exact q⟩
theorem g_notN_ref {a : Addr} (q : Q (.bl true) H) : rIsNot (V.ref a) .non H Q := .inl ⟨rfl, by rw [decide_eq_false (by simp)]; exact q⟩
theorem g_isN_int {n : Int} (q : Q (.bl false) H) : rIs (V.int n) .non H Q := .inl ⟨rfl, by rw [decide_eq_false (by simp)]; exact q⟩
theorem g_notN_int {n : Int} (q : Q (.bl true) H) : rIsNot (V.int n) .non H Q := .inl ⟨rfl, by rw [decide_eq_false (by simp)]; exact q⟩
theorem g_isN_str {z : Str} (q : Q (.bl false) H) : rIs (V.str z) .non H Q := .inl ⟨rfl, by rw [decide_eq_false (by simp)]; exact q⟩
theorem g_notN_str {z : Str} (q : Q (.bl true) H) : rIsNot (V.str z) .non H Q := .inl ⟨rfl, by rw [decide_eq_false (by simp)]; exact q⟩
theorem g_isN_bl {b : Bool} (q : Q (.bl false) H) : rIs (V.bl b) .non H Q := .inl ⟨rfl, by rw [decide_eq_false (by simp)]; exact q⟩
theorem g_notN_bl {b : Bool} (q : Q (.bl true) H) : rIsNot (V.bl b) .non H Q := .inl ⟨rfl, by rw [decide_eq_false (by simp)]; exact q⟩
theorem g_isN_non (q : Q (.bl true) H) : rIs .non .non H Q := .inl ⟨rfl, by rw [decide_eq_true rfl]; exact q⟩
theorem g_notN_non (q : Q (.bl false) H) : rIsNot .non .non H Q := .inl ⟨rfl, by rw [decide_eq_true rfl]; exact q⟩
/-! ### subscripts, len, list -/
theorem g_ixL {i : Int} [o : Ob H p (.lst xs)] (h : atI xs i = some v) (q : Q v H) : rIxP K w (.ref p) (.int i) H Q := .inl ⟨p, xs, i, v, rfl, rfl, SqL.of o.eq, h, q⟩
theorem g_ixT {i : Int} [o : Ob H p (.tup xs)] (h : atI xs i = some v) (q : Q v H) : rIxP K w (.ref p) (.int i) H Q := .inr (.inl ⟨p, xs, i, v, rfl, rfl, SqT.of o.eq, h, q⟩)
theorem atI_of {i : Int} (h0 : 0 ≤ i) (h : xs[i.toNat]? = some v) : atI xs i = some v := by
  have e : i = ((i.toNat : Nat) : Int) := by omega
  rw [e]
  exact atI_nat h
theorem g_ixLn {i : Int} [o : Ob H p (.lst xs)] (h0 : 0 ≤ i) (h : xs[i.toNat]? = some v) (q : Q v H) : rIxP K w (.ref p) (.int i) H Q := g_ixL (atI_of h0 h) q
theorem g_ixTn {i : Int} [o : Ob H p (.tup xs)] (h0 : 0 ≤ i) (h : xs[i.toNat]? = some v) (q : Q v H) : rIxP K w (.ref p) (.int i) H Q := g_ixT (atI_of h0 h) q
theorem g_lenL [o : Ob H p (.lst xs)] (q : Q (.int xs.length) H) : rLenP K [.ref p] H Q := .inl ⟨p, xs, rfl, .inl (SqL.of o.eq), q⟩
theorem g_lenT [o : Ob H p (.tup xs)] (q : Q (.int xs.length) H) : rLenP K [.ref p] H Q := .inl ⟨p, xs, rfl, .inr (SqT.of o.eq), q⟩
theorem g_lenS {z : Str} (h : z.length ≤ sizeLine) (q : Q (.int z.length) H) : rLenP K [.str z] H Q := .inr (.inl ⟨z, rfl, h, q⟩)
theorem g_lenQ (h : SqL K H p xs) (q : Q (.int xs.length) H) : rLenP K [.ref p] H Q := .inl ⟨p, xs, rfl, .inl h, q⟩
theorem g_ixQ {i : Int} (hs : SqL K H p xs) (h : atI xs i = some v) (q : Q v H) : rIxP K w (.ref p) (.int i) H Q := .inl ⟨p, xs, i, v, rfl, rfl, hs, h, q⟩
theorem g_int {i : Int} (q : Q (.int i) H) : rInt [.int i] H Q := .inl ⟨i, rfl, q⟩
theorem g_intB {b : Bool} (q : Q (.int (if b then 1 else 0)) H) : rInt [.bl b] H Q := .inr ⟨b, rfl, q⟩
theorem g_min2 {i j : Int} (q : Q (.int (if j < i then j else i)) H) : rMin2 [.int i, .int j] H Q := ⟨i, j, rfl, q⟩
theorem g_max2 {i j : Int} (q : Q (.int (if j > i then j else i)) H) : rMax2 [.int i, .int j] H Q := ⟨i, j, rfl, q⟩
theorem g_strI {i : Int} (h : i.natAbs.log2 < 1920) (q : Q (.str (toString i)) H) : rStrI [.int i] H Q := ⟨i, rfl, h, q⟩
/-! ### what is made: frozen at once (I), or ours to change (M) -/
def GTup (H : Hp) (Q : VK) (xs : List V) : Prop := xs.length ≤ sizeLine ∧ ∀ p, H p = none → Q (.ref p) (upd H p (.tup xs))
def GLst (H : Hp) (Q : VK) (xs : List V) : Prop := xs.length ≤ sizeLine ∧ ∀ p, H p = none → Q (.ref p) (upd H p (.lst xs))
theorem e_tup {ta : TA} (h : ta σ H fun xs H1 => GTup H1 Q xs) : tTup ta σ H Q := h
theorem e_lst {ta : TA} (h : ta σ H fun xs H1 => GLst H1 Q xs) : tLst ta σ H Q := h
theorem newI [o : Own I M H] {ob : HO} (q : ∀ (p : Addr) (I' H' : Hp), Sub1 I I' → Im I' p ob → Own I' M H' → Q (.ref p) H') : ∀ p, H p = none → Q (.ref p) (upd H p ob) :=
  fun p hp => q p _ _ (Sub1.new (o.notI hp)) Im.new (o.newI hp)
theorem newM [o : Own I M H] {ob : HO} (q : ∀ (p : Addr) (H' : Hp), Own I ((p, ob) :: M) H' → Q (.ref p) H') : ∀ p, H p = none → Q (.ref p) (upd H p ob) :=
  fun p hp => q p _ (o.newM hp)
theorem g_tup [o : Own I M H] (h : xs.length ≤ sizeLine) (q : ∀ (p : Addr) (I' H' : Hp), Sub1 I I' → Im I' p (.tup xs) → Own I' M H' → Q (.ref p) H') : GTup H Q xs := ⟨h, newI q⟩
theorem g_lstI [o : Own I M H] (h : xs.length ≤ sizeLine) (q : ∀ (p : Addr) (I' H' : Hp), Sub1 I I' → Im I' p (.lst xs) → Own I' M H' → Q (.ref p) H') : GLst H Q xs := ⟨h, newI q⟩
theorem g_lstM [o : Own I M H] (h : xs.length ≤ sizeLine) (q : ∀ (p : Addr) (H' : Hp), Own I ((p, .lst xs) :: M) H' → Q (.ref p) H') : GLst H Q xs := ⟨h, newM q⟩
theorem g_listI [o : Own I M H] [b : Ob H p (.lst xs)] (q : ∀ (p : Addr) (I' H' : Hp), Sub1 I I' → Im I' p (.lst xs) → Own I' M H' → Q (.ref p) H') : rListOf K [.ref p] H Q := ⟨p, xs, rfl, .inl (SqL.of b.eq), newI q⟩
theorem g_catI [o : Own I M H] {b : Addr} {ys : List V} [h1 : Ob H a (.lst xs)] [h2 : Ob H b (.lst ys)] (hl : xs.length + ys.length ≤ sizeLine) (q : ∀ (p : Addr) (I' H' : Hp), Sub1 I I' → Im I' p (.lst (xs ++ ys)) → Own I' M H' → Q (.ref p) H') :
    rAdd K (.ref a) (.ref b) H Q := .inr (.inr (.inl ⟨a, b, xs, ys, rfl, rfl, h1.eq, h2.eq, hl, newI q⟩))
/-! ### fields, methods, instances -/
def GFld (K : PySem.W.Frag) (f : Str) (x : V) (H : Hp) (Q : VK) : Prop := ∃ a C dx fs v, x = .ref a ∧ H a = some (.ins C dx fs) ∧ Cls K C ∧ NoAttr K C f ∧ fs.lookup f = some v ∧ Q v H
theorem e_fld (h : ta σ H fun x H1 => GFld K f x H1 Q) : tFld K ta f σ H Q := h
theorem g_fld [o : Ob H a (.ins C dx fs)] [c : CC K C] [n : NA K C f] [k : Look fs f v] (q : Q v H) : GFld K f (.ref a) H Q := ⟨a, C, dx, fs, v, rfl, o.eq, c.c, n.c, k.eq, q⟩
def GSet (K : PySem.W.Frag) (f : Str) (y x : V) (H : Hp) (Q : Hp → Prop) : Prop := ∃ a C dx fs, x = .ref a ∧ H a = some (.ins C dx fs) ∧ Cls K C ∧ NoAttr K C f ∧ fs.length < 1000 ∧ Q (upd H a (.ins C dx (putF f y fs)))
theorem e_set (h : te σ H fun y H1 => ta σ H1 fun x H2 => GSet K f y x H2 (D.nx σ)) : sFld K ta te f D σ H := h
theorem g_set {Q : Hp → Prop} [w : Own I M H] [o : Ob H a (.ins C dx fs)] [c : CC K C] [n : NA K C f] [k : Put fs f y fs'] [s : SetC M a (.ins C dx fs') M'] (q : ∀ H' : Hp, Own I M' H' → Q H') : GSet K f y (.ref a) H Q := by
  refine ⟨a, C, dx, fs, rfl, o.eq, c.c, n.c, k.len, ?_⟩
  rw [k.eq]
  exact q _ w.set
def GMeth (C : Addr) (m : Str) (sp : Sp) (E : XK) (t : TA) (σ : L2.St) (x : V) (H : Hp) (Q : VK) : Prop := ∃ a dx fs, x = .ref a ∧ H a = some (.ins C dx fs) ∧ fs.lookup m = none ∧ t σ H fun vs H2 => sp (x :: (vs ++ [])) H2 Q E
theorem e_meth {sp : Sp} {t : TA} (h : ta σ H fun x H1 => GMeth C m sp E t σ x H1 Q) : tMeth C m sp [] E ta t σ H Q := h
theorem g_meth {sp : Sp} {t : TA} [o : Ob H a (.ins C dx fs)] [n : NoLook fs m] (q : t σ H fun vs H2 => sp (.ref a :: vs) H2 Q E) : GMeth C m sp E t σ (.ref a) H Q :=
  ⟨a, dx, fs, rfl, o.eq, n.eq, by simpa only [List.append_nil] using q⟩
theorem e_call {sp : Sp} {t : TA} (h : t σ H fun vs H1 => sp vs H1 Q E) : tCall sp [] E t σ H Q := by
  unfold tCall
  simpa only [List.append_nil] using h
def GMake (C : Addr) (sp : Sp) (E : XK) (vs : List V) (H : Hp) (Q : VK) : Prop := ∀ x dx, H x = none → H dx = none → dx ≠ x → sp (.ref x :: vs) (upd (upd H dx (.own x)) x (.ins C dx [])) (fun v H2 => v = .non ∧ Q (.ref x) H2) E
theorem e_make {sp : Sp} {t : TA} (h : t σ H fun vs H1 => GMake C sp E vs H1 Q) : tMake C sp [] E t σ H Q := by
  unfold tMake
  simpa only [List.append_nil, GMake] using h
theorem g_make {sp : Sp} [w : Own I M H] (q : ∀ (x dx : Addr) (I' H' : Hp), Sub1 I I' → Own I' ((x, .ins C dx []) :: M) H' → sp (.ref x :: vs) H' (fun v H2 => v = .non ∧ Q (.ref x) H2) E) : GMake C sp E vs H Q := by
  intro x dx hx hd ne
  have o1 := w.newI (o := .own x) hd
  have hx2 : upd H dx (.own x) x = none := by rw [upd_ne (Ne.symm ne)]; exact hx
  exact q x dx _ _ (Sub1.new (w.notI hd)) (o1.newM hx2)
/-! ### methods of lists -/
def GBM (K : PySem.W.Frag) (T : String) (r : V → List V → Hp → VK → Prop) (t : TA) (σ : L2.St) (x : V) (H : Hp) (Q : VK) : Prop := tyV K T x H ∧ t σ H fun xs H2 => r x xs H2 Q
theorem e_bm {T : String} {r : V → List V → Hp → VK → Prop} {t : TA} (h : ta σ H fun x H1 => GBM K T r t σ x H1 Q) : tBM K T r ta t σ H Q := h
theorem g_bmL {r : V → List V → Hp → VK → Prop} {t : TA} [o : Ob H l (.lst xs)] (q : t σ H fun ys H2 => r (.ref l) ys H2 Q) : GBM K "list" r t σ (.ref l) H Q := ⟨.inl ⟨rfl, xs, SqL.of o.eq⟩, q⟩
theorem g_append [w : Own I M H] [o : Ob H l (.lst xs)] [s : SetC M l (.lst (xs ++ [y])) M'] (h : xs.length < sizeLine) (q : ∀ H' : Hp, Own I M' H' → Q .non H') : rAppend (.ref l) [y] H Q := ⟨l, xs, y, rfl, rfl, o.eq, h, q _ w.set⟩
theorem g_extend [w : Own I M H] {b : Addr} {ys : List V} [o : Ob H l (.lst xs)] [o2 : Ob H b (.lst ys)] [s : SetC M l (.lst (xs ++ ys)) M'] (h : xs.length + ys.length ≤ sizeLine) (q : ∀ H' : Hp, Own I M' H' → Q .non H') : rExtend (.ref l) [.ref b] H Q :=
  ⟨l, b, xs, ys, rfl, rfl, o.eq, o2.eq, h, q _ w.set⟩
/-! ### xs[i] = v -/
theorem e_sub {to ti : TE} {t : TSet} {Q : L2.St → Hp → Prop} (h : to σ H fun o H1 => ti σ H1 fun i H2 => t o i v H2 fun H3 => Q σ H3) : gSub to ti t v σ H Q := h
theorem g_setL {Q : Hp → Prop} {j : Nat} [w : Own I M H] [o : Ob H l (.lst xs)] [s : SetC M l (.lst (xs.set j v)) M'] (h : j < xs.length) (q : ∀ H' : Hp, Own I M' H' → Q H') : rSetL (.ref l) (.int (j : Int)) v H Q :=
  ⟨l, xs, (j : Int), j, rfl, rfl, o.eq, by
    unfold ixN
    rw [if_pos (by omega), if_pos (by omega)]
    simp, q _ w.set⟩
/-! ### targets -/
theorem e_gname {Q : L2.St → Hp → Prop} (h : Q (σ.set i (some v)) H) : gName i v σ H Q := h
theorem g_gtup {n : Nat} {t : TGs} {Q : L2.St → Hp → Prop} [o : Ob H a (.tup xs)] (hn : xs.length = n) (h : t xs σ H Q) : gUnp K n t (.ref a) σ H Q := .inl ⟨a, xs, rfl, SqT.of o.eq, hn, h⟩
theorem g_glst {n : Nat} {t : TGs} {Q : L2.St → Hp → Prop} [o : Ob H a (.lst xs)] (hn : xs.length = n) (h : t xs σ H Q) : gUnp K n t (.ref a) σ H Q := .inr ⟨a, xs, rfl, SqL.of o.eq, hn, h⟩
theorem e_gnil {Q : L2.St → Hp → Prop} (h : Q σ H) : gNil [] σ H Q := ⟨rfl, h⟩
theorem e_gcons {t : TG} {u : TGs} {Q : L2.St → Hp → Prop} (h : t v σ H fun σ' H' => u vs σ' H' Q) : gCons t u (v :: vs) σ H Q := ⟨v, vs, rfl, h⟩
/-! ### loops over what stands still -/
end
def GSeq (K : PySem.W.Frag) (x : V) (H1 : Hp) (R : It → Hp → Prop) : Prop := (∃ a xs, x = .ref a ∧ SqL K H1 a xs ∧ R (Itl K a) H1) ∨ (∃ a xs, x = .ref a ∧ SqT K H1 a xs ∧ R (Itt K a) H1) ∨ (∃ z, x = .str z ∧ R (Its z) H1)
def GRng1 (vs : List V) (H : Hp) (R : It → Hp → Prop) : Prop := ∃ j : Int, vs = [.int j] ∧ -(2 ^ 62) ≤ j ∧ j < 2 ^ 62 ∧ R (Itr 0 j.toNat) H
def GRng2 (vs : List V) (H : Hp) (R : It → Hp → Prop) : Prop := ∃ i j : Int, vs = [.int i, .int j] ∧ (-(2 ^ 62) ≤ i ∧ i < 2 ^ 62 ∧ -(2 ^ 62) ≤ j ∧ j < 2 ^ 62) ∧ R (Itr i (j - i).toNat) H
def GEnum (K : PySem.W.Frag) (vs : List V) (H : Hp) (R : It → Hp → Prop) : Prop := ∃ a xs, vs = [.ref a] ∧ SqL K H a xs ∧ R (Ite K a) H
def GFor (J : It) (g : TG) (tb : TS) (D : Ends) (σ : L2.St) (H1 : Hp) : Prop := ∃ W : Nat → Nat → L2.St → Hp → Prop, (∃ m, W 0 m σ H1) ∧ ∀ i m σ H, W i m σ H →
  (J.stop i H ∧ D.nx σ H) ∨ (J.go i H ∧ ∃ N : L2.St → Hp → Prop, (∀ σ' H', N σ' H' → ∃ m', m' < m ∧ W (i + 1) m' σ' H') ∧ ∀ x H', J.yld i H x H' → g x σ H' fun σ2 H2 => tb { D with nx := N, ct := N, bk := D.nx } σ2 H2)
def GLc (J : It) (g : TG) (tt : TT) (te : TE) (vs : List Nat) (σ : L2.St) (H1 : Hp) (Q : VK) : Prop := ∀ D, H1 D = none → ∃ W : Nat → Nat → Hp → Prop, (∃ m, W 0 m (upd H1 D (.lst []))) ∧ ∀ i m H, W i m H →
  (J.stop i H ∧ Q (.ref D) H) ∨ (J.go i H ∧ ∃ Nx : Hp → Prop, (∀ H', Nx H' → ∃ m', m' < m ∧ W (i + 1) m' H') ∧ ∀ x H', J.yld i H x H' → g x (wipe σ vs) H' fun σ2 H2 => wipe σ2 vs = wipe σ vs ∧ tt σ2 H2 fun b H3 =>
    if b = true then te σ2 H3 fun y H4 => ∃ acc, H4 D = some (.lst acc) ∧ acc.length < sizeLine ∧ Nx (upd H4 D (.lst (acc ++ [y]))) else Nx H3)
section
variable {K : PySem.W.Frag} {w : World} {σ : L2.St} {H : Hp} {I : Hp} {M M' : Cs} {D : Ends} {Q : VK} {a : Addr} {xs : List V} {wi : TI} {g : TG} {tb : TS} {te : TE} {tt : TT} {vs : List Nat}
theorem e_for (h : wi σ H fun J H1 => GFor J g tb D σ H1) : tFor wi g tb D σ H := h
theorem e_lc (h : wi σ H fun J H1 => GLc J g tt te vs σ H1 Q) : tLc wi g tt te vs σ H Q := h
theorem e_iseq {R : It → Hp → Prop} {tl : TE} (h : tl σ H fun x H1 => GSeq K x H1 R) : iSeq K tl σ H R := h
theorem g_seqL {R : It → Hp → Prop} [o : Ob H a (.lst xs)] (h : R (Itl K a) H) : GSeq K (.ref a) H R := .inl ⟨a, xs, rfl, SqL.of o.eq, h⟩
theorem g_seqT {R : It → Hp → Prop} [o : Ob H a (.tup xs)] (h : R (Itt K a) H) : GSeq K (.ref a) H R := .inr (.inl ⟨a, xs, rfl, SqT.of o.eq, h⟩)
theorem g_seqS {R : It → Hp → Prop} {z : Str} (h : R (Its z) H) : GSeq K (.str z) H R := .inr (.inr ⟨z, rfl, h⟩)
theorem e_enum {R : It → Hp → Prop} {ta : TA} (h : ta σ H fun vs H1 => GEnum K vs H1 R) : iEnumP K ta σ H R := h
theorem g_enum {R : It → Hp → Prop} [o : Ob H a (.lst xs)] (h : R (Ite K a) H) : GEnum K [.ref a] H R := ⟨a, xs, rfl, SqL.of o.eq, h⟩
theorem e_rng1 {R : It → Hp → Prop} {ta : TA} (h : ta σ H fun vs H1 => GRng1 vs H1 R) : iRng1 ta σ H R := h
theorem e_rng2 {R : It → Hp → Prop} {ta : TA} (h : ta σ H fun vs H1 => GRng2 vs H1 R) : iRng2 ta σ H R := h
theorem g_rng1 {n : Int} {R : It → Hp → Prop} (h1 : -(2 ^ 62) ≤ n) (h2 : n < 2 ^ 62) (h : R (Itr 0 n.toNat) H) : GRng1 [.int n] H R := ⟨n, rfl, h1, h2, h⟩
theorem g_rng2 {m n : Int} {R : It → Hp → Prop} (h1 : -(2 ^ 62) ≤ m ∧ m < 2 ^ 62 ∧ -(2 ^ 62) ≤ n ∧ n < 2 ^ 62) (h : R (Itr m (n - m).toNat) H) : GRng2 [.int m, .int n] H R := ⟨m, n, rfl, h1, h⟩
/-- a list that stands still through the loop: Pv by the turn -/
theorem for_l (Pv : Nat → L2.St → Hp → Prop) (h0 : Pv 0 σ H) (hl : ∀ i σ H, i ≤ xs.length → Pv i σ H → H a = some (.lst xs))
    (hs : ∀ i x σ H, xs[i]? = some x → Pv i σ H → g x σ H fun σ2 H2 => tb { D with nx := Pv (i + 1), ct := Pv (i + 1), bk := D.nx } σ2 H2) (hd : ∀ σ H, Pv xs.length σ H → D.nx σ H) : GFor (Itl K a) g tb D σ H :=
  for_list Pv h0 (fun i σ H hi p => SqL.of (hl i σ H hi p)) hs hd
theorem for_r {lo : Int} {n : Nat} (Pv : Nat → L2.St → Hp → Prop) (h0 : Pv 0 σ H)
    (hs : ∀ i σ H, i < n → Pv i σ H → g (.int (lo + i)) σ H fun σ2 H2 => tb { D with nx := Pv (i + 1), ct := Pv (i + 1), bk := D.nx } σ2 H2) (hd : ∀ σ H, Pv n σ H → D.nx σ H) : GFor (Itr lo n) g tb D σ H :=
  for_range Pv h0 hs hd
end
/-- the state between two turns of a comprehension whose turns freeze what they make: P by the turn, the frozen part, what was made so far -/
def LcN (I : Hp) (M : Cs) (p : Addr) (Pv : Nat → Hp → List V → Prop) (i : Nat) (H : Hp) : Prop := ∃ I' acc, Sub I I' ∧ Own I' ((p, .lst acc) :: M) H ∧ acc.length ≤ i ∧ Pv i I' acc
def GApp (p : Addr) (y : V) (H : Hp) (N : Hp → Prop) : Prop := ∃ acc, H p = some (.lst acc) ∧ acc.length < sizeLine ∧ N (upd H p (.lst (acc ++ [y])))
theorem Sub.one {I I' : Hp} (h : Sub I I') : Sub1 I I' := ⟨h.sub⟩
theorem Sub1.any {I I' : Hp} (h : Sub1 I I') : Sub I I' := ⟨h.sub⟩
theorem Sub.trans {I I1 I2 : Hp} (a : Sub I I1) (b : Sub I1 I2) : Sub I I2 := ⟨fun x o h => b.sub x o (a.sub x o h)⟩
section
variable {K : PySem.W.Frag} {w : World} {σ : L2.St} {H H4 : Hp} {I I4 : Hp} {M M' : Cs} {D : Ends} {Q : VK} {a p : Addr} {xs acc : List V} {y : V} {g : TG} {tb : TS} {te : TE} {tt : TT} {vs : List Nat} {Pv : Nat → Hp → List V → Prop} {i : Nat}
theorem g_app [w : Own I4 ((p, .lst acc) :: M) H4] (s : Sub I I4) (hl : acc.length ≤ i) (hz : i < sizeLine) (q : Pv (i + 1) I4 (acc ++ [y])) : GApp p y H4 (LcN I M p Pv (i + 1)) :=
  ⟨acc, w.ce _ List.mem_cons_self, by omega, I4, acc ++ [y], s, w.set, by rw [List.length_append]; simp; omega, q⟩
theorem g_skip [w : Own I4 ((p, .lst acc) :: M) H4] (s : Sub I I4) (hl : acc.length ≤ i) (q : Pv (i + 1) I4 acc) : LcN I M p Pv (i + 1) H4 := ⟨I4, acc, s, w, by omega, q⟩
theorem lc_any {J : It} [w : Own I M H] (n : Nat) (Pv : Nat → Hp → List V → Prop) (h0 : Pv 0 I []) (go : ∀ i p H', i < n → LcN I M p Pv i H' → J.go i H') (stop : ∀ p H', LcN I M p Pv n H' → J.stop n H')
    (hs : ∀ i x p I' acc H' H2, i < n → J.yld i H' x H2 → LcN I M p Pv i H' → Sub I I' → acc.length ≤ i → Pv i I' acc → Own I' ((p, .lst acc) :: M) H' → g x (wipe σ vs) H2 fun σ2 H2 => wipe σ2 vs = wipe σ vs ∧ tt σ2 H2 fun b H3 =>
      if b = true then te σ2 H3 fun y H4 => GApp p y H4 (LcN I M p Pv (i + 1)) else LcN I M p Pv (i + 1) H3)
    (hd : ∀ p I' acc H', Sub1 I I' → acc.length ≤ n → Pv n I' acc → Own I' ((p, .lst acc) :: M) H' → Q (.ref p) H') : GLc J g tt te vs σ H Q := fun p hp => by
  refine ⟨fun i m H' => m = n - i ∧ i ≤ n ∧ LcN I M p Pv i H', ⟨n, by simp, Nat.zero_le _, I, [], Sub.refl, w.newM hp, Nat.le_refl _, h0⟩, ?_⟩
  rintro i m H' ⟨rfl, hi, L⟩
  by_cases hlt : i < n
  · refine .inr ⟨go i p H' hlt L, LcN I M p Pv (i + 1), fun H2 L2 => ⟨n - (i + 1), by omega, rfl, hlt, L2⟩, fun x H2 hy => ?_⟩
    obtain ⟨I', acc, s, o, hl, q⟩ := id L
    exact hs i x p I' acc H' H2 hlt hy L s hl q o
  · have e : i = n := by omega
    subst e
    obtain ⟨I', acc, s, o, hl, q⟩ := id L
    exact .inl ⟨stop p H' L, hd p I' acc H' s.one hl q o⟩
/-- over a list: frozen or ours -/
theorem lc_l [w : Own I M H] (hl : ∀ (p : Addr) I' acc H', Sub I I' → Own I' ((p, .lst acc) :: M) H' → H' a = some (.lst xs)) (Pv : Nat → Hp → List V → Prop) (h0 : Pv 0 I [])
    (hs : ∀ i x p I' acc H', xs[i]? = some x → Sub1 I I' → acc.length ≤ i → Pv i I' acc → Own I' ((p, .lst acc) :: M) H' → g x (wipe σ vs) H' fun σ2 H2 => wipe σ2 vs = wipe σ vs ∧ tt σ2 H2 fun b H3 =>
      if b = true then te σ2 H3 fun y H4 => GApp p y H4 (LcN I M p Pv (i + 1)) else LcN I M p Pv (i + 1) H3)
    (hd : ∀ p I' acc H', Sub1 I I' → acc.length ≤ xs.length → Pv xs.length I' acc → Own I' ((p, .lst acc) :: M) H' → Q (.ref p) H') : GLc (Itl K a) g tt te vs σ H Q :=
  lc_any xs.length Pv h0 (fun i p H' hi ⟨I', acc, s, o, _, _⟩ => ⟨xs, xs[i], SqL.of (hl p I' acc H' s o), by simp [hi]⟩) (fun p H' ⟨I', acc, s, o, _, _⟩ => ⟨xs, SqL.of (hl p I' acc H' s o), Nat.le_refl _⟩)
    (fun i x p I' acc H' H2 hi hy _ s hle q o => by
      obtain ⟨e, y⟩ := hy
      subst e
      exact hs i x p I' acc _ (y xs (SqL.of (hl p I' acc _ s o))) s.one hle q o) hd
theorem lc_r {lo : Int} {n : Nat} [w : Own I M H] (Pv : Nat → Hp → List V → Prop) (h0 : Pv 0 I [])
    (hs : ∀ i p I' acc H', i < n → Sub1 I I' → acc.length ≤ i → Pv i I' acc → Own I' ((p, .lst acc) :: M) H' → g (.int (lo + i)) (wipe σ vs) H' fun σ2 H2 => wipe σ2 vs = wipe σ vs ∧ tt σ2 H2 fun b H3 =>
      if b = true then te σ2 H3 fun y H4 => GApp p y H4 (LcN I M p Pv (i + 1)) else LcN I M p Pv (i + 1) H3)
    (hd : ∀ p I' acc H', Sub1 I I' → acc.length ≤ n → Pv n I' acc → Own I' ((p, .lst acc) :: M) H' → Q (.ref p) H') : GLc (Itr lo n) g tt te vs σ H Q :=
  lc_any n Pv h0 (fun i p H' hi _ => hi) (fun p H' _ => Nat.le_refl _)
    (fun i x p I' acc H' H2 hi hy _ s hle q o => by
      obtain ⟨e1, e2⟩ := hy
      subst e1
      subst e2
      exact hs i p I' acc _ hi s.one hle q o) hd
end
section
variable {K : PySem.W.Frag} {σ : L2.St} {H : Hp} {D : Ends} {a : Addr} {xs : List V} {g : TG} {tb : TS}
/-- enumerate(list): the pair is a new tuple -/
theorem for_e (Pv : Nat → L2.St → Hp → Prop) (h0 : Pv 0 σ H) (hl : ∀ i σ H, i ≤ xs.length → Pv i σ H → H a = some (.lst xs))
    (hs : ∀ i x T σ H, xs[i]? = some x → Pv i σ H → H T = none → g (.ref T) σ (upd H T (.tup [.int (i : Nat), x])) fun σ2 H2 => tb { D with nx := Pv (i + 1), ct := Pv (i + 1), bk := D.nx } σ2 H2) (hd : ∀ σ H, Pv xs.length σ H → D.nx σ H) : GFor (Ite K a) g tb D σ H := by
  refine ⟨fun i m σ H => m = xs.length - i ∧ i ≤ xs.length ∧ Pv i σ H, ⟨xs.length, by simp, Nat.zero_le _, h0⟩, ?_⟩
  rintro i m σ H ⟨rfl, hi, p⟩
  have q := SqL.of (K := K) (hl i σ H hi p)
  by_cases hlt : i < xs.length
  · refine .inr ⟨⟨xs, xs[i], q, by simp [hlt]⟩, Pv (i + 1), fun σ' H' p' => ⟨xs.length - (i + 1), by omega, rfl, hlt, p'⟩, fun x H' y => ?_⟩
    obtain ⟨T, x, rfl, hT, rfl, y⟩ := y
    exact hs i x T σ _ (y xs q) p hT
  · have e : i = xs.length := by omega
    subst e
    exact .inl ⟨⟨xs, q, Nat.le_refl _⟩, hd σ H p⟩
end
/-! ### lists read in whatever way (the script) -/
class ImQ (K : PySem.W.Frag) (I : Hp) (a : Addr) (xs : outParam (List V)) : Prop where
  eq : SqL K I a xs
theorem SqL.sub {K : PySem.W.Frag} {I H : Hp} {a : Addr} {xs : List V} (s : ∀ b o, I b = some o → H b = some o) (h : SqL K I a xs) : SqL K H a xs := by
  rcases h with (h | ⟨o, h⟩) | h
  · exact .inl (.inl (s _ _ h))
  · exact .inl (.inr ⟨o, s _ _ h⟩)
  · exact .inr h
instance (priority := low) ImQ.step {K : PySem.W.Frag} {I I1 : Hp} {a : Addr} {xs : List V} [b : Sub1 I I1] [c : ImQ K I a xs] : ImQ K I1 a xs := ⟨SqL.sub b.sub c.eq⟩
class ObQ (K : PySem.W.Frag) (H : Hp) (a : Addr) (xs : outParam (List V)) : Prop where
  eq : SqL K H a xs
instance ObQ.ofI {K : PySem.W.Frag} {I : Hp} {M : Cs} {H : Hp} {a : Addr} {xs : List V} [h : Own I M H] [c : ImQ K I a xs] : ObQ K H a xs := ⟨SqL.sub h.im c.eq⟩
section
variable {K : PySem.W.Frag} {w : World} {H : Hp} {Q : VK} {p : Addr} {xs : List V} {v : V}
theorem g_lenO [o : ObQ K H p xs] (q : Q (.int xs.length) H) : rLenP K [.ref p] H Q := g_lenQ o.eq q
theorem g_ixO {i : Int} [o : ObQ K H p xs] (h0 : 0 ≤ i) (h : xs[i.toNat]? = some v) (q : Q v H) : rIxP K w (.ref p) (.int i) H Q := g_ixQ o.eq (atI_of h0 h) q
end
section
variable {K : PySem.W.Frag} {w : World} {H : Hp} {Q : VK} {x y : V}
theorem g_neD {d e : PyData} (h1 : Dp K H x d) (h2 : Dp K H y e) (s1 : SeqAt.shaped d = true) (s2 : SeqAt.shaped e = true) (q : Q (.bl (!PyData.eqv d e)) H) : rNeP K x y H Q := .inr ⟨d, e, h1, h2, s1, s2, q⟩
theorem g_eqD {d e : PyData} (h1 : Dp K H x d) (h2 : Dp K H y e) (s1 : SeqAt.shaped d = true) (s2 : SeqAt.shaped e = true) (q : Q (.bl (PyData.eqv d e)) H) : rEqP K x y H Q := .inr ⟨d, e, h1, h2, s1, s2, q⟩
theorem g_neSame {d : PyData} (h1 : Dp K H x d) (h2 : Dp K H y d) (s1 : SeqAt.shaped d = true) (q : Q (.bl false) H) : rNeP K x y H Q := g_neD h1 h2 s1 s1 (by
  rw [SeqAt.eqv_refl d (SeqAt.canLay_of_shaped s1)]
  exact q)
theorem g_eqSame {d : PyData} (h1 : Dp K H x d) (h2 : Dp K H y d) (s1 : SeqAt.shaped d = true) (q : Q (.bl true) H) : rEqP K x y H Q := g_eqD h1 h2 s1 s1 (by
  rw [SeqAt.eqv_refl d (SeqAt.canLay_of_shaped s1)]
  exact q)
theorem dp_lst {a : Addr} {xs : List V} {ds : List PyData} (h : H a = some (.lst xs)) (hs : DpAll K H xs ds) : Dp K H (.ref a) (.list ds) := .lst (SqL.of h) hs
theorem dp_tup {a : Addr} {xs : List V} {ds : List PyData} (h : H a = some (.tup xs)) (hs : DpAll K H xs ds) : Dp K H (.ref a) (.tuple ds) := .tup (SqT.of h) hs
theorem dp_ints : ∀ ns : List Int, DpAll K H (ns.map V.int) (ns.map PyData.int)
  | [] => .nil
  | n :: ns => .cons (.int n) (dp_ints ns)
end
/-! ### fields by places -/
theorem look_ix : ∀ {fs : List (Str × V)} {f : Str} {i : Nat} {v : V}, (fs.map (·.1)).idxOf? f = some i → (fs[i]?).map (·.2) = some v → fs.lookup f = some v
  | [], f, i, v, h, _ => by simp at h
  | (g, u) :: r, f, i, v, h, e => by
    rw [List.map_cons, List.idxOf?_cons] at h
    rw [List.lookup_cons]
    by_cases q : g = f
    · subst q
      simp at h
      subst h
      simpa using e
    · have n1 : (g == f) = false := by simpa using q
      have n2 : (f == g) = false := by simpa using Ne.symm q
      rw [n1] at h
      rw [n2]
      simp only [Bool.false_eq_true, if_false, Option.map_eq_some_iff] at h
      obtain ⟨j, hj, rfl⟩ := h
      exact look_ix hj (by simpa using e)
theorem nolook_of : ∀ {fs : List (Str × V)} {f : Str}, (fs.map (·.1)).idxOf? f = none → fs.lookup f = none
  | [], f, _ => rfl
  | (g, u) :: r, f, h => by
    rw [List.map_cons, List.idxOf?_cons] at h
    rw [List.lookup_cons]
    by_cases q : g = f
    · subst q
      simp at h
    · have n1 : (g == f) = false := by simpa using q
      have n2 : (f == g) = false := by simpa using Ne.symm q
      rw [n1] at h
      rw [n2]
      simp only [Bool.false_eq_true, if_false, Option.map_eq_none_iff] at h
      exact nolook_of h
theorem put_ix : ∀ {fs : List (Str × V)} {f : Str} {i : Nat} {v : V}, (fs.map (·.1)).idxOf? f = some i → putF f v fs = fs.set i (f, v)
  | [], f, i, v, h => by simp at h
  | (g, u) :: r, f, i, v, h => by
    rw [List.map_cons, List.idxOf?_cons] at h
    by_cases q : g = f
    · subst q
      simp at h
      subst h
      simp [putF]
    · have n1 : (g == f) = false := by simpa using q
      rw [n1] at h
      simp only [Bool.false_eq_true, if_false, Option.map_eq_some_iff] at h
      obtain ⟨j, hj, rfl⟩ := h
      simp [putF, q, put_ix hj]
theorem put_new : ∀ {fs : List (Str × V)} {f : Str} {v : V}, (fs.map (·.1)).idxOf? f = none → putF f v fs = fs ++ [(f, v)]
  | [], f, v, _ => rfl
  | (g, u) :: r, f, v, h => by
    rw [List.map_cons, List.idxOf?_cons] at h
    by_cases q : g = f
    · subst q
      simp at h
    · have n1 : (g == f) = false := by simpa using q
      rw [n1] at h
      simp only [Bool.false_eq_true, if_false, Option.map_eq_none_iff] at h
      simp [putF, q, put_new h]
end SW
namespace SW
open PySem L2
def N_check_sign_count : List Str := ["number", "text"]
def t_check_sign_count (K : PySem.W.Frag) (w : World) (E : XK) : TS := tIfS (tTest (tOp rGtI (tCB (rLenP K) (tCons (tVar 1) (tNil))) (tC (.int 128)))) (tNever) (tNext)
def p_check_sign_count (K : PySem.W.Frag) (w : World) : Sp := SW.pOf N_check_sign_count 2 (t_check_sign_count K w)
theorem i_check_sign_count {K : PySem.W.Frag} {w : World} {H : Hp} {Q : VK} {E : XK} {x0 x1 : V} (h : (tIfS (tTest (tOp rGtI (tCB (rLenP K) (tCons (tVar 1) (tNil))) (tC (.int 128)))) (tNever) (tNext)) { nx := fun _ H' => Q .non H', rt := Q } [some x0, some x1] H) : p_check_sign_count K w [x0, x1] H Q E := ⟨rfl, h⟩
def N_goods_size : List Str := ["goods", "piece"]
def t_goods_size (K : PySem.W.Frag) (w : World) (E : XK) : TS := tRet (tCB (rSum K) (tCons (tLc (iSeq K (tVar 0)) (gName 1) (tYes) (tCB (rLenP K) (tCons (tOp (rIxP K w) (tVar 1) (tC (.int 1))) (tNil))) [1]) (tNil)))
def p_goods_size (K : PySem.W.Frag) (w : World) : Sp := SW.pOf N_goods_size 1 (t_goods_size K w)
theorem i_goods_size {K : PySem.W.Frag} {w : World} {H : Hp} {Q : VK} {E : XK} {x0 : V} (h : (tRet (tCB (rSum K) (tCons (tLc (iSeq K (tVar 0)) (gName 1) (tYes) (tCB (rLenP K) (tCons (tOp (rIxP K w) (tVar 1) (tC (.int 1))) (tNil))) [1]) (tNil)))) { nx := fun _ H' => Q .non H', rt := Q } [some x0, none] H) : p_goods_size K w [x0] H Q E := ⟨rfl, h⟩
def N_piece_of : List Str := ["goods", "kind", "name", "octets"]
def t_piece_of (K : PySem.W.Frag) (w : World) (E : XK) : TS := tSeq (tFor (iSeq K (tVar 0)) (gUnp K 2 (gCons (gName 2) (gCons (gName 3) (gNil)))) (tIfS (tTest (tOp (rEqP K) (tVar 2) (tVar 1))) (tRet (tVar 3)) (tNext))) (tRet (tC .non))
def p_piece_of (K : PySem.W.Frag) (w : World) : Sp := SW.pOf N_piece_of 2 (t_piece_of K w)
theorem i_piece_of {K : PySem.W.Frag} {w : World} {H : Hp} {Q : VK} {E : XK} {x0 x1 : V} (h : (tSeq (tFor (iSeq K (tVar 0)) (gUnp K 2 (gCons (gName 2) (gCons (gName 3) (gNil)))) (tIfS (tTest (tOp (rEqP K) (tVar 2) (tVar 1))) (tRet (tVar 3)) (tNext))) (tRet (tC .non))) { nx := fun _ H' => Q .non H', rt := Q } [some x0, some x1, none, none] H) : p_piece_of K w [x0, x1] H Q E := ⟨rfl, h⟩
def N_copied : List Str := ["goods", "kind", "octets"]
def t_copied (K : PySem.W.Frag) (w : World) (E : XK) : TS := tRet (tLc (iSeq K (tVar 0)) (gUnp K 2 (gCons (gName 1) (gCons (gName 2) (gNil)))) (tYes) (tTup (tCons (tVar 1) (tCons (tCB (rListOf K) (tCons (tVar 2) (tNil))) (tNil)))) [1, 2])
def p_copied (K : PySem.W.Frag) (w : World) : Sp := SW.pOf N_copied 1 (t_copied K w)
theorem i_copied {K : PySem.W.Frag} {w : World} {H : Hp} {Q : VK} {E : XK} {x0 : V} (h : (tRet (tLc (iSeq K (tVar 0)) (gUnp K 2 (gCons (gName 1) (gCons (gName 2) (gNil)))) (tYes) (tTup (tCons (tVar 1) (tCons (tCB (rListOf K) (tCons (tVar 2) (tNil))) (tNil)))) [1, 2])) { nx := fun _ H' => Q .non H', rt := Q } [some x0, none, none] H) : p_copied K w [x0] H Q E := ⟨rfl, h⟩
def N_Source___init__ : List Str := ["self", "number"]
def t_Source___init__ (K : PySem.W.Frag) (w : World) (E : XK) : TS := tSeq (sFld K (tVar 0) (tVar 1) "number") (tSeq (sFld K (tVar 0) (tLst (tNil)) "goods") (sFld K (tVar 0) (tC (.bl false)) "used"))
def p_Source___init__ (K : PySem.W.Frag) (w : World) : Sp := SW.pOf N_Source___init__ 2 (t_Source___init__ K w)
theorem i_Source___init__ {K : PySem.W.Frag} {w : World} {H : Hp} {Q : VK} {E : XK} {x0 x1 : V} (h : (tSeq (sFld K (tVar 0) (tVar 1) "number") (tSeq (sFld K (tVar 0) (tLst (tNil)) "goods") (sFld K (tVar 0) (tC (.bl false)) "used"))) { nx := fun _ H' => Q .non H', rt := Q } [some x0, some x1] H) : p_Source___init__ K w [x0, x1] H Q E := ⟨rfl, h⟩
def N_Source_write : List Str := ["self", "kind", "octets", "at", "piece"]
def t_Source_write (K : PySem.W.Frag) (w : World) (E : XK) : TS := tSeq (tFor (iEnumP K (tCons (tCB (rListOf K) (tCons (tFld K (tVar 0) "goods") (tNil))) (tNil))) (gUnp K 2 (gCons (gName 3) (gCons (gName 4) (gNil)))) (tIfS (tTest (tOp (rEqP K) (tOp (rIxP K w) (tVar 4) (tC (.int 0))) (tVar 1))) (tSeq (tAsg (tTup (tCons (tVar 1) (tCons (tOp (rAdd K) (tOp (rIxP K w) (tVar 4) (tC (.int 1))) (tVar 2)) (tNil)))) (gSub (tFld K (tVar 0) "goods") (tVar 3) rSetL)) (tRetN)) (tNext))) (tDrop (tBM K "list" rAppend (tFld K (tVar 0) "goods") (tCons (tTup (tCons (tVar 1) (tCons (tCB (rListOf K) (tCons (tVar 2) (tNil))) (tNil)))) (tNil))))
def p_Source_write (K : PySem.W.Frag) (w : World) : Sp := SW.pOf N_Source_write 3 (t_Source_write K w)
theorem i_Source_write {K : PySem.W.Frag} {w : World} {H : Hp} {Q : VK} {E : XK} {x0 x1 x2 : V} (h : (tSeq (tFor (iEnumP K (tCons (tCB (rListOf K) (tCons (tFld K (tVar 0) "goods") (tNil))) (tNil))) (gUnp K 2 (gCons (gName 3) (gCons (gName 4) (gNil)))) (tIfS (tTest (tOp (rEqP K) (tOp (rIxP K w) (tVar 4) (tC (.int 0))) (tVar 1))) (tSeq (tAsg (tTup (tCons (tVar 1) (tCons (tOp (rAdd K) (tOp (rIxP K w) (tVar 4) (tC (.int 1))) (tVar 2)) (tNil)))) (gSub (tFld K (tVar 0) "goods") (tVar 3) rSetL)) (tRetN)) (tNext))) (tDrop (tBM K "list" rAppend (tFld K (tVar 0) "goods") (tCons (tTup (tCons (tVar 1) (tCons (tCB (rListOf K) (tCons (tVar 2) (tNil))) (tNil)))) (tNil))))) { nx := fun _ H' => Q .non H', rt := Q } [some x0, some x1, some x2, none, none] H) : p_Source_write K w [x0, x1, x2] H Q E := ⟨rfl, h⟩
def N_by_number : List Str := ["things", "number", "thing"]
def t_by_number (K : PySem.W.Frag) (w : World) (E : XK) : TS := tSeq (tFor (iSeq K (tVar 0)) (gName 2) (tIfS (tTest (tOp (rEqP K) (tFld K (tVar 2) "number") (tVar 1))) (tRet (tVar 2)) (tNext))) (tRet (tC .non))
def p_by_number (K : PySem.W.Frag) (w : World) : Sp := SW.pOf N_by_number 2 (t_by_number K w)
theorem i_by_number {K : PySem.W.Frag} {w : World} {H : Hp} {Q : VK} {E : XK} {x0 x1 : V} (h : (tSeq (tFor (iSeq K (tVar 0)) (gName 2) (tIfS (tTest (tOp (rEqP K) (tFld K (tVar 2) "number") (tVar 1))) (tRet (tVar 2)) (tNext))) (tRet (tC .non))) { nx := fun _ H' => Q .non H', rt := Q } [some x0, some x1, none] H) : p_by_number K w [x0, x1] H Q E := ⟨rfl, h⟩
def N_Holdings___init__ : List Str := ["self"]
def t_Holdings___init__ (K : PySem.W.Frag) (w : World) (E : XK) : TS := tSeq (sFld K (tVar 0) (tLst (tNil)) "panes") (tSeq (sFld K (tVar 0) (tLst (tNil)) "sources") (tSeq (sFld K (tVar 0) (tLst (tNil)) "offers") (tSeq (sFld K (tVar 0) (tLst (tNil)) "captures") (tSeq (sFld K (tVar 0) (tLst (tNil)) "fetches") (tSeq (sFld K (tVar 0) (tLst (tNil)) "watches") (tSeq (sFld K (tVar 0) (tLst (tNil)) "names") (sFld K (tVar 0) (tC (.bl false)) "was_hovered")))))))
def p_Holdings___init__ (K : PySem.W.Frag) (w : World) : Sp := SW.pOf N_Holdings___init__ 1 (t_Holdings___init__ K w)
theorem i_Holdings___init__ {K : PySem.W.Frag} {w : World} {H : Hp} {Q : VK} {E : XK} {x0 : V} (h : (tSeq (sFld K (tVar 0) (tLst (tNil)) "panes") (tSeq (sFld K (tVar 0) (tLst (tNil)) "sources") (tSeq (sFld K (tVar 0) (tLst (tNil)) "offers") (tSeq (sFld K (tVar 0) (tLst (tNil)) "captures") (tSeq (sFld K (tVar 0) (tLst (tNil)) "fetches") (tSeq (sFld K (tVar 0) (tLst (tNil)) "watches") (tSeq (sFld K (tVar 0) (tLst (tNil)) "names") (sFld K (tVar 0) (tC (.bl false)) "was_hovered")))))))) { nx := fun _ H' => Q .non H', rt := Q } [some x0] H) : p_Holdings___init__ K w [x0] H Q E := ⟨rfl, h⟩
def N_Holdings_unused : List Str := ["self", "source"]
def t_Holdings_unused (K : PySem.W.Frag) (w : World) (E : XK) : TS := tRet (tLc (iSeq K (tFld K (tVar 0) "sources")) (gName 1) (tNot (tTru K (tFld K (tVar 1) "used"))) (tVar 1) [1])
def p_Holdings_unused (K : PySem.W.Frag) (w : World) : Sp := SW.pOf N_Holdings_unused 1 (t_Holdings_unused K w)
theorem i_Holdings_unused {K : PySem.W.Frag} {w : World} {H : Hp} {Q : VK} {E : XK} {x0 : V} (h : (tRet (tLc (iSeq K (tFld K (tVar 0) "sources")) (gName 1) (tNot (tTru K (tFld K (tVar 1) "used"))) (tVar 1) [1])) { nx := fun _ H' => Q .non H', rt := Q } [some x0, none] H) : p_Holdings_unused K w [x0] H Q E := ⟨rfl, h⟩
def N_Holdings_write : List Str := ["self", "request", "source", "kind", "octets", "size", "kinds", "one"]
def t_Holdings_write (K : PySem.W.Frag) (w : World) (E : XK) : TS := tSeq (tAsg (tCall (p_by_number K w) [] E0 (tCons (tFld K (tVar 0) "sources") (tCons (tFld K (tVar 1) "number") (tNil)))) (gName 2)) (tSeq (tIfS (tOr (tTest (tOp rIs (tVar 2) (tC .non))) (tTru K (tFld K (tVar 2) "used"))) (tRetN) (tNext)) (tSeq (tAsg (tFld K (tVar 1) "arguments") (gUnp K 2 (gCons (gName 3) (gCons (gName 4) (gNil))))) (tSeq (tDrop (tCall (p_check_sign_count K w) [] E0 (tCons (tFld K (tVar 1) "number") (tCons (tVar 3) (tNil))))) (tSeq (tAsg (tOp (rAdd K) (tCB (rSum K) (tCons (tLc (iSeq K (tMeth (He.ga K "Holdings") "unused" (p_Holdings_unused K w) [] E0 (tVar 0) (tNil))) (gName 7) (tYes) (tCall (p_goods_size K w) [] E0 (tCons (tFld K (tVar 7) "goods") (tNil))) [7]) (tNil))) (tCB (rLenP K) (tCons (tVar 4) (tNil)))) (gName 5)) (tSeq (tAsg (tOp (rAdd K) (tCB (rLenP K) (tCons (tFld K (tVar 2) "goods") (tNil))) (tCB rInt (tCons (tOp rIs (tCall (p_piece_of K w) [] E0 (tCons (tFld K (tVar 2) "goods") (tCons (tVar 3) (tNil)))) (tC .non)) (tNil)))) (gName 6)) (tSeq (tIfS (tOr (tTest (tOp rGtI (tVar 5) (tC (.int 32768)))) (tTest (tOp rGtI (tVar 6) (tC (.int 16))))) (tNever) (tNext)) (tDrop (tMeth (He.ga K "Source") "write" (p_Source_write K w) [] E0 (tVar 2) (tCons (tVar 3) (tCons (tVar 4) (tNil)))))))))))
def p_Holdings_write (K : PySem.W.Frag) (w : World) : Sp := SW.pOf N_Holdings_write 2 (t_Holdings_write K w)
theorem i_Holdings_write {K : PySem.W.Frag} {w : World} {H : Hp} {Q : VK} {E : XK} {x0 x1 : V} (h : (tSeq (tAsg (tCall (p_by_number K w) [] E0 (tCons (tFld K (tVar 0) "sources") (tCons (tFld K (tVar 1) "number") (tNil)))) (gName 2)) (tSeq (tIfS (tOr (tTest (tOp rIs (tVar 2) (tC .non))) (tTru K (tFld K (tVar 2) "used"))) (tRetN) (tNext)) (tSeq (tAsg (tFld K (tVar 1) "arguments") (gUnp K 2 (gCons (gName 3) (gCons (gName 4) (gNil))))) (tSeq (tDrop (tCall (p_check_sign_count K w) [] E0 (tCons (tFld K (tVar 1) "number") (tCons (tVar 3) (tNil))))) (tSeq (tAsg (tOp (rAdd K) (tCB (rSum K) (tCons (tLc (iSeq K (tMeth (He.ga K "Holdings") "unused" (p_Holdings_unused K w) [] E0 (tVar 0) (tNil))) (gName 7) (tYes) (tCall (p_goods_size K w) [] E0 (tCons (tFld K (tVar 7) "goods") (tNil))) [7]) (tNil))) (tCB (rLenP K) (tCons (tVar 4) (tNil)))) (gName 5)) (tSeq (tAsg (tOp (rAdd K) (tCB (rLenP K) (tCons (tFld K (tVar 2) "goods") (tNil))) (tCB rInt (tCons (tOp rIs (tCall (p_piece_of K w) [] E0 (tCons (tFld K (tVar 2) "goods") (tCons (tVar 3) (tNil)))) (tC .non)) (tNil)))) (gName 6)) (tSeq (tIfS (tOr (tTest (tOp rGtI (tVar 5) (tC (.int 32768)))) (tTest (tOp rGtI (tVar 6) (tC (.int 16))))) (tNever) (tNext)) (tDrop (tMeth (He.ga K "Source") "write" (p_Source_write K w) [] E0 (tVar 2) (tCons (tVar 3) (tCons (tVar 4) (tNil)))))))))))) { nx := fun _ H' => Q .non H', rt := Q } [some x0, some x1, none, none, none, none, none, none] H) : p_Holdings_write K w [x0, x1] H Q E := ⟨rfl, h⟩
def N_Reply_wish : List Str := ["self", "deed"]
def t_Reply_wish (K : PySem.W.Frag) (w : World) (E : XK) : TS := tDrop (tBM K "list" rAppend (tFld K (tVar 0) "wishes") (tCons (tVar 1) (tNil)))
def p_Reply_wish (K : PySem.W.Frag) (w : World) : Sp := SW.pOf N_Reply_wish 2 (t_Reply_wish K w)
theorem i_Reply_wish {K : PySem.W.Frag} {w : World} {H : Hp} {Q : VK} {E : XK} {x0 x1 : V} (h : (tDrop (tBM K "list" rAppend (tFld K (tVar 0) "wishes") (tCons (tVar 1) (tNil)))) { nx := fun _ H' => Q .non H', rt := Q } [some x0, some x1] H) : p_Reply_wish K w [x0, x1] H Q E := ⟨rfl, h⟩
def N_Holdings_give : List Str := ["self", "values", "grant", "deed", "reply", "source"]
def t_Holdings_give (K : PySem.W.Frag) (w : World) (E : XK) : TS := tSeq (tAsg (tCall (p_by_number K w) [] E0 (tCons (tFld K (tVar 0) "sources") (tCons (tOp (rIxP K w) (tVar 1) (tC (.int 0))) (tNil)))) (gName 5)) (tSeq (tIfS (tOr (tTest (tOp rIs (tVar 5) (tC .non))) (tOr (tTru K (tFld K (tVar 5) "used")) (tOr (tTest (tOp rIs (tVar 2) (tC .non))) (tTest (tOp (rNeP K) (tVar 2) (tOp (rIxP K w) (tVar 1) (tC (.int 1)))))))) (tRetN) (tNext)) (tSeq (sFld K (tVar 5) (tC (.bl true)) "used") (tSeq (tDrop (tMeth (He.ga K "Reply") "wish" (p_Reply_wish K w) [] E0 (tVar 4) (tCons (tTup (tCons (tC (.str "spend")) (tNil))) (tNil)))) (tIfS (tTest (tOp (rEqP K) (tOp (rIxP K w) (tVar 3) (tC (.int 0))) (tC (.str "give")))) (tDrop (tMeth (He.ga K "Reply") "wish" (p_Reply_wish K w) [] E0 (tVar 4) (tCons (tTup (tCons (tC (.str "give")) (tCons (tCall (p_copied K w) [] E0 (tCons (tFld K (tVar 5) "goods") (tNil))) (tCons (tOp (rIxP K w) (tVar 3) (tC (.int 1))) (tNil))))) (tNil)))) (tDrop (tMeth (He.ga K "Reply") "wish" (p_Reply_wish K w) [] E0 (tVar 4) (tCons (tTup (tCons (tC (.str "drag")) (tCons (tCall (p_copied K w) [] E0 (tCons (tFld K (tVar 5) "goods") (tNil))) (tNil)))) (tNil))))))))
def p_Holdings_give (K : PySem.W.Frag) (w : World) : Sp := SW.pOf N_Holdings_give 5 (t_Holdings_give K w)
theorem i_Holdings_give {K : PySem.W.Frag} {w : World} {H : Hp} {Q : VK} {E : XK} {x0 x1 x2 x3 x4 : V} (h : (tSeq (tAsg (tCall (p_by_number K w) [] E0 (tCons (tFld K (tVar 0) "sources") (tCons (tOp (rIxP K w) (tVar 1) (tC (.int 0))) (tNil)))) (gName 5)) (tSeq (tIfS (tOr (tTest (tOp rIs (tVar 5) (tC .non))) (tOr (tTru K (tFld K (tVar 5) "used")) (tOr (tTest (tOp rIs (tVar 2) (tC .non))) (tTest (tOp (rNeP K) (tVar 2) (tOp (rIxP K w) (tVar 1) (tC (.int 1)))))))) (tRetN) (tNext)) (tSeq (sFld K (tVar 5) (tC (.bl true)) "used") (tSeq (tDrop (tMeth (He.ga K "Reply") "wish" (p_Reply_wish K w) [] E0 (tVar 4) (tCons (tTup (tCons (tC (.str "spend")) (tNil))) (tNil)))) (tIfS (tTest (tOp (rEqP K) (tOp (rIxP K w) (tVar 3) (tC (.int 0))) (tC (.str "give")))) (tDrop (tMeth (He.ga K "Reply") "wish" (p_Reply_wish K w) [] E0 (tVar 4) (tCons (tTup (tCons (tC (.str "give")) (tCons (tCall (p_copied K w) [] E0 (tCons (tFld K (tVar 5) "goods") (tNil))) (tCons (tOp (rIxP K w) (tVar 3) (tC (.int 1))) (tNil))))) (tNil)))) (tDrop (tMeth (He.ga K "Reply") "wish" (p_Reply_wish K w) [] E0 (tVar 4) (tCons (tTup (tCons (tC (.str "drag")) (tCons (tCall (p_copied K w) [] E0 (tCons (tFld K (tVar 5) "goods") (tNil))) (tNil)))) (tNil))))))))) { nx := fun _ H' => Q .non H', rt := Q } [some x0, some x1, some x2, some x3, some x4, none] H) : p_Holdings_give K w [x0, x1, x2, x3, x4] H Q E := ⟨rfl, h⟩
def N_Holdings_serve_transfer : List Str := ["self", "request", "grant", "may_drag", "reply", "values", "name"]
def t_Holdings_serve_transfer (K : PySem.W.Frag) (w : World) (E : XK) : TS := tSeq (tAsg (tFld K (tVar 1) "arguments") (gName 5)) (tIfS (tTest (tOp (rEqP K) (tFld K (tVar 1) "name") (tC (.str "source")))) (tSeq (tIfS (tTest (tOp rGeI (tCB (rLenP K) (tCons (tMeth (He.ga K "Holdings") "unused" (p_Holdings_unused K w) [] E0 (tVar 0) (tNil)) (tNil))) (tC (.int 8)))) (tNever) (tNext)) (tDrop (tBM K "list" rAppend (tFld K (tVar 0) "sources") (tCons (tMake (He.ga K "Source") (p_Source___init__ K w) [] E0 (tCons (tOp (rIxP K w) (tVar 5) (tC (.int 0))) (tNil))) (tNil))))) (tIfS (tTest (tOp (rEqP K) (tFld K (tVar 1) "name") (tC (.str "give")))) (tDrop (tMeth (He.ga K "Holdings") "give" (p_Holdings_give K w) [] E0 (tVar 0) (tCons (tVar 5) (tCons (tVar 2) (tCons (tTup (tCons (tC (.str "give")) (tCons (tOp (rNeP K) (tOp (rIxP K w) (tVar 5) (tC (.int 2))) (tC (.int 0))) (tNil)))) (tCons (tVar 4) (tNil))))))) (tIfS (tTest (tOp (rEqP K) (tFld K (tVar 1) "name") (tC (.str "drag")))) (tIfS (tTru K (tVar 3)) (tDrop (tMeth (He.ga K "Holdings") "give" (p_Holdings_give K w) [] E0 (tVar 0) (tCons (tVar 5) (tCons (tVar 2) (tCons (tTup (tCons (tC (.str "drag")) (tNil))) (tCons (tVar 4) (tNil))))))) (tNext)) (tIfS (tTest (tOp (rEqP K) (tFld K (tVar 1) "name") (tC (.str "send")))) (tNever) (tIfS (tTest (tOp (rEqP K) (tFld K (tVar 1) "name") (tC (.str "unsend")))) (tSeq (sFld K (tVar 0) (tLc (iSeq K (tFld K (tVar 0) "names")) (gName 6) (tTest (tOp (rNeP K) (tVar 6) (tOp (rIxP K w) (tVar 5) (tC (.int 0))))) (tVar 6) [6]) "names") (tDrop (tMeth (He.ga K "Reply") "wish" (p_Reply_wish K w) [] E0 (tVar 4) (tCons (tTup (tCons (tC (.str "unsend")) (tCons (tOp (rIxP K w) (tVar 5) (tC (.int 0))) (tNil)))) (tNil))))) (tIfS (tTest (tOp (rEqP K) (tFld K (tVar 1) "name") (tC (.str "ask")))) (tNever) (tIfS (tTest (tOp (rEqP K) (tFld K (tVar 1) "name") (tC (.str "fetch")))) (tSeq (tDrop (tCall (p_check_sign_count K w) [] E0 (tCons (tFld K (tVar 1) "number") (tCons (tOp (rIxP K w) (tVar 5) (tC (.int 1))) (tNil))))) (tSeq (tIfS (tTest (tOp rGeI (tCB (rLenP K) (tCons (tFld K (tVar 0) "fetches") (tNil))) (tC (.int 4)))) (tNever) (tNext)) (tNever))) (tIfS (tTest (tOp (rEqP K) (tFld K (tVar 1) "name") (tC (.str "watch")))) (tSeq (tDrop (tCall (p_check_sign_count K w) [] E0 (tCons (tFld K (tVar 1) "number") (tCons (tOp (rIxP K w) (tVar 5) (tC (.int 1))) (tNil))))) (tSeq (tIfS (tTest (tOp rGeI (tCB (rLenP K) (tCons (tFld K (tVar 0) "watches") (tNil))) (tC (.int 8)))) (tNever) (tNext)) (tNever))) (tNext)))))))))
def p_Holdings_serve_transfer (K : PySem.W.Frag) (w : World) : Sp := SW.pOf N_Holdings_serve_transfer 5 (t_Holdings_serve_transfer K w)
theorem i_Holdings_serve_transfer {K : PySem.W.Frag} {w : World} {H : Hp} {Q : VK} {E : XK} {x0 x1 x2 x3 x4 : V} (h : (tSeq (tAsg (tFld K (tVar 1) "arguments") (gName 5)) (tIfS (tTest (tOp (rEqP K) (tFld K (tVar 1) "name") (tC (.str "source")))) (tSeq (tIfS (tTest (tOp rGeI (tCB (rLenP K) (tCons (tMeth (He.ga K "Holdings") "unused" (p_Holdings_unused K w) [] E0 (tVar 0) (tNil)) (tNil))) (tC (.int 8)))) (tNever) (tNext)) (tDrop (tBM K "list" rAppend (tFld K (tVar 0) "sources") (tCons (tMake (He.ga K "Source") (p_Source___init__ K w) [] E0 (tCons (tOp (rIxP K w) (tVar 5) (tC (.int 0))) (tNil))) (tNil))))) (tIfS (tTest (tOp (rEqP K) (tFld K (tVar 1) "name") (tC (.str "give")))) (tDrop (tMeth (He.ga K "Holdings") "give" (p_Holdings_give K w) [] E0 (tVar 0) (tCons (tVar 5) (tCons (tVar 2) (tCons (tTup (tCons (tC (.str "give")) (tCons (tOp (rNeP K) (tOp (rIxP K w) (tVar 5) (tC (.int 2))) (tC (.int 0))) (tNil)))) (tCons (tVar 4) (tNil))))))) (tIfS (tTest (tOp (rEqP K) (tFld K (tVar 1) "name") (tC (.str "drag")))) (tIfS (tTru K (tVar 3)) (tDrop (tMeth (He.ga K "Holdings") "give" (p_Holdings_give K w) [] E0 (tVar 0) (tCons (tVar 5) (tCons (tVar 2) (tCons (tTup (tCons (tC (.str "drag")) (tNil))) (tCons (tVar 4) (tNil))))))) (tNext)) (tIfS (tTest (tOp (rEqP K) (tFld K (tVar 1) "name") (tC (.str "send")))) (tNever) (tIfS (tTest (tOp (rEqP K) (tFld K (tVar 1) "name") (tC (.str "unsend")))) (tSeq (sFld K (tVar 0) (tLc (iSeq K (tFld K (tVar 0) "names")) (gName 6) (tTest (tOp (rNeP K) (tVar 6) (tOp (rIxP K w) (tVar 5) (tC (.int 0))))) (tVar 6) [6]) "names") (tDrop (tMeth (He.ga K "Reply") "wish" (p_Reply_wish K w) [] E0 (tVar 4) (tCons (tTup (tCons (tC (.str "unsend")) (tCons (tOp (rIxP K w) (tVar 5) (tC (.int 0))) (tNil)))) (tNil))))) (tIfS (tTest (tOp (rEqP K) (tFld K (tVar 1) "name") (tC (.str "ask")))) (tNever) (tIfS (tTest (tOp (rEqP K) (tFld K (tVar 1) "name") (tC (.str "fetch")))) (tSeq (tDrop (tCall (p_check_sign_count K w) [] E0 (tCons (tFld K (tVar 1) "number") (tCons (tOp (rIxP K w) (tVar 5) (tC (.int 1))) (tNil))))) (tSeq (tIfS (tTest (tOp rGeI (tCB (rLenP K) (tCons (tFld K (tVar 0) "fetches") (tNil))) (tC (.int 4)))) (tNever) (tNext)) (tNever))) (tIfS (tTest (tOp (rEqP K) (tFld K (tVar 1) "name") (tC (.str "watch")))) (tSeq (tDrop (tCall (p_check_sign_count K w) [] E0 (tCons (tFld K (tVar 1) "number") (tCons (tOp (rIxP K w) (tVar 5) (tC (.int 1))) (tNil))))) (tSeq (tIfS (tTest (tOp rGeI (tCB (rLenP K) (tCons (tFld K (tVar 0) "watches") (tNil))) (tC (.int 8)))) (tNever) (tNext)) (tNever))) (tNext)))))))))) { nx := fun _ H' => Q .non H', rt := Q } [some x0, some x1, some x2, some x3, some x4, none, none] H) : p_Holdings_serve_transfer K w [x0, x1, x2, x3, x4] H Q E := ⟨rfl, h⟩
def N_Holdings_serve : List Str := ["self", "request", "grant", "gripped", "dragging", "reply"]
def t_Holdings_serve (K : PySem.W.Frag) (w : World) (E : XK) : TS := tIfS (tTest (tOp (rEqP K) (tFld K (tVar 1) "interface") (tC (.str "transfer")))) (tDrop (tMeth (He.ga K "Holdings") "serve_transfer" (p_Holdings_serve_transfer K w) [] E0 (tVar 0) (tCons (tVar 1) (tCons (tVar 2) (tCons (tAndV (tVar 3) (tNotV (tVar 4))) (tCons (tVar 5) (tNil))))))) (tIfS (tTest (tOp (rEqP K) (tFld K (tVar 1) "name") (tC (.str "destroy")))) (tRetN) (tIfS (tTest (tOp (rEqP K) (tFld K (tVar 1) "interface") (tC (.str "source")))) (tDrop (tMeth (He.ga K "Holdings") "write" (p_Holdings_write K w) [] E0 (tVar 0) (tCons (tVar 1) (tNil)))) (tNever)))
def p_Holdings_serve (K : PySem.W.Frag) (w : World) : Sp := SW.pOf N_Holdings_serve 6 (t_Holdings_serve K w)
theorem i_Holdings_serve {K : PySem.W.Frag} {w : World} {H : Hp} {Q : VK} {E : XK} {x0 x1 x2 x3 x4 x5 : V} (h : (tIfS (tTest (tOp (rEqP K) (tFld K (tVar 1) "interface") (tC (.str "transfer")))) (tDrop (tMeth (He.ga K "Holdings") "serve_transfer" (p_Holdings_serve_transfer K w) [] E0 (tVar 0) (tCons (tVar 1) (tCons (tVar 2) (tCons (tAndV (tVar 3) (tNotV (tVar 4))) (tCons (tVar 5) (tNil))))))) (tIfS (tTest (tOp (rEqP K) (tFld K (tVar 1) "name") (tC (.str "destroy")))) (tRetN) (tIfS (tTest (tOp (rEqP K) (tFld K (tVar 1) "interface") (tC (.str "source")))) (tDrop (tMeth (He.ga K "Holdings") "write" (p_Holdings_write K w) [] E0 (tVar 0) (tCons (tVar 1) (tNil)))) (tNever)))) { nx := fun _ H' => Q .non H', rt := Q } [some x0, some x1, some x2, some x3, some x4, some x5] H) : p_Holdings_serve K w [x0, x1, x2, x3, x4, x5] H Q E := ⟨rfl, h⟩
def N_Reply___init__ : List Str := ["self"]
def t_Reply___init__ (K : PySem.W.Frag) (w : World) (E : XK) : TS := tSeq (sFld K (tVar 0) (tLst (tNil)) "told") (tSeq (sFld K (tVar 0) (tLst (tNil)) "ended") (tSeq (sFld K (tVar 0) (tLst (tNil)) "wishes") (sFld K (tVar 0) (tLst (tNil)) "applied")))
def p_Reply___init__ (K : PySem.W.Frag) (w : World) : Sp := SW.pOf N_Reply___init__ 1 (t_Reply___init__ K w)
theorem i_Reply___init__ {K : PySem.W.Frag} {w : World} {H : Hp} {Q : VK} {E : XK} {x0 : V} (h : (tSeq (sFld K (tVar 0) (tLst (tNil)) "told") (tSeq (sFld K (tVar 0) (tLst (tNil)) "ended") (tSeq (sFld K (tVar 0) (tLst (tNil)) "wishes") (sFld K (tVar 0) (tLst (tNil)) "applied")))) { nx := fun _ H' => Q .non H', rt := Q } [some x0] H) : p_Reply___init__ K w [x0] H Q E := ⟨rfl, h⟩
def N_Request___init__ : List Str := ["self", "number", "interface", "name", "arguments", "ends"]
def t_Request___init__ (K : PySem.W.Frag) (w : World) (E : XK) : TS := tSeq (sFld K (tVar 0) (tVar 1) "number") (tSeq (sFld K (tVar 0) (tVar 2) "interface") (tSeq (sFld K (tVar 0) (tVar 3) "name") (tSeq (sFld K (tVar 0) (tVar 4) "arguments") (sFld K (tVar 0) (tVar 5) "ends"))))
def p_Request___init__ (K : PySem.W.Frag) (w : World) : Sp := SW.pOf N_Request___init__ 6 (t_Request___init__ K w)
theorem i_Request___init__ {K : PySem.W.Frag} {w : World} {H : Hp} {Q : VK} {E : XK} {x0 x1 x2 x3 x4 x5 : V} (h : (tSeq (sFld K (tVar 0) (tVar 1) "number") (tSeq (sFld K (tVar 0) (tVar 2) "interface") (tSeq (sFld K (tVar 0) (tVar 3) "name") (tSeq (sFld K (tVar 0) (tVar 4) "arguments") (sFld K (tVar 0) (tVar 5) "ends"))))) { nx := fun _ H' => Q .non H', rt := Q } [some x0, some x1, some x2, some x3, some x4, some x5] H) : p_Request___init__ K w [x0, x1, x2, x3, x4, x5] H Q E := ⟨rfl, h⟩
def N__law_cell : List Str := ["script", "k", "cell"]
def t__law_cell (K : PySem.W.Frag) (w : World) (E : XK) : TS := tSeq (tAsg (tC (.int 0)) (gName 2)) (tSeq (tIfS (tTest (tOp rGtI (tCB (rLenP K) (tCons (tVar 0) (tNil))) (tC (.int 0)))) (tAsg (tOp (rIxP K w) (tVar 0) (tOp rMod (tCB rInt (tCons (tVar 1) (tNil))) (tCB (rLenP K) (tCons (tVar 0) (tNil))))) (gName 2)) (tNext)) (tSeq (tIfS (tTest (tOp rLtI (tVar 2) (tC (.int 0)))) (tAsg (tOp rSub (tC (.int 1)) (tOp rMul (tC (.int 2)) (tVar 2))) (gName 2)) (tNext)) (tRet (tVar 2))))
def p__law_cell (K : PySem.W.Frag) (w : World) : Sp := SW.pOf N__law_cell 2 (t__law_cell K w)
theorem i__law_cell {K : PySem.W.Frag} {w : World} {H : Hp} {Q : VK} {E : XK} {x0 x1 : V} (h : (tSeq (tAsg (tC (.int 0)) (gName 2)) (tSeq (tIfS (tTest (tOp rGtI (tCB (rLenP K) (tCons (tVar 0) (tNil))) (tC (.int 0)))) (tAsg (tOp (rIxP K w) (tVar 0) (tOp rMod (tCB rInt (tCons (tVar 1) (tNil))) (tCB (rLenP K) (tCons (tVar 0) (tNil))))) (gName 2)) (tNext)) (tSeq (tIfS (tTest (tOp rLtI (tVar 2) (tC (.int 0)))) (tAsg (tOp rSub (tC (.int 1)) (tOp rMul (tC (.int 2)) (tVar 2))) (gName 2)) (tNext)) (tRet (tVar 2))))) { nx := fun _ H' => Q .non H', rt := Q } [some x0, some x1, none] H) : p__law_cell K w [x0, x1] H Q E := ⟨rfl, h⟩
def N__law_row : List Str := ["script", "k", "cell", "one", "two"]
def t__law_row (K : PySem.W.Frag) (w : World) (E : XK) : TS := tSeq (tAsg (tCall (p__law_cell K w) [] E0 (tCons (tVar 0) (tCons (tVar 1) (tNil)))) (gName 2)) (tSeq (tIfS (tAnd (tTest (tOp rLtI (tVar 1) (tCB (rLenP K) (tCons (tVar 0) (tNil))))) (tTest (tOp rGeI (tVar 2) (tC (.int 1000000000))))) (tRet (tVar 2)) (tNext)) (tSeq (tAsg (tOp rMod (tCB rInt (tCons (tOp (rAdd K) (tOp (rAdd K) (tOp rMul (tVar 2) (tC (.int 48271))) (tOp rMul (tVar 1) (tC (.int 69621)))) (tC (.int 12345))) (tNil))) (tC (.int 2147483647))) (gName 3)) (tSeq (tAsg (tOp rMod (tCB rInt (tCons (tOp (rAdd K) (tOp (rAdd K) (tOp rMul (tVar 3) (tVar 3)) (tOp rMul (tC (.int 16807)) (tVar 1))) (tC (.int 7))) (tNil))) (tC (.int 2147483629))) (gName 4)) (tRet (tOp (rAdd K) (tOp rMod (tCB rInt (tCons (tOp (rAdd K) (tOp rMul (tVar 4) (tVar 4)) (tVar 3)) (tNil))) (tC (.int 4294967291))) (tOp rMul (tC (.int 4294967296)) (tOp (rAdd K) (tVar 3) (tC (.int 1)))))))))
def p__law_row (K : PySem.W.Frag) (w : World) : Sp := SW.pOf N__law_row 2 (t__law_row K w)
theorem i__law_row {K : PySem.W.Frag} {w : World} {H : Hp} {Q : VK} {E : XK} {x0 x1 : V} (h : (tSeq (tAsg (tCall (p__law_cell K w) [] E0 (tCons (tVar 0) (tCons (tVar 1) (tNil)))) (gName 2)) (tSeq (tIfS (tAnd (tTest (tOp rLtI (tVar 1) (tCB (rLenP K) (tCons (tVar 0) (tNil))))) (tTest (tOp rGeI (tVar 2) (tC (.int 1000000000))))) (tRet (tVar 2)) (tNext)) (tSeq (tAsg (tOp rMod (tCB rInt (tCons (tOp (rAdd K) (tOp (rAdd K) (tOp rMul (tVar 2) (tC (.int 48271))) (tOp rMul (tVar 1) (tC (.int 69621)))) (tC (.int 12345))) (tNil))) (tC (.int 2147483647))) (gName 3)) (tSeq (tAsg (tOp rMod (tCB rInt (tCons (tOp (rAdd K) (tOp (rAdd K) (tOp rMul (tVar 3) (tVar 3)) (tOp rMul (tC (.int 16807)) (tVar 1))) (tC (.int 7))) (tNil))) (tC (.int 2147483629))) (gName 4)) (tRet (tOp (rAdd K) (tOp rMod (tCB rInt (tCons (tOp (rAdd K) (tOp rMul (tVar 4) (tVar 4)) (tVar 3)) (tNil))) (tC (.int 4294967291))) (tOp rMul (tC (.int 4294967296)) (tOp (rAdd K) (tVar 3) (tC (.int 1)))))))))) { nx := fun _ H' => Q .non H', rt := Q } [some x0, some x1, none, none, none] H) : p__law_row K w [x0, x1] H Q E := ⟨rfl, h⟩
def N__law_serve : List Str := ["holdings", "row", "grant", "gripped", "dragging", "reply", "request", "e"]
def t__law_serve (K : PySem.W.Frag) (w : World) (E : XK) : TS := tSeq (tAsg (tMake (He.ga K "Reply") (p_Reply___init__ K w) [] E0 (tNil)) (gName 5)) (tSeq (tAsg (tMake (He.ga K "Request") (p_Request___init__ K w) [] E0 (tCons (tOp (rIxP K w) (tVar 1) (tC (.int 0))) (tCons (tOp (rIxP K w) (tVar 1) (tC (.int 1))) (tCons (tOp (rIxP K w) (tVar 1) (tC (.int 2))) (tCons (tOp (rIxP K w) (tVar 1) (tC (.int 3))) (tCons (tOp (rEqP K) (tOp (rIxP K w) (tVar 1) (tC (.int 2))) (tC (.str "destroy"))) (tNil))))))) (gName 6)) (tSeq (tDrop (tMeth (He.ga K "Holdings") "serve" (p_Holdings_serve K w) [] E0 (tVar 0) (tCons (tVar 6) (tCons (tVar 2) (tCons (tVar 3) (tCons (tVar 4) (tCons (tVar 5) (tNil)))))))) (tRet (tTup (tCons (tVar 5) (tCons (tC .non) (tNil)))))))
def p__law_serve (K : PySem.W.Frag) (w : World) : Sp := SW.pOf N__law_serve 5 (t__law_serve K w)
theorem i__law_serve {K : PySem.W.Frag} {w : World} {H : Hp} {Q : VK} {E : XK} {x0 x1 x2 x3 x4 : V} (h : (tSeq (tAsg (tMake (He.ga K "Reply") (p_Reply___init__ K w) [] E0 (tNil)) (gName 5)) (tSeq (tAsg (tMake (He.ga K "Request") (p_Request___init__ K w) [] E0 (tCons (tOp (rIxP K w) (tVar 1) (tC (.int 0))) (tCons (tOp (rIxP K w) (tVar 1) (tC (.int 1))) (tCons (tOp (rIxP K w) (tVar 1) (tC (.int 2))) (tCons (tOp (rIxP K w) (tVar 1) (tC (.int 3))) (tCons (tOp (rEqP K) (tOp (rIxP K w) (tVar 1) (tC (.int 2))) (tC (.str "destroy"))) (tNil))))))) (gName 6)) (tSeq (tDrop (tMeth (He.ga K "Holdings") "serve" (p_Holdings_serve K w) [] E0 (tVar 0) (tCons (tVar 6) (tCons (tVar 2) (tCons (tVar 3) (tCons (tVar 4) (tCons (tVar 5) (tNil)))))))) (tRet (tTup (tCons (tVar 5) (tCons (tC .non) (tNil)))))))) { nx := fun _ H' => Q .non H', rt := Q } [some x0, some x1, some x2, some x3, some x4, none, none, none] H) : p__law_serve K w [x0, x1, x2, x3, x4] H Q E := ⟨rfl, h⟩
def N__law_fill : List Str := ["holdings", "script", "goods", "number", "row", "pieces", "k", "kind", "octets", "j"]
def t__law_fill (K : PySem.W.Frag) (w : World) (E : XK) : TS := tSeq (tAsg (tLst (tNil)) (gName 2)) (tSeq (tFor (iRng2 (tCons (tC (.int 20)) (tCons (tC (.int 23)) (tNil)))) (gName 3) (tSeq (tAsg (tCall (p__law_row K w) [] E0 (tCons (tVar 1) (tCons (tOp (rAdd K) (tC (.int 40)) (tVar 3)) (tNil)))) (gName 4)) (tSeq (tDrop (tCall (p__law_serve K w) [] E0 (tCons (tVar 0) (tCons (tTup (tCons (tC (.int 3)) (tCons (tC (.str "transfer")) (tCons (tC (.str "source")) (tCons (tLst (tCons (tVar 3) (tNil))) (tNil)))))) (tCons (tC .non) (tCons (tC (.bl false)) (tCons (tC (.bl false)) (tNil)))))))) (tSeq (tAsg (tLst (tNil)) (gName 5)) (tSeq (tFor (iRng1 (tCons (tOp rMod (tCB rInt (tCons (tVar 4) (tNil))) (tC (.int 4))) (tNil))) (gName 6) (tSeq (tAsg (tOp (rAdd K) (tC (.str "k")) (tCB rStrI (tCons (tVar 6) (tNil)))) (gName 7)) (tSeq (tAsg (tLc (iRng1 (tCons (tOp rMod (tCB rInt (tCons (tOp rDiv (tVar 4) (tOp (rAdd K) (tC (.int 9)) (tVar 6))) (tNil))) (tC (.int 5))) (tNil))) (gName 9) (tYes) (tOp rMod (tCB rInt (tCons (tOp rDiv (tVar 4) (tOp (rAdd K) (tOp (rAdd K) (tC (.int 4)) (tVar 6)) (tVar 9))) (tNil))) (tC (.int 256))) [9]) (gName 8)) (tSeq (tDrop (tCall (p__law_serve K w) [] E0 (tCons (tVar 0) (tCons (tTup (tCons (tVar 3) (tCons (tC (.str "source")) (tCons (tC (.str "write")) (tCons (tLst (tCons (tVar 7) (tCons (tCB (rListOf K) (tCons (tVar 8) (tNil))) (tNil)))) (tNil)))))) (tCons (tC .non) (tCons (tC (.bl false)) (tCons (tC (.bl false)) (tNil)))))))) (tDrop (tBM K "list" rAppend (tVar 5) (tCons (tTup (tCons (tVar 7) (tCons (tVar 8) (tNil)))) (tNil)))))))) (tDrop (tBM K "list" rAppend (tVar 2) (tCons (tVar 5) (tNil))))))))) (tRet (tVar 2)))
def p__law_fill (K : PySem.W.Frag) (w : World) : Sp := SW.pOf N__law_fill 2 (t__law_fill K w)
theorem i__law_fill {K : PySem.W.Frag} {w : World} {H : Hp} {Q : VK} {E : XK} {x0 x1 : V} (h : (tSeq (tAsg (tLst (tNil)) (gName 2)) (tSeq (tFor (iRng2 (tCons (tC (.int 20)) (tCons (tC (.int 23)) (tNil)))) (gName 3) (tSeq (tAsg (tCall (p__law_row K w) [] E0 (tCons (tVar 1) (tCons (tOp (rAdd K) (tC (.int 40)) (tVar 3)) (tNil)))) (gName 4)) (tSeq (tDrop (tCall (p__law_serve K w) [] E0 (tCons (tVar 0) (tCons (tTup (tCons (tC (.int 3)) (tCons (tC (.str "transfer")) (tCons (tC (.str "source")) (tCons (tLst (tCons (tVar 3) (tNil))) (tNil)))))) (tCons (tC .non) (tCons (tC (.bl false)) (tCons (tC (.bl false)) (tNil)))))))) (tSeq (tAsg (tLst (tNil)) (gName 5)) (tSeq (tFor (iRng1 (tCons (tOp rMod (tCB rInt (tCons (tVar 4) (tNil))) (tC (.int 4))) (tNil))) (gName 6) (tSeq (tAsg (tOp (rAdd K) (tC (.str "k")) (tCB rStrI (tCons (tVar 6) (tNil)))) (gName 7)) (tSeq (tAsg (tLc (iRng1 (tCons (tOp rMod (tCB rInt (tCons (tOp rDiv (tVar 4) (tOp (rAdd K) (tC (.int 9)) (tVar 6))) (tNil))) (tC (.int 5))) (tNil))) (gName 9) (tYes) (tOp rMod (tCB rInt (tCons (tOp rDiv (tVar 4) (tOp (rAdd K) (tOp (rAdd K) (tC (.int 4)) (tVar 6)) (tVar 9))) (tNil))) (tC (.int 256))) [9]) (gName 8)) (tSeq (tDrop (tCall (p__law_serve K w) [] E0 (tCons (tVar 0) (tCons (tTup (tCons (tVar 3) (tCons (tC (.str "source")) (tCons (tC (.str "write")) (tCons (tLst (tCons (tVar 7) (tCons (tCB (rListOf K) (tCons (tVar 8) (tNil))) (tNil)))) (tNil)))))) (tCons (tC .non) (tCons (tC (.bl false)) (tCons (tC (.bl false)) (tNil)))))))) (tDrop (tBM K "list" rAppend (tVar 5) (tCons (tTup (tCons (tVar 7) (tCons (tVar 8) (tNil)))) (tNil)))))))) (tDrop (tBM K "list" rAppend (tVar 2) (tCons (tVar 5) (tNil))))))))) (tRet (tVar 2)))) { nx := fun _ H' => Q .non H', rt := Q } [some x0, some x1, none, none, none, none, none, none, none, none] H) : p__law_fill K w [x0, x1] H Q E := ⟨rfl, h⟩
def N__law_due : List Str := ["deed", "pieces", "primary"]
def t__law_due (K : PySem.W.Frag) (w : World) (E : XK) : TS := tSeq (tIfS (tTest (tOp (rEqP K) (tVar 0) (tC (.str "drag")))) (tRet (tLst (tCons (tTup (tCons (tC (.str "spend")) (tNil))) (tCons (tTup (tCons (tC (.str "drag")) (tCons (tVar 1) (tNil)))) (tNil))))) (tNext)) (tRet (tLst (tCons (tTup (tCons (tC (.str "spend")) (tNil))) (tCons (tTup (tCons (tC (.str "give")) (tCons (tVar 1) (tCons (tOp (rNeP K) (tVar 2) (tC (.int 0))) (tNil))))) (tNil)))))
def p__law_due (K : PySem.W.Frag) (w : World) : Sp := SW.pOf N__law_due 3 (t__law_due K w)
theorem i__law_due {K : PySem.W.Frag} {w : World} {H : Hp} {Q : VK} {E : XK} {x0 x1 x2 : V} (h : (tSeq (tIfS (tTest (tOp (rEqP K) (tVar 0) (tC (.str "drag")))) (tRet (tLst (tCons (tTup (tCons (tC (.str "spend")) (tNil))) (tCons (tTup (tCons (tC (.str "drag")) (tCons (tVar 1) (tNil)))) (tNil))))) (tNext)) (tRet (tLst (tCons (tTup (tCons (tC (.str "spend")) (tNil))) (tCons (tTup (tCons (tC (.str "give")) (tCons (tVar 1) (tCons (tOp (rNeP K) (tVar 2) (tC (.int 0))) (tNil))))) (tNil)))))) { nx := fun _ H' => Q .non H', rt := Q } [some x0, some x1, some x2] H) : p__law_due K w [x0, x1, x2] H Q E := ⟨rfl, h⟩
def N_law : List Str := ["script", "holdings", "goods", "used", "k", "row", "at", "serial", "grant", "primary", "gripped", "dragging", "deed", "arguments", "told", "due"]
def t_law (K : PySem.W.Frag) (w : World) (E : XK) : TS := tSeq (tAsg (tMake (He.ga K "Holdings") (p_Holdings___init__ K w) [] E0 (tNil)) (gName 1)) (tSeq (tAsg (tCall (p__law_fill K w) [] E0 (tCons (tVar 1) (tCons (tVar 0) (tNil)))) (gName 2)) (tSeq (tAsg (tLst (tCons (tC (.bl false)) (tCons (tC (.bl false)) (tCons (tC (.bl false)) (tNil))))) (gName 3)) (tSeq (tFor (iRng1 (tCons (tOp (rAdd K) (tCB rMin2 (tCons (tC (.int 30)) (tCons (tCB (rLenP K) (tCons (tVar 0) (tNil))) (tNil)))) (tC (.int 1))) (tNil))) (gName 4) (tSeq (tAsg (tCall (p__law_row K w) [] E0 (tCons (tVar 0) (tCons (tVar 4) (tNil)))) (gName 5)) (tSeq (tAsg (tOp rMod (tCB rInt (tCons (tVar 5) (tNil))) (tC (.int 3))) (gName 6)) (tSeq (tAsg (tOp (rAdd K) (tOp rMod (tCB rInt (tCons (tOp rDiv (tVar 5) (tC (.int 3))) (tNil))) (tC (.int 3))) (tOp rMod (tCB rInt (tCons (tOp rDiv (tVar 5) (tC (.int 27))) (tNil))) (tC (.int 2)))) (gName 7)) (tSeq (tAsg (tOp (rIxP K w) (tLst (tCons (tC .non) (tCons (tC (.int 1)) (tCons (tC (.int 2)) (tCons (tC (.int 3)) (tNil)))))) (tOp rMod (tCB rInt (tCons (tOp rDiv (tVar 5) (tC (.int 9))) (tNil))) (tC (.int 4)))) (gName 8)) (tSeq (tAsg (tOp rMod (tCB rInt (tCons (tOp rDiv (tVar 5) (tC (.int 36))) (tNil))) (tC (.int 3))) (gName 9)) (tSeq (tAsg (tOp rGtI (tOp rMod (tCB rInt (tCons (tOp rDiv (tVar 5) (tC (.int 108))) (tNil))) (tC (.int 4))) (tC (.int 0))) (gName 10)) (tSeq (tAsg (tOp (rEqP K) (tOp rMod (tCB rInt (tCons (tOp rDiv (tVar 5) (tC (.int 432))) (tNil))) (tC (.int 4))) (tC (.int 0))) (gName 11)) (tSeq (tAsg (tOp (rIxP K w) (tLst (tCons (tC (.str "give")) (tCons (tC (.str "drag")) (tNil)))) (tOp rMod (tCB rInt (tCons (tOp rDiv (tVar 5) (tC (.int 1728))) (tNil))) (tC (.int 2)))) (gName 12)) (tSeq (tAsg (tLst (tCons (tOp (rAdd K) (tC (.int 20)) (tVar 6)) (tCons (tVar 7) (tNil)))) (gName 13)) (tSeq (tIfS (tTest (tOp (rEqP K) (tVar 12) (tC (.str "give")))) (tDrop (tBM K "list" rAppend (tVar 13) (tCons (tVar 9) (tNil)))) (tNext)) (tSeq (tAsg (tCall (p__law_serve K w) [] E0 (tCons (tVar 1) (tCons (tTup (tCons (tC (.int 3)) (tCons (tC (.str "transfer")) (tCons (tVar 12) (tCons (tVar 13) (tNil)))))) (tCons (tVar 8) (tCons (tVar 10) (tCons (tVar 11) (tNil))))))) (gName 14)) (tSeq (tIfS (tOr (tTest (tOp rIsNot (tOp (rIxP K w) (tVar 14) (tC (.int 1))) (tC .non))) (tTest (tOp (rNeP K) (tFld K (tOp (rIxP K w) (tVar 14) (tC (.int 0))) "told") (tLst (tNil))))) (tRet (tC (.bl false))) (tNext)) (tSeq (tAsg (tLst (tNil)) (gName 15)) (tSeq (tIfS (tAnd (tTest (tOp rIsNot (tVar 8) (tC .non))) (tAnd (tTest (tOp (rEqP K) (tVar 8) (tVar 7))) (tAnd (tNot (tTru K (tOp (rIxP K w) (tVar 3) (tVar 6)))) (tOr (tTest (tOp (rEqP K) (tVar 12) (tC (.str "give")))) (tAnd (tTru K (tVar 10)) (tNot (tTru K (tVar 11)))))))) (tSeq (tAsg (tCall (p__law_due K w) [] E0 (tCons (tVar 12) (tCons (tOp (rIxP K w) (tVar 2) (tVar 6)) (tCons (tVar 9) (tNil))))) (gName 15)) (tAsg (tC (.bl true)) (gSub (tVar 3) (tVar 6) rSetL))) (tNext)) (tIfS (tTest (tOp (rNeP K) (tFld K (tOp (rIxP K w) (tVar 14) (tC (.int 0))) "wishes") (tVar 15))) (tRet (tC (.bl false))) (tNext))))))))))))))))) (tRet (tC (.bl true))))))
def p_law (K : PySem.W.Frag) (w : World) : Sp := SW.pOf N_law 1 (t_law K w)
theorem i_law {K : PySem.W.Frag} {w : World} {H : Hp} {Q : VK} {E : XK} {x0 : V} (h : (tSeq (tAsg (tMake (He.ga K "Holdings") (p_Holdings___init__ K w) [] E0 (tNil)) (gName 1)) (tSeq (tAsg (tCall (p__law_fill K w) [] E0 (tCons (tVar 1) (tCons (tVar 0) (tNil)))) (gName 2)) (tSeq (tAsg (tLst (tCons (tC (.bl false)) (tCons (tC (.bl false)) (tCons (tC (.bl false)) (tNil))))) (gName 3)) (tSeq (tFor (iRng1 (tCons (tOp (rAdd K) (tCB rMin2 (tCons (tC (.int 30)) (tCons (tCB (rLenP K) (tCons (tVar 0) (tNil))) (tNil)))) (tC (.int 1))) (tNil))) (gName 4) (tSeq (tAsg (tCall (p__law_row K w) [] E0 (tCons (tVar 0) (tCons (tVar 4) (tNil)))) (gName 5)) (tSeq (tAsg (tOp rMod (tCB rInt (tCons (tVar 5) (tNil))) (tC (.int 3))) (gName 6)) (tSeq (tAsg (tOp (rAdd K) (tOp rMod (tCB rInt (tCons (tOp rDiv (tVar 5) (tC (.int 3))) (tNil))) (tC (.int 3))) (tOp rMod (tCB rInt (tCons (tOp rDiv (tVar 5) (tC (.int 27))) (tNil))) (tC (.int 2)))) (gName 7)) (tSeq (tAsg (tOp (rIxP K w) (tLst (tCons (tC .non) (tCons (tC (.int 1)) (tCons (tC (.int 2)) (tCons (tC (.int 3)) (tNil)))))) (tOp rMod (tCB rInt (tCons (tOp rDiv (tVar 5) (tC (.int 9))) (tNil))) (tC (.int 4)))) (gName 8)) (tSeq (tAsg (tOp rMod (tCB rInt (tCons (tOp rDiv (tVar 5) (tC (.int 36))) (tNil))) (tC (.int 3))) (gName 9)) (tSeq (tAsg (tOp rGtI (tOp rMod (tCB rInt (tCons (tOp rDiv (tVar 5) (tC (.int 108))) (tNil))) (tC (.int 4))) (tC (.int 0))) (gName 10)) (tSeq (tAsg (tOp (rEqP K) (tOp rMod (tCB rInt (tCons (tOp rDiv (tVar 5) (tC (.int 432))) (tNil))) (tC (.int 4))) (tC (.int 0))) (gName 11)) (tSeq (tAsg (tOp (rIxP K w) (tLst (tCons (tC (.str "give")) (tCons (tC (.str "drag")) (tNil)))) (tOp rMod (tCB rInt (tCons (tOp rDiv (tVar 5) (tC (.int 1728))) (tNil))) (tC (.int 2)))) (gName 12)) (tSeq (tAsg (tLst (tCons (tOp (rAdd K) (tC (.int 20)) (tVar 6)) (tCons (tVar 7) (tNil)))) (gName 13)) (tSeq (tIfS (tTest (tOp (rEqP K) (tVar 12) (tC (.str "give")))) (tDrop (tBM K "list" rAppend (tVar 13) (tCons (tVar 9) (tNil)))) (tNext)) (tSeq (tAsg (tCall (p__law_serve K w) [] E0 (tCons (tVar 1) (tCons (tTup (tCons (tC (.int 3)) (tCons (tC (.str "transfer")) (tCons (tVar 12) (tCons (tVar 13) (tNil)))))) (tCons (tVar 8) (tCons (tVar 10) (tCons (tVar 11) (tNil))))))) (gName 14)) (tSeq (tIfS (tOr (tTest (tOp rIsNot (tOp (rIxP K w) (tVar 14) (tC (.int 1))) (tC .non))) (tTest (tOp (rNeP K) (tFld K (tOp (rIxP K w) (tVar 14) (tC (.int 0))) "told") (tLst (tNil))))) (tRet (tC (.bl false))) (tNext)) (tSeq (tAsg (tLst (tNil)) (gName 15)) (tSeq (tIfS (tAnd (tTest (tOp rIsNot (tVar 8) (tC .non))) (tAnd (tTest (tOp (rEqP K) (tVar 8) (tVar 7))) (tAnd (tNot (tTru K (tOp (rIxP K w) (tVar 3) (tVar 6)))) (tOr (tTest (tOp (rEqP K) (tVar 12) (tC (.str "give")))) (tAnd (tTru K (tVar 10)) (tNot (tTru K (tVar 11)))))))) (tSeq (tAsg (tCall (p__law_due K w) [] E0 (tCons (tVar 12) (tCons (tOp (rIxP K w) (tVar 2) (tVar 6)) (tCons (tVar 9) (tNil))))) (gName 15)) (tAsg (tC (.bl true)) (gSub (tVar 3) (tVar 6) rSetL))) (tNext)) (tIfS (tTest (tOp (rNeP K) (tFld K (tOp (rIxP K w) (tVar 14) (tC (.int 0))) "wishes") (tVar 15))) (tRet (tC (.bl false))) (tNext))))))))))))))))) (tRet (tC (.bl true))))))) { nx := fun _ H' => Q .non H', rt := Q } [some x0, none, none, none, none, none, none, none, none, none, none, none, none, none, none, none] H) : p_law K w [x0] H Q E := ⟨rfl, h⟩
class TxtK (K : PySem.W.Frag) : Prop where
  c_Holdings : Cls K (He.ga K "Holdings")
  m_Holdings_serve_transfer : Meth K (He.ga K "Holdings") "serve_transfer" (He.ma K (He.ga K "Holdings") "serve_transfer")
  m_Holdings_write : Meth K (He.ga K "Holdings") "write" (He.ma K (He.ga K "Holdings") "write")
  m_Holdings_unused : Meth K (He.ga K "Holdings") "unused" (He.ma K (He.ga K "Holdings") "unused")
  k_Source : Mk K (He.ga K "Source") (He.ma K (He.ga K "Source") "__init__")
  m_Holdings_give : Meth K (He.ga K "Holdings") "give" (He.ma K (He.ga K "Holdings") "give")
  c_Reply : Cls K (He.ga K "Reply")
  m_Reply_wish : Meth K (He.ga K "Reply") "wish" (He.ma K (He.ga K "Reply") "wish")
  c_Source : Cls K (He.ga K "Source")
  m_Source_write : Meth K (He.ga K "Source") "write" (He.ma K (He.ga K "Source") "write")
  k_Reply : Mk K (He.ga K "Reply") (He.ma K (He.ga K "Reply") "__init__")
  k_Request : Mk K (He.ga K "Request") (He.ma K (He.ga K "Request") "__init__")
  m_Holdings_serve : Meth K (He.ga K "Holdings") "serve" (He.ma K (He.ga K "Holdings") "serve")
  k_Holdings : Mk K (He.ga K "Holdings") (He.ma K (He.ga K "Holdings") "__init__")
  a_Source_number : NoAttr K (He.ga K "Source") "number"
  a_Source_goods : NoAttr K (He.ga K "Source") "goods"
  a_Source_used : NoAttr K (He.ga K "Source") "used"
  a_Holdings_panes : NoAttr K (He.ga K "Holdings") "panes"
  a_Holdings_sources : NoAttr K (He.ga K "Holdings") "sources"
  a_Holdings_offers : NoAttr K (He.ga K "Holdings") "offers"
  a_Holdings_captures : NoAttr K (He.ga K "Holdings") "captures"
  a_Holdings_fetches : NoAttr K (He.ga K "Holdings") "fetches"
  a_Holdings_watches : NoAttr K (He.ga K "Holdings") "watches"
  a_Holdings_names : NoAttr K (He.ga K "Holdings") "names"
  a_Holdings_was_hovered : NoAttr K (He.ga K "Holdings") "was_hovered"
  a_Reply_told : NoAttr K (He.ga K "Reply") "told"
  a_Reply_ended : NoAttr K (He.ga K "Reply") "ended"
  a_Reply_wishes : NoAttr K (He.ga K "Reply") "wishes"
  a_Reply_applied : NoAttr K (He.ga K "Reply") "applied"
  c_Request : Cls K (He.ga K "Request")
  a_Request_number : NoAttr K (He.ga K "Request") "number"
  a_Request_interface : NoAttr K (He.ga K "Request") "interface"
  a_Request_name : NoAttr K (He.ga K "Request") "name"
  a_Request_arguments : NoAttr K (He.ga K "Request") "arguments"
  a_Request_ends : NoAttr K (He.ga K "Request") "ends"
def f_Source_1 (v0 : V) : List (Str × V) := [("number", v0)]
def f_Source_2 (v0 v1 : V) : List (Str × V) := [("number", v0), ("goods", v1)]
def f_Source (v0 v1 v2 : V) : List (Str × V) := [("number", v0), ("goods", v1), ("used", v2)]
def f_Source_0 : List (Str × V) := []
section
variable {v0 v1 v2 v : V}
instance : Look (f_Source v0 v1 v2) "number" v0 := ⟨look_ix (i := 0) (by show (["number", "goods", "used"] : List Str).idxOf? ("number" : Str) = some 0; decide +kernel) rfl⟩
instance : Put (f_Source v0 v1 v2) "number" v (f_Source v v1 v2) := ⟨put_ix (i := 0) (by show (["number", "goods", "used"] : List Str).idxOf? ("number" : Str) = some 0; decide +kernel), by show 3 < 1000; decide⟩
instance : Look (f_Source v0 v1 v2) "goods" v1 := ⟨look_ix (i := 1) (by show (["number", "goods", "used"] : List Str).idxOf? ("goods" : Str) = some 1; decide +kernel) rfl⟩
instance : Put (f_Source v0 v1 v2) "goods" v (f_Source v0 v v2) := ⟨put_ix (i := 1) (by show (["number", "goods", "used"] : List Str).idxOf? ("goods" : Str) = some 1; decide +kernel), by show 3 < 1000; decide⟩
instance : Look (f_Source v0 v1 v2) "used" v2 := ⟨look_ix (i := 2) (by show (["number", "goods", "used"] : List Str).idxOf? ("used" : Str) = some 2; decide +kernel) rfl⟩
instance : Put (f_Source v0 v1 v2) "used" v (f_Source v0 v1 v) := ⟨put_ix (i := 2) (by show (["number", "goods", "used"] : List Str).idxOf? ("used" : Str) = some 2; decide +kernel), by show 3 < 1000; decide⟩
instance : Put f_Source_0 "number" v (f_Source_1 v) := ⟨put_new (by show ([] : List Str).idxOf? ("number" : Str) = none; decide +kernel), by show 0 < 1000; decide⟩
instance : Put (f_Source_1 v0) "goods" v (f_Source_2 v0 v) := ⟨put_new (by show (["number"] : List Str).idxOf? ("goods" : Str) = none; decide +kernel), by show 1 < 1000; decide⟩
instance : Put (f_Source_2 v0 v1) "used" v (f_Source v0 v1 v) := ⟨put_new (by show (["number", "goods"] : List Str).idxOf? ("used" : Str) = none; decide +kernel), by show 2 < 1000; decide⟩
instance : NoLook (f_Source v0 v1 v2) "write" := ⟨nolook_of (by show (["number", "goods", "used"] : List Str).idxOf? ("write" : Str) = none; decide +kernel)⟩
end
instance {K : PySem.W.Frag} [T : TxtK K] : CC K (He.ga K "Source") := ⟨T.c_Source⟩
instance {K : PySem.W.Frag} [T : TxtK K] : NA K (He.ga K "Source") "number" := ⟨T.a_Source_number⟩
instance {K : PySem.W.Frag} [T : TxtK K] : NA K (He.ga K "Source") "goods" := ⟨T.a_Source_goods⟩
instance {K : PySem.W.Frag} [T : TxtK K] : NA K (He.ga K "Source") "used" := ⟨T.a_Source_used⟩
def f_Holdings_1 (v0 : V) : List (Str × V) := [("panes", v0)]
def f_Holdings_2 (v0 v1 : V) : List (Str × V) := [("panes", v0), ("sources", v1)]
def f_Holdings_3 (v0 v1 v2 : V) : List (Str × V) := [("panes", v0), ("sources", v1), ("offers", v2)]
def f_Holdings_4 (v0 v1 v2 v3 : V) : List (Str × V) := [("panes", v0), ("sources", v1), ("offers", v2), ("captures", v3)]
def f_Holdings_5 (v0 v1 v2 v3 v4 : V) : List (Str × V) := [("panes", v0), ("sources", v1), ("offers", v2), ("captures", v3), ("fetches", v4)]
def f_Holdings_6 (v0 v1 v2 v3 v4 v5 : V) : List (Str × V) := [("panes", v0), ("sources", v1), ("offers", v2), ("captures", v3), ("fetches", v4), ("watches", v5)]
def f_Holdings_7 (v0 v1 v2 v3 v4 v5 v6 : V) : List (Str × V) := [("panes", v0), ("sources", v1), ("offers", v2), ("captures", v3), ("fetches", v4), ("watches", v5), ("names", v6)]
def f_Holdings (v0 v1 v2 v3 v4 v5 v6 v7 : V) : List (Str × V) := [("panes", v0), ("sources", v1), ("offers", v2), ("captures", v3), ("fetches", v4), ("watches", v5), ("names", v6), ("was_hovered", v7)]
def f_Holdings_0 : List (Str × V) := []
section
variable {v0 v1 v2 v3 v4 v5 v6 v7 v : V}
instance : Look (f_Holdings v0 v1 v2 v3 v4 v5 v6 v7) "panes" v0 := ⟨look_ix (i := 0) (by show (["panes", "sources", "offers", "captures", "fetches", "watches", "names", "was_hovered"] : List Str).idxOf? ("panes" : Str) = some 0; decide +kernel) rfl⟩
instance : Put (f_Holdings v0 v1 v2 v3 v4 v5 v6 v7) "panes" v (f_Holdings v v1 v2 v3 v4 v5 v6 v7) := ⟨put_ix (i := 0) (by show (["panes", "sources", "offers", "captures", "fetches", "watches", "names", "was_hovered"] : List Str).idxOf? ("panes" : Str) = some 0; decide +kernel), by show 8 < 1000; decide⟩
instance : Look (f_Holdings v0 v1 v2 v3 v4 v5 v6 v7) "sources" v1 := ⟨look_ix (i := 1) (by show (["panes", "sources", "offers", "captures", "fetches", "watches", "names", "was_hovered"] : List Str).idxOf? ("sources" : Str) = some 1; decide +kernel) rfl⟩
instance : Put (f_Holdings v0 v1 v2 v3 v4 v5 v6 v7) "sources" v (f_Holdings v0 v v2 v3 v4 v5 v6 v7) := ⟨put_ix (i := 1) (by show (["panes", "sources", "offers", "captures", "fetches", "watches", "names", "was_hovered"] : List Str).idxOf? ("sources" : Str) = some 1; decide +kernel), by show 8 < 1000; decide⟩
instance : Look (f_Holdings v0 v1 v2 v3 v4 v5 v6 v7) "offers" v2 := ⟨look_ix (i := 2) (by show (["panes", "sources", "offers", "captures", "fetches", "watches", "names", "was_hovered"] : List Str).idxOf? ("offers" : Str) = some 2; decide +kernel) rfl⟩
instance : Put (f_Holdings v0 v1 v2 v3 v4 v5 v6 v7) "offers" v (f_Holdings v0 v1 v v3 v4 v5 v6 v7) := ⟨put_ix (i := 2) (by show (["panes", "sources", "offers", "captures", "fetches", "watches", "names", "was_hovered"] : List Str).idxOf? ("offers" : Str) = some 2; decide +kernel), by show 8 < 1000; decide⟩
instance : Look (f_Holdings v0 v1 v2 v3 v4 v5 v6 v7) "captures" v3 := ⟨look_ix (i := 3) (by show (["panes", "sources", "offers", "captures", "fetches", "watches", "names", "was_hovered"] : List Str).idxOf? ("captures" : Str) = some 3; decide +kernel) rfl⟩
instance : Put (f_Holdings v0 v1 v2 v3 v4 v5 v6 v7) "captures" v (f_Holdings v0 v1 v2 v v4 v5 v6 v7) := ⟨put_ix (i := 3) (by show (["panes", "sources", "offers", "captures", "fetches", "watches", "names", "was_hovered"] : List Str).idxOf? ("captures" : Str) = some 3; decide +kernel), by show 8 < 1000; decide⟩
instance : Look (f_Holdings v0 v1 v2 v3 v4 v5 v6 v7) "fetches" v4 := ⟨look_ix (i := 4) (by show (["panes", "sources", "offers", "captures", "fetches", "watches", "names", "was_hovered"] : List Str).idxOf? ("fetches" : Str) = some 4; decide +kernel) rfl⟩
instance : Put (f_Holdings v0 v1 v2 v3 v4 v5 v6 v7) "fetches" v (f_Holdings v0 v1 v2 v3 v v5 v6 v7) := ⟨put_ix (i := 4) (by show (["panes", "sources", "offers", "captures", "fetches", "watches", "names", "was_hovered"] : List Str).idxOf? ("fetches" : Str) = some 4; decide +kernel), by show 8 < 1000; decide⟩
instance : Look (f_Holdings v0 v1 v2 v3 v4 v5 v6 v7) "watches" v5 := ⟨look_ix (i := 5) (by show (["panes", "sources", "offers", "captures", "fetches", "watches", "names", "was_hovered"] : List Str).idxOf? ("watches" : Str) = some 5; decide +kernel) rfl⟩
instance : Put (f_Holdings v0 v1 v2 v3 v4 v5 v6 v7) "watches" v (f_Holdings v0 v1 v2 v3 v4 v v6 v7) := ⟨put_ix (i := 5) (by show (["panes", "sources", "offers", "captures", "fetches", "watches", "names", "was_hovered"] : List Str).idxOf? ("watches" : Str) = some 5; decide +kernel), by show 8 < 1000; decide⟩
instance : Look (f_Holdings v0 v1 v2 v3 v4 v5 v6 v7) "names" v6 := ⟨look_ix (i := 6) (by show (["panes", "sources", "offers", "captures", "fetches", "watches", "names", "was_hovered"] : List Str).idxOf? ("names" : Str) = some 6; decide +kernel) rfl⟩
instance : Put (f_Holdings v0 v1 v2 v3 v4 v5 v6 v7) "names" v (f_Holdings v0 v1 v2 v3 v4 v5 v v7) := ⟨put_ix (i := 6) (by show (["panes", "sources", "offers", "captures", "fetches", "watches", "names", "was_hovered"] : List Str).idxOf? ("names" : Str) = some 6; decide +kernel), by show 8 < 1000; decide⟩
instance : Look (f_Holdings v0 v1 v2 v3 v4 v5 v6 v7) "was_hovered" v7 := ⟨look_ix (i := 7) (by show (["panes", "sources", "offers", "captures", "fetches", "watches", "names", "was_hovered"] : List Str).idxOf? ("was_hovered" : Str) = some 7; decide +kernel) rfl⟩
instance : Put (f_Holdings v0 v1 v2 v3 v4 v5 v6 v7) "was_hovered" v (f_Holdings v0 v1 v2 v3 v4 v5 v6 v) := ⟨put_ix (i := 7) (by show (["panes", "sources", "offers", "captures", "fetches", "watches", "names", "was_hovered"] : List Str).idxOf? ("was_hovered" : Str) = some 7; decide +kernel), by show 8 < 1000; decide⟩
instance : Put f_Holdings_0 "panes" v (f_Holdings_1 v) := ⟨put_new (by show ([] : List Str).idxOf? ("panes" : Str) = none; decide +kernel), by show 0 < 1000; decide⟩
instance : Put (f_Holdings_1 v0) "sources" v (f_Holdings_2 v0 v) := ⟨put_new (by show (["panes"] : List Str).idxOf? ("sources" : Str) = none; decide +kernel), by show 1 < 1000; decide⟩
instance : Put (f_Holdings_2 v0 v1) "offers" v (f_Holdings_3 v0 v1 v) := ⟨put_new (by show (["panes", "sources"] : List Str).idxOf? ("offers" : Str) = none; decide +kernel), by show 2 < 1000; decide⟩
instance : Put (f_Holdings_3 v0 v1 v2) "captures" v (f_Holdings_4 v0 v1 v2 v) := ⟨put_new (by show (["panes", "sources", "offers"] : List Str).idxOf? ("captures" : Str) = none; decide +kernel), by show 3 < 1000; decide⟩
instance : Put (f_Holdings_4 v0 v1 v2 v3) "fetches" v (f_Holdings_5 v0 v1 v2 v3 v) := ⟨put_new (by show (["panes", "sources", "offers", "captures"] : List Str).idxOf? ("fetches" : Str) = none; decide +kernel), by show 4 < 1000; decide⟩
instance : Put (f_Holdings_5 v0 v1 v2 v3 v4) "watches" v (f_Holdings_6 v0 v1 v2 v3 v4 v) := ⟨put_new (by show (["panes", "sources", "offers", "captures", "fetches"] : List Str).idxOf? ("watches" : Str) = none; decide +kernel), by show 5 < 1000; decide⟩
instance : Put (f_Holdings_6 v0 v1 v2 v3 v4 v5) "names" v (f_Holdings_7 v0 v1 v2 v3 v4 v5 v) := ⟨put_new (by show (["panes", "sources", "offers", "captures", "fetches", "watches"] : List Str).idxOf? ("names" : Str) = none; decide +kernel), by show 6 < 1000; decide⟩
instance : Put (f_Holdings_7 v0 v1 v2 v3 v4 v5 v6) "was_hovered" v (f_Holdings v0 v1 v2 v3 v4 v5 v6 v) := ⟨put_new (by show (["panes", "sources", "offers", "captures", "fetches", "watches", "names"] : List Str).idxOf? ("was_hovered" : Str) = none; decide +kernel), by show 7 < 1000; decide⟩
instance : NoLook (f_Holdings v0 v1 v2 v3 v4 v5 v6 v7) "unused" := ⟨nolook_of (by show (["panes", "sources", "offers", "captures", "fetches", "watches", "names", "was_hovered"] : List Str).idxOf? ("unused" : Str) = none; decide +kernel)⟩
instance : NoLook (f_Holdings v0 v1 v2 v3 v4 v5 v6 v7) "serve" := ⟨nolook_of (by show (["panes", "sources", "offers", "captures", "fetches", "watches", "names", "was_hovered"] : List Str).idxOf? ("serve" : Str) = none; decide +kernel)⟩
instance : NoLook (f_Holdings v0 v1 v2 v3 v4 v5 v6 v7) "serve_transfer" := ⟨nolook_of (by show (["panes", "sources", "offers", "captures", "fetches", "watches", "names", "was_hovered"] : List Str).idxOf? ("serve_transfer" : Str) = none; decide +kernel)⟩
instance : NoLook (f_Holdings v0 v1 v2 v3 v4 v5 v6 v7) "give" := ⟨nolook_of (by show (["panes", "sources", "offers", "captures", "fetches", "watches", "names", "was_hovered"] : List Str).idxOf? ("give" : Str) = none; decide +kernel)⟩
instance : NoLook (f_Holdings v0 v1 v2 v3 v4 v5 v6 v7) "write" := ⟨nolook_of (by show (["panes", "sources", "offers", "captures", "fetches", "watches", "names", "was_hovered"] : List Str).idxOf? ("write" : Str) = none; decide +kernel)⟩
end
instance {K : PySem.W.Frag} [T : TxtK K] : CC K (He.ga K "Holdings") := ⟨T.c_Holdings⟩
instance {K : PySem.W.Frag} [T : TxtK K] : NA K (He.ga K "Holdings") "panes" := ⟨T.a_Holdings_panes⟩
instance {K : PySem.W.Frag} [T : TxtK K] : NA K (He.ga K "Holdings") "sources" := ⟨T.a_Holdings_sources⟩
instance {K : PySem.W.Frag} [T : TxtK K] : NA K (He.ga K "Holdings") "offers" := ⟨T.a_Holdings_offers⟩
instance {K : PySem.W.Frag} [T : TxtK K] : NA K (He.ga K "Holdings") "captures" := ⟨T.a_Holdings_captures⟩
instance {K : PySem.W.Frag} [T : TxtK K] : NA K (He.ga K "Holdings") "fetches" := ⟨T.a_Holdings_fetches⟩
instance {K : PySem.W.Frag} [T : TxtK K] : NA K (He.ga K "Holdings") "watches" := ⟨T.a_Holdings_watches⟩
instance {K : PySem.W.Frag} [T : TxtK K] : NA K (He.ga K "Holdings") "names" := ⟨T.a_Holdings_names⟩
instance {K : PySem.W.Frag} [T : TxtK K] : NA K (He.ga K "Holdings") "was_hovered" := ⟨T.a_Holdings_was_hovered⟩
def f_Reply_1 (v0 : V) : List (Str × V) := [("told", v0)]
def f_Reply_2 (v0 v1 : V) : List (Str × V) := [("told", v0), ("ended", v1)]
def f_Reply_3 (v0 v1 v2 : V) : List (Str × V) := [("told", v0), ("ended", v1), ("wishes", v2)]
def f_Reply (v0 v1 v2 v3 : V) : List (Str × V) := [("told", v0), ("ended", v1), ("wishes", v2), ("applied", v3)]
def f_Reply_0 : List (Str × V) := []
section
variable {v0 v1 v2 v3 v : V}
instance : Look (f_Reply v0 v1 v2 v3) "told" v0 := ⟨look_ix (i := 0) (by show (["told", "ended", "wishes", "applied"] : List Str).idxOf? ("told" : Str) = some 0; decide +kernel) rfl⟩
instance : Put (f_Reply v0 v1 v2 v3) "told" v (f_Reply v v1 v2 v3) := ⟨put_ix (i := 0) (by show (["told", "ended", "wishes", "applied"] : List Str).idxOf? ("told" : Str) = some 0; decide +kernel), by show 4 < 1000; decide⟩
instance : Look (f_Reply v0 v1 v2 v3) "ended" v1 := ⟨look_ix (i := 1) (by show (["told", "ended", "wishes", "applied"] : List Str).idxOf? ("ended" : Str) = some 1; decide +kernel) rfl⟩
instance : Put (f_Reply v0 v1 v2 v3) "ended" v (f_Reply v0 v v2 v3) := ⟨put_ix (i := 1) (by show (["told", "ended", "wishes", "applied"] : List Str).idxOf? ("ended" : Str) = some 1; decide +kernel), by show 4 < 1000; decide⟩
instance : Look (f_Reply v0 v1 v2 v3) "wishes" v2 := ⟨look_ix (i := 2) (by show (["told", "ended", "wishes", "applied"] : List Str).idxOf? ("wishes" : Str) = some 2; decide +kernel) rfl⟩
instance : Put (f_Reply v0 v1 v2 v3) "wishes" v (f_Reply v0 v1 v v3) := ⟨put_ix (i := 2) (by show (["told", "ended", "wishes", "applied"] : List Str).idxOf? ("wishes" : Str) = some 2; decide +kernel), by show 4 < 1000; decide⟩
instance : Look (f_Reply v0 v1 v2 v3) "applied" v3 := ⟨look_ix (i := 3) (by show (["told", "ended", "wishes", "applied"] : List Str).idxOf? ("applied" : Str) = some 3; decide +kernel) rfl⟩
instance : Put (f_Reply v0 v1 v2 v3) "applied" v (f_Reply v0 v1 v2 v) := ⟨put_ix (i := 3) (by show (["told", "ended", "wishes", "applied"] : List Str).idxOf? ("applied" : Str) = some 3; decide +kernel), by show 4 < 1000; decide⟩
instance : Put f_Reply_0 "told" v (f_Reply_1 v) := ⟨put_new (by show ([] : List Str).idxOf? ("told" : Str) = none; decide +kernel), by show 0 < 1000; decide⟩
instance : Put (f_Reply_1 v0) "ended" v (f_Reply_2 v0 v) := ⟨put_new (by show (["told"] : List Str).idxOf? ("ended" : Str) = none; decide +kernel), by show 1 < 1000; decide⟩
instance : Put (f_Reply_2 v0 v1) "wishes" v (f_Reply_3 v0 v1 v) := ⟨put_new (by show (["told", "ended"] : List Str).idxOf? ("wishes" : Str) = none; decide +kernel), by show 2 < 1000; decide⟩
instance : Put (f_Reply_3 v0 v1 v2) "applied" v (f_Reply v0 v1 v2 v) := ⟨put_new (by show (["told", "ended", "wishes"] : List Str).idxOf? ("applied" : Str) = none; decide +kernel), by show 3 < 1000; decide⟩
instance : NoLook (f_Reply v0 v1 v2 v3) "wish" := ⟨nolook_of (by show (["told", "ended", "wishes", "applied"] : List Str).idxOf? ("wish" : Str) = none; decide +kernel)⟩
end
instance {K : PySem.W.Frag} [T : TxtK K] : CC K (He.ga K "Reply") := ⟨T.c_Reply⟩
instance {K : PySem.W.Frag} [T : TxtK K] : NA K (He.ga K "Reply") "told" := ⟨T.a_Reply_told⟩
instance {K : PySem.W.Frag} [T : TxtK K] : NA K (He.ga K "Reply") "ended" := ⟨T.a_Reply_ended⟩
instance {K : PySem.W.Frag} [T : TxtK K] : NA K (He.ga K "Reply") "wishes" := ⟨T.a_Reply_wishes⟩
instance {K : PySem.W.Frag} [T : TxtK K] : NA K (He.ga K "Reply") "applied" := ⟨T.a_Reply_applied⟩
def f_Request_1 (v0 : V) : List (Str × V) := [("number", v0)]
def f_Request_2 (v0 v1 : V) : List (Str × V) := [("number", v0), ("interface", v1)]
def f_Request_3 (v0 v1 v2 : V) : List (Str × V) := [("number", v0), ("interface", v1), ("name", v2)]
def f_Request_4 (v0 v1 v2 v3 : V) : List (Str × V) := [("number", v0), ("interface", v1), ("name", v2), ("arguments", v3)]
def f_Request (v0 v1 v2 v3 v4 : V) : List (Str × V) := [("number", v0), ("interface", v1), ("name", v2), ("arguments", v3), ("ends", v4)]
def f_Request_0 : List (Str × V) := []
section
variable {v0 v1 v2 v3 v4 v : V}
instance : Look (f_Request v0 v1 v2 v3 v4) "number" v0 := ⟨look_ix (i := 0) (by show (["number", "interface", "name", "arguments", "ends"] : List Str).idxOf? ("number" : Str) = some 0; decide +kernel) rfl⟩
instance : Put (f_Request v0 v1 v2 v3 v4) "number" v (f_Request v v1 v2 v3 v4) := ⟨put_ix (i := 0) (by show (["number", "interface", "name", "arguments", "ends"] : List Str).idxOf? ("number" : Str) = some 0; decide +kernel), by show 5 < 1000; decide⟩
instance : Look (f_Request v0 v1 v2 v3 v4) "interface" v1 := ⟨look_ix (i := 1) (by show (["number", "interface", "name", "arguments", "ends"] : List Str).idxOf? ("interface" : Str) = some 1; decide +kernel) rfl⟩
instance : Put (f_Request v0 v1 v2 v3 v4) "interface" v (f_Request v0 v v2 v3 v4) := ⟨put_ix (i := 1) (by show (["number", "interface", "name", "arguments", "ends"] : List Str).idxOf? ("interface" : Str) = some 1; decide +kernel), by show 5 < 1000; decide⟩
instance : Look (f_Request v0 v1 v2 v3 v4) "name" v2 := ⟨look_ix (i := 2) (by show (["number", "interface", "name", "arguments", "ends"] : List Str).idxOf? ("name" : Str) = some 2; decide +kernel) rfl⟩
instance : Put (f_Request v0 v1 v2 v3 v4) "name" v (f_Request v0 v1 v v3 v4) := ⟨put_ix (i := 2) (by show (["number", "interface", "name", "arguments", "ends"] : List Str).idxOf? ("name" : Str) = some 2; decide +kernel), by show 5 < 1000; decide⟩
instance : Look (f_Request v0 v1 v2 v3 v4) "arguments" v3 := ⟨look_ix (i := 3) (by show (["number", "interface", "name", "arguments", "ends"] : List Str).idxOf? ("arguments" : Str) = some 3; decide +kernel) rfl⟩
instance : Put (f_Request v0 v1 v2 v3 v4) "arguments" v (f_Request v0 v1 v2 v v4) := ⟨put_ix (i := 3) (by show (["number", "interface", "name", "arguments", "ends"] : List Str).idxOf? ("arguments" : Str) = some 3; decide +kernel), by show 5 < 1000; decide⟩
instance : Look (f_Request v0 v1 v2 v3 v4) "ends" v4 := ⟨look_ix (i := 4) (by show (["number", "interface", "name", "arguments", "ends"] : List Str).idxOf? ("ends" : Str) = some 4; decide +kernel) rfl⟩
instance : Put (f_Request v0 v1 v2 v3 v4) "ends" v (f_Request v0 v1 v2 v3 v) := ⟨put_ix (i := 4) (by show (["number", "interface", "name", "arguments", "ends"] : List Str).idxOf? ("ends" : Str) = some 4; decide +kernel), by show 5 < 1000; decide⟩
instance : Put f_Request_0 "number" v (f_Request_1 v) := ⟨put_new (by show ([] : List Str).idxOf? ("number" : Str) = none; decide +kernel), by show 0 < 1000; decide⟩
instance : Put (f_Request_1 v0) "interface" v (f_Request_2 v0 v) := ⟨put_new (by show (["number"] : List Str).idxOf? ("interface" : Str) = none; decide +kernel), by show 1 < 1000; decide⟩
instance : Put (f_Request_2 v0 v1) "name" v (f_Request_3 v0 v1 v) := ⟨put_new (by show (["number", "interface"] : List Str).idxOf? ("name" : Str) = none; decide +kernel), by show 2 < 1000; decide⟩
instance : Put (f_Request_3 v0 v1 v2) "arguments" v (f_Request_4 v0 v1 v2 v) := ⟨put_new (by show (["number", "interface", "name"] : List Str).idxOf? ("arguments" : Str) = none; decide +kernel), by show 3 < 1000; decide⟩
instance : Put (f_Request_4 v0 v1 v2 v3) "ends" v (f_Request v0 v1 v2 v3 v) := ⟨put_new (by show (["number", "interface", "name", "arguments"] : List Str).idxOf? ("ends" : Str) = none; decide +kernel), by show 4 < 1000; decide⟩
end
instance {K : PySem.W.Frag} [T : TxtK K] : CC K (He.ga K "Request") := ⟨T.c_Request⟩
instance {K : PySem.W.Frag} [T : TxtK K] : NA K (He.ga K "Request") "number" := ⟨T.a_Request_number⟩
instance {K : PySem.W.Frag} [T : TxtK K] : NA K (He.ga K "Request") "interface" := ⟨T.a_Request_interface⟩
instance {K : PySem.W.Frag} [T : TxtK K] : NA K (He.ga K "Request") "name" := ⟨T.a_Request_name⟩
instance {K : PySem.W.Frag} [T : TxtK K] : NA K (He.ga K "Request") "arguments" := ⟨T.a_Request_arguments⟩
instance {K : PySem.W.Frag} [T : TxtK K] : NA K (He.ga K "Request") "ends" := ⟨T.a_Request_ends⟩
structure Txt (K : PySem.W.Frag) (mg : Str → Option Value) (w : World) : Prop extends TxtK K where
  n_len : mg "len" = none
  i_KIND_SIGNS : ∃ t, mg "KIND_SIGNS" = some (.int 128 t)
  n_sum : mg "sum" = none
  n_list : mg "list" = none
  n_enumerate : mg "enumerate" = none
  i_SOURCES : ∃ t, mg "SOURCES" = some (.int 8 t)
  g_Source : mg "Source" = some (.ref (He.ga K "Source"))
  g_check_sign_count : mg "check_sign_count" = some (.ref (He.ga K "check_sign_count"))
  i_FETCHES : ∃ t, mg "FETCHES" = some (.int 4 t)
  i_WATCHES : ∃ t, mg "WATCHES" = some (.int 8 t)
  g_by_number : mg "by_number" = some (.ref (He.ga K "by_number"))
  g_copied : mg "copied" = some (.ref (He.ga K "copied"))
  g_goods_size : mg "goods_size" = some (.ref (He.ga K "goods_size"))
  g_piece_of : mg "piece_of" = some (.ref (He.ga K "piece_of"))
  n_int : mg "int" = none
  i_SOURCE_OCTETS : ∃ t, mg "SOURCE_OCTETS" = some (.int 32768 t)
  i_SOURCE_KINDS : ∃ t, mg "SOURCE_KINDS" = some (.int 16 t)
  g__law_cell : mg "_law_cell" = some (.ref (He.ga K "_law_cell"))
  g_Reply : mg "Reply" = some (.ref (He.ga K "Reply"))
  g_Request : mg "Request" = some (.ref (He.ga K "Request"))
  n_range : mg "range" = none
  g__law_row : mg "_law_row" = some (.ref (He.ga K "_law_row"))
  g__law_serve : mg "_law_serve" = some (.ref (He.ga K "_law_serve"))
  n_str : mg "str" = none
  g_Holdings : mg "Holdings" = some (.ref (He.ga K "Holdings"))
  g__law_fill : mg "_law_fill" = some (.ref (He.ga K "_law_fill"))
  n_min : mg "min" = none
  g__law_due : mg "_law_due" = some (.ref (He.ga K "_law_due"))
end SW
namespace SW
open PySem L2
local macro_rules | `(tactic| walk_at "s") => `(tactic| with_reducible first
  | refine e_seq ?_ | refine e_asgN ?_ | refine e_var (by with_unfolding_all rfl) ?_ | refine e_c ?_ | refine e_op ?_ | refine e_fld ?_ | refine g_fld ?_ | refine e_if ?_ | refine e_test ?_ | refine g_bl ?_
  | refine e_cons ?_ | refine e_nil ?_ | refine e_call ?_ | refine e_meth ?_ | refine g_meth ?_ | refine e_make ?_ | refine e_drop ?_ | refine e_ret ?_ | refine e_retN ?_ | refine e_next ?_ | refine e_asg ?_
  | refine e_set ?_ | refine e_and ?_ | refine e_or ?_ | refine e_not ?_ | refine e_andV ?_ | refine e_orV ?_ | refine e_notV ?_ | refine e_ifE ?_ | refine e_yes ?_ | refine e_tru ?_ | refine g_tru_bl ?_ | refine g_tru_non ?_
  | refine e_un ?_ | refine e_chain ?_ | refine e_cb ?_ | refine e_tup ?_ | refine e_lst ?_ | refine e_bm ?_ | refine g_bmL ?_ | refine e_sub ?_ | refine e_gname ?_ | refine e_gnil ?_ | refine e_gcons ?_ | refine e_for ?_ | refine e_lc ?_
  | refine e_iseq ?_ | refine g_seqL ?_ | refine g_seqT ?_ | refine g_seqS ?_ | refine e_enum ?_ | refine g_enum ?_ | refine e_rng1 ?_ | refine e_rng2 ?_ | refine e_brk ?_ | refine e_cont ?_
  | refine g_add ?_ | refine g_sub ?_ | refine g_neg ?_ | refine g_lt ?_ | refine g_le ?_ | refine g_gt ?_ | refine g_ge ?_ | refine g_eqI ?_ | refine g_neI ?_ | refine g_eqS ?_ | refine g_neS ?_ | refine g_isN_non ?_ | refine g_notN_non ?_ | refine g_isN_ref ?_ | refine g_notN_ref ?_ | refine g_isN_int ?_ | refine g_notN_int ?_ | refine g_isN_str ?_ | refine g_notN_str ?_ | refine g_isN_bl ?_ | refine g_notN_bl ?_ | refine if_tt ?_ | refine if_ff ?_
  | refine g_lenL ?_ | refine g_lenT ?_ | refine g_lenO ?_ | refine g_int ?_ | refine g_intB ?_ | refine g_min2 ?_ | refine g_max2 ?_
  | refine g_ixLn (by decide) (by with_unfolding_all rfl) ?_ | refine g_ixTn (by decide) (by with_unfolding_all rfl) ?_ | refine g_gtup (by with_unfolding_all rfl) ?_ | refine g_glst (by with_unfolding_all rfl) ?_
  | refine ifT (by with_unfolding_all decide +kernel) ?_ | refine ifF (by with_unfolding_all decide +kernel) ?_
  | refine e_par ?_ | refine g_par ?_ | refine e_aug (by with_unfolding_all rfl) ?_ | refine g_ipI ?_)
/-- all steps that ask nothing -/
local macro_rules | `(tactic| walk_at "go") => `(tactic| repeat walk_at "s")
/-- an arrangement of cells -/
local macro_rules | `(tactic| walk_at "prm") => `(tactic| (refine perm_count fun f => ?_; simp only [List.map_append, List.map_cons, List.map_nil, List.sum_append, List.sum_cons, List.sum_nil, List.cons_append, List.nil_append, List.append_assoc]; omega))
theorem sz (n : Nat) (h : n ≤ 16777216 := by omega) : n ≤ sizeLine := by rw [sizeLine_eq]; exact h
theorem szl (n : Nat) (h : n < 16777216 := by omega) : n < sizeLine := by rw [sizeLine_eq]; exact h
section
variable {K : PySem.W.Frag} {w : World} {H : Hp} {Q : VK} {E : XK} {I : Hp} {M F : Cs}
/-! ### by_number -/
/-- an object with a number -/
def HasNum (K : PySem.W.Frag) (H : Hp) (x : V) (n : Int) : Prop := ∃ a C dx fs, x = .ref a ∧ H a = some (.ins C dx fs) ∧ CC K C ∧ NA K C "number" ∧ fs.lookup ("number" : Str) = some (V.int n)
def pick (xs : List V) (ns : List Int) (n : Int) : V := match (xs.zip ns).find? (fun p => decide (p.2 = n)) with
  | some p => p.1
  | none => .non
theorem Paired.get {α β : Type} {F : α → β → Prop} : ∀ {xs : List α} {ys : List β} {i : Nat} {x : α}, Paired F xs ys → xs[i]? = some x → ∃ y, ys[i]? = some y ∧ F x y
  | _, _, i, x, .nil, h => by simp at h
  | _, _, 0, x, .cons r _, h => by simp at h; subst h; exact ⟨_, rfl, r⟩
  | _, _, i + 1, x, .cons _ t, h => by
    obtain ⟨y, h1, h2⟩ := Paired.get t (by simpa using h)
    exact ⟨y, by simpa using h1, h2⟩
theorem pick_at {xs : List V} {ns : List Int} {n : Int} : ∀ {i : Nat} {x : V}, xs[i]? = some x → ns[i]? = some n → (∀ j, j < i → ns[j]? ≠ some n) → pick xs ns n = x := by
  induction xs generalizing ns with
  | nil => intro i x h; simp at h
  | cons a xs ih =>
    intro i x h1 h2 h3
    cases ns with
    | nil => simp at h2
    | cons m ns =>
      unfold pick
      rw [List.zip_cons_cons, List.find?_cons]
      cases i with
      | zero =>
        simp at h1 h2
        subst h1 h2
        simp
      | succ i =>
        have hm : m ≠ n := fun e => h3 0 (by omega) (by simp [e])
        simp only [hm, decide_false]
        exact ih (by simpa using h1) (by simpa using h2) (fun j hj => by simpa using h3 (j + 1) (by omega))
theorem pick_none {xs : List V} {ns : List Int} {n : Int} (h : ∀ j, j < xs.length → ns[j]? ≠ some n) : pick xs ns n = .non := by
  induction xs generalizing ns with
  | nil => simp [pick]
  | cons a xs ih =>
    cases ns with
    | nil => simp [pick]
    | cons m ns =>
      have hm : m ≠ n := fun e => h 0 (by simp) (by simp [e])
      have := ih (ns := ns) (fun j hj => by simpa using h (j + 1) (by simpa using hj))
      unfold pick at this ⊢
      rw [List.zip_cons_cons, List.find?_cons]
      simp only [hm, decide_false]
      exact this
theorem by_number_spec {a : Addr} {xs : List V} {ns : List Int} {n : Int} (h : H a = some (.lst xs)) (hx : Paired (HasNum K H) xs ns) (q : Q (pick xs ns n) H) : p_by_number K w [.ref a, .int n] H Q E := by
  refine i_by_number ?_
  haveI : Ob H a (.lst xs) := ⟨h⟩
  walk_at "go"
  refine for_l (xs := xs) (fun i σ H' => H' = H ∧ (∃ z, σ = [some (.ref a), some (.int n), z]) ∧ ∀ j, j < i → ns[j]? ≠ some n) ⟨rfl, ⟨_, rfl⟩, fun j hj => by omega⟩ (fun i σ H' _ ⟨e, _⟩ => by rw [e]; exact h) ?_ ?_
  · rintro i x σ H' hi ⟨rfl, ⟨z, rfl⟩, hn⟩
    obtain ⟨m, hm, b, C, dx, fs, rfl, hb, c1, c2, lk⟩ := Paired.get hx hi
    haveI : Ob H' b (.ins C dx fs) := ⟨hb⟩
    haveI : Look fs "number" (.int m) := ⟨lk⟩
    walk_at "go"
    refine if_dec (fun e => ?_) (fun e => ?_)
    · walk_at "go"
      subst e
      rw [pick_at hi hm hn] at q
      exact q
    · walk_at "go"
      refine ⟨rfl, ⟨_, rfl⟩, fun j hj => ?_⟩
      by_cases ej : j = i
      · subst ej
        rw [hm]
        exact fun z => e (Option.some.inj z)
      · exact hn j (by omega)
  · rintro σ H' ⟨rfl, ⟨z, rfl⟩, hn⟩
    walk_at "go"
    rw [pick_none hn] at q
    exact q

/-! ### goods -/
/-- a piece: (kind, octets) -/
def Pc (I : Hp) (v : V) (p : Str × List Int) : Prop := ∃ t o, v = .ref t ∧ Im I t (.tup [.str p.1, .ref o]) ∧ Im I o (.lst (p.2.map V.int))
abbrev Gd (I : Hp) (vs : List V) (gs : List (Str × List Int)) : Prop := Paired (Pc I) vs gs
theorem Pc.mono {I I' : Hp} {v : V} {p : Str × List Int} (s : Sub I I') (h : Pc I v p) : Pc I' v p := by
  obtain ⟨t, o, e, h1, h2⟩ := h
  exact ⟨t, o, e, ⟨s.sub _ _ h1.eq⟩, ⟨s.sub _ _ h2.eq⟩⟩
theorem Paired.mp {α β : Type} {F G : α → β → Prop} (f : ∀ a b, F a b → G a b) : ∀ {xs : List α} {ys : List β}, Paired F xs ys → Paired G xs ys
  | _, _, .nil => .nil
  | _, _, .cons r t => .cons (f _ _ r) (Paired.mp f t)
theorem Gd.mono {I I' : Hp} {vs : List V} {gs : List (Str × List Int)} (s : Sub I I') (h : Gd I vs gs) : Gd I' vs gs := Paired.mp (fun _ _ => Pc.mono s) h
theorem Paired.app {α β : Type} {F : α → β → Prop} : ∀ {xs xs' : List α} {ys ys' : List β}, Paired F xs ys → Paired F xs' ys' → Paired F (xs ++ xs') (ys ++ ys')
  | _, _, _, _, .nil, h => h
  | _, _, _, _, .cons r t, h => .cons r (Paired.app t h)
theorem take_succ {α : Type} {l : List α} {i : Nat} {x : α} (h : l[i]? = some x) : l.take (i + 1) = l.take i ++ [x] := by
  rw [List.take_add_one, h]; rfl
theorem copied_spec {a : Addr} {vs : List V} {gs : List (Str × List Int)} [o : Own I M H] [m : Mem M a (.lst vs)] (g : Gd I vs gs) (hl : vs.length < 1000)
    (q : ∀ (p : Addr) (I' H' : Hp) (vs' : List V), Sub1 I I' → Gd I' vs' gs → Own I' ((p, .lst vs') :: M) H' → Q (.ref p) H') : p_copied K w [.ref a] H Q E := by
  refine i_copied ?_
  walk_at "go"
  refine lc_l (xs := vs) (fun p I' acc H' s o => o.ce _ (List.mem_cons_of_mem _ m.mem)) (fun i I' acc => Gd I' acc (gs.take i)) .nil ?_ ?_
  · intro i x p I' acc H' hi s hle hp o'
    obtain ⟨⟨k, os⟩, hy, t, ol, rfl, h1, h2⟩ := Paired.get g hi
    have hi2 : i < vs.length := (List.getElem?_eq_some_iff.mp hi).1
    walk_at "go"
    refine ⟨rfl, ?_⟩
    walk_at "go"
    refine g_listI fun l I2 H2 s2 i2 o2 => ?_
    walk_at "go"
    refine g_tup (sz _ (by show 2 ≤ _; decide)) fun t2 I3 H3 s3 i3 o3 => ?_
    have sb : Sub I I3 := inferInstance
    refine g_app sb hle (szl _ (by omega)) ?_
    rw [take_succ hy]
    exact Paired.app (Gd.mono inferInstance hp) (.cons ⟨t2, l, rfl, inferInstance, inferInstance⟩ .nil)
  · intro p I' acc H' s hle hp o'
    have e : gs.take vs.length = gs := by rw [List.take_of_length_le]; rw [Paired.length g]; exact Nat.le_refl _
    rw [e] at hp
    exact q p I' H' acc s hp o'
end
section
variable {K : PySem.W.Frag} {w : World} {H : Hp} {Q : VK} {E : XK} {I : Hp} {M F : Cs}
/-- the octets of a kind -/
def octOf (gs : List (Str × List Int)) (k : Str) : Option (List Int) := (gs.find? fun p => decide (p.1 = k)).map (·.2)
theorem octOf_at {gs : List (Str × List Int)} {k : Str} : ∀ {i : Nat} {os : List Int}, gs[i]? = some (k, os) → (∀ (j : Nat) p, j < i → gs[j]? = some p → p.1 ≠ k) → octOf gs k = some os := by
  induction gs with
  | nil => intro i os h; simp at h
  | cons p gs ih =>
    intro i os h hn
    unfold octOf
    rw [List.find?_cons]
    cases i with
    | zero =>
      simp at h
      subst h
      simp
    | succ i =>
      have hp : p.1 ≠ k := hn 0 p (by omega) rfl
      simp only [hp, decide_false]
      exact ih (by simpa using h) (fun j q hj hq => hn (j + 1) q (by omega) (by simpa using hq))
theorem octOf_none {gs : List (Str × List Int)} {k : Str} (hn : ∀ (j : Nat) p, gs[j]? = some p → p.1 ≠ k) : octOf gs k = none := by
  unfold octOf
  rw [List.find?_eq_none.mpr fun p hp => by
    obtain ⟨j, hj, e⟩ := List.mem_iff_getElem.mp hp
    simpa using hn j p (by rw [List.getElem?_eq_getElem hj, e])]
  rfl
/-- what piece_of hands back -/
def OctV (I : Hp) (v : V) : Option (List Int) → Prop
  | none => v = .non
  | some os => ∃ o, v = .ref o ∧ Im I o (.lst (os.map V.int))
theorem piece_of_spec {a : Addr} {vs : List V} {gs : List (Str × List Int)} {k : Str} [o : Own I M H] [m : Ob H a (.lst vs)] (g : Gd I vs gs) (q : ∀ v, OctV I v (octOf gs k) → Q v H) : p_piece_of K w [.ref a, .str k] H Q E := by
  refine i_piece_of ?_
  walk_at "go"
  refine for_l (xs := vs) (fun i σ H' => H' = H ∧ (∃ y z, σ = [some (.ref a), some (.str k), y, z]) ∧ ∀ (j : Nat) p, j < i → gs[j]? = some p → p.1 ≠ k) ⟨rfl, ⟨_, _, rfl⟩, fun j p hj => by omega⟩ (fun i σ H' _ ⟨e, _⟩ => by rw [e]; exact m.eq) ?_ ?_
  · rintro i x σ H' hi ⟨rfl, ⟨y, z, rfl⟩, hn⟩
    obtain ⟨⟨k2, os⟩, hy, t, ol, rfl, h1, h2⟩ := Paired.get g hi
    walk_at "go"
    refine if_dec (fun e => ?_) (fun e => ?_)
    · walk_at "go"
      refine q _ ?_
      rw [octOf_at (i := i) (os := os) (by rw [hy, show k2 = k from e]) hn]
      exact ⟨ol, rfl, h2⟩
    · walk_at "go"
      refine ⟨rfl, ⟨_, _, rfl⟩, fun j p hj hp => ?_⟩
      by_cases ej : j = i
      · subst ej
        rw [hy] at hp
        cases hp
        exact e
      · exact hn j p (by omega) hp
  · rintro σ H' ⟨rfl, ⟨y, z, rfl⟩, hn⟩
    walk_at "go"
    refine q _ ?_
    rw [octOf_none fun j p hp => hn j p (by
      have := (List.getElem?_eq_some_iff.mp hp).1
      rw [Paired.length g]; exact this) hp]
    rfl
/-! ### goods_size -/
def gsize (gs : List (Str × List Int)) : Int := (gs.map fun p => (p.2.length : Int)).sum
theorem goods_size_spec {a : Addr} {vs : List V} {gs : List (Str × List Int)} [o : Own I M H] [m : Mem M a (.lst vs)] (g : Gd I vs gs) (hl : vs.length < 1000)
    (q : ∀ (I' H' : Hp), Sub1 I I' → Own I' M H' → Q (.int (gsize gs)) H') : p_goods_size K w [.ref a] H Q E := by
  refine i_goods_size ?_
  walk_at "go"
  refine lc_l (xs := vs) (fun p I' acc H' s o => o.ce _ (List.mem_cons_of_mem _ m.mem)) (fun i I' acc => acc = ((gs.take i).map fun p => (p.2.length : Int)).map V.int) rfl ?_ ?_
  · rintro i x p I' acc H' hi s hle rfl o'
    obtain ⟨⟨k, os⟩, hy, t, ol, rfl, h1, h2⟩ := Paired.get g hi
    have hi2 : i < vs.length := (List.getElem?_eq_some_iff.mp hi).1
    walk_at "go"
    refine ⟨rfl, ?_⟩
    walk_at "go"
    refine g_app s.any hle (szl _ (by omega)) ?_
    rw [take_succ hy]
    simp
  · rintro p I' acc H' s hle rfl o'
    have e : gs.take vs.length = gs := by rw [List.take_of_length_le]; rw [Paired.length g]; exact Nat.le_refl _
    rw [e] at o'
    walk_at "go"
    refine ⟨p, _, rfl, SqL.of (o'.ce _ List.mem_cons_self), ?_⟩
    exact q _ _ ⟨fun b u hb => (Own.frzSub o').sub b u (s.sub b u hb)⟩ o'.freeze
theorem check_sign_count_spec {n : Int} {z : Str} (h : z.length ≤ 128) (q : Q .non H) : p_check_sign_count K w [.int n, .str z] H Q E := by
  refine i_check_sign_count ?_
  walk_at "go"
  refine g_lenS (sz _ (by omega)) ?_
  walk_at "go"
  refine if_dec (fun e => ?_) (fun e => ?_)
  · omega
  · walk_at "go"
    exact q
end
section
variable {K : PySem.W.Frag} [T : TxtK K] {w : World} {H : Hp} {Q : VK} {E : XK} {I : Hp} {M F : Cs} {x dx : Addr}
/-! ### sources -/
abbrev cSource (K : PySem.W.Frag) : Addr := He.ga K "Source"
theorem Source_init_spec {n : Int} [o : Own I ((x, .ins (cSource K) dx f_Source_0) :: M) H]
    (q : ∀ (g : Addr) (H' : Hp), Own I ((g, .lst []) :: (x, .ins (cSource K) dx (f_Source (.int n) (.ref g) (.bl false))) :: M) H' → Q .non H') : p_Source___init__ K w [.ref x, .int n] H Q E := by
  refine i_Source___init__ ?_
  walk_at "go"
  refine g_set fun H1 o1 => ?_
  walk_at "go"
  refine g_lstM (sz 0) fun g H2 o2 => ?_
  walk_at "go"
  refine g_set fun H3 o3 => ?_
  walk_at "go"
  refine g_set fun H4 o4 => ?_
  walk_at "go"
  exact q g H4 o4
end
section
variable {K : PySem.W.Frag} [T : TxtK K] {w : World} {H : Hp} {Q : VK} {E : XK} {I : Hp} {M F : Cs} {x dx : Addr}
/-- what writing makes of goods -/
def putG (gs : List (Str × List Int)) (k : Str) (os : List Int) : List (Str × List Int) := match gs with
  | [] => [(k, os)]
  | p :: r => if p.1 = k then (k, p.2 ++ os) :: r else p :: putG r k os
theorem putG_at {k : Str} {os : List Int} : ∀ {gs : List (Str × List Int)} {i : Nat} {o1 : List Int}, gs[i]? = some (k, o1) → (∀ (j : Nat) p, j < i → gs[j]? = some p → p.1 ≠ k) → putG gs k os = gs.set i (k, o1 ++ os)
  | [], i, o1, h, _ => by simp at h
  | p :: r, 0, o1, h, _ => by
    simp at h
    subst h
    simp [putG]
  | p :: r, i + 1, o1, h, hn => by
    have hp : p.1 ≠ k := hn 0 p (by omega) rfl
    unfold putG
    rw [if_neg hp, putG_at (i := i) (o1 := o1) (by simpa using h) (fun j q hj hq => hn (j + 1) q (by omega) (by simpa using hq))]
    rfl
theorem putG_new {k : Str} {os : List Int} : ∀ {gs : List (Str × List Int)}, (∀ (j : Nat) p, gs[j]? = some p → p.1 ≠ k) → putG gs k os = gs ++ [(k, os)]
  | [], _ => rfl
  | p :: r, hn => by
    have hp : p.1 ≠ k := hn 0 p rfl
    unfold putG
    rw [if_neg hp, putG_new (fun j q hq => hn (j + 1) q (by simpa using hq))]
    rfl
theorem Paired.set {α β : Type} {F : α → β → Prop} {x : α} {y : β} (r : F x y) : ∀ {xs : List α} {ys : List β} (i : Nat), Paired F xs ys → Paired F (xs.set i x) (ys.set i y)
  | _, _, _, .nil => .nil
  | _, _, 0, .cons _ t => .cons r t
  | _, _, i + 1, .cons q t => .cons q (Paired.set r i t)
theorem Source_write_spec {n u : V} {g ol : Addr} {vs : List V} {gs : List (Str × List Int)} {k : Str} {os : List Int} [o : Own I ((x, .ins (cSource K) dx (f_Source n (.ref g) u)) :: (g, .lst vs) :: F) H] (hg : Gd I vs gs) (hl : vs.length < 1000) [ho : Im I ol (.lst (os.map V.int))] (hk : ∀ p ∈ gs, p.2.length + os.length ≤ 100000)
    (q : ∀ (I' H' : Hp) (vs' : List V), Sub1 I I' → Gd I' vs' (putG gs k os) → Own I' ((x, .ins (cSource K) dx (f_Source n (.ref g) u)) :: (g, .lst vs') :: F) H' → Q .non H') : p_Source_write K w [.ref x, .str k, .ref ol] H Q E := by
  refine i_Source_write ?_
  walk_at "go"
  refine g_listI fun p I1 H1 s1 i1 o1 => ?_
  walk_at "go"
  refine for_e (xs := vs) (fun i σ H' => ∃ I' y z, σ = [some (.ref x), some (.str k), some (.ref ol), y, z] ∧ Sub1 I1 I' ∧ Own I' ((x, .ins (cSource K) dx (f_Source n (.ref g) u)) :: (g, .lst vs) :: F) H' ∧ ∀ (j : Nat) p, j < i → gs[j]? = some p → p.1 ≠ k)
    ⟨I1, _, _, rfl, ⟨fun _ _ h => h⟩, o1, fun j p hj => by omega⟩ (fun i σ H' _ ⟨I', _, _, _, s, o', _⟩ => o'.im _ _ (s.sub _ _ i1.eq)) ?_ ?_
  · rintro i v t σ H' hi ⟨I', y, z, rfl, s, o', hn⟩ ht
    obtain ⟨⟨k2, o2⟩, hy, tt, ol2, rfl, h1, h2⟩ := Paired.get hg hi
    have hi2 : i < vs.length := (List.getElem?_eq_some_iff.mp hi).1
    have s2 : Sub1 I' (upd I' t (.tup [.int (i : Nat), .ref tt])) := Sub1.new (o'.notI ht)
    have i2 : Im (upd I' t (.tup [.int (i : Nat), .ref tt])) t (.tup [.int (i : Nat), .ref tt]) := Im.new
    have o3 := o'.newI (o := .tup [.int (i : Nat), .ref tt]) ht
    generalize upd I' t (.tup [.int (i : Nat), .ref tt]) = I2 at *
    generalize upd H' t (.tup [.int (i : Nat), .ref tt]) = H2 at *
    walk_at "go"
    refine if_dec (fun e => ?_) (fun e => ?_)
    · walk_at "go"
      have hb : (o2.map V.int).length + (os.map V.int).length ≤ sizeLine := by
        have := hk (k2, o2) (List.mem_of_getElem? hy)
        rw [List.length_map, List.length_map]
        exact sz _ (by simp at this; omega)
      refine g_catI hb fun p3 I4 H4 s4 i4 o4 => ?_
      walk_at "go"
      refine g_tup (sz _ (by show 2 ≤ _; decide)) fun p5 I5 H5 s5 i5 o5 => ?_
      walk_at "go"
      refine g_setL hi2 fun H6 o6 => ?_
      walk_at "go"
      refine q I5 H6 _ (Sub.one inferInstance) ?_ o6
      rw [putG_at (i := i) (o1 := o2) (by rw [hy, show k2 = k from e]) hn]
      refine Paired.set ⟨p5, p3, rfl, i5, ?_⟩ i (Gd.mono inferInstance hg)
      rw [List.map_append]
      infer_instance
    · walk_at "go"
      refine ⟨I2, _, _, rfl, Sub.one inferInstance, o3, fun j p hj hp => ?_⟩
      by_cases ej : j = i
      · subst ej
        rw [hy] at hp
        cases hp
        exact e
      · exact hn j p (by omega) hp
  · rintro σ H' ⟨I', y, z, rfl, s, o', hn⟩
    have hn' : ∀ (j : Nat) p, gs[j]? = some p → p.1 ≠ k := fun j p hp => hn j p (by
      have := (List.getElem?_eq_some_iff.mp hp).1
      rw [Paired.length hg]; exact this) hp
    walk_at "go"
    refine g_listI fun p I2 H2 s2 i2 o2 => ?_
    walk_at "go"
    refine g_tup (sz _ (by show 2 ≤ _; decide)) fun p5 I5 H5 s5 i5 o5 => ?_
    walk_at "go"
    refine g_append (szl _ (by omega)) fun H6 o6 => ?_
    walk_at "go"
    refine q I5 H6 _ (Sub.one inferInstance) ?_ o6
    rw [putG_new hn']
    exact Paired.app (Gd.mono inferInstance hg) (.cons ⟨p5, p, rfl, i5, inferInstance⟩ .nil)
end
section
variable {K : PySem.W.Frag} [T : TxtK K] {w : World} {H : Hp} {Q : VK} {E : XK} {I : Hp} {M F : Cs} {x dx : Addr}
abbrev cReply (K : PySem.W.Frag) : Addr := He.ga K "Reply"
abbrev cRequest (K : PySem.W.Frag) : Addr := He.ga K "Request"
abbrev cHoldings (K : PySem.W.Frag) : Addr := He.ga K "Holdings"
theorem Reply_init_spec [o : Own I ((x, .ins (cReply K) dx f_Reply_0) :: M) H]
    (q : ∀ (t e wi a : Addr) (H' : Hp), Own I ((a, .lst []) :: (wi, .lst []) :: (e, .lst []) :: (t, .lst []) :: (x, .ins (cReply K) dx (f_Reply (.ref t) (.ref e) (.ref wi) (.ref a))) :: M) H' → Q .non H') : p_Reply___init__ K w [.ref x] H Q E := by
  refine i_Reply___init__ ?_
  walk_at "go"
  refine g_lstM (sz 0) fun t H1 o1 => ?_
  walk_at "go"
  refine g_set fun H2 o2 => ?_
  walk_at "go"
  refine g_lstM (sz 0) fun e H3 o3 => ?_
  walk_at "go"
  refine g_set fun H4 o4 => ?_
  walk_at "go"
  refine g_lstM (sz 0) fun wi H5 o5 => ?_
  walk_at "go"
  refine g_set fun H6 o6 => ?_
  walk_at "go"
  refine g_lstM (sz 0) fun a H7 o7 => ?_
  walk_at "go"
  refine g_set fun H8 o8 => ?_
  walk_at "go"
  exact q t e wi a H8 o8
theorem Reply_wish_spec {r rdx wi : Addr} {v1 v2 v4 : V} {ws : List V} {y : V} {M' : Cs} [o : Own I M H] [m : Mem M r (.ins (cReply K) rdx (f_Reply v1 v2 (.ref wi) v4))] [m2 : Mem M wi (.lst ws)] [s : SetC M wi (.lst (ws ++ [y])) M'] (hl : ws.length < 1000)
    (q : ∀ H', Own I M' H' → Q .non H') : p_Reply_wish K w [.ref r, y] H Q E := by
  refine i_Reply_wish ?_
  walk_at "go"
  refine g_append (szl _ (by omega)) fun H1 o1 => ?_
  walk_at "go"
  exact q H1 o1
theorem Request_init_spec {n i nm ar e : V} [o : Own I ((x, .ins (cRequest K) dx f_Request_0) :: M) H]
    (q : ∀ H', Own I ((x, .ins (cRequest K) dx (f_Request n i nm ar e)) :: M) H' → Q .non H') : p_Request___init__ K w [.ref x, n, i, nm, ar, e] H Q E := by
  refine i_Request___init__ ?_
  walk_at "go"
  refine g_set fun H1 o1 => ?_
  walk_at "go"
  refine g_set fun H2 o2 => ?_
  walk_at "go"
  refine g_set fun H3 o3 => ?_
  walk_at "go"
  refine g_set fun H4 o4 => ?_
  walk_at "go"
  refine g_set fun H5 o5 => ?_
  walk_at "go"
  exact q H5 o5
/-! ### holdings: its instance, its list of sources, the sources -/
structure Src where
  a : Addr
  dx : Addr
  g : Addr
  vs : List V
  n : Int
  gs : List (Str × List Int)
  used : Bool
abbrev Src.v (s : Src) : V := .ref s.a
abbrev Src.cells (K : PySem.W.Frag) (s : Src) : Cs := [(s.a, .ins (cSource K) s.dx (f_Source (.int s.n) (.ref s.g) (.bl s.used))), (s.g, .lst s.vs)]
def srcC (K : PySem.W.Frag) (l : List Src) : Cs := l.flatMap (Src.cells K)
theorem srcC_mid (A : List Src) (s : Src) (B : List Src) : srcC K (A ++ s :: B) = srcC K A ++ ((s.a, .ins (cSource K) s.dx (f_Source (.int s.n) (.ref s.g) (.bl s.used))) :: (s.g, .lst s.vs) :: srcC K B) := by
  unfold srcC
  rw [List.flatMap_append, List.flatMap_cons]
  rfl
/-- where things stand -/
structure HA where
  h : Addr
  dx : Addr
  pa : Addr
  so : Addr
  of : Addr
  ca : Addr
  fe : Addr
  wa : Addr
  na : Addr
  hv : Bool
abbrev HA.obj (K : PySem.W.Frag) (p : HA) : HO := .ins (cHoldings K) p.dx (f_Holdings (.ref p.pa) (.ref p.so) (.ref p.of) (.ref p.ca) (.ref p.fe) (.ref p.wa) (.ref p.na) (.bl p.hv))
theorem Holdings_init_spec [o : Own I ((x, .ins (cHoldings K) dx f_Holdings_0) :: M) H]
    (q : ∀ (pa so of ca fe wa na : Addr) (H' : Hp), Own I ((na, .lst []) :: (wa, .lst []) :: (fe, .lst []) :: (ca, .lst []) :: (of, .lst []) :: (so, .lst []) :: (pa, .lst []) :: (x, .ins (cHoldings K) dx (f_Holdings (.ref pa) (.ref so) (.ref of) (.ref ca) (.ref fe) (.ref wa) (.ref na) (.bl false))) :: M) H' → Q .non H') : p_Holdings___init__ K w [.ref x] H Q E := by
  refine i_Holdings___init__ ?_
  walk_at "go"
  refine g_lstM (sz 0) fun b1 H1 o1 => ?_
  walk_at "go"
  refine g_set fun H2 o2 => ?_
  walk_at "go"
  refine g_lstM (sz 0) fun b2 H3 o3 => ?_
  walk_at "go"
  refine g_set fun H4 o4 => ?_
  walk_at "go"
  refine g_lstM (sz 0) fun b3 H5 o5 => ?_
  walk_at "go"
  refine g_set fun H6 o6 => ?_
  walk_at "go"
  refine g_lstM (sz 0) fun b4 H7 o7 => ?_
  walk_at "go"
  refine g_set fun H8 o8 => ?_
  walk_at "go"
  refine g_lstM (sz 0) fun b5 H9 o9 => ?_
  walk_at "go"
  refine g_set fun H10 o10 => ?_
  walk_at "go"
  refine g_lstM (sz 0) fun b6 H11 o11 => ?_
  walk_at "go"
  refine g_set fun H12 o12 => ?_
  walk_at "go"
  refine g_lstM (sz 0) fun b7 H13 o13 => ?_
  walk_at "go"
  refine g_set fun H14 o14 => ?_
  walk_at "go"
  refine g_set fun H15 o15 => ?_
  walk_at "go"
  exact q b1 b2 b3 b4 b5 b6 b7 H15 o15
theorem src_nums : ∀ {l : List Src} {M : Cs}, (∀ s ∈ l, ∃ o, Mem M s.a (.ins (cSource K) s.dx (f_Source (.int s.n) (.ref s.g) (.bl s.used))) ∧ o = ()) → Own I M H → Paired (HasNum K H) (l.map Src.v) (l.map Src.n)
  | [], _, _, _ => .nil
  | s :: l, M, h, o => by
    obtain ⟨_, hm, _⟩ := h s List.mem_cons_self
    exact .cons ⟨s.a, _, s.dx, _, rfl, o.ce _ hm.mem, inferInstance, inferInstance, Look.eq⟩ (src_nums (fun t ht => h t (List.mem_cons_of_mem _ ht)) o)
theorem srcC_mem {l : List Src} {s : Src} (h : s ∈ l) : (s.a, HO.ins (cSource K) s.dx (f_Source (.int s.n) (.ref s.g) (.bl s.used))) ∈ srcC K l := List.mem_flatMap.mpr ⟨s, h, List.mem_cons_self⟩
end
section
variable {K : PySem.W.Frag} [T : TxtK K] {w : World} {H : Hp} {Q : VK} {E : XK} {I : Hp} {M F : Cs} {p : HA} {l A B : List Src} {s : Src}
abbrev Src.obj (K : PySem.W.Frag) (s : Src) : HO := .ins (cSource K) s.dx (f_Source (.int s.n) (.ref s.g) (.bl s.used))
theorem map_at {l : List Src} {i : Nat} {x : V} (h : (l.map Src.v)[i]? = some x) : ∃ s, l[i]? = some s ∧ x = .ref s.a := by
  rw [List.getElem?_map] at h
  cases e : l[i]? with
  | none => rw [e] at h; cases h
  | some s => rw [e] at h; exact ⟨s, rfl, (Option.some.inj h).symm⟩
def unus (l : List Src) : List Src := l.filter fun s => !s.used
theorem unused_spec [o : Own I M H] [m1 : Mem M p.h (p.obj K)] [m2 : Mem M p.so (.lst (l.map Src.v))] (hm : ∀ s ∈ l, (s.a, s.obj K) ∈ M) (hl : l.length < 1000)
    (q : ∀ (u : Addr) (I' H' : Hp), Sub1 I I' → Own I' ((u, .lst ((unus l).map Src.v)) :: M) H' → Q (.ref u) H') : p_Holdings_unused K w [.ref p.h] H Q E := by
  refine i_Holdings_unused ?_
  walk_at "go"
  refine lc_l (xs := l.map Src.v) (fun p I' acc H' s o => o.ce _ (List.mem_cons_of_mem _ m2.mem)) (fun i I' acc => acc = (unus (l.take i)).map Src.v) rfl ?_ ?_
  · rintro i x u I' acc H' hi s hle rfl o'
    obtain ⟨t, ht, rfl⟩ := map_at hi
    have hi2 : i < l.length := (List.getElem?_eq_some_iff.mp ht).1
    haveI : Ob H' t.a (t.obj K) := ⟨o'.ce _ (List.mem_cons_of_mem _ (hm t (List.mem_of_getElem? ht)))⟩
    walk_at "go"
    refine ⟨rfl, ?_⟩
    walk_at "go"
    refine if_b (fun e => ?_) (fun e => ?_)
    · walk_at "go"
      refine g_app s.any hle (szl _ (by omega)) ?_
      unfold unus
      rw [take_succ ht, List.filter_append, List.filter_cons, if_pos e]
      simp
    · refine g_skip s.any hle ?_
      unfold unus
      rw [take_succ ht, List.filter_append, List.filter_cons, if_neg (by rw [e]; decide)]
      simp
  · rintro u I' acc H' s hle rfl o'
    walk_at "go"
    rw [show l.take (l.map Src.v).length = l by rw [List.length_map, List.take_length]] at o'
    exact q u I' H' s o'
theorem nums_of (o : Own I M H) (hm : ∀ s ∈ l, (s.a, s.obj K) ∈ M) : Paired (HasNum K H) (l.map Src.v) (l.map Src.n) := by
  induction l with
  | nil => exact .nil
  | cons s l ih => exact .cons ⟨s.a, _, s.dx, _, rfl, o.ce _ (hm s List.mem_cons_self), inferInstance, inferInstance, Look.eq⟩ (ih fun t ht => hm t (List.mem_cons_of_mem _ ht))
theorem pick_mid (hn : ∀ t ∈ A, t.n ≠ s.n) : pick ((A ++ s :: B).map Src.v) ((A ++ s :: B).map Src.n) s.n = .ref s.a := by
  refine pick_at (i := A.length) ?_ ?_ ?_
  · simp
  · simp
  · intro j hj e
    rw [List.map_append, List.getElem?_append_left (by simpa using hj), List.getElem?_map] at e
    rw [List.getElem?_eq_getElem hj] at e
    exact hn _ (List.getElem_mem hj) (by simpa using e)
theorem mem_objs {s : Src} (h : s ∈ l) : (s.a, s.obj K) ∈ srcC K l := List.mem_flatMap.mpr ⟨s, h, List.mem_cons_self⟩
theorem mem_lsts {s : Src} (h : s ∈ l) : (s.g, HO.lst s.vs) ∈ srcC K l := List.mem_flatMap.mpr ⟨s, h, List.mem_cons_of_mem _ List.mem_cons_self⟩
/-! ### give -/
/-- the deed's goods told -/
def Wish (I : Hp) (deed : Str) (prim : List V) (gs : List (Str × List Int)) (t : V) : Prop := ∃ a g vs, t = .ref a ∧ Im I a (.tup (.str deed :: .ref g :: prim)) ∧ Im I g (.lst vs) ∧ Gd I vs gs
def dueOf (s : Src) (grant : V) (serial : Int) : Bool := !s.used && decide (grant = .int serial)
theorem give_spec {vl d rp rdx wi : Addr} {v1 v2 v4 : V} {grant : V} {serial : Int} {more prim ws : List V} {deed : Str} [o : Own I ((p.h, p.obj K) :: (p.so, .lst ((A ++ s :: B).map Src.v)) :: (srcC K (A ++ s :: B) ++ ((rp, .ins (cReply K) rdx (f_Reply v1 v2 (.ref wi) v4)) :: (wi, .lst ws) :: F))) H]
    (hn : ∀ t ∈ A, t.n ≠ s.n) (hg : Gd I s.vs s.gs) (hl : s.vs.length < 1000) [iv : Im I vl (.lst (.int s.n :: .int serial :: more))] [id : Im I d (.tup (.str deed :: prim))] (hd : (deed = "give" ∧ ∃ b, prim = [.bl b]) ∨ (deed = "drag" ∧ prim = [])) (hgr : grant = .non ∨ ∃ g, grant = .int g) (hws : ws.length < 100)
    (q0 : dueOf s grant serial = false → Q .non H)
    (q1 : dueOf s grant serial = true → ∀ (I' H' : Hp) (a t : Addr), Sub1 I I' → Im I' a (.tup [.str "spend"]) → Wish I' deed prim s.gs (.ref t) →
      Own I' ((p.h, p.obj K) :: (p.so, .lst ((A ++ s :: B).map Src.v)) :: (srcC K (A ++ { s with used := true } :: B) ++ ((rp, .ins (cReply K) rdx (f_Reply v1 v2 (.ref wi) v4)) :: (wi, .lst (ws ++ [.ref a, .ref t])) :: F))) H' → Q .non H') :
    p_Holdings_give K w [.ref p.h, .ref vl, grant, .ref d, .ref rp] H Q E := by
  refine i_Holdings_give ?_
  walk_at "go"
  refine by_number_spec (ns := (A ++ s :: B).map Src.n) (n := s.n) (Ob.eq (H := H) (a := p.so)) (nums_of o fun t ht => List.mem_cons_of_mem _ (List.mem_cons_of_mem _ (List.mem_append_left _ (mem_objs ht)))) ?_
  rw [pick_mid hn]
  rw [srcC_mid] at o q1
  walk_at "go"
  refine if_b (fun e => ?_) (fun e => ?_)
  · walk_at "go"
    exact q0 (by unfold dueOf; rw [e]; rfl)
  · rcases hgr with rfl | ⟨g, rfl⟩
    · walk_at "go"
      exact q0 (by unfold dueOf; simp)
    · walk_at "go"
      refine if_ndec (fun h => ?_) (fun h => ?_)
      · walk_at "go"
        exact q0 (by unfold dueOf; simp [h])
      · walk_at "go"
        have hdue : dueOf s (.int g) serial = true := by unfold dueOf; rw [e, h]; simp
        refine g_set fun H1 o1 => ?_
        walk_at "go"
        refine g_tup (sz _ (by show 1 ≤ _; decide)) fun a I2 H2 s2 i2 o2 => ?_
        walk_at "go"
        refine Reply_wish_spec (K := K) (rdx := rdx) (wi := wi) (v1 := v1) (v2 := v2) (v4 := v4) (ws := ws) (by omega) fun H3 o3 => ?_
        walk_at "go"
        have o3' := o3.perm (M' := (s.g, .lst s.vs) :: (wi, .lst (ws ++ [V.ref a])) :: ((p.h, p.obj K) :: (p.so, .lst ((A ++ s :: B).map Src.v)) :: (srcC K A ++ ((s.a, .ins (cSource K) s.dx (f_Source (.int s.n) (.ref s.g) (.bl true))) :: srcC K B) ++ ((rp, .ins (cReply K) rdx (f_Reply v1 v2 (.ref wi) v4)) :: F)))) (by walk_at "prm")
        rcases hd with ⟨rfl, b, rfl⟩ | ⟨rfl, rfl⟩
        · walk_at "go"
          refine copied_spec (Gd.mono inferInstance hg) hl fun l4 I4 H4 vs4 s4 g4 o4 => ?_
          walk_at "go"
          refine g_tup (sz _ (by show 3 ≤ _; decide)) fun t I5 H5 s5 i5 o5 => ?_
          walk_at "go"
          refine Reply_wish_spec (K := K) (rdx := rdx) (wi := wi) (v1 := v1) (v2 := v2) (v4 := v4) (ws := ws ++ [V.ref a]) (by simp; omega) fun H6 o6 => ?_
          walk_at "go"
          rw [List.append_assoc] at o6
          have sb : Sub1 I5 (upd I5 l4 (.lst vs4)) := o6.frzSub
          haveI : Sub1 I I2 := s2
          refine q1 hdue (upd I5 l4 (.lst vs4)) H6 a t (Sub.one inferInstance) inferInstance ⟨t, l4, vs4, rfl, inferInstance, Im.new, Gd.mono inferInstance g4⟩ ?_
          refine o6.freeze.perm ?_
          walk_at "prm"
        · walk_at "go"
          refine copied_spec (Gd.mono inferInstance hg) hl fun l4 I4 H4 vs4 s4 g4 o4 => ?_
          walk_at "go"
          refine g_tup (sz _ (by show 2 ≤ _; decide)) fun t I5 H5 s5 i5 o5 => ?_
          walk_at "go"
          refine Reply_wish_spec (K := K) (rdx := rdx) (wi := wi) (v1 := v1) (v2 := v2) (v4 := v4) (ws := ws ++ [V.ref a]) (by simp; omega) fun H6 o6 => ?_
          walk_at "go"
          rw [List.append_assoc] at o6
          have sb : Sub1 I5 (upd I5 l4 (.lst vs4)) := o6.frzSub
          refine q1 hdue (upd I5 l4 (.lst vs4)) H6 a t (Sub.one inferInstance) inferInstance ⟨t, l4, vs4, rfl, inferInstance, Im.new, Gd.mono inferInstance g4⟩ ?_
          refine o6.freeze.perm ?_
          walk_at "prm"
end
section
variable {K : PySem.W.Frag} [T : TxtK K] {w : World} {H : Hp} {Q : VK} {E : XK} {I : Hp} {M F : Cs} {p : HA} {l A B : List Src} {s : Src}
/-! ### write -/
def usz (l : List Src) : Int := ((unus l).map fun s => gsize s.gs).sum
theorem sum_take_map {l : List Src} : ((l.take l.length).map fun s => gsize s.gs) = l.map fun s => gsize s.gs := by rw [List.take_length]
theorem write_spec {rq rdx ar ol : Addr} {i nm e : V} {k : Str} {os : List Int} [o : Own I ((p.h, p.obj K) :: (p.so, .lst ((A ++ s :: B).map Src.v)) :: (srcC K (A ++ s :: B) ++ F)) H] (hn : ∀ t ∈ A, t.n ≠ s.n) (hu : s.used = false)
    (hg : ∀ t ∈ A ++ s :: B, Gd I t.vs t.gs ∧ t.vs.length < 100) [iq : Im I rq (.ins (cRequest K) rdx (f_Request (.int s.n) i nm (.ref ar) e))] [ia : Im I ar (.lst [.str k, .ref ol])] [io : Im I ol (.lst (os.map V.int))] (hl : (A ++ s :: B).length < 100)
    (hk : k.length ≤ 128) (h1 : usz (A ++ s :: B) + os.length ≤ 32768) (h2 : s.vs.length ≤ 15) (h3 : ∀ p ∈ s.gs, p.2.length + os.length ≤ 100000)
    (q : ∀ (I' H' : Hp) (vs' : List V), Sub1 I I' → Gd I' vs' (putG s.gs k os) → Own I' ((p.h, p.obj K) :: (p.so, .lst ((A ++ s :: B).map Src.v)) :: (srcC K (A ++ { s with vs := vs', gs := putG s.gs k os } :: B) ++ F)) H' → Q .non H') : p_Holdings_write K w [.ref p.h, .ref rq] H Q E := by
  have hmo : ∀ t ∈ A ++ s :: B, (t.a, t.obj K) ∈ ((p.h, p.obj K) :: (p.so, .lst ((A ++ s :: B).map Src.v)) :: (srcC K (A ++ s :: B) ++ F)) := fun t ht => List.mem_cons_of_mem _ (List.mem_cons_of_mem _ (List.mem_append_left _ (mem_objs ht)))
  have hml : ∀ t ∈ A ++ s :: B, (t.g, HO.lst t.vs) ∈ ((p.h, p.obj K) :: (p.so, .lst ((A ++ s :: B).map Src.v)) :: (srcC K (A ++ s :: B) ++ F)) := fun t ht => List.mem_cons_of_mem _ (List.mem_cons_of_mem _ (List.mem_append_left _ (mem_lsts ht)))
  have hs : s ∈ A ++ s :: B := by simp
  have gs1 := (hg s hs).1
  refine i_Holdings_write ?_
  walk_at "go"
  refine by_number_spec (ns := (A ++ s :: B).map Src.n) (n := s.n) (Ob.eq (H := H) (a := p.so)) (nums_of o hmo) ?_
  rw [pick_mid hn]
  haveI : Ob H s.a (s.obj K) := ⟨o.ce _ (hmo s hs)⟩
  walk_at "go"
  rw [hu]
  walk_at "go"
  refine check_sign_count_spec hk ?_
  walk_at "go"
  refine unused_spec (K := K) (p := p) (l := A ++ s :: B) hmo (by omega) fun u I1 H1 s1 o1 => ?_
  walk_at "go"
  refine lc_l (xs := (unus (A ++ s :: B)).map Src.v) (fun p I' acc H' s o => o.ce _ (List.mem_cons_of_mem _ List.mem_cons_self)) (fun i I' acc => acc = (((unus (A ++ s :: B)).take i).map fun s => gsize s.gs).map V.int) rfl ?_ ?_
  · rintro i x u2 I2 acc H2 hi s2 hle rfl o2
    obtain ⟨t, ht, rfl⟩ := map_at hi
    have hi2 : i < (unus (A ++ s :: B)).length := (List.getElem?_eq_some_iff.mp ht).1
    have htm : t ∈ A ++ s :: B := (List.mem_filter.mp (List.mem_of_getElem? ht)).1
    have hlen : (unus (A ++ s :: B)).length ≤ (A ++ s :: B).length := List.length_filter_le _ _
    haveI : Ob H2 t.a (t.obj K) := ⟨o2.ce _ (List.mem_cons_of_mem _ (List.mem_cons_of_mem _ (hmo t htm)))⟩
    walk_at "go"
    refine ⟨rfl, ?_⟩
    walk_at "go"
    have mm : Mem ((u2, HO.lst ((((unus (A ++ s :: B)).take i).map fun s => gsize s.gs).map V.int)) :: (u, .lst ((unus (A ++ s :: B)).map Src.v)) :: ((p.h, p.obj K) :: (p.so, .lst ((A ++ s :: B).map Src.v)) :: (srcC K (A ++ s :: B) ++ F))) t.g (.lst t.vs) := ⟨List.mem_cons_of_mem _ (List.mem_cons_of_mem _ (hml t htm))⟩
    refine goods_size_spec (m := mm) (Gd.mono inferInstance (hg t htm).1) (by have := (hg t htm).2; omega) fun I3 H3 s3 o3 => ?_
    refine g_app inferInstance hle (szl _ (by omega)) ?_
    rw [take_succ ht]
    simp
  · rintro u2 I2 acc H2 s2 hle rfl o2
    walk_at "go"
    rw [show (((unus (A ++ s :: B)).take ((unus (A ++ s :: B)).map Src.v).length).map fun s => gsize s.gs) = (unus (A ++ s :: B)).map fun s => gsize s.gs by rw [List.length_map, List.take_length]] at o2
    refine ⟨u2, _, rfl, SqL.of (o2.ce _ List.mem_cons_self), ?_⟩
    walk_at "go"
    have mg : Ob H2 s.g (.lst s.vs) := ⟨o2.ce _ (List.mem_cons_of_mem _ (List.mem_cons_of_mem _ (hml s hs)))⟩
    have mo : Ob H2 s.a (s.obj K) := ⟨o2.ce _ (List.mem_cons_of_mem _ (List.mem_cons_of_mem _ (hmo s hs)))⟩
    walk_at "go"
    refine piece_of_spec (m := mg) (Gd.mono inferInstance gs1) fun v hv => ?_
    refine g_isN ?_
    walk_at "go"
    have e1 : ((unus (A ++ s :: B)).map fun s => gsize s.gs).sum = usz (A ++ s :: B) := rfl
    have hb : (if decide (v = V.non) = true then (1 : Int) else 0) ≤ 1 := by split <;> omega
    refine if_dec (fun e => ?_) (fun e => ?_)
    · exfalso
      rw [List.length_map, e1] at e
      omega
    walk_at "go"
    refine if_dec (fun e => ?_) (fun e => ?_)
    · exfalso
      omega
    walk_at "go"
    have o3 := (o2.drop (A := [(u2, _), (u, _)]))
    rw [srcC_mid] at o3
    have o4 := o3.perm (M' := (s.a, .ins (cSource K) s.dx (f_Source (.int s.n) (.ref s.g) (.bl s.used))) :: (s.g, .lst s.vs) :: ((p.h, p.obj K) :: (p.so, .lst ((A ++ s :: B).map Src.v)) :: (srcC K A ++ (srcC K B ++ F)))) (by walk_at "prm")
    refine Source_write_spec (o := o4) (Gd.mono inferInstance gs1) (by omega) h3 fun I5 H5 vs5 s5 g5 o5 => ?_
    walk_at "go"
    refine q I5 H5 vs5 (Sub.one inferInstance) g5 ?_
    rw [srcC_mid]
    refine o5.perm ?_
    walk_at "prm"
end
section
variable {K : PySem.W.Frag} [T : TxtK K] {w : World} {H : Hp} {Q : VK} {E : XK} {I : Hp} {M F : Cs} {p : HA} {l A B : List Src} {s : Src}
theorem cdw (j : Int) (h0 : 0 < j) (h : j < 1000000) : CDivW 0 j → CDivW 0 j := id
theorem cdivw {i j : Int} (h0 : 0 < j) (h : j < 1000000) : CDivW i j := wide_div (b := 20) h0 (by omega) (by decide) (by decide)
/-! ### the law's reading of cells -/
theorem law_cell_spec {a : Addr} {ns : List Int} {k : Int} [o : Own I M H] [c : ImQ K I a (ns.map V.int)] (q : ∀ r : Int, Q (.int r) H) : p__law_cell K w [.ref a, .int k] H Q E := by
  refine i__law_cell ?_
  walk_at "go"
  refine if_dec (fun e => ?_) (fun e => ?_)
  · walk_at "go"
    refine g_mod e ?_
    have h0 := Int.emod_nonneg k (show (((ns.map V.int).length : Nat) : Int) ≠ 0 by omega)
    have h1 := Int.emod_lt_of_pos k e
    generalize k % (((ns.map V.int).length : Nat) : Int) = j at *
    have hj : j.toNat < ns.length := by rw [List.length_map] at h1; omega
    refine g_ixO (v := V.int ns[j.toNat]) h0 (by rw [List.getElem?_map, List.getElem?_eq_getElem hj]; rfl) ?_
    walk_at "go"
    refine if_dec (fun e => ?_) (fun e => ?_)
    · walk_at "go"
      refine g_mul (.inl ⟨by omega, by omega⟩) ?_
      walk_at "go"
      exact q _
    · walk_at "go"
      exact q _
  · walk_at "go"
    exact q _
theorem law_row_spec {a : Addr} {ns : List Int} {k : Int} [o : Own I M H] [c : ImQ K I a (ns.map V.int)] (q : ∀ r : Int, Q (.int r) H) : p__law_row K w [.ref a, .int k] H Q E := by
  refine i__law_row ?_
  walk_at "go"
  refine law_cell_spec fun cell => ?_
  dsimp only
  with_reducible refine seq_fin ?_ fun fin => ?_
  · walk_at "go"
    refine g_mul (.inr ⟨by omega, by omega⟩) ?_
    walk_at "go"
    refine g_mul (.inr ⟨by omega, by omega⟩) ?_
    walk_at "go"
    refine g_mod (by decide) ?_
    walk_at "go"
    have h1 := Int.emod_nonneg (cell * 48271 + k * 69621 + 12345) (show (2147483647 : Int) ≠ 0 by decide)
    have h2 := Int.emod_lt_of_pos (cell * 48271 + k * 69621 + 12345) (show (0 : Int) < 2147483647 by decide)
    generalize (cell * 48271 + k * 69621 + 12345) % 2147483647 = one at *
    refine g_mul (.inl ⟨by omega, by omega⟩) ?_
    walk_at "go"
    refine g_mul (.inl ⟨by omega, by omega⟩) ?_
    walk_at "go"
    refine g_mod (by decide) ?_
    walk_at "go"
    have h3 := Int.emod_nonneg (one * one + 16807 * k + 7) (show (2147483629 : Int) ≠ 0 by decide)
    have h4 := Int.emod_lt_of_pos (one * one + 16807 * k + 7) (show (0 : Int) < 2147483629 by decide)
    generalize (one * one + 16807 * k + 7) % 2147483629 = two at *
    refine g_mul (.inl ⟨by omega, by omega⟩) ?_
    walk_at "go"
    refine g_mod (by decide) ?_
    walk_at "go"
    refine g_mul (.inl ⟨by omega, by omega⟩) ?_
    walk_at "go"
    exact q _
  · walk_at "go"
    refine if_dec (fun e => ?_) (fun e => ?_)
    · walk_at "go"
      refine if_dec (fun e => ?_) (fun e => ?_)
      · walk_at "go"
        exact q _
      · exact fin
    · exact fin
end
section
variable {K : PySem.W.Frag} [T : TxtK K] {w : World} {H : Hp} {Q : VK} {E : XK} {I : Hp} {M F : Cs} {p : HA} {l A B : List Src} {s : Src}
abbrev hC (K : PySem.W.Frag) (p : HA) (l : List Src) : Cs := (p.h, p.obj K) :: (p.so, .lst (l.map Src.v)) :: srcC K l
/-- a new source -/
theorem serve_source_spec {rq rdx ar : Addr} {e grant gr dr r : V} {n : Int} [o : Own I ((p.h, p.obj K) :: (p.so, .lst (l.map Src.v)) :: (srcC K l ++ F)) H] (hl : l.length < 8)
    [iq : Im I rq (.ins (cRequest K) rdx (f_Request (.int 3) (.str "transfer") (.str "source") (.ref ar) e))] [ia : Im I ar (.lst [.int n])] {b1 b2 : Bool} (h1 : gr = .bl b1) (h2 : dr = .bl b2)
    (q : ∀ (I' H' : Hp) (x dx g : Addr), Sub1 I I' → Own I' ((p.h, p.obj K) :: (p.so, .lst ((l ++ [(⟨x, dx, g, [], n, [], false⟩ : Src)]).map Src.v)) :: (srcC K (l ++ [⟨x, dx, g, [], n, [], false⟩]) ++ F)) H' → Q .non H') :
    p_Holdings_serve K w [.ref p.h, .ref rq, grant, gr, dr, r] H Q E := by
  subst h1 h2
  refine i_Holdings_serve ?_
  walk_at "go"
  have key : ∀ (b : Bool) (Q' : VK), (∀ H2, Q .non H2 → Q' .non H2) → p_Holdings_serve_transfer K w [.ref p.h, .ref rq, grant, .bl b, r] H Q' E0 := by
    intro b Q' qq
    refine i_Holdings_serve_transfer ?_
    walk_at "go"
    refine unused_spec (K := K) (p := p) (l := l) (fun t ht => List.mem_cons_of_mem _ (List.mem_cons_of_mem _ (List.mem_append_left _ (mem_objs ht)))) (by omega) fun u I1 H1 s1 o1 => ?_
    walk_at "go"
    have hu : (unus l).length ≤ l.length := List.length_filter_le _ _
    refine if_dec (fun e => ?_) (fun e => ?_)
    · exfalso
      rw [List.length_map] at e
      omega
    walk_at "go"
    have o2 := o1.drop (A := [(u, _)])
    clear o1
    refine g_make fun x dx I3 H3 s3 o3 => ?_
    refine Source_init_spec (o := o3) fun g H4 o4 => ⟨rfl, ?_⟩
    walk_at "go"
    refine g_append (szl _ (by rw [List.length_map]; omega)) fun H5 o5 => ?_
    walk_at "go"
    refine qq _ (q I3 H5 x dx g (Sub.one inferInstance) ?_)
    refine o5.perm ?_
    unfold srcC
    rw [List.flatMap_append, List.map_append, List.flatMap_cons, List.flatMap_nil]
    simp only [Src.cells, Src.v, List.map_cons, List.map_nil]
    walk_at "prm"
  cases b1 with
  | true =>
    walk_at "go"
    refine key _ _ fun H2 q2 => ?_
    walk_at "go"
    exact q2
  | false =>
    walk_at "go"
    refine key _ _ fun H2 q2 => ?_
    walk_at "go"
    exact q2
/-- give and drag -/
theorem serve_give_spec {rq rdx ar rp rpdx wi : Addr} {v1 v2 v4 e : V} {grant : V} {serial : Int} {ws more : List V} {deed : Str} {b1 b2 : Bool} [o : Own I ((p.h, p.obj K) :: (p.so, .lst ((A ++ s :: B).map Src.v)) :: (srcC K (A ++ s :: B) ++ ((rp, .ins (cReply K) rpdx (f_Reply v1 v2 (.ref wi) v4)) :: (wi, .lst []) :: F))) H]
    (hn : ∀ t ∈ A, t.n ≠ s.n) (hg : Gd I s.vs s.gs) (hl : s.vs.length < 1000) [iq : Im I rq (.ins (cRequest K) rdx (f_Request (.int 3) (.str "transfer") (.str deed) (.ref ar) e))] [iv : Im I ar (.lst (.int s.n :: .int serial :: more))]
    {pr : Int} (hd : (deed = "give" ∧ more = [.int pr]) ∨ (deed = "drag" ∧ more = [])) (hgr : grant = .non ∨ ∃ g, grant = .int g)
    (q0 : (dueOf s grant serial && (decide (deed = "give") || (b1 && !b2))) = false → ∀ (I' H' : Hp), Sub1 I I' → Own I' ((p.h, p.obj K) :: (p.so, .lst ((A ++ s :: B).map Src.v)) :: (srcC K (A ++ s :: B) ++ ((rp, .ins (cReply K) rpdx (f_Reply v1 v2 (.ref wi) v4)) :: (wi, .lst []) :: F))) H' → Q .non H')
    (q1 : (dueOf s grant serial && (decide (deed = "give") || (b1 && !b2))) = true → ∀ (I' H' : Hp) (a t : Addr), Sub1 I I' → Im I' a (.tup [.str "spend"]) → Wish I' deed (if deed = "give" then [.bl (!decide (pr = 0))] else []) s.gs (.ref t) →
      Own I' ((p.h, p.obj K) :: (p.so, .lst ((A ++ s :: B).map Src.v)) :: (srcC K (A ++ { s with used := true } :: B) ++ ((rp, .ins (cReply K) rpdx (f_Reply v1 v2 (.ref wi) v4)) :: (wi, .lst [.ref a, .ref t]) :: F))) H' → Q .non H') :
    p_Holdings_serve K w [.ref p.h, .ref rq, grant, .bl b1, .bl b2, .ref rp] H Q E := by
  refine i_Holdings_serve ?_
  walk_at "go"
  have key : ∀ (Q' : VK), (∀ H2, Q .non H2 → Q' .non H2) → p_Holdings_serve_transfer K w [.ref p.h, .ref rq, grant, .bl (b1 && !b2), .ref rp] H Q' E0 := by
    intro Q' qq
    refine i_Holdings_serve_transfer ?_
    rcases hd with ⟨rfl, rfl⟩ | ⟨rfl, rfl⟩
    · walk_at "go"
      refine g_tup (sz _ (by show 2 ≤ _; decide)) fun d I1 H1 s1 i1 o1 => ?_
      walk_at "go"
      refine give_spec (more := [.int pr]) (o := o1) hn (Gd.mono inferInstance hg) hl (.inl ⟨rfl, _, rfl⟩) hgr (by decide) (fun e => ?_) (fun e I2 H2 a t s2 i2 wt o2 => ?_)
      · walk_at "go"
        exact qq _ (q0 (by rw [e]; rfl) I1 H1 s1 o1)
      · walk_at "go"
        refine qq _ (q1 (by rw [e]; rfl) I2 H2 a t (Sub.one inferInstance) i2 ?_ o2)
        rw [if_pos rfl]
        exact wt
    · walk_at "go"
      refine if_b (fun eb => ?_) (fun eb => ?_)
      · walk_at "go"
        refine g_tup (sz _ (by show 1 ≤ _; decide)) fun d I1 H1 s1 i1 o1 => ?_
        walk_at "go"
        refine give_spec (more := []) (o := o1) hn (Gd.mono inferInstance hg) hl (.inr ⟨rfl, rfl⟩) hgr (by decide) (fun e => ?_) (fun e I2 H2 a t s2 i2 wt o2 => ?_)
        · walk_at "go"
          exact qq _ (q0 (by rw [e]; rfl) I1 H1 s1 o1)
        · walk_at "go"
          refine qq _ (q1 (by rw [e, eb]; simp) I2 H2 a t (Sub.one inferInstance) i2 ?_ o2)
          rw [if_neg (by decide +kernel)]
          exact wt
      · walk_at "go"
        refine qq H (q0 ?_ I H ⟨fun _ _ h => h⟩ o)
        rw [eb]
        have : decide (("drag" : Str) = "give") = false := by decide +kernel
        rw [this]
        simp
  cases b1 with
  | true =>
    walk_at "go"
    refine key _ fun H2 q2 => ?_
    walk_at "go"
    exact q2
  | false =>
    walk_at "go"
    refine key _ fun H2 q2 => ?_
    walk_at "go"
    exact q2
/-- writing -/
theorem serve_write_spec {rq rdx ar ol : Addr} {e grant r : V} {k : Str} {os : List Int} {gr dr : V} [o : Own I ((p.h, p.obj K) :: (p.so, .lst ((A ++ s :: B).map Src.v)) :: (srcC K (A ++ s :: B) ++ F)) H] (hn : ∀ t ∈ A, t.n ≠ s.n) (hu : s.used = false)
    (hg : ∀ t ∈ A ++ s :: B, Gd I t.vs t.gs ∧ t.vs.length < 100) [iq : Im I rq (.ins (cRequest K) rdx (f_Request (.int s.n) (.str "source") (.str "write") (.ref ar) e))] [ia : Im I ar (.lst [.str k, .ref ol])] [io : Im I ol (.lst (os.map V.int))] (hl : (A ++ s :: B).length < 100)
    (hk : k.length ≤ 128) (h1 : usz (A ++ s :: B) + os.length ≤ 32768) (h2 : s.vs.length ≤ 15) (h3 : ∀ p ∈ s.gs, p.2.length + os.length ≤ 100000)
    (q : ∀ (I' H' : Hp) (vs' : List V), Sub1 I I' → Gd I' vs' (putG s.gs k os) → Own I' ((p.h, p.obj K) :: (p.so, .lst ((A ++ s :: B).map Src.v)) :: (srcC K (A ++ { s with vs := vs', gs := putG s.gs k os } :: B) ++ F)) H' → Q .non H') :
    p_Holdings_serve K w [.ref p.h, .ref rq, grant, gr, dr, r] H Q E := by
  refine i_Holdings_serve ?_
  walk_at "go"
  refine write_spec (ol := ol) hn hu hg hl hk h1 h2 h3 fun I1 H1 vs1 s1 g1 o1 => ?_
  walk_at "go"
  exact q I1 H1 vs1 s1 g1 o1
/-! ### the law's serve -/
theorem law_serve_spec {hh hdx row ar : Addr} {hfs : List (Str × V)} {num grant gr dr : V} {ifc nm : Str} [o : Own I M H] [mh : Mem M hh (.ins (cHoldings K) hdx hfs)] [nl : NoLook hfs "serve"] [ir : Im I row (.tup [num, .str ifc, .str nm, .ref ar])]
    (hs : ∀ (r rdx t e wi a rq qdx : Addr) (I' H' : Hp), Sub1 I I' → Im I' rq (.ins (cRequest K) qdx (f_Request num (.str ifc) (.str nm) (.ref ar) (.bl (decide (nm = "destroy"))))) →
      Own I' ((a, .lst []) :: (wi, .lst []) :: (e, .lst []) :: (t, .lst []) :: (r, .ins (cReply K) rdx (f_Reply (.ref t) (.ref e) (.ref wi) (.ref a))) :: M) H' → ∀ Q' : VK, (∀ H2, GTup H2 Q [.ref r, .non] → Q' .non H2) → p_Holdings_serve K w [.ref hh, .ref rq, grant, gr, dr, .ref r] H' Q' E0) :
    p__law_serve K w [.ref hh, .ref row, grant, gr, dr] H Q E := by
  refine i__law_serve ?_
  walk_at "go"
  refine g_make fun r rdx I1 H1 s1 o1 => ?_
  refine Reply_init_spec (o := o1) fun t e wi a H2 o2 => ⟨rfl, ?_⟩
  walk_at "go"
  refine g_make fun rq qdx I3 H3 s3 o3 => ?_
  refine Request_init_spec (o := o3) fun H4 o4 => ⟨rfl, ?_⟩
  have s5 := o4.frzSub
  have i5 : Im (upd I3 rq (.ins (cRequest K) qdx (f_Request num (.str ifc) (.str nm) (.ref ar) (.bl (decide (nm = "destroy")))))) rq _ := Im.new
  have o5 := o4.freeze
  clear o4
  generalize upd I3 rq (.ins (cRequest K) qdx (f_Request num (.str ifc) (.str nm) (.ref ar) (.bl (decide (nm = "destroy"))))) = I5 at *
  walk_at "go"
  refine hs r rdx t e wi a rq qdx I5 H4 (Sub.one inferInstance) i5 o5 _ fun H6 q6 => ?_
  walk_at "go"
  exact q6
end
section
variable {K : PySem.W.Frag} [T : TxtK K] {w : World} {H : Hp} {Q : VK} {E : XK} {I : Hp} {M F : Cs} {p : HA} {l A B : List Src} {s : Src}
def kS (i : Nat) : Str := ("k" : Str) ++ (toString ((0 : Int) + (i : Nat)) : Str)
theorem kS_ne : ∀ i, i < 4 → ∀ j, j < 4 → i ≠ j → kS i ≠ kS j := by decide +kernel
theorem kS_len : ∀ i, i < 4 → (kS i).length ≤ 128 := by decide +kernel
theorem kS_len2 : ∀ i : Nat, i < 4 → ("k" : Str).length + (toString ((0 : Int) + (i : Nat)) : Str).length ≤ 128 := by decide +kernel
theorem kS_ok : ∀ i, i < 4 → PyData.canLay0 (.str (kS i)) = true := by decide +kernel
/-- goods as they are filled: kinds k0, k1, .., few octets each -/
def Fill (gs : List (Str × List Int)) (n : Nat) : Prop := gs.length = n ∧ ∀ (j : Nat) q, gs[j]? = some q → q.1 = kS j ∧ q.2.length ≤ 4
theorem gsize_le : ∀ {gs : List (Str × List Int)}, (∀ q ∈ gs, q.2.length ≤ 4) → gsize gs ≤ 4 * gs.length
  | [], _ => by simp [gsize]
  | q :: gs, h => by
    have h1 := gsize_le (gs := gs) fun r hr => h r (List.mem_cons_of_mem _ hr)
    have h2 := h q List.mem_cons_self
    unfold gsize at h1 ⊢
    rw [List.map_cons, List.sum_cons, List.length_cons]
    omega
theorem Fill.size {gs : List (Str × List Int)} {n : Nat} (h : Fill gs n) : gsize gs ≤ 4 * n := by
  obtain ⟨hl, h⟩ := h
  subst hl
  exact gsize_le fun q hq => by
    obtain ⟨j, hj, e⟩ := List.mem_iff_getElem.mp hq
    exact (h j q (by rw [List.getElem?_eq_getElem hj, e])).2
theorem Fill.put {gs : List (Str × List Int)} {n : Nat} {os : List Int} (h : Fill gs n) (hn : n < 4) (ho : os.length ≤ 4) : putG gs (kS n) os = gs ++ [(kS n, os)] ∧ Fill (gs ++ [(kS n, os)]) (n + 1) := by
  obtain ⟨hl, h⟩ := h
  refine ⟨putG_new fun j q hq => ?_, by rw [List.length_append, hl]; rfl, fun j q hq => ?_⟩
  · have hj := (List.getElem?_eq_some_iff.mp hq).1
    rw [(h j q hq).1]
    exact kS_ne j (by omega) n hn (by omega)
  · by_cases hj : j < gs.length
    · rw [List.getElem?_append_left hj] at hq
      exact h j q hq
    · have hj2 : j = gs.length := by
        have := (List.getElem?_eq_some_iff.mp hq).1
        simp at this
        omega
      subst hj2
      simp at hq
      subst hq
      exact ⟨by rw [hl], ho⟩
/-- a law's list of pieces -/
def PG (I : Hp) (v : V) (gs : List (Str × List Int)) : Prop := ∃ a vs, v = .ref a ∧ Im I a (.lst vs) ∧ Gd I vs gs
theorem PG.mono {I I' : Hp} {v : V} {gs : List (Str × List Int)} (s : Sub I I') (h : PG I v gs) : PG I' v gs := by
  obtain ⟨a, vs, e, h1, h2⟩ := h
  exact ⟨a, vs, e, ⟨s.sub _ _ h1.eq⟩, h2.mono s⟩
def GoodS (I : Hp) (s : Src) : Prop := s.used = false ∧ Gd I s.vs s.gs ∧ ∃ n, n < 4 ∧ Fill s.gs n
theorem GoodS.mono {I I' : Hp} {s : Src} (e : Sub I I') (h : GoodS I s) : GoodS I' s := ⟨h.1, h.2.1.mono e, h.2.2⟩
theorem GoodS.len (h : GoodS I s) : s.vs.length < 4 := by
  obtain ⟨_, g, n, hn, f⟩ := h
  rw [Paired.length g, f.1]
  exact hn
theorem usz_le {l : List Src} (h : ∀ s ∈ l, GoodS I s) : usz l ≤ 12 * l.length := by
  unfold usz unus
  induction l with
  | nil => simp
  | cons s l ih =>
    obtain ⟨hu, _, n, hn, f⟩ := h s List.mem_cons_self
    have h1 := ih fun t ht => h t (List.mem_cons_of_mem _ ht)
    have h2 := f.size
    rw [List.filter_cons, if_pos (by rw [hu]; rfl), List.map_cons, List.sum_cons, List.length_cons]
    omega
theorem law_fill_spec {a : Addr} {ns : List Int} [o : Own I ((p.h, p.obj K) :: (p.so, .lst (([] : List Src).map Src.v)) :: (srcC K [] ++ F)) H] [c : ImQ K I a (ns.map V.int)]
    (q : ∀ (I' H' : Hp) (lg : Addr) (gv : List V) (l : List Src), Sub1 I I' → l.length = 3 → (∀ (j : Nat) s, l[j]? = some s → s.n = 20 + (j : Int)) → (∀ s ∈ l, GoodS I' s) → Paired (PG I') gv (l.map Src.gs) →
      Own I' ((lg, .lst gv) :: (p.h, p.obj K) :: (p.so, .lst (l.map Src.v)) :: (srcC K l ++ F)) H' → Q (.ref lg) H') : p__law_fill K w [.ref p.h, .ref a] H Q E := by
  refine i__law_fill ?_
  walk_at "go"
  refine g_lstM (sz 0) fun lg H1 o1 => ?_
  walk_at "go"
  refine g_rng2 (by omega) ?_
  walk_at "go"
  refine for_r (fun i σ H' => ∃ I' gv l v3 v4 v5 v6 v7 v8 v9, σ = [some (.ref p.h), some (.ref a), some (.ref lg), v3, v4, v5, v6, v7, v8, v9] ∧ Sub1 I I' ∧ l.length = i ∧ (∀ (j : Nat) s, l[j]? = some s → s.n = 20 + (j : Int)) ∧ (∀ s ∈ l, GoodS I' s) ∧ Paired (PG I') gv (l.map Src.gs) ∧
      Own I' ((lg, .lst gv) :: (p.h, p.obj K) :: (p.so, .lst (l.map Src.v)) :: (srcC K l ++ F)) H') ⟨I, [], [], _, _, _, _, _, _, _, rfl, ⟨fun _ _ h => h⟩, rfl, fun j s h => by simp at h, fun s h => by simp at h, .nil, o1⟩ ?_ ?_
  · rintro i σ H2 hi ⟨I2, gv, l, v3, v4, v5, v6, v7, v8, v9, rfl, s2, hl, hn, hg, hp, o2⟩
    have hi3 : i < 3 := by simpa using hi
    walk_at "go"
    refine law_row_spec (ns := ns) fun row => ?_
    walk_at "go"
    refine g_lstI (sz 1) fun ar I3 H3 s3 i3 o3 => ?_
    walk_at "go"
    refine g_tup (sz _ (by show 4 ≤ _; decide)) fun tr I4 H4 s4 i4 o4 => ?_
    walk_at "go"
    refine law_serve_spec fun r rdx t e wi ap rq qdx I5 H5 s5 i5 o5 Q' qq => ?_
    have o5' := o5.perm (M' := (p.h, p.obj K) :: (p.so, .lst (l.map Src.v)) :: (srcC K l ++ ((lg, .lst gv) :: ((ap, .lst []) :: (wi, .lst []) :: (e, .lst []) :: (t, .lst []) :: (r, .ins (cReply K) rdx (f_Reply (.ref t) (.ref e) (.ref wi) (.ref ap))) :: F)))) (by walk_at "prm")
    clear o5
    refine serve_source_spec (o := o5') (by omega) rfl rfl fun I6 H6 x dx g s6 o6 => qq _ ?_
    refine g_tup (sz _ (by show 2 ≤ _; decide)) fun tt I7 H7 s7 i7 o7 => ?_
    have o8 := (o7.perm (M' := [(ap, .lst []), (wi, .lst []), (e, .lst []), (t, .lst []), (r, .ins (cReply K) rdx (f_Reply (.ref t) (.ref e) (.ref wi) (.ref ap)))] ++ ((p.h, p.obj K) :: (p.so, .lst ((l ++ [(⟨x, dx, g, [], 20 + (i : Int), [], false⟩ : Src)]).map Src.v)) :: (srcC K (l ++ [⟨x, dx, g, [], 20 + (i : Int), [], false⟩]) ++ ((lg, .lst gv) :: F)))) (by walk_at "prm")).drop
    have sb7 : Sub I2 I7 := inferInstance
    clear o7 o6 o5' o4 o3 o2
    walk_at "go"
    refine g_lstM (sz 0) fun lp H9 o9 => ?_
    walk_at "go"
    refine g_mod (by decide) ?_
    have r0 := Int.emod_nonneg row (show (4 : Int) ≠ 0 by decide)
    have r1 := Int.emod_lt_of_pos row (show (0 : Int) < 4 by decide)
    walk_at "go"
    refine g_rng1 (by omega) (by omega) ?_
    have hnum : ∀ t ∈ l, t.n ≠ 20 + (i : Int) := fun t ht => by
      obtain ⟨j, hj, ej⟩ := List.mem_iff_getElem.mp ht
      have := hn j t (by rw [List.getElem?_eq_getElem hj, ej])
      omega
    walk_at "go"
    refine for_r (fun k σ H' => ∃ I' pv s v6 v7 v8 v9, σ = [some (.ref p.h), some (.ref a), some (.ref lg), some (.int (20 + (i : Int))), some (.int row), some (.ref lp), v6, v7, v8, v9] ∧ Sub1 I7 I' ∧ s.n = 20 + (i : Int) ∧ s.used = false ∧ Gd I' s.vs s.gs ∧ Fill s.gs k ∧ Gd I' pv s.gs ∧
      Own I' ((lp, .lst pv) :: (p.h, p.obj K) :: (p.so, .lst ((l ++ [s]).map Src.v)) :: (srcC K (l ++ [s]) ++ ((lg, .lst gv) :: F))) H') ⟨I7, [], _, _, _, _, _, rfl, ⟨fun _ _ h => h⟩, rfl, rfl, .nil, ⟨rfl, fun j q h => by simp at h⟩, .nil, o9⟩ ?_ ?_
    · rintro k σ Ha hk ⟨Ia, pv, s, v6, v7, v8, v9, rfl, sa, es, eu, gs, fs, gp, oa⟩
      have hk4 : k < 4 := by omega
      walk_at "go"
      refine g_strI (by
        have : ((0 : Int) + (k : Nat)).natAbs = k := by omega
        rw [this]
        have : k.log2 ≤ k := Nat.log2_le_self k
        omega) ?_
      walk_at "go"
      refine g_addT (sz _ (by
        have := kS_len2 k hk4
        omega)) ?_
      walk_at "go"
      refine g_div (cdivw (by omega) (by omega)) ?_
      walk_at "go"
      refine g_mod (by decide) ?_
      have q0 := Int.emod_nonneg (row / (9 + (0 + (k : Int)))) (show (5 : Int) ≠ 0 by decide)
      have q1 := Int.emod_lt_of_pos (row / (9 + (0 + (k : Int)))) (show (0 : Int) < 5 by decide)
      walk_at "go"
      refine g_rng1 (by omega) (by omega) ?_
      walk_at "go"
      refine lc_r (fun j I' acc => ∃ os : List Int, acc = os.map V.int ∧ os.length = j) ⟨[], rfl, rfl⟩ ?_ ?_
      · rintro j pc Ib acc Hb hj sb hle ⟨os, rfl, ho⟩ ob
        walk_at "go"
        refine ⟨rfl, ?_⟩
        walk_at "go"
        refine g_div (cdivw (by omega) (by omega)) ?_
        walk_at "go"
        refine g_mod (by decide) ?_
        refine g_app sb.any hle (szl _ (by omega)) ⟨os ++ [_], by rw [List.map_append]; rfl, by rw [List.length_append, ho]; rfl⟩
      · rintro po Ib acc Hb sb hle ⟨os, rfl, ho⟩ ob
        have hos : os.length ≤ 4 := by omega
        have sc := ob.frzSub
        have ic : Im (upd Ib po (.lst (os.map V.int))) po _ := Im.new
        have oc := ob.freeze
        clear ob
        generalize upd Ib po (.lst (os.map V.int)) = Ic at *
        walk_at "go"
        refine g_listI fun lo Id Hd sd id od => ?_
        walk_at "go"
        refine g_lstI (sz 2) fun ar2 Ie He se ie oe => ?_
        walk_at "go"
        refine g_tup (sz _ (by show 4 ≤ _; decide)) fun tr2 If Hf sf if_ of_ => ?_
        walk_at "go"
        refine law_serve_spec fun r rdx t e wi ap rq qdx Ig Hg sg ig og Q' qq => ?_
        have og' := og.perm (M' := (p.h, p.obj K) :: (p.so, .lst ((l ++ [s]).map Src.v)) :: (srcC K (l ++ [s]) ++ ((lp, .lst pv) :: (lg, .lst gv) :: ((ap, .lst []) :: (wi, .lst []) :: (e, .lst []) :: (t, .lst []) :: (r, .ins (cReply K) rdx (f_Reply (.ref t) (.ref e) (.ref wi) (.ref ap))) :: F)))) (by walk_at "prm")
        clear og
        rw [← es] at ig
        have hgS : ∀ t ∈ l ++ [s], GoodS Ig t := fun t ht => by
          rcases List.mem_append.mp ht with ht | ht
          · exact (hg t ht).mono (sb7.trans inferInstance)
          · simp at ht
            subst ht
            exact ⟨eu, gs.mono inferInstance, k, hk4, fs⟩
        have hus := usz_le hgS
        rw [List.length_append, hl] at hus
        have fp := fs.put hk4 hos
        refine serve_write_spec (ol := lo) (k := kS k) (os := os) (o := og') (by rw [es]; exact hnum) eu (fun t ht => ⟨(hgS t ht).2.1, by have := (hgS t ht).len; omega⟩) (by rw [List.length_append, hl]; simp; omega) (kS_len k hk4) (by simp at hus; omega) (by rw [Paired.length gs, fs.1]; omega) (fun q hq => by
          obtain ⟨j, hj, ej⟩ := List.mem_iff_getElem.mp hq
          have := (fs.2 j q (by rw [List.getElem?_eq_getElem hj, ej])).2
          omega) fun Ih Hh vs' sh gh oh => qq _ ?_
        rw [fp.1] at gh oh
        refine g_tup (sz _ (by show 2 ≤ _; decide)) fun tt2 Ii Hi si ii oi => ?_
        have oj := (oi.perm (M' := [(ap, .lst []), (wi, .lst []), (e, .lst []), (t, .lst []), (r, .ins (cReply K) rdx (f_Reply (.ref t) (.ref e) (.ref wi) (.ref ap)))] ++ ((lp, .lst pv) :: (p.h, p.obj K) :: (p.so, .lst ((l ++ [{ s with vs := vs', gs := s.gs ++ [(kS k, os)] }]).map Src.v)) :: (srcC K (l ++ [{ s with vs := vs', gs := s.gs ++ [(kS k, os)] }]) ++ ((lg, .lst gv) :: F)))) (by
          have em : (l ++ [({ s with vs := vs', gs := s.gs ++ [(kS k, os)] } : Src)]).map Src.v = (l ++ [s]).map Src.v := by simp
          rw [em]
          walk_at "prm")).drop
        clear oi oh og' of_ oe od oc
        walk_at "go"
        refine g_tup (sz _ (by show 2 ≤ _; decide)) fun tp Ij Hj sj ij ok => ?_
        walk_at "go"
        refine g_append (szl _ (by rw [Paired.length gp, fs.1]; omega)) fun Hk om => ?_
        walk_at "go"
        refine ⟨Ij, _, { s with vs := vs', gs := s.gs ++ [(kS k, os)] }, _, _, _, _, rfl, Sub.one inferInstance, es, eu, Gd.mono inferInstance gh, fp.2, Paired.app (Gd.mono inferInstance gp) (.cons ⟨tp, po, rfl, ij, inferInstance⟩ .nil), om⟩
    · rintro σ Ha ⟨Ia, pv, s, v6, v7, v8, v9, rfl, sa, es, eu, gs, fs, gp, oa⟩
      walk_at "go"
      refine g_append (szl _ (by rw [Paired.length hp, List.length_map, hl]; omega)) fun Hb ob => ?_
      walk_at "go"
      have oc := (ob.perm (M' := (lp, .lst pv) :: ((lg, .lst (gv ++ [.ref lp])) :: (p.h, p.obj K) :: (p.so, .lst ((l ++ [s]).map Src.v)) :: (srcC K (l ++ [s]) ++ F))) (by walk_at "prm"))
      have sc := oc.frzSub
      have ic : Im (upd Ia lp (.lst pv)) lp _ := Im.new
      have od := oc.freeze
      clear oc ob
      generalize upd Ia lp (.lst pv) = Ic at *
      have sI : Sub I2 Ic := sb7.trans inferInstance
      refine ⟨Ic, gv ++ [.ref lp], l ++ [s], _, _, _, _, _, _, _, rfl, Sub.one (Sub.trans s2.any sI), by rw [List.length_append, hl]; rfl, fun j t hj => ?_, fun t ht => ?_, ?_, od⟩
      · by_cases hjl : j < l.length
        · rw [List.getElem?_append_left hjl] at hj
          exact hn j t hj
        · have hj2 : j = l.length := by
            have := (List.getElem?_eq_some_iff.mp hj).1
            simp at this
            omega
          subst hj2
          simp at hj
          subst hj
          rw [es, hl]
      · rcases List.mem_append.mp ht with ht | ht
        · exact (hg t ht).mono sI
        · simp at ht
          subst ht
          exact ⟨eu, gs.mono inferInstance, _, by omega, fs⟩
      · rw [List.map_append]
        exact Paired.app (Paired.mp (fun _ _ => PG.mono sI) hp) (.cons ⟨lp, pv, rfl, ic, gp.mono inferInstance⟩ .nil)
  · rintro σ H2 ⟨I2, gv, l, v3, v4, v5, v6, v7, v8, v9, rfl, s2, hl, hn, hg, hp, o2⟩
    walk_at "go"
    exact q I2 H2 lg gv l s2 (by simpa using hl) hn hg hp o2
end
section
variable {K : PySem.W.Frag} [T : TxtK K] {w : World} {H : Hp} {Q : VK} {E : XK} {I : Hp} {M F : Cs} {p : HA} {l A B : List Src} {s : Src}
def gItems (gs : List (Str × List Int)) : List PyData := gs.map fun q => .tuple [.str q.1, .list (q.2.map .int)]
theorem Gd.dp {vs : List V} {gs : List (Str × List Int)} (o : Own I M H) (g : Gd I vs gs) : DpAll K H vs (gItems gs) := by
  induction g with
  | nil => exact .nil
  | cons r t ih =>
    obtain ⟨a, b, rfl, h1, h2⟩ := r
    exact .cons (dp_tup (o.im _ _ h1.eq) (.cons (.str _) (.cons (dp_lst (o.im _ _ h2.eq) (dp_ints _)) .nil))) ih
theorem canInts : ∀ ns : List Int, PyData.canLayAll0 (ns.map PyData.int) = true
  | [] => rfl
  | n :: ns => by
    rw [List.map_cons, PyData.canLayAll0, canInts ns]; rfl
theorem depInts : ∀ ns : List Int, PyData.depthAll (ns.map PyData.int) = 0
  | [] => rfl
  | n :: ns => by
    rw [List.map_cons, PyData.depthAll, depInts ns]; rfl
theorem canItems : ∀ gs : List (Str × List Int), (∀ q ∈ gs, PyData.canLay0 (.str q.1) = true) → PyData.canLayAll0 (gItems gs) = true
  | [], _ => rfl
  | q :: gs, h => by
    have h1 := h q List.mem_cons_self
    have h2 := canItems gs fun r hr => h r (List.mem_cons_of_mem _ hr)
    unfold gItems at h2 ⊢
    rw [List.map_cons, PyData.canLayAll0, h2, PyData.canLay0, PyData.canLayAll0, h1, PyData.canLayAll0, PyData.canLay0, canInts]
    rfl
theorem depItems : ∀ gs : List (Str × List Int), PyData.depthAll (gItems gs) ≤ 2
  | [] => by decide
  | q :: gs => by
    have h2 := depItems gs
    unfold gItems at h2 ⊢
    rw [List.map_cons, PyData.depthAll, PyData.depth, PyData.depthAll, PyData.depthAll, PyData.depth, PyData.depth, depInts, PyData.depthAll]
    omega
theorem fill_can {gs : List (Str × List Int)} {n : Nat} (h : Fill gs n) (hn : n < 4) : ∀ q ∈ gs, PyData.canLay0 (.str q.1) = true := fun q hq => by
  obtain ⟨j, hj, e⟩ := List.mem_iff_getElem.mp hq
  rw [(h.2 j q (by rw [List.getElem?_eq_getElem hj, e])).1]
  exact kS_ok j (by have := h.1; omega)
/-- what is due, as data -/
def dueD (deed : Str) (gs : List (Str × List Int)) (pr : Int) : PyData := .list [.tuple [.str "spend"], .tuple (.str deed :: .list (gItems gs) :: (if deed = "give" then [.bool (!decide (pr = 0))] else []))]
theorem due_shaped {deed : Str} {gs : List (Str × List Int)} {pr : Int} (hd : deed = "give" ∨ deed = "drag") (h : ∀ q ∈ gs, PyData.canLay0 (.str q.1) = true) : SeqAt.shaped (dueD deed gs pr) = true := by
  have h1 := canItems gs h
  have h2 := depItems gs
  unfold SeqAt.shaped dueD
  have e1 : PyData.canLay0 (.str ("spend" : Str)) = true := by decide +kernel
  have e2 : PyData.canLay0 (.str ("give" : Str)) = true := by decide +kernel
  have e3 : PyData.canLay0 (.str ("drag" : Str)) = true := by decide +kernel
  have e4 : ¬ (("drag" : Str) = "give") := by decide +kernel
  rw [Bool.and_eq_true]
  rcases hd with rfl | rfl
  · rw [if_pos rfl]
    refine ⟨?_, decide_eq_true ?_⟩
    · simp [PyData.canLay0, PyData.canLayAll0, h1] at e1 e2 ⊢
      exact ⟨e1, e2⟩
    · simp [PyData.depth, PyData.depthAll]
      omega
  · rw [if_neg e4]
    refine ⟨?_, decide_eq_true ?_⟩
    · simp [PyData.canLay0, PyData.canLayAll0, h1] at e1 e3 ⊢
      exact ⟨e1, e3⟩
    · simp [PyData.depth, PyData.depthAll]
      omega
theorem law_due_spec {deed : Str} {v : V} {pr : Int} [o : Own I M H] (hd : deed = "give" ∨ deed = "drag")
    (q : ∀ (I' H' : Hp) (x a t : Addr), Sub1 I I' → Im I' x (.lst [.ref a, .ref t]) → Im I' a (.tup [.str "spend"]) → Im I' t (.tup (.str deed :: v :: (if deed = "give" then [.bl (!decide (pr = 0))] else []))) → Own I' M H' → Q (.ref x) H') :
    p__law_due K w [.str deed, v, .int pr] H Q E := by
  refine i__law_due ?_
  rcases hd with rfl | rfl
  · walk_at "go"
    refine g_tup (sz _ (by show 1 ≤ _; decide)) fun a I1 H1 s1 i1 o1 => ?_
    walk_at "go"
    refine g_tup (sz _ (by show 3 ≤ _; decide)) fun t I2 H2 s2 i2 o2 => ?_
    walk_at "go"
    refine g_lstI (sz 2) fun x I3 H3 s3 i3 o3 => ?_
    refine q I3 H3 x a t (Sub.one inferInstance) i3 inferInstance ?_ o3
    rw [if_pos rfl]
    infer_instance
  · walk_at "go"
    refine g_tup (sz _ (by show 1 ≤ _; decide)) fun a I1 H1 s1 i1 o1 => ?_
    walk_at "go"
    refine g_tup (sz _ (by show 2 ≤ _; decide)) fun t I2 H2 s2 i2 o2 => ?_
    walk_at "go"
    refine g_lstI (sz 2) fun x I3 H3 s3 i3 o3 => ?_
    refine q I3 H3 x a t (Sub.one inferInstance) i3 inferInstance ?_ o3
    rw [if_neg (by decide +kernel)]
    infer_instance
end
section
variable {K : PySem.W.Frag} {σ : L2.St} {H : Hp} {D : Ends} {t1 t2 : TS} {t : TT}
theorem seq_finP (P : Hp → Prop) (fin : ∀ H', P H' → t2 D σ H') (h : ∀ N : L2.St → Hp → Prop, (∀ H', P H' → N σ H') → t1 { D with nx := N } σ H) : tSeq t1 t2 D σ H := h _ fin
theorem t_via {Q : Bool → Hp → Prop} (b : Bool) (h : ∀ R : Bool → Hp → Prop, R b H → t σ H R) (q : Q b H) : t σ H Q := h Q q
end
section
variable {K : PySem.W.Frag} [T : TxtK K] {w : World} {H : Hp} {Q : VK} {E : XK} {I : Hp} {M F : Cs} {p : HA} {l A B : List Src} {s : Src}
theorem Paired.at {X Y : Type} {P : X → Y → Prop} : ∀ {xs : List X} {ys : List Y}, Paired P xs ys → ∀ {j : Nat} {y : Y}, ys[j]? = some y → ∃ x, xs[j]? = some x ∧ P x y
  | _, _, .nil, j, y, h => by simp at h
  | _, _, .cons p _, 0, y, h => by
    simp at h
    subst h
    exact ⟨_, rfl, p⟩
  | _, _, .cons _ r, j + 1, y, h => by
    simp only [List.getElem?_cons_succ] at h ⊢
    exact Paired.at r h
set_option linter.all false in
theorem wish_dp {wi a t : Addr} {deed : Str} {pr : Int} {gs : List (Str × List Int)} (o : Own I M H) (h : H wi = some (.lst [.ref a, .ref t])) (ha : Im I a (.tup [.str "spend"])) (W : Wish I deed (if deed = "give" then [.bl (!decide (pr = 0))] else []) gs (.ref t)) : Dp K H (.ref wi) (dueD deed gs pr) := by
  obtain ⟨b, g, vs, e, h1, h2, h3⟩ := W
  cases e
  refine dp_lst h (.cons (dp_tup (o.im _ _ ha.eq) (.cons (.str _) .nil)) (.cons (dp_tup (o.im _ _ h1.eq) (.cons (.str _) (.cons (dp_lst (o.im _ _ h2.eq) (h3.dp o)) ?_))) .nil))
  by_cases hd : deed = "give"
  · rw [if_pos hd, if_pos hd]
    exact .cons (.bl _) .nil
  · rw [if_neg hd, if_neg hd]
    exact .nil
theorem Wish.mono {I I' : Hp} {deed : Str} {prim : List V} {gs : List (Str × List Int)} {t : V} (s : Sub I I') (h : Wish I deed prim gs t) : Wish I' deed prim gs t := by
  obtain ⟨a, g, vs, e, h1, h2, h3⟩ := h
  exact ⟨a, g, vs, e, ⟨s.sub _ _ h1.eq⟩, ⟨s.sub _ _ h2.eq⟩, h3.mono s⟩
def GoodU (I : Hp) (s : Src) : Prop := Gd I s.vs s.gs ∧ ∃ n, n < 4 ∧ Fill s.gs n
theorem GoodU.mono {I I' : Hp} {s : Src} (e : Sub I I') (h : GoodU I s) : GoodU I' s := ⟨h.1.mono e, h.2⟩
theorem GoodU.len (h : GoodU I s) : s.vs.length < 1000 := by
  obtain ⟨g, n, hn, f⟩ := h
  rw [Paired.length g, f.1]
  omega
abbrev usedL (l : List Src) : List V := l.map fun s => V.bl s.used
theorem usedL_0 (h3 : l.length = 3) (h : ∀ s ∈ l, s.used = false) : usedL l = [.bl false, .bl false, .bl false] := by
  match l, h3 with
  | [x, y, z], _ =>
    simp only [usedL, List.map_cons, List.map_nil]
    rw [h x (by simp), h y (by simp), h z (by simp)]
theorem grants (r : Int) : ∃ v : V, ([V.non, .int 1, .int 2, .int 3] : List V)[(r % 4).toNat]? = some v ∧ (v = .non ∨ ∃ g, v = .int g) := by
  have h0 := Int.emod_nonneg r (show (4 : Int) ≠ 0 by decide)
  have h1 := Int.emod_lt_of_pos r (show (0 : Int) < 4 by decide)
  have : (r % 4).toNat < 4 := by omega
  generalize (r % 4).toNat = j at *
  match j, this with
  | 0, _ => exact ⟨_, rfl, .inl rfl⟩
  | 1, _ => exact ⟨_, rfl, .inr ⟨_, rfl⟩⟩
  | 2, _ => exact ⟨_, rfl, .inr ⟨_, rfl⟩⟩
  | 3, _ => exact ⟨_, rfl, .inr ⟨_, rfl⟩⟩
theorem deeds (r : Int) : ∃ d : Str, ([V.str "give", .str "drag"] : List V)[(r % 2).toNat]? = some (.str d) ∧ (d = "give" ∨ d = "drag") := by
  have h0 := Int.emod_nonneg r (show (2 : Int) ≠ 0 by decide)
  have h1 := Int.emod_lt_of_pos r (show (0 : Int) < 2 by decide)
  have : (r % 2).toNat < 2 := by omega
  generalize (r % 2).toNat = j at *
  match j, this with
  | 0, _ => exact ⟨_, rfl, .inl rfl⟩
  | 1, _ => exact ⟨_, rfl, .inr rfl⟩
theorem split_at {X : Type} : ∀ {l : List X} {j : Nat}, j < l.length → ∃ A s B, l = A ++ s :: B ∧ A.length = j
  | x :: l, 0, _ => ⟨[], x, l, rfl, rfl⟩
  | x :: l, j + 1, h => by
    obtain ⟨A, s, B, e, ej⟩ := split_at (l := l) (j := j) (by simpa using h)
    exact ⟨x :: A, s, B, by rw [e]; rfl, by rw [List.length_cons, ej]⟩
theorem law_spec {a : Addr} {ns : List Int} [o : Own I [] H] [c : ImQ K I a (ns.map V.int)] (q : ∀ H', Q (.bl true) H') : p_law K w [.ref a] H Q E := by
  refine i_law ?_
  walk_at "go"
  refine g_make fun h hdx I1 H1 s1 o1 => ?_
  refine Holdings_init_spec (o := o1) fun pa so of ca fe wa na H2 o2 => ⟨rfl, ?_⟩
  walk_at "go"
  have o3 := o2.perm (M' := (h, HA.obj K ⟨h, hdx, pa, so, of, ca, fe, wa, na, false⟩) :: (so, .lst (([] : List Src).map Src.v)) :: (srcC K [] ++ [(na, .lst []), (wa, .lst []), (fe, .lst []), (ca, .lst []), (of, .lst []), (pa, .lst [])])) (by
    unfold srcC
    rw [List.flatMap_nil]
    dsimp only [HA.obj]
    walk_at "prm")
  clear o2 o1
  refine law_fill_spec (p := ⟨h, hdx, pa, so, of, ca, fe, wa, na, false⟩) (ns := ns) (o := o3) fun I4 H4 lg gv l s4 hl hn hg hp o4 => ?_
  clear o3
  generalize hF : [(na, HO.lst []), (wa, .lst []), (fe, .lst []), (ca, .lst []), (of, .lst []), (pa, .lst [])] = F at *
  generalize hp0 : (⟨h, hdx, pa, so, of, ca, fe, wa, na, false⟩ : HA) = p at *
  have eh : h = p.h := by rw [← hp0]
  subst eh
  have s5 := o4.frzSub
  have i5 : Im (upd I4 lg (.lst gv)) lg _ := Im.new
  have o5 := o4.freeze
  clear o4
  generalize upd I4 lg (.lst gv) = I5 at *
  walk_at "go"
  refine g_lstM (sz 3) fun lu H6 o6 => ?_
  have hu0 := usedL_0 hl fun s hs => (hg s hs).1
  rw [show ([V.bl false, V.bl false, V.bl false] : List V) = usedL l from hu0.symm] at o6
  walk_at "go"
  refine g_rng1 (by split <;> omega) (by split <;> omega) ?_
  walk_at "go"
  refine for_r (fun i σ H' => ∃ I' l v4 v5 v6 v7 v8 v9 v10 v11 v12 v13 v14 v15, σ = [some (.ref a), some (.ref p.h), some (.ref lg), some (.ref lu), v4, v5, v6, v7, v8, v9, v10, v11, v12, v13, v14, v15] ∧ Sub1 I5 I' ∧ l.length = 3 ∧ (∀ (j : Nat) n, (l.map Src.n)[j]? = some n → n = 20 + (j : Int)) ∧ (∀ s ∈ l, GoodU I' s) ∧ Paired (PG I') gv (l.map Src.gs) ∧
      Own I' ((lu, .lst (usedL l)) :: (p.h, p.obj K) :: (p.so, .lst (l.map Src.v)) :: (srcC K l ++ F)) H') ⟨I5, l, _, _, _, _, _, _, _, _, _, _, _, _, rfl, ⟨fun _ _ h => h⟩, hl, fun j n h => ?_, fun s hs => ?_, Paired.mp (fun _ _ => PG.mono s5.any) hp, ?_⟩ ?_ ?_
  · rw [List.getElem?_map] at h
    obtain ⟨s, e1, e2⟩ := Option.map_eq_some_iff.mp h
    rw [← e2]
    exact hn j s e1
  · exact ⟨((hg s hs).2.1).mono s5.any, (hg s hs).2.2⟩
  · exact o6
  · clear hp hg hn hl hu0 o6 o5
    clear l
    rintro i σ H7 hi ⟨I7, l, v4, v5, v6, v7, v8, v9, v10, v11, v12, v13, v14, v15, rfl, s7, hl, hn, hg, hp, o7⟩
    walk_at "go"
    refine law_row_spec (ns := ns) fun row => ?_
    walk_at "go"
    refine g_mod (by decide) ?_
    have j0 := Int.emod_nonneg row (show (3 : Int) ≠ 0 by decide)
    have j1 := Int.emod_lt_of_pos row (show (0 : Int) < 3 by decide)
    obtain ⟨j, ej⟩ : ∃ j : Nat, row % 3 = (j : Int) := ⟨(row % 3).toNat, by omega⟩
    rw [ej] at j0 j1 ⊢
    walk_at "go"
    refine g_div (cdivw (by omega) (by omega)) ?_
    walk_at "go"
    refine g_mod (by decide) ?_
    walk_at "go"
    refine g_div (cdivw (by omega) (by omega)) ?_
    walk_at "go"
    refine g_mod (by decide) ?_
    walk_at "go"
    generalize row / 3 % 3 + row / 27 % 2 = ser
    refine g_lstI (sz 4) fun b8 I8 H8 s8 i8 o8 => ?_
    walk_at "go"
    refine g_div (cdivw (by omega) (by omega)) ?_
    walk_at "go"
    refine g_mod (by decide) ?_
    obtain ⟨grant, eg, hgr⟩ := grants (row / 9)
    refine g_ixLn (Int.emod_nonneg _ (by decide)) eg ?_
    walk_at "go"
    refine g_div (cdivw (by omega) (by omega)) ?_
    walk_at "go"
    refine g_mod (by decide) ?_
    generalize row / 36 % 3 = pr
    walk_at "go"
    refine g_div (cdivw (by omega) (by omega)) ?_
    walk_at "go"
    refine g_mod (by decide) ?_
    walk_at "go"
    generalize decide ((0 : Int) < row / 108 % 4) = b1
    refine g_div (cdivw (by omega) (by omega)) ?_
    walk_at "go"
    refine g_mod (by decide) ?_
    walk_at "go"
    generalize decide (row / 432 % 4 = (0 : Int)) = b2
    refine g_lstI (sz 2) fun b9 I9 H9 s9 i9 o9 => ?_
    walk_at "go"
    refine g_div (cdivw (by omega) (by omega)) ?_
    walk_at "go"
    refine g_mod (by decide) ?_
    obtain ⟨deed, ed, hde⟩ := deeds (row / 1728)
    refine g_ixLn (Int.emod_nonneg _ (by decide)) ed ?_
    walk_at "go"
    refine g_lstM (sz 2) fun ar H10 o10 => ?_
    dsimp only
    obtain ⟨A, s, B, el, eA⟩ := split_at (l := l) (j := j) (by omega)
    subst el
    have esn : s.n = 20 + (j : Int) := hn j s.n (by rw [← eA]; simp)
    have hnA : ∀ t ∈ A, t.n ≠ s.n := fun t ht => by
      obtain ⟨k, hk, ek⟩ := List.mem_iff_getElem.mp ht
      have := hn k t.n (by rw [List.getElem?_map, List.getElem?_append_left hk, List.getElem?_eq_getElem hk, ek]; rfl)
      omega
    have hgs := hg s (by simp)
    rw [← esn] at o10
    refine seq_finP (fun H' => ∃ more, ((deed = "give" ∧ more = [.int pr]) ∨ (deed = "drag" ∧ more = [])) ∧ Own I9 ((ar, .lst (.int s.n :: .int ser :: more)) :: (lu, .lst (usedL (A ++ s :: B))) :: (p.h, p.obj K) :: (p.so, .lst ((A ++ s :: B).map Src.v)) :: (srcC K (A ++ s :: B) ++ F)) H') ?_ fun N fin => ?_
    · clear o10 H10
      rintro H10 ⟨more, hmore, o10⟩
      have s11 := o10.frzSub
      have i11 : Im (upd I9 ar (.lst (.int s.n :: .int ser :: more))) ar _ := Im.new
      have o11 := o10.freeze
      clear o10 o9 o8 o7
      generalize upd I9 ar (.lst (.int s.n :: .int ser :: more)) = I11 at *
      walk_at "go"
      refine g_tup (sz _ (by show 4 ≤ _; decide)) fun tr I12 H12 s12 i12 o12 => ?_
      walk_at "go"
      refine law_serve_spec fun r rdx t e wi ap rq qdx I13 H13 s13 i13 o13 Q' qq => ?_
      have o14 := o13.perm (M' := (p.h, p.obj K) :: (p.so, .lst ((A ++ s :: B).map Src.v)) :: (srcC K (A ++ s :: B) ++ ((r, .ins (cReply K) rdx (f_Reply (.ref t) (.ref e) (.ref wi) (.ref ap))) :: (wi, .lst []) :: (t, .lst []) :: (e, .lst []) :: (ap, .lst []) :: (lu, .lst (usedL (A ++ s :: B))) :: F))) (by walk_at "prm")
      clear o13 o12 o11
      have sb : Sub I7 I13 := inferInstance
      generalize hcd : (dueOf s grant ser && (decide (deed = "give") || (b1 && !b2))) = cd
      have rest : ∀ (I15 H15 : Hp) (s' : Src) (ws : List V), Sub1 I13 I15 → Own I15 ((p.h, p.obj K) :: (p.so, .lst ((A ++ s :: B).map Src.v)) :: (srcC K (A ++ s' :: B) ++ ((r, .ins (cReply K) rdx (f_Reply (.ref t) (.ref e) (.ref wi) (.ref ap))) :: (wi, .lst ws) :: (t, .lst []) :: (e, .lst []) :: (ap, .lst []) :: (lu, .lst (usedL (A ++ s :: B))) :: F))) H15 →
          ((cd = false ∧ s' = s ∧ ws = []) ∨ (cd = true ∧ s' = { s with used := true } ∧ ∃ aw tw, ws = [.ref aw, .ref tw] ∧ Im I15 aw (.tup [.str "spend"]) ∧ Wish I15 deed (if deed = "give" then [.bl (!decide (pr = 0))] else []) s.gs (.ref tw))) → Q' .non H15 := by
        intro I15 H15 s' ws s15 o15 hor
        refine qq _ ?_
        clear qq o14
        refine g_tup (sz _ (by show 2 ≤ _; decide)) fun tt I16 H16 s16 i16 o16 => ?_
        clear o15
        walk_at "go"
        refine g_lstI (sz 0) fun em I17 H17 s17 i17 o17 => ?_
        clear o16
        refine g_neSame (d := .list []) (dp_lst Ob.eq .nil) (dp_lst Ob.eq .nil) (by decide) ?_
        walk_at "go"
        refine g_lstI (sz 0) fun dl I18 H18 s18 i18 o18 => ?_
        clear o17
        walk_at "s"
        walk_at "s"
        refine t_via cd (fun R rr => ?_) ?_
        · rw [← hcd] at rr
          rcases hgr with rfl | ⟨g, rfl⟩
          · walk_at "go"
            rw [show dueOf s V.non ser = false by unfold dueOf; simp, Bool.false_and] at rr
            exact rr
          · walk_at "go"
            refine if_dec (fun e => ?_) (fun e => ?_)
            · walk_at "go"
              refine g_ixLn (v := .bl s.used) (by omega) (by rw [show ((j : Int)).toNat = j by omega, ← eA]; simp [usedL]) ?_
              walk_at "go"
              refine if_b (fun eb => ?_) (fun eb => ?_)
              · have : dueOf s (V.int g) ser = true := by unfold dueOf; rw [eb, e]; simp
                rw [this, Bool.true_and] at rr
                rcases hde with rfl | rfl
                · walk_at "go"
                  exact rr
                · walk_at "go"
                  rw [show decide (("drag" : Str) = "give") = false by decide +kernel, Bool.false_or] at rr
                  cases b1 with
                  | true =>
                    walk_at "go"
                    exact rr
                  | false =>
                    walk_at "go"
                    exact rr
              · have : dueOf s (V.int g) ser = false := by unfold dueOf; rw [eb]; rfl
                rw [this, Bool.false_and] at rr
                exact rr
            · have : dueOf s (V.int g) ser = false := by unfold dueOf; simp [e]
              rw [this, Bool.false_and] at rr
              exact rr
        · refine if_b (fun hc => ?_) (fun hc => ?_)
          · rcases hor with ⟨hc2, _⟩ | ⟨_, rfl, aw, tw, rfl, iw, wt⟩
            · rw [hc] at hc2
              cases hc2
            walk_at "go"
            obtain ⟨gvj, egv, pgj⟩ := Paired.at hp (j := j) (y := s.gs) (by rw [← eA]; simp)
            refine g_ixLn (v := gvj) (by omega) (by rw [show ((j : Int)).toNat = j by omega]; exact egv) ?_
            walk_at "go"
            obtain ⟨pga, pgv, rfl, pgi, pgd⟩ := pgj
            refine law_due_spec hde fun I20 H20 x a' t' s20 ix ia' it' o20 => ?_
            walk_at "go"
            refine g_setL (by rw [List.length_map]; omega) fun H21 o21 => ?_
            walk_at "go"
            have sb2 : Sub I7 I20 := sb.trans inferInstance
            obtain ⟨_, fn, hfn, hfl⟩ := hgs
            refine g_neSame (d := dueD deed s.gs pr) (wish_dp o21 Ob.eq ⟨(inferInstance : Sub I15 I20).sub _ _ iw.eq⟩ (wt.mono inferInstance)) (wish_dp o21 Ob.eq ia' ⟨t', pga, pgv, rfl, it', ⟨sb2.sub _ _ pgi.eq⟩, pgd.mono sb2⟩) (due_shaped hde (fill_can hfl hfn)) ?_
            walk_at "go"
            have eS : (usedL (A ++ s :: B)).set j (.bl true) = usedL (A ++ { s with used := true } :: B) := by
              unfold usedL
              rw [List.map_append, List.map_append, List.map_cons, List.map_cons, ← eA, List.set_append_right _ _ (by rw [List.length_map]; exact Nat.le_refl _), List.length_map, Nat.sub_self, List.set_cons_zero]
            rw [eS] at o21
            have e1 : (A ++ ({ s with used := true } : Src) :: B).map Src.n = (A ++ s :: B).map Src.n := by simp
            have e2 : (A ++ ({ s with used := true } : Src) :: B).map Src.gs = (A ++ s :: B).map Src.gs := by simp
            have e3 : (A ++ ({ s with used := true } : Src) :: B).map Src.v = (A ++ s :: B).map Src.v := by simp
            refine ⟨I20, A ++ { s with used := true } :: B, _, _, _, _, _, _, _, _, _, _, _, _, rfl, Sub.one (s7.any.trans sb2), by simpa using hl, by rw [e1]; exact hn, fun t ht => ?_, by rw [e2]; exact Paired.mp (fun _ _ => PG.mono sb2) hp, by
              rw [e3]
              have := o21.perm (M' := [(r, .ins (cReply K) rdx (f_Reply (.ref t) (.ref e) (.ref wi) (.ref ap))), (wi, .lst [.ref aw, .ref tw]), (t, .lst []), (e, .lst []), (ap, .lst [])] ++ ((lu, .lst (usedL (A ++ { s with used := true } :: B))) :: (p.h, p.obj K) :: (p.so, .lst ((A ++ s :: B).map Src.v)) :: (srcC K (A ++ { s with used := true } :: B) ++ F))) (by walk_at "prm")
              exact this.drop⟩
            rcases List.mem_append.mp ht with ht | ht
            · exact (hg t (List.mem_append_left _ ht)).mono sb2
            · rcases List.mem_cons.mp ht with rfl | ht
              · exact GoodU.mono (s := s) sb2 (hg s (by simp))
              · exact (hg t (List.mem_append_right _ (List.mem_cons_of_mem _ ht))).mono sb2
          · rcases hor with ⟨_, rfl, rfl⟩ | ⟨hc2, _⟩
            · walk_at "go"
              refine g_neSame (d := .list []) (dp_lst Ob.eq .nil) (dp_lst Ob.eq .nil) (by decide) ?_
              walk_at "go"
              exact ⟨I18, A ++ s' :: B, _, _, _, _, _, _, _, _, _, _, _, _, rfl, Sub.one (s7.any.trans (sb.trans inferInstance)), hl, hn, fun t ht => (hg t ht).mono (sb.trans inferInstance), Paired.mp (fun _ _ => PG.mono (sb.trans inferInstance)) hp, by
                have := o18.perm (M' := [(r, .ins (cReply K) rdx (f_Reply (.ref t) (.ref e) (.ref wi) (.ref ap))), (wi, .lst []), (t, .lst []), (e, .lst []), (ap, .lst [])] ++ ((lu, .lst (usedL (A ++ s' :: B))) :: (p.h, p.obj K) :: (p.so, .lst ((A ++ s' :: B).map Src.v)) :: (srcC K (A ++ s' :: B) ++ F))) (by walk_at "prm")
                exact this.drop⟩
            · rw [hc] at hc2
              cases hc2
      refine serve_give_spec (ws := []) (o := o14) hnA (Gd.mono sb hgs.1) hgs.len hmore hgr (fun hc I15 H15 s15 o15 => rest I15 H15 s [] s15 o15 (.inl ⟨by rw [← hcd]; exact hc, rfl, rfl⟩)) (fun hc I15 H15 aw tw s15 ia wt o15 => rest I15 H15 _ _ s15 o15 (.inr ⟨by rw [← hcd]; exact hc, rfl, aw, tw, rfl, ia, wt⟩))
    · clear s8 i8 s9 i9 hg hp
      rcases hde with rfl | rfl
      · walk_at "go"
        refine g_append (szl _ (by show 2 < _; decide)) fun H11 o11 => ?_
        walk_at "go"
        exact fin _ ⟨_, .inl ⟨rfl, rfl⟩, o11⟩
      · walk_at "go"
        exact fin _ ⟨_, .inr ⟨rfl, rfl⟩, o10⟩
  · rintro σ H7 ⟨I7, l, v4, v5, v6, v7, v8, v9, v10, v11, v12, v13, v14, v15, rfl, s7, hl, hn, hg, hp, o7⟩
    walk_at "go"
    exact q _
end
section
variable {K : PySem.W.Frag} [T : TxtK K] {w : World}
theorem law_end {H : Hp} {a : Addr} {ns : List Int} (hl : ns.length ≤ 63) (hO : Only H) (hS : SqL K H a (ns.map V.int)) : p_law K w [.ref a] H (fun v _ => v = .bl true) fun _ _ _ => False := by
  haveI : Own H [] H := ⟨fun _ _ h => h, (fun c hc => nomatch hc), List.nodup_nil, (fun c hc => nomatch hc)⟩
  haveI : ImQ K H a (ns.map V.int) := ⟨hS⟩
  exact law_spec (ns := ns) fun _ => rfl
end
end SW
namespace SW
open PySem L2
def top (i : Nat) : Stmt := PySem.Challenge.pw_sillwatch_k62_give_and_drag.main.body.getD i (.Pass ⟨0, 0, 0, 0⟩)
abbrev s_check_sign_count : Stmt := top 11
abbrev s_goods_size : Stmt := top 12
abbrev s_piece_of : Stmt := top 13
abbrev s_copied : Stmt := top 14
abbrev s_Source___init__ : Stmt := inClass (top 15) 0
abbrev s_Source_write : Stmt := inClass (top 15) 1
abbrev s_by_number : Stmt := top 28
abbrev s_Holdings___init__ : Stmt := inClass (top 30) 0
abbrev s_Holdings_unused : Stmt := inClass (top 30) 6
abbrev s_Holdings_write : Stmt := inClass (top 30) 12
abbrev s_Reply_wish : Stmt := inClass (top 57) 3
abbrev s_Holdings_give : Stmt := inClass (top 30) 9
abbrev s_Holdings_serve_transfer : Stmt := inClass (top 30) 8
abbrev s_Holdings_serve : Stmt := inClass (top 30) 7
abbrev s_Reply___init__ : Stmt := inClass (top 57) 0
abbrev s_Request___init__ : Stmt := inClass (top 59) 0
abbrev s__law_cell : Stmt := top 61
abbrev s__law_row : Stmt := top 62
abbrev s__law_serve : Stmt := top 63
abbrev s__law_fill : Stmt := top 64
abbrev s__law_due : Stmt := top 65
abbrev s_law : Stmt := top 66
structure Dfs (K : PySem.W.Frag) : Prop where
  d_check_sign_count : FnP K ("check_sign_count", none) "check_sign_count" "check_sign_count" s_check_sign_count
  d_goods_size : FnP K ("goods_size", none) "goods_size" "goods_size" s_goods_size
  d_piece_of : FnP K ("piece_of", none) "piece_of" "piece_of" s_piece_of
  d_copied : FnP K ("copied", none) "copied" "copied" s_copied
  d_Source___init__ : FnP K ("Source", some "__init__") "__init__" "Source.__init__" s_Source___init__
  d_Source_write : FnP K ("Source", some "write") "write" "Source.write" s_Source_write
  d_by_number : FnP K ("by_number", none) "by_number" "by_number" s_by_number
  d_Holdings___init__ : FnP K ("Holdings", some "__init__") "__init__" "Holdings.__init__" s_Holdings___init__
  d_Holdings_unused : FnP K ("Holdings", some "unused") "unused" "Holdings.unused" s_Holdings_unused
  d_Holdings_write : FnP K ("Holdings", some "write") "write" "Holdings.write" s_Holdings_write
  d_Reply_wish : FnP K ("Reply", some "wish") "wish" "Reply.wish" s_Reply_wish
  d_Holdings_give : FnP K ("Holdings", some "give") "give" "Holdings.give" s_Holdings_give
  d_Holdings_serve_transfer : FnP K ("Holdings", some "serve_transfer") "serve_transfer" "Holdings.serve_transfer" s_Holdings_serve_transfer
  d_Holdings_serve : FnP K ("Holdings", some "serve") "serve" "Holdings.serve" s_Holdings_serve
  d_Reply___init__ : FnP K ("Reply", some "__init__") "__init__" "Reply.__init__" s_Reply___init__
  d_Request___init__ : FnP K ("Request", some "__init__") "__init__" "Request.__init__" s_Request___init__
  d__law_cell : FnP K ("_law_cell", none) "_law_cell" "_law_cell" s__law_cell
  d__law_row : FnP K ("_law_row", none) "_law_row" "_law_row" s__law_row
  d__law_serve : FnP K ("_law_serve", none) "_law_serve" "_law_serve" s__law_serve
  d__law_fill : FnP K ("_law_fill", none) "_law_fill" "_law_fill" s__law_fill
  d__law_due : FnP K ("_law_due", none) "_law_due" "_law_due" s__law_due
  d_law : FnP K ("law", none) "law" "law" s_law
section
variable {P : Program} {w : World} {K : PySem.W.Frag} {mg : Str → Option Value} {base : Heap}
theorem sc_check_sign_count : FnScope N_check_sign_count ["number", "text"] (defScope s_check_sign_count) := ⟨rfl, rfl, rfl, by decide +kernel, rfl, by decide +kernel, by decide +kernel⟩
theorem ok_check_sign_count (T : Txt K mg w) (D : Dfs K) : OkD P w K mg base CX0 1 ("check_sign_count", none) ["number", "text"] (p_check_sign_count K w) :=
  ok0 D.d_check_sign_count sc_check_sign_count (fun _ _ _ _ _ _ us hl => match us, hl with | [_, _], _ => rfl) fun f cdv A outer s H E hr =>
    pss_one (ps_if (pt_cmpR o_gt (pe_callB c_len (by rfl) T.n_len (by decide +kernel) (pa_cons (pv 1) (pa_nil))) (pe_glob rfl T.i_KIND_SIGNS.choose_spec ⟨_, rfl⟩) (nomark _)) (pss_never) (pss_nil))
theorem sc_goods_size : FnScope N_goods_size ["goods"] (defScope s_goods_size) := ⟨rfl, rfl, rfl, by decide +kernel, rfl, by decide +kernel, by decide +kernel⟩
theorem ok_goods_size (T : Txt K mg w) (D : Dfs K) : OkD P w K mg base CX0 1 ("goods_size", none) ["goods"] (p_goods_size K w) :=
  ok0 D.d_goods_size sc_goods_size (fun _ _ _ _ _ _ us hl => match us, hl with | [_], _ => rfl) fun f cdv A outer s H E hr =>
    pss_one (ps_ret (pe_callB (cr_sum rfl) (by rfl) T.n_sum (by decide +kernel) (pa_cons (pe_lc (own := [("piece", 1)]) rfl sc_goods_size.nd (pi_seq (pv 0)) (blkOk_by (own := [("piece", 1)]) (N := N_goods_size) (sc := defScope s_goods_size) (by decide +kernel)) (fun _ _ _ _ _ => pg_name (i := 1) sc_goods_size.nd rfl (Or.inl rfl)) (fun _ _ _ _ _ => pts_nil) (fun _ _ _ _ _ => pe_callB c_len (by rfl) T.n_len (by decide +kernel) (pa_cons (pe_ix x_any (pv 1) (pe_int) (fun _ _ => rfl)) (pa_nil)))) (pa_nil))))
theorem sc_piece_of : FnScope N_piece_of ["goods", "kind"] (defScope s_piece_of) := ⟨rfl, rfl, rfl, by decide +kernel, rfl, by decide +kernel, by decide +kernel⟩
theorem ok_piece_of (T : Txt K mg w) (D : Dfs K) : OkD P w K mg base CX0 1 ("piece_of", none) ["goods", "kind"] (p_piece_of K w) :=
  ok0 D.d_piece_of sc_piece_of (fun _ _ _ _ _ _ us hl => match us, hl with | [_, _], _ => rfl) fun f cdv A outer s H E hr =>
    pss_cons (ps_for PassesOwn.never rfl (pi_seq (pv 0)) (pg_unp rfl (pgs_cons (pg_name (i := 2) sc_piece_of.nd rfl (Or.inl rfl)) (pgs_cons (pg_name (i := 3) sc_piece_of.nd rfl (Or.inl rfl)) (pgs_nil)))) (pss_one (ps_if (pt_cmpR (o_eq hr.units) (pv 2) (pv 1) (nomark _)) (pss_one (ps_ret (pv 3))) (pss_nil)))) (pss_one (ps_ret (pe_non)))
theorem sc_copied : FnScope N_copied ["goods"] (defScope s_copied) := ⟨rfl, rfl, rfl, by decide +kernel, rfl, by decide +kernel, by decide +kernel⟩
theorem ok_copied (T : Txt K mg w) (D : Dfs K) : OkD P w K mg base CX0 1 ("copied", none) ["goods"] (p_copied K w) :=
  ok0 D.d_copied sc_copied (fun _ _ _ _ _ _ us hl => match us, hl with | [_], _ => rfl) fun f cdv A outer s H E hr =>
    pss_one (ps_ret (pe_lc (own := [("kind", 1), ("octets", 2)]) rfl sc_copied.nd (pi_seq (pv 0)) (blkOk_by (own := [("kind", 1), ("octets", 2)]) (N := N_copied) (sc := defScope s_copied) (by decide +kernel)) (fun _ _ _ _ _ => pg_unp rfl (pgs_cons (pg_name (i := 1) sc_copied.nd rfl (Or.inl rfl)) (pgs_cons (pg_name (i := 2) sc_copied.nd rfl (Or.inl rfl)) (pgs_nil)))) (fun _ _ _ _ _ => pts_nil) (fun _ _ _ _ _ => pe_tup (pa_cons (pv 1) (pa_cons (pe_callTy c_list (by rfl) T.n_list (by decide +kernel) (pa_cons (pv 2) (pa_nil))) (pa_nil))))))
theorem sc_Source___init__ : FnScope N_Source___init__ ["self", "number"] (defScope s_Source___init__) := ⟨rfl, rfl, rfl, by decide +kernel, rfl, by decide +kernel, by decide +kernel⟩
theorem ok_Source___init__ (T : Txt K mg w) (D : Dfs K) : OkD P w K mg base CX0 1 ("Source", some "__init__") ["self", "number"] (p_Source___init__ K w) :=
  ok0 D.d_Source___init__ sc_Source___init__ (fun _ _ _ _ _ _ us hl => match us, hl with | [_, _], _ => rfl) fun f cdv A outer s H E hr =>
    pss_cons (ps_fld (pv 0) (pv 1) rfl) (pss_cons (ps_fld (pv 0) (pe_lst (pa_nil)) rfl) (pss_one (ps_fld (pv 0) (pe_bl) rfl)))
theorem sc_Source_write : FnScope N_Source_write ["self", "kind", "octets"] (defScope s_Source_write) := ⟨rfl, rfl, rfl, by decide +kernel, rfl, by decide +kernel, by decide +kernel⟩
theorem ok_Source_write (T : Txt K mg w) (D : Dfs K) : OkD P w K mg base CX0 1 ("Source", some "write") ["self", "kind", "octets"] (p_Source_write K w) :=
  ok0 D.d_Source_write sc_Source_write (fun _ _ _ _ _ _ us hl => match us, hl with | [_, _, _], _ => rfl) fun f cdv A outer s H E hr =>
    pss_cons (ps_for PassesOwn.never rfl (pi_enumP (by rfl) T.n_enumerate (pa_cons (pe_callTy c_list (by rfl) T.n_list (by decide +kernel) (pa_cons (pe_fld (pv 0) rfl) (pa_nil))) (pa_nil))) (pg_unp rfl (pgs_cons (pg_name (i := 3) sc_Source_write.nd rfl (Or.inl rfl)) (pgs_cons (pg_name (i := 4) sc_Source_write.nd rfl (Or.inl rfl)) (pgs_nil)))) (pss_one (ps_if (pt_cmpR (o_eq hr.units) (pe_ix x_any (pv 4) (pe_int) (fun _ _ => rfl)) (pv 1) (nomark _)) (pss_cons (ps_asg (pe_tup (pa_cons (pv 1) (pa_cons (pe_op o_add (pe_ix x_any (pv 4) (pe_int) (fun _ _ => rfl)) (pv 2)) (pa_nil)))) (pg_sub (pe_fld (pv 0) rfl) (pv 3) set_list)) (pss_one (ps_retN))) (pss_nil)))) (pss_one (ps_expr (pe_bm PySem.F.plainAttrs_list PySem.F.slot_list_append PySem.F.type_list_append mt_append (pe_fld (pv 0) rfl) (pa_cons (pe_tup (pa_cons (pv 1) (pa_cons (pe_callTy c_list (by rfl) T.n_list (by decide +kernel) (pa_cons (pv 2) (pa_nil))) (pa_nil)))) (pa_nil)))))
theorem sc_by_number : FnScope N_by_number ["things", "number"] (defScope s_by_number) := ⟨rfl, rfl, rfl, by decide +kernel, rfl, by decide +kernel, by decide +kernel⟩
theorem ok_by_number (T : Txt K mg w) (D : Dfs K) : OkD P w K mg base CX0 1 ("by_number", none) ["things", "number"] (p_by_number K w) :=
  ok0 D.d_by_number sc_by_number (fun _ _ _ _ _ _ us hl => match us, hl with | [_, _], _ => rfl) fun f cdv A outer s H E hr =>
    pss_cons (ps_for PassesOwn.never rfl (pi_seq (pv 0)) (pg_name (i := 2) sc_by_number.nd rfl (Or.inl rfl)) (pss_one (ps_if (pt_cmpR (o_eq hr.units) (pe_fld (pv 2) rfl) (pv 1) (nomark _)) (pss_one (ps_ret (pv 2))) (pss_nil)))) (pss_one (ps_ret (pe_non)))
theorem sc_Holdings___init__ : FnScope N_Holdings___init__ ["self"] (defScope s_Holdings___init__) := ⟨rfl, rfl, rfl, by decide +kernel, rfl, by decide +kernel, by decide +kernel⟩
theorem ok_Holdings___init__ (T : Txt K mg w) (D : Dfs K) : OkD P w K mg base CX0 1 ("Holdings", some "__init__") ["self"] (p_Holdings___init__ K w) :=
  ok0 D.d_Holdings___init__ sc_Holdings___init__ (fun _ _ _ _ _ _ us hl => match us, hl with | [_], _ => rfl) fun f cdv A outer s H E hr =>
    pss_cons (ps_fld (pv 0) (pe_lst (pa_nil)) rfl) (pss_cons (ps_fld (pv 0) (pe_lst (pa_nil)) rfl) (pss_cons (ps_fld (pv 0) (pe_lst (pa_nil)) rfl) (pss_cons (ps_fld (pv 0) (pe_lst (pa_nil)) rfl) (pss_cons (ps_fld (pv 0) (pe_lst (pa_nil)) rfl) (pss_cons (ps_fld (pv 0) (pe_lst (pa_nil)) rfl) (pss_cons (ps_fld (pv 0) (pe_lst (pa_nil)) rfl) (pss_one (ps_fld (pv 0) (pe_bl) rfl))))))))
theorem sc_Holdings_unused : FnScope N_Holdings_unused ["self"] (defScope s_Holdings_unused) := ⟨rfl, rfl, rfl, by decide +kernel, rfl, by decide +kernel, by decide +kernel⟩
theorem ok_Holdings_unused (T : Txt K mg w) (D : Dfs K) : OkD P w K mg base CX0 1 ("Holdings", some "unused") ["self"] (p_Holdings_unused K w) :=
  ok0 D.d_Holdings_unused sc_Holdings_unused (fun _ _ _ _ _ _ us hl => match us, hl with | [_], _ => rfl) fun f cdv A outer s H E hr =>
    pss_one (ps_ret (pe_lc (own := [("source", 1)]) rfl sc_Holdings_unused.nd (pi_seq (pe_fld (pv 0) rfl)) (blkOk_by (own := [("source", 1)]) (N := N_Holdings_unused) (sc := defScope s_Holdings_unused) (by decide +kernel)) (fun _ _ _ _ _ => pg_name (i := 1) sc_Holdings_unused.nd rfl (Or.inl rfl)) (fun _ _ _ _ _ => pts_one (pt_not (t_tru (pe_fld (pv 1) rfl)))) (fun _ _ _ _ _ => pv 1)))
theorem sc_Holdings_write : FnScope N_Holdings_write ["self", "request"] (defScope s_Holdings_write) := ⟨rfl, rfl, rfl, by decide +kernel, rfl, by decide +kernel, by decide +kernel⟩
theorem ok_Holdings_write (T : Txt K mg w) (D : Dfs K) : OkD P w K mg base CX0 2 ("Holdings", some "write") ["self", "request"] (p_Holdings_write K w) :=
  ok0 D.d_Holdings_write sc_Holdings_write (fun _ _ _ _ _ _ us hl => match us, hl with | [_, _], _ => rfl) fun f cdv A outer s H E hr =>
    pss_cons (ps_set (i := 2) sc_Holdings_write.nd rfl (Or.inl rfl) (pe_fn (ok_by_number T D) hr (by decide) T.g_by_number pass0 (pa_cons (pe_fld (pv 0) rfl) (pa_cons (pe_fld (pv 1) rfl) (pa_nil))))) (pss_cons (ps_if (PW.pt (pw_or (pt_cmpR o_is (pv 2) (pe_non) (nomark _)) (pw_or1 (t_tru (pe_fld (pv 2) rfl))))) (pss_one (ps_retN)) (pss_nil)) (pss_cons (ps_asg (pe_fld (pv 1) rfl) (pg_unp rfl (pgs_cons (pg_name (i := 3) sc_Holdings_write.nd rfl (Or.inl rfl)) (pgs_cons (pg_name (i := 4) sc_Holdings_write.nd rfl (Or.inl rfl)) (pgs_nil))))) (pss_cons (ps_expr (pe_fn (ok_check_sign_count T D) hr (by decide) T.g_check_sign_count pass0 (pa_cons (pe_fld (pv 1) rfl) (pa_cons (pv 3) (pa_nil))))) (pss_cons (ps_set (i := 5) sc_Holdings_write.nd rfl (Or.inl rfl) (pe_op o_add (pe_callB (cr_sum rfl) (by rfl) T.n_sum (by decide +kernel) (pa_cons (pe_lc (own := [("one", 7)]) rfl sc_Holdings_write.nd (pi_seq (pe_mt0 (C := "Holdings") (ok_Holdings_unused T D) hr (by decide) (pv 0) T.c_Holdings T.m_Holdings_unused pass0)) (blkOk_by (own := [("one", 7)]) (N := N_Holdings_write) (sc := defScope s_Holdings_write) (by decide +kernel)) (fun _ _ _ _ _ => pg_name (i := 7) sc_Holdings_write.nd rfl (Or.inl rfl)) (fun _ _ _ _ _ => pts_nil) (fun _ _ _ _ _ => pe_fn (ok_goods_size T D) hr (by decide) T.g_goods_size pass0 (pa_cons (pe_fld (pv 7) rfl) (pa_nil)))) (pa_nil))) (pe_callB c_len (by rfl) T.n_len (by decide +kernel) (pa_cons (pv 4) (pa_nil))))) (pss_cons (ps_set (i := 6) sc_Holdings_write.nd rfl (Or.inl rfl) (pe_op o_add (pe_callB c_len (by rfl) T.n_len (by decide +kernel) (pa_cons (pe_fld (pv 2) rfl) (pa_nil))) (pe_callTy c_int (by rfl) T.n_int (by decide +kernel) (pa_cons (pe_cmpR o_is (pe_fn (ok_piece_of T D) hr (by decide) T.g_piece_of pass0 (pa_cons (pe_fld (pv 2) rfl) (pa_cons (pv 3) (pa_nil)))) (pe_non) (nomark _)) (pa_nil))))) (pss_cons (ps_if (PW.pt (pw_or (pt_cmpR o_gt (pv 5) (pe_glob rfl T.i_SOURCE_OCTETS.choose_spec ⟨_, rfl⟩) (nomark _)) (pw_or1 (pt_cmpR o_gt (pv 6) (pe_glob rfl T.i_SOURCE_KINDS.choose_spec ⟨_, rfl⟩) (nomark _))))) (pss_never) (pss_nil)) (pss_one (ps_expr (pe_mt (C := "Source") (ok_Source_write T D) hr (by decide) (pv 2) T.c_Source T.m_Source_write pass0 (pa_cons (pv 3) (pa_cons (pv 4) (pa_nil))))))))))))
theorem sc_Reply_wish : FnScope N_Reply_wish ["self", "deed"] (defScope s_Reply_wish) := ⟨rfl, rfl, rfl, by decide +kernel, rfl, by decide +kernel, by decide +kernel⟩
theorem ok_Reply_wish (T : Txt K mg w) (D : Dfs K) : OkD P w K mg base CX0 1 ("Reply", some "wish") ["self", "deed"] (p_Reply_wish K w) :=
  ok0 D.d_Reply_wish sc_Reply_wish (fun _ _ _ _ _ _ us hl => match us, hl with | [_, _], _ => rfl) fun f cdv A outer s H E hr =>
    pss_one (ps_expr (pe_bm PySem.F.plainAttrs_list PySem.F.slot_list_append PySem.F.type_list_append mt_append (pe_fld (pv 0) rfl) (pa_cons (pv 1) (pa_nil))))
theorem sc_Holdings_give : FnScope N_Holdings_give ["self", "values", "grant", "deed", "reply"] (defScope s_Holdings_give) := ⟨rfl, rfl, rfl, by decide +kernel, rfl, by decide +kernel, by decide +kernel⟩
theorem ok_Holdings_give (T : Txt K mg w) (D : Dfs K) : OkD P w K mg base CX0 2 ("Holdings", some "give") ["self", "values", "grant", "deed", "reply"] (p_Holdings_give K w) :=
  ok0 D.d_Holdings_give sc_Holdings_give (fun _ _ _ _ _ _ us hl => match us, hl with | [_, _, _, _, _], _ => rfl) fun f cdv A outer s H E hr =>
    pss_cons (ps_set (i := 5) sc_Holdings_give.nd rfl (Or.inl rfl) (pe_fn (ok_by_number T D) hr (by decide) T.g_by_number pass0 (pa_cons (pe_fld (pv 0) rfl) (pa_cons (pe_ix x_any (pv 1) (pe_int) (fun _ _ => rfl)) (pa_nil))))) (pss_cons (ps_if (PW.pt (pw_or (pt_cmpR o_is (pv 5) (pe_non) (nomark _)) (pw_or (t_tru (pe_fld (pv 5) rfl)) (pw_or (pt_cmpR o_is (pv 2) (pe_non) (nomark _)) (pw_or1 (pt_cmpR (o_ne hr.units) (pv 2) (pe_ix x_any (pv 1) (pe_int) (fun _ _ => rfl)) (nomark _))))))) (pss_one (ps_retN)) (pss_nil)) (pss_cons (ps_fld (pv 5) (pe_bl) rfl) (pss_cons (ps_expr (pe_mt (C := "Reply") (ok_Reply_wish T D) hr (by decide) (pv 4) T.c_Reply T.m_Reply_wish pass0 (pa_cons (pe_tup (pa_cons (pe_str) (pa_nil))) (pa_nil)))) (pss_one (ps_if (pt_cmpR (o_eq hr.units) (pe_ix x_any (pv 3) (pe_int) (fun _ _ => rfl)) (pe_str) (nomark _)) (pss_one (ps_expr (pe_mt (C := "Reply") (ok_Reply_wish T D) hr (by decide) (pv 4) T.c_Reply T.m_Reply_wish pass0 (pa_cons (pe_tup (pa_cons (pe_str) (pa_cons (pe_fn (ok_copied T D) hr (by decide) T.g_copied pass0 (pa_cons (pe_fld (pv 5) rfl) (pa_nil))) (pa_cons (pe_ix x_any (pv 3) (pe_int) (fun _ _ => rfl)) (pa_nil))))) (pa_nil))))) (pss_one (ps_expr (pe_mt (C := "Reply") (ok_Reply_wish T D) hr (by decide) (pv 4) T.c_Reply T.m_Reply_wish pass0 (pa_cons (pe_tup (pa_cons (pe_str) (pa_cons (pe_fn (ok_copied T D) hr (by decide) T.g_copied pass0 (pa_cons (pe_fld (pv 5) rfl) (pa_nil))) (pa_nil)))) (pa_nil))))))))))
theorem sc_Holdings_serve_transfer : FnScope N_Holdings_serve_transfer ["self", "request", "grant", "may_drag", "reply"] (defScope s_Holdings_serve_transfer) := ⟨rfl, rfl, rfl, by decide +kernel, rfl, by decide +kernel, by decide +kernel⟩
theorem ok_Holdings_serve_transfer (T : Txt K mg w) (D : Dfs K) : OkD P w K mg base CX0 3 ("Holdings", some "serve_transfer") ["self", "request", "grant", "may_drag", "reply"] (p_Holdings_serve_transfer K w) :=
  ok0 D.d_Holdings_serve_transfer sc_Holdings_serve_transfer (fun _ _ _ _ _ _ us hl => match us, hl with | [_, _, _, _, _], _ => rfl) fun f cdv A outer s H E hr =>
    pss_cons (ps_set (i := 5) sc_Holdings_serve_transfer.nd rfl (Or.inr rfl) (pe_fld (pv 1) rfl)) (pss_one (ps_if (pt_cmpR (o_eq hr.units) (pe_fld (pv 1) rfl) (pe_str) (nomark _)) (pss_cons (ps_if (pt_cmpR o_ge (pe_callB c_len (by rfl) T.n_len (by decide +kernel) (pa_cons (pe_mt0 (C := "Holdings") (ok_Holdings_unused T D) hr (by decide) (pv 0) T.c_Holdings T.m_Holdings_unused pass0) (pa_nil))) (pe_glob rfl T.i_SOURCES.choose_spec ⟨_, rfl⟩) (nomark _)) (pss_never) (pss_nil)) (pss_one (ps_expr (pe_bm PySem.F.plainAttrs_list PySem.F.slot_list_append PySem.F.type_list_append mt_append (pe_fld (pv 0) rfl) (pa_cons (pe_mk (ok_Source___init__ T D) hr (by decide) T.k_Source T.g_Source pass0 (pa_cons (pe_ix x_any (pv 5) (pe_int) (fun _ _ => rfl)) (pa_nil))) (pa_nil)))))) (pss_one (ps_if (pt_cmpR (o_eq hr.units) (pe_fld (pv 1) rfl) (pe_str) (nomark _)) (pss_one (ps_expr (pe_mt (C := "Holdings") (ok_Holdings_give T D) hr (by decide) (pv 0) T.c_Holdings T.m_Holdings_give pass0 (pa_cons (pv 5) (pa_cons (pv 2) (pa_cons (pe_tup (pa_cons (pe_str) (pa_cons (pe_cmpR (o_ne hr.units) (pe_ix x_any (pv 5) (pe_int) (fun _ _ => rfl)) (pe_int) (nomark _)) (pa_nil)))) (pa_cons (pv 4) (pa_nil)))))))) (pss_one (ps_if (pt_cmpR (o_eq hr.units) (pe_fld (pv 1) rfl) (pe_str) (nomark _)) (pss_one (ps_if (t_tru (pv 3)) (pss_one (ps_expr (pe_mt (C := "Holdings") (ok_Holdings_give T D) hr (by decide) (pv 0) T.c_Holdings T.m_Holdings_give pass0 (pa_cons (pv 5) (pa_cons (pv 2) (pa_cons (pe_tup (pa_cons (pe_str) (pa_nil))) (pa_cons (pv 4) (pa_nil)))))))) (pss_nil))) (pss_one (ps_if (pt_cmpR (o_eq hr.units) (pe_fld (pv 1) rfl) (pe_str) (nomark _)) (pss_never) (pss_one (ps_if (pt_cmpR (o_eq hr.units) (pe_fld (pv 1) rfl) (pe_str) (nomark _)) (pss_cons (ps_fld (pv 0) (pe_lc (own := [("name", 6)]) rfl sc_Holdings_serve_transfer.nd (pi_seq (pe_fld (pv 0) rfl)) (blkOk_by (own := [("name", 6)]) (N := N_Holdings_serve_transfer) (sc := defScope s_Holdings_serve_transfer) (by decide +kernel)) (fun _ _ _ _ _ => pg_name (i := 6) sc_Holdings_serve_transfer.nd rfl (Or.inl rfl)) (fun _ _ _ _ _ => pts_one (pt_cmpR (o_ne hr.units) (pv 6) (pe_ix x_any (pv 5) (pe_int) (fun _ _ => rfl)) (nomark _))) (fun _ _ _ _ _ => pv 6)) rfl) (pss_one (ps_expr (pe_mt (C := "Reply") (ok_Reply_wish T D) hr (by decide) (pv 4) T.c_Reply T.m_Reply_wish pass0 (pa_cons (pe_tup (pa_cons (pe_str) (pa_cons (pe_ix x_any (pv 5) (pe_int) (fun _ _ => rfl)) (pa_nil)))) (pa_nil)))))) (pss_one (ps_if (pt_cmpR (o_eq hr.units) (pe_fld (pv 1) rfl) (pe_str) (nomark _)) (pss_never) (pss_one (ps_if (pt_cmpR (o_eq hr.units) (pe_fld (pv 1) rfl) (pe_str) (nomark _)) (pss_cons (ps_expr (pe_fn (ok_check_sign_count T D) hr (by decide) T.g_check_sign_count pass0 (pa_cons (pe_fld (pv 1) rfl) (pa_cons (pe_ix x_any (pv 5) (pe_int) (fun _ _ => rfl)) (pa_nil))))) (pss_cons (ps_if (pt_cmpR o_ge (pe_callB c_len (by rfl) T.n_len (by decide +kernel) (pa_cons (pe_fld (pv 0) rfl) (pa_nil))) (pe_glob rfl T.i_FETCHES.choose_spec ⟨_, rfl⟩) (nomark _)) (pss_never) (pss_nil)) (pss_never))) (pss_one (ps_if (pt_cmpR (o_eq hr.units) (pe_fld (pv 1) rfl) (pe_str) (nomark _)) (pss_cons (ps_expr (pe_fn (ok_check_sign_count T D) hr (by decide) T.g_check_sign_count pass0 (pa_cons (pe_fld (pv 1) rfl) (pa_cons (pe_ix x_any (pv 5) (pe_int) (fun _ _ => rfl)) (pa_nil))))) (pss_cons (ps_if (pt_cmpR o_ge (pe_callB c_len (by rfl) T.n_len (by decide +kernel) (pa_cons (pe_fld (pv 0) rfl) (pa_nil))) (pe_glob rfl T.i_WATCHES.choose_spec ⟨_, rfl⟩) (nomark _)) (pss_never) (pss_nil)) (pss_never))) (pss_nil)))))))))))))))))
theorem sc_Holdings_serve : FnScope N_Holdings_serve ["self", "request", "grant", "gripped", "dragging", "reply"] (defScope s_Holdings_serve) := ⟨rfl, rfl, rfl, by decide +kernel, rfl, by decide +kernel, by decide +kernel⟩
theorem ok_Holdings_serve (T : Txt K mg w) (D : Dfs K) : OkD P w K mg base CX0 4 ("Holdings", some "serve") ["self", "request", "grant", "gripped", "dragging", "reply"] (p_Holdings_serve K w) :=
  ok0 D.d_Holdings_serve sc_Holdings_serve (fun _ _ _ _ _ _ us hl => match us, hl with | [_, _, _, _, _, _], _ => rfl) fun f cdv A outer s H E hr =>
    pss_one (ps_if (pt_cmpR (o_eq hr.units) (pe_fld (pv 1) rfl) (pe_str) (nomark _)) (pss_one (ps_expr (pe_mt (C := "Holdings") (ok_Holdings_serve_transfer T D) hr (by decide) (pv 0) T.c_Holdings T.m_Holdings_serve_transfer pass0 (pa_cons (pv 1) (pa_cons (pv 2) (pa_cons (pe_and (pv 3) (pe_one (pe_not (pv 4)))) (pa_cons (pv 5) (pa_nil)))))))) (pss_one (ps_if (pt_cmpR (o_eq hr.units) (pe_fld (pv 1) rfl) (pe_str) (nomark _)) (pss_one (ps_retN)) (pss_one (ps_if (pt_cmpR (o_eq hr.units) (pe_fld (pv 1) rfl) (pe_str) (nomark _)) (pss_one (ps_expr (pe_mt (C := "Holdings") (ok_Holdings_write T D) hr (by decide) (pv 0) T.c_Holdings T.m_Holdings_write pass0 (pa_cons (pv 1) (pa_nil))))) (pss_never))))))
theorem sc_Reply___init__ : FnScope N_Reply___init__ ["self"] (defScope s_Reply___init__) := ⟨rfl, rfl, rfl, by decide +kernel, rfl, by decide +kernel, by decide +kernel⟩
theorem ok_Reply___init__ (T : Txt K mg w) (D : Dfs K) : OkD P w K mg base CX0 1 ("Reply", some "__init__") ["self"] (p_Reply___init__ K w) :=
  ok0 D.d_Reply___init__ sc_Reply___init__ (fun _ _ _ _ _ _ us hl => match us, hl with | [_], _ => rfl) fun f cdv A outer s H E hr =>
    pss_cons (ps_fld (pv 0) (pe_lst (pa_nil)) rfl) (pss_cons (ps_fld (pv 0) (pe_lst (pa_nil)) rfl) (pss_cons (ps_fld (pv 0) (pe_lst (pa_nil)) rfl) (pss_one (ps_fld (pv 0) (pe_lst (pa_nil)) rfl))))
theorem sc_Request___init__ : FnScope N_Request___init__ ["self", "number", "interface", "name", "arguments", "ends"] (defScope s_Request___init__) := ⟨rfl, rfl, rfl, by decide +kernel, rfl, by decide +kernel, by decide +kernel⟩
theorem ok_Request___init__ (T : Txt K mg w) (D : Dfs K) : OkD P w K mg base CX0 1 ("Request", some "__init__") ["self", "number", "interface", "name", "arguments", "ends"] (p_Request___init__ K w) :=
  ok0 D.d_Request___init__ sc_Request___init__ (fun _ _ _ _ _ _ us hl => match us, hl with | [_, _, _, _, _, _], _ => rfl) fun f cdv A outer s H E hr =>
    pss_cons (ps_fld (pv 0) (pv 1) rfl) (pss_cons (ps_fld (pv 0) (pv 2) rfl) (pss_cons (ps_fld (pv 0) (pv 3) rfl) (pss_cons (ps_fld (pv 0) (pv 4) rfl) (pss_one (ps_fld (pv 0) (pv 5) rfl)))))
theorem sc__law_cell : FnScope N__law_cell ["script", "k"] (defScope s__law_cell) := ⟨rfl, rfl, rfl, by decide +kernel, rfl, by decide +kernel, by decide +kernel⟩
theorem ok__law_cell (T : Txt K mg w) (D : Dfs K) : OkD P w K mg base CX0 1 ("_law_cell", none) ["script", "k"] (p__law_cell K w) :=
  ok0 D.d__law_cell sc__law_cell (fun _ _ _ _ _ _ us hl => match us, hl with | [_, _], _ => rfl) fun f cdv A outer s H E hr =>
    pss_cons (ps_set (i := 2) sc__law_cell.nd rfl (Or.inl rfl) (pe_int)) (pss_cons (ps_if (pt_cmpR o_gt (pe_callB c_len (by rfl) T.n_len (by decide +kernel) (pa_cons (pv 0) (pa_nil))) (pe_int) (nomark _)) (pss_one (ps_set (i := 2) sc__law_cell.nd rfl (Or.inl rfl) (pe_ix x_any (pv 0) (pe_op o_mod (pe_callTy c_int (by rfl) T.n_int (by decide +kernel) (pa_cons (pv 1) (pa_nil))) (pe_callB c_len (by rfl) T.n_len (by decide +kernel) (pa_cons (pv 0) (pa_nil)))) (fun _ _ => rfl)))) (pss_nil)) (pss_cons (ps_if (pt_cmpR o_lt (pv 2) (pe_int) (nomark _)) (pss_one (ps_set (i := 2) sc__law_cell.nd rfl (Or.inl rfl) (pe_op o_sub (pe_int) (pe_op o_mul (pe_int) (pv 2))))) (pss_nil)) (pss_one (ps_ret (pv 2)))))
theorem sc__law_row : FnScope N__law_row ["script", "k"] (defScope s__law_row) := ⟨rfl, rfl, rfl, by decide +kernel, rfl, by decide +kernel, by decide +kernel⟩
theorem ok__law_row (T : Txt K mg w) (D : Dfs K) : OkD P w K mg base CX0 2 ("_law_row", none) ["script", "k"] (p__law_row K w) :=
  ok0 D.d__law_row sc__law_row (fun _ _ _ _ _ _ us hl => match us, hl with | [_, _], _ => rfl) fun f cdv A outer s H E hr =>
    pss_cons (ps_set (i := 2) sc__law_row.nd rfl (Or.inl rfl) (pe_fn (ok__law_cell T D) hr (by decide) T.g__law_cell pass0 (pa_cons (pv 0) (pa_cons (pv 1) (pa_nil))))) (pss_cons (ps_if (PW.pt (pw_and (pt_cmpR o_lt (pv 1) (pe_callB c_len (by rfl) T.n_len (by decide +kernel) (pa_cons (pv 0) (pa_nil))) (nomark _)) (pw_and1 (pt_cmpR o_ge (pv 2) (pe_int) (nomark _))))) (pss_one (ps_ret (pv 2))) (pss_nil)) (pss_cons (ps_set (i := 3) sc__law_row.nd rfl (Or.inl rfl) (pe_op o_mod (pe_callTy c_int (by rfl) T.n_int (by decide +kernel) (pa_cons (pe_op o_add (pe_op o_add (pe_op o_mul (pv 2) (pe_int)) (pe_op o_mul (pv 1) (pe_int))) (pe_int)) (pa_nil))) (pe_int))) (pss_cons (ps_set (i := 4) sc__law_row.nd rfl (Or.inl rfl) (pe_op o_mod (pe_callTy c_int (by rfl) T.n_int (by decide +kernel) (pa_cons (pe_op o_add (pe_op o_add (pe_op o_mul (pv 3) (pv 3)) (pe_op o_mul (pe_int) (pv 1))) (pe_int)) (pa_nil))) (pe_int))) (pss_one (ps_ret (pe_op o_add (pe_op o_mod (pe_callTy c_int (by rfl) T.n_int (by decide +kernel) (pa_cons (pe_op o_add (pe_op o_mul (pv 4) (pv 4)) (pv 3)) (pa_nil))) (pe_int)) (pe_op o_mul (pe_int) (pe_op o_add (pv 3) (pe_int)))))))))
theorem sc__law_serve : FnScope N__law_serve ["holdings", "row", "grant", "gripped", "dragging"] (defScope s__law_serve) := ⟨rfl, rfl, rfl, by decide +kernel, rfl, by decide +kernel, by decide +kernel⟩
theorem ok__law_serve (T : Txt K mg w) (D : Dfs K) : OkD P w K mg base CX0 5 ("_law_serve", none) ["holdings", "row", "grant", "gripped", "dragging"] (p__law_serve K w) :=
  ok0 D.d__law_serve sc__law_serve (fun _ _ _ _ _ _ us hl => match us, hl with | [_, _, _, _, _], _ => rfl) fun f cdv A outer s H E hr =>
    pss_cons (ps_set (i := 5) sc__law_serve.nd rfl (Or.inl rfl) (pe_mk0 (ok_Reply___init__ T D) hr (by decide) T.k_Reply T.g_Reply pass0)) (pss_cons (ps_set (i := 6) sc__law_serve.nd rfl (Or.inl rfl) (pe_mk (ok_Request___init__ T D) hr (by decide) T.k_Request T.g_Request pass0 (pa_cons (pe_ix x_any (pv 1) (pe_int) (fun _ _ => rfl)) (pa_cons (pe_ix x_any (pv 1) (pe_int) (fun _ _ => rfl)) (pa_cons (pe_ix x_any (pv 1) (pe_int) (fun _ _ => rfl)) (pa_cons (pe_ix x_any (pv 1) (pe_int) (fun _ _ => rfl)) (pa_cons (pe_cmpR (o_eq hr.units) (pe_ix x_any (pv 1) (pe_int) (fun _ _ => rfl)) (pe_str) (nomark _)) (pa_nil)))))))) (pss_cons (ps_try_thru0 (pss_one (ps_expr (pe_mt (C := "Holdings") (ok_Holdings_serve T D) hr (by decide) (pv 0) T.c_Holdings T.m_Holdings_serve pass0 (pa_cons (pv 6) (pa_cons (pv 2) (pa_cons (pv 3) (pa_cons (pv 4) (pa_cons (pv 5) (pa_nil)))))))))) (pss_one (ps_ret (pe_tup (pa_cons (pv 5) (pa_cons (pe_non) (pa_nil))))))))
theorem sc__law_fill : FnScope N__law_fill ["holdings", "script"] (defScope s__law_fill) := ⟨rfl, rfl, rfl, by decide +kernel, rfl, by decide +kernel, by decide +kernel⟩
theorem ok__law_fill (T : Txt K mg w) (D : Dfs K) : OkD P w K mg base CX0 6 ("_law_fill", none) ["holdings", "script"] (p__law_fill K w) :=
  ok0 D.d__law_fill sc__law_fill (fun _ _ _ _ _ _ us hl => match us, hl with | [_, _], _ => rfl) fun f cdv A outer s H E hr =>
    pss_cons (ps_set (i := 2) sc__law_fill.nd rfl (Or.inl rfl) (pe_lst (pa_nil))) (pss_cons (ps_for PassesOwn.never rfl (pi_range2 (by rfl) T.n_range (pa_cons (pe_int) (pa_cons (pe_int) (pa_nil)))) (pg_name (i := 3) sc__law_fill.nd rfl (Or.inl rfl)) (pss_cons (ps_set (i := 4) sc__law_fill.nd rfl (Or.inr rfl) (pe_fn (ok__law_row T D) hr (by decide) T.g__law_row pass0 (pa_cons (pv 1) (pa_cons (pe_op o_add (pe_int) (pv 3)) (pa_nil))))) (pss_cons (ps_expr (pe_fn (ok__law_serve T D) hr (by decide) T.g__law_serve pass0 (pa_cons (pv 0) (pa_cons (pe_tup (pa_cons (pe_int) (pa_cons (pe_str) (pa_cons (pe_str) (pa_cons (pe_lst (pa_cons (pv 3) (pa_nil))) (pa_nil)))))) (pa_cons (pe_non) (pa_cons (pe_bl) (pa_cons (pe_bl) (pa_nil)))))))) (pss_cons (ps_set (i := 5) sc__law_fill.nd rfl (Or.inl rfl) (pe_lst (pa_nil))) (pss_cons (ps_for PassesOwn.never rfl (pi_range1 (by rfl) T.n_range (pa_cons (pe_op o_mod (pe_callTy c_int (by rfl) T.n_int (by decide +kernel) (pa_cons (pv 4) (pa_nil))) (pe_int)) (pa_nil))) (pg_name (i := 6) sc__law_fill.nd rfl (Or.inr rfl)) (pss_cons (ps_set (i := 7) sc__law_fill.nd rfl (Or.inl rfl) (pe_op o_add (pe_str) (pe_callTy c_str (by rfl) T.n_str (by decide +kernel) (pa_cons (pv 6) (pa_nil))))) (pss_cons (ps_setLc (i := 8) (own := [("j", 9)]) rfl sc__law_fill.nd rfl rfl (sw_true rfl rfl rfl (by decide +kernel)) (pi_range1 (by rfl) T.n_range (pa_cons (pe_op o_mod (pe_callTy c_int (by rfl) T.n_int (by decide +kernel) (pa_cons (pe_op o_div (pv 4) (pe_op o_add (pe_int) (pv 6))) (pa_nil))) (pe_int)) (pa_nil))) (blkOk_by (own := [("j", 9)]) (N := N__law_fill) (sc := defScope s__law_fill) (by decide +kernel)) (fun _ _ _ _ _ => pg_name (i := 9) sc__law_fill.nd rfl (Or.inl rfl)) (fun _ _ _ _ _ => pts_nil) (fun _ _ _ _ _ => pe_op o_mod (pe_callTy c_int (by rfl) T.n_int (by decide +kernel) (pa_cons (pe_op o_div (pv 4) (pe_op o_add (pe_op o_add (pe_int) (pv 6)) (pv 9))) (pa_nil))) (pe_int))) (pss_cons (ps_expr (pe_fn (ok__law_serve T D) hr (by decide) T.g__law_serve pass0 (pa_cons (pv 0) (pa_cons (pe_tup (pa_cons (pv 3) (pa_cons (pe_str) (pa_cons (pe_str) (pa_cons (pe_lst (pa_cons (pv 7) (pa_cons (pe_callTy c_list (by rfl) T.n_list (by decide +kernel) (pa_cons (pv 8) (pa_nil))) (pa_nil)))) (pa_nil)))))) (pa_cons (pe_non) (pa_cons (pe_bl) (pa_cons (pe_bl) (pa_nil)))))))) (pss_one (ps_expr (pe_bm PySem.F.plainAttrs_list PySem.F.slot_list_append PySem.F.type_list_append mt_append (pv 5) (pa_cons (pe_tup (pa_cons (pv 7) (pa_cons (pv 8) (pa_nil)))) (pa_nil))))))))) (pss_one (ps_expr (pe_bm PySem.F.plainAttrs_list PySem.F.slot_list_append PySem.F.type_list_append mt_append (pv 2) (pa_cons (pv 5) (pa_nil)))))))))) (pss_one (ps_ret (pv 2))))
theorem sc__law_due : FnScope N__law_due ["deed", "pieces", "primary"] (defScope s__law_due) := ⟨rfl, rfl, rfl, by decide +kernel, rfl, by decide +kernel, by decide +kernel⟩
theorem ok__law_due (T : Txt K mg w) (D : Dfs K) : OkD P w K mg base CX0 1 ("_law_due", none) ["deed", "pieces", "primary"] (p__law_due K w) :=
  ok0 D.d__law_due sc__law_due (fun _ _ _ _ _ _ us hl => match us, hl with | [_, _, _], _ => rfl) fun f cdv A outer s H E hr =>
    pss_cons (ps_if (pt_cmpR (o_eq hr.units) (pv 0) (pe_str) (nomark _)) (pss_one (ps_ret (pe_lst (pa_cons (pe_tup (pa_cons (pe_str) (pa_nil))) (pa_cons (pe_tup (pa_cons (pe_str) (pa_cons (pv 1) (pa_nil)))) (pa_nil)))))) (pss_nil)) (pss_one (ps_ret (pe_lst (pa_cons (pe_tup (pa_cons (pe_str) (pa_nil))) (pa_cons (pe_tup (pa_cons (pe_str) (pa_cons (pv 1) (pa_cons (pe_cmpR (o_ne hr.units) (pv 2) (pe_int) (nomark _)) (pa_nil))))) (pa_nil))))))
theorem sc_law : FnScope N_law ["script"] (defScope s_law) := ⟨rfl, rfl, rfl, by decide +kernel, rfl, by decide +kernel, by decide +kernel⟩
theorem ok_law (T : Txt K mg w) (D : Dfs K) : OkD P w K mg base CX0 7 ("law", none) ["script"] (p_law K w) :=
  ok0 D.d_law sc_law (fun _ _ _ _ _ _ us hl => match us, hl with | [_], _ => rfl) fun f cdv A outer s H E hr =>
    pss_cons (ps_set (i := 1) sc_law.nd rfl (Or.inl rfl) (pe_mk0 (ok_Holdings___init__ T D) hr (by decide) T.k_Holdings T.g_Holdings pass0)) (pss_cons (ps_set (i := 2) sc_law.nd rfl (Or.inl rfl) (pe_fn (ok__law_fill T D) hr (by decide) T.g__law_fill pass0 (pa_cons (pv 1) (pa_cons (pv 0) (pa_nil))))) (pss_cons (ps_set (i := 3) sc_law.nd rfl (Or.inl rfl) (pe_lst (pa_cons (pe_bl) (pa_cons (pe_bl) (pa_cons (pe_bl) (pa_nil)))))) (pss_cons (ps_for PassesOwn.never rfl (pi_range1 (by rfl) T.n_range (pa_cons (pe_op o_add (pe_callB (c_min2 rfl) (by rfl) T.n_min (by decide +kernel) (pa_cons (pe_int) (pa_cons (pe_callB c_len (by rfl) T.n_len (by decide +kernel) (pa_cons (pv 0) (pa_nil))) (pa_nil)))) (pe_int)) (pa_nil))) (pg_name (i := 4) sc_law.nd rfl (Or.inl rfl)) (pss_cons (ps_set (i := 5) sc_law.nd rfl (Or.inl rfl) (pe_fn (ok__law_row T D) hr (by decide) T.g__law_row pass0 (pa_cons (pv 0) (pa_cons (pv 4) (pa_nil))))) (pss_cons (ps_set (i := 6) sc_law.nd rfl (Or.inl rfl) (pe_op o_mod (pe_callTy c_int (by rfl) T.n_int (by decide +kernel) (pa_cons (pv 5) (pa_nil))) (pe_int))) (pss_cons (ps_set (i := 7) sc_law.nd rfl (Or.inl rfl) (pe_op o_add (pe_op o_mod (pe_callTy c_int (by rfl) T.n_int (by decide +kernel) (pa_cons (pe_op o_div (pv 5) (pe_int)) (pa_nil))) (pe_int)) (pe_op o_mod (pe_callTy c_int (by rfl) T.n_int (by decide +kernel) (pa_cons (pe_op o_div (pv 5) (pe_int)) (pa_nil))) (pe_int)))) (pss_cons (ps_set (i := 8) sc_law.nd rfl (Or.inl rfl) (pe_ix x_any (pe_lst (pa_cons (pe_non) (pa_cons (pe_int) (pa_cons (pe_int) (pa_cons (pe_int) (pa_nil)))))) (pe_op o_mod (pe_callTy c_int (by rfl) T.n_int (by decide +kernel) (pa_cons (pe_op o_div (pv 5) (pe_int)) (pa_nil))) (pe_int)) (fun _ _ => rfl))) (pss_cons (ps_set (i := 9) sc_law.nd rfl (Or.inl rfl) (pe_op o_mod (pe_callTy c_int (by rfl) T.n_int (by decide +kernel) (pa_cons (pe_op o_div (pv 5) (pe_int)) (pa_nil))) (pe_int))) (pss_cons (ps_set (i := 10) sc_law.nd rfl (Or.inl rfl) (pe_cmpR o_gt (pe_op o_mod (pe_callTy c_int (by rfl) T.n_int (by decide +kernel) (pa_cons (pe_op o_div (pv 5) (pe_int)) (pa_nil))) (pe_int)) (pe_int) (nomark _))) (pss_cons (ps_set (i := 11) sc_law.nd rfl (Or.inl rfl) (pe_cmpR (o_eq hr.units) (pe_op o_mod (pe_callTy c_int (by rfl) T.n_int (by decide +kernel) (pa_cons (pe_op o_div (pv 5) (pe_int)) (pa_nil))) (pe_int)) (pe_int) (nomark _))) (pss_cons (ps_set (i := 12) sc_law.nd rfl (Or.inl rfl) (pe_ix x_any (pe_lst (pa_cons (pe_str) (pa_cons (pe_str) (pa_nil)))) (pe_op o_mod (pe_callTy c_int (by rfl) T.n_int (by decide +kernel) (pa_cons (pe_op o_div (pv 5) (pe_int)) (pa_nil))) (pe_int)) (fun _ _ => rfl))) (pss_cons (ps_set (i := 13) sc_law.nd rfl (Or.inl rfl) (pe_lst (pa_cons (pe_op o_add (pe_int) (pv 6)) (pa_cons (pv 7) (pa_nil))))) (pss_cons (ps_if (pt_cmpR (o_eq hr.units) (pv 12) (pe_str) (nomark _)) (pss_one (ps_expr (pe_bm PySem.F.plainAttrs_list PySem.F.slot_list_append PySem.F.type_list_append mt_append (pv 13) (pa_cons (pv 9) (pa_nil))))) (pss_nil)) (pss_cons (ps_set (i := 14) sc_law.nd rfl (Or.inl rfl) (pe_fn (ok__law_serve T D) hr (by decide) T.g__law_serve pass0 (pa_cons (pv 1) (pa_cons (pe_tup (pa_cons (pe_int) (pa_cons (pe_str) (pa_cons (pv 12) (pa_cons (pv 13) (pa_nil)))))) (pa_cons (pv 8) (pa_cons (pv 10) (pa_cons (pv 11) (pa_nil)))))))) (pss_cons (ps_if (PW.pt (pw_or (pt_cmpR o_isnot (pe_ix x_any (pv 14) (pe_int) (fun _ _ => rfl)) (pe_non) (nomark _)) (pw_or1 (pt_cmpR (o_ne hr.units) (pe_fld (pe_ix x_any (pv 14) (pe_int) (fun _ _ => rfl)) rfl) (pe_lst (pa_nil)) (nomark _))))) (pss_one (ps_ret (pe_bl))) (pss_nil)) (pss_cons (ps_set (i := 15) sc_law.nd rfl (Or.inl rfl) (pe_lst (pa_nil))) (pss_cons (ps_if (PW.pt (pw_and (pt_cmpR o_isnot (pv 8) (pe_non) (nomark _)) (pw_and (pt_cmpR (o_eq hr.units) (pv 8) (pv 7) (nomark _)) (pw_and (pt_not (t_tru (pe_ix x_any (pv 3) (pv 6) (fun _ _ => rfl)))) (pw_and1 (PW.pt (pw_or (pt_cmpR (o_eq hr.units) (pv 12) (pe_str) (nomark _)) (pw_or1 (PW.pt (pw_and (t_tru (pv 10)) (pw_and1 (pt_not (t_tru (pv 11)))))))))))))) (pss_cons (ps_set (i := 15) sc_law.nd rfl (Or.inl rfl) (pe_fn (ok__law_due T D) hr (by decide) T.g__law_due pass0 (pa_cons (pv 12) (pa_cons (pe_ix x_any (pv 2) (pv 6) (fun _ _ => rfl)) (pa_cons (pv 9) (pa_nil)))))) (pss_one (ps_asg (pe_bl) (pg_sub (pv 3) (pv 6) set_list)))) (pss_nil)) (pss_one (ps_if (pt_cmpR (o_ne hr.units) (pe_fld (pe_ix x_any (pv 14) (pe_int) (fun _ _ => rfl)) rfl) (pv 15) (nomark _)) (pss_one (ps_ret (pe_bl))) (pss_nil)))))))))))))))))) (pss_one (ps_ret (pe_bl))))))
end
end SW
namespace SWH
open PySem PySem.Spec PyProof.Rows L2 SW
abbrev R : PySem.W.OpenRow := PySem.W.OpenLaw.row PySem.Challenge.rw_sillwatch_k62_give_and_drag
def fn0 : List He.DefD := [⟨("check_sign_count", none), "check_sign_count", "check_sign_count", defArgs s_check_sign_count, defBody s_check_sign_count, defScope s_check_sign_count, [], []⟩, ⟨("goods_size", none), "goods_size", "goods_size", defArgs s_goods_size, defBody s_goods_size, defScope s_goods_size, [], []⟩, ⟨("piece_of", none), "piece_of", "piece_of", defArgs s_piece_of, defBody s_piece_of, defScope s_piece_of, [], []⟩, ⟨("copied", none), "copied", "copied", defArgs s_copied, defBody s_copied, defScope s_copied, [], []⟩, ⟨("Source", some "__init__"), "__init__", "Source.__init__", defArgs s_Source___init__, defBody s_Source___init__, defScope s_Source___init__, [], []⟩, ⟨("Source", some "write"), "write", "Source.write", defArgs s_Source_write, defBody s_Source_write, defScope s_Source_write, [], []⟩, ⟨("by_number", none), "by_number", "by_number", defArgs s_by_number, defBody s_by_number, defScope s_by_number, [], []⟩, ⟨("Holdings", some "__init__"), "__init__", "Holdings.__init__", defArgs s_Holdings___init__, defBody s_Holdings___init__, defScope s_Holdings___init__, [], []⟩, ⟨("Holdings", some "unused"), "unused", "Holdings.unused", defArgs s_Holdings_unused, defBody s_Holdings_unused, defScope s_Holdings_unused, [], []⟩, ⟨("Holdings", some "write"), "write", "Holdings.write", defArgs s_Holdings_write, defBody s_Holdings_write, defScope s_Holdings_write, [], []⟩, ⟨("Reply", some "wish"), "wish", "Reply.wish", defArgs s_Reply_wish, defBody s_Reply_wish, defScope s_Reply_wish, [], []⟩, ⟨("Holdings", some "give"), "give", "Holdings.give", defArgs s_Holdings_give, defBody s_Holdings_give, defScope s_Holdings_give, [], []⟩, ⟨("Holdings", some "serve_transfer"), "serve_transfer", "Holdings.serve_transfer", defArgs s_Holdings_serve_transfer, defBody s_Holdings_serve_transfer, defScope s_Holdings_serve_transfer, [], []⟩, ⟨("Holdings", some "serve"), "serve", "Holdings.serve", defArgs s_Holdings_serve, defBody s_Holdings_serve, defScope s_Holdings_serve, [], []⟩, ⟨("Reply", some "__init__"), "__init__", "Reply.__init__", defArgs s_Reply___init__, defBody s_Reply___init__, defScope s_Reply___init__, [], []⟩, ⟨("Request", some "__init__"), "__init__", "Request.__init__", defArgs s_Request___init__, defBody s_Request___init__, defScope s_Request___init__, [], []⟩, ⟨("_law_cell", none), "_law_cell", "_law_cell", defArgs s__law_cell, defBody s__law_cell, defScope s__law_cell, [], []⟩, ⟨("_law_row", none), "_law_row", "_law_row", defArgs s__law_row, defBody s__law_row, defScope s__law_row, [], []⟩, ⟨("_law_serve", none), "_law_serve", "_law_serve", defArgs s__law_serve, defBody s__law_serve, defScope s__law_serve, [], []⟩, ⟨("_law_fill", none), "_law_fill", "_law_fill", defArgs s__law_fill, defBody s__law_fill, defScope s__law_fill, [], []⟩]
def fn1 : List He.DefD := [⟨("_law_due", none), "_law_due", "_law_due", defArgs s__law_due, defBody s__law_due, defScope s__law_due, [], []⟩, ⟨("law", none), "law", "law", defArgs s_law, defBody s_law, defScope s_law, [], []⟩]
def fn : List He.DefD := fn0 ++ (fn1)
def fa0 : List He.Fa := [.free "len", .int "KIND_SIGNS" 128, .free "sum", .free "list", .free "enumerate", .cls "Holdings", .meth "Holdings" "serve_transfer", .meth "Holdings" "write", .meth "Holdings" "unused", .int "SOURCES" 8, .mkr "Source", .glo "Source", .meth "Holdings" "give", .cls "Reply", .meth "Reply" "wish", .glo "check_sign_count", .int "FETCHES" 4, .int "WATCHES" 8, .glo "by_number", .glo "copied", .glo "goods_size", .glo "piece_of", .free "int", .int "SOURCE_OCTETS" 32768, .int "SOURCE_KINDS" 16, .cls "Source", .meth "Source" "write", .glo "_law_cell", .mkr "Reply", .glo "Reply"]
def fa1 : List He.Fa := [.mkr "Request", .glo "Request", .meth "Holdings" "serve", .free "range", .glo "_law_row", .glo "_law_serve", .free "str", .mkr "Holdings", .glo "Holdings", .glo "_law_fill", .free "min", .glo "_law_due", .noat "Source" "number", .noat "Source" "goods", .noat "Source" "used", .noat "Holdings" "panes", .noat "Holdings" "sources", .noat "Holdings" "offers", .noat "Holdings" "captures", .noat "Holdings" "fetches", .noat "Holdings" "watches", .noat "Holdings" "names", .noat "Holdings" "was_hovered", .noat "Reply" "told", .noat "Reply" "ended", .noat "Reply" "wishes", .noat "Reply" "applied", .cls "Request", .noat "Request" "number", .noat "Request" "interface"]
def fa2 : List He.Fa := [.noat "Request" "name", .noat "Request" "arguments", .noat "Request" "ends", .glo "law"]
def fa : List He.Fa := fa0 ++ (fa1 ++ (fa2))
def lo0 : List Str := ["_wall", "DisplayError", "BadMessage", "MessageTooLong", "Fault", "KIND_SIGNS", "SOURCE_OCTETS", "SOURCE_KINDS", "READ_OCTETS", "check_sign_count", "goods_size", "piece_of", "copied", "Source", "Captured", "Fetched", "Watched", "SOURCES", "NAMES", "NAME_OCTETS", "CAPTURES", "CAPTURE_SIDE", "CAPTURE_PIXELS", "FETCHES", "WATCHES", "by_number", "too_much", "Holdings", "KINDS", "NUMBER_LIMIT"]
def lo1 : List Str := ["TEXT_MOST", "OCTETS_MOST", "SIGNS", "is_integer", "is_number", "is_text", "are_octets", "number_octets", "padding", "sign_code", "text_octets", "fits_kind", "field_octets", "HEADER", "SIZE_MOST", "ARGUMENTS_MOST", "encode_message", "EVENTS", "opcode_of", "event_octets", "Reply", "Request", "_law_cell", "_law_row", "_law_serve", "_law_fill", "_law_due"]
def loose : List Str := lo0 ++ (lo1)
def ns0 : List Str := ["check_sign_count", "goods_size", "piece_of", "copied", "Source", "by_number", "Holdings", "Reply", "Request", "_law_cell", "_law_row", "_law_serve", "_law_fill", "_law_due", "law"]
def ns : List Str := ns0
def ms0 : List (Str × Str) := [("Source", "__init__"), ("Source", "write"), ("Holdings", "__init__"), ("Holdings", "unused"), ("Holdings", "write"), ("Reply", "wish"), ("Holdings", "give"), ("Holdings", "serve_transfer"), ("Holdings", "serve"), ("Reply", "__init__"), ("Request", "__init__")]
def ms : List (Str × Str) := ms0
def dp : List Str := []
def ts : List He.Tab := []
def ex (K : PySem.W.Frag) : Bool := true
abbrev hk : PySem.W.Hook := hookX (asN ns ms dp) fa fn ts ex
def ob (s : PySem.W.SharedT) : AlX := obsXG (asN ns ms dp) fa fn ts ex (HandSHeadRun.getT s)
theorem ob_eq (s : PySem.W.SharedT) : ob s = hk.obs s.abs := obsXG_eq (HandSHeadRun.getT_eq s)
abbrev qv : Program := PySem.W.view R.prog [66]
theorem run (w : World) : HandSHeadRun.RunEq R qv hk ob 20000 loose w :=
  PySem.W.byRow2 "special-get-raises" (P := fun w => HandSHeadRun.RunEq R qv hk ob 20000 loose w) (fun w => by intro os; kernel_rfl) (fun w => by intro os; kernel_rfl) w
section
variable {K : PySem.W.Frag} {h : Heap} {mg : Str → Option Value} {w : World}
theorem txtK (c : He.SaysD fa fn K) : TxtK K where
  c_Holdings := He.cls_ok (c.fact 5 (f := .cls "Holdings") rfl)
  m_Holdings_serve_transfer := He.meth_ok (c.fact 6 (f := .meth "Holdings" "serve_transfer") rfl)
  m_Holdings_write := He.meth_ok (c.fact 7 (f := .meth "Holdings" "write") rfl)
  m_Holdings_unused := He.meth_ok (c.fact 8 (f := .meth "Holdings" "unused") rfl)
  k_Source := He.mkr_ok (c.fact 10 (f := .mkr "Source") rfl)
  m_Holdings_give := He.meth_ok (c.fact 12 (f := .meth "Holdings" "give") rfl)
  c_Reply := He.cls_ok (c.fact 13 (f := .cls "Reply") rfl)
  m_Reply_wish := He.meth_ok (c.fact 14 (f := .meth "Reply" "wish") rfl)
  c_Source := He.cls_ok (c.fact 25 (f := .cls "Source") rfl)
  m_Source_write := He.meth_ok (c.fact 26 (f := .meth "Source" "write") rfl)
  k_Reply := He.mkr_ok (c.fact 28 (f := .mkr "Reply") rfl)
  k_Request := He.mkr_ok (c.fact 30 (f := .mkr "Request") rfl)
  m_Holdings_serve := He.meth_ok (c.fact 32 (f := .meth "Holdings" "serve") rfl)
  k_Holdings := He.mkr_ok (c.fact 37 (f := .mkr "Holdings") rfl)
  a_Source_number := He.noat_ok (c.fact 42 (f := .noat "Source" "number") rfl)
  a_Source_goods := He.noat_ok (c.fact 43 (f := .noat "Source" "goods") rfl)
  a_Source_used := He.noat_ok (c.fact 44 (f := .noat "Source" "used") rfl)
  a_Holdings_panes := He.noat_ok (c.fact 45 (f := .noat "Holdings" "panes") rfl)
  a_Holdings_sources := He.noat_ok (c.fact 46 (f := .noat "Holdings" "sources") rfl)
  a_Holdings_offers := He.noat_ok (c.fact 47 (f := .noat "Holdings" "offers") rfl)
  a_Holdings_captures := He.noat_ok (c.fact 48 (f := .noat "Holdings" "captures") rfl)
  a_Holdings_fetches := He.noat_ok (c.fact 49 (f := .noat "Holdings" "fetches") rfl)
  a_Holdings_watches := He.noat_ok (c.fact 50 (f := .noat "Holdings" "watches") rfl)
  a_Holdings_names := He.noat_ok (c.fact 51 (f := .noat "Holdings" "names") rfl)
  a_Holdings_was_hovered := He.noat_ok (c.fact 52 (f := .noat "Holdings" "was_hovered") rfl)
  a_Reply_told := He.noat_ok (c.fact 53 (f := .noat "Reply" "told") rfl)
  a_Reply_ended := He.noat_ok (c.fact 54 (f := .noat "Reply" "ended") rfl)
  a_Reply_wishes := He.noat_ok (c.fact 55 (f := .noat "Reply" "wishes") rfl)
  a_Reply_applied := He.noat_ok (c.fact 56 (f := .noat "Reply" "applied") rfl)
  c_Request := He.cls_ok (c.fact 57 (f := .cls "Request") rfl)
  a_Request_number := He.noat_ok (c.fact 58 (f := .noat "Request" "number") rfl)
  a_Request_interface := He.noat_ok (c.fact 59 (f := .noat "Request" "interface") rfl)
  a_Request_name := He.noat_ok (c.fact 60 (f := .noat "Request" "name") rfl)
  a_Request_arguments := He.noat_ok (c.fact 61 (f := .noat "Request" "arguments") rfl)
  a_Request_ends := He.noat_ok (c.fact 62 (f := .noat "Request" "ends") rfl)
theorem txt (X : K.In h) (G : h.Ns mainGlobals mg) (c : He.SaysD fa fn K) : Txt K mg w where
  toTxtK := txtK c
  n_len := He.free_ok X G (c.fact 0 (f := .free "len") rfl)
  i_KIND_SIGNS := He.int_ok X G (c.fact 1 (f := .int "KIND_SIGNS" 128) rfl)
  n_sum := He.free_ok X G (c.fact 2 (f := .free "sum") rfl)
  n_list := He.free_ok X G (c.fact 3 (f := .free "list") rfl)
  n_enumerate := He.free_ok X G (c.fact 4 (f := .free "enumerate") rfl)
  i_SOURCES := He.int_ok X G (c.fact 9 (f := .int "SOURCES" 8) rfl)
  g_Source := He.glo_ok X G (c.fact 11 (f := .glo "Source") rfl)
  g_check_sign_count := He.glo_ok X G (c.fact 15 (f := .glo "check_sign_count") rfl)
  i_FETCHES := He.int_ok X G (c.fact 16 (f := .int "FETCHES" 4) rfl)
  i_WATCHES := He.int_ok X G (c.fact 17 (f := .int "WATCHES" 8) rfl)
  g_by_number := He.glo_ok X G (c.fact 18 (f := .glo "by_number") rfl)
  g_copied := He.glo_ok X G (c.fact 19 (f := .glo "copied") rfl)
  g_goods_size := He.glo_ok X G (c.fact 20 (f := .glo "goods_size") rfl)
  g_piece_of := He.glo_ok X G (c.fact 21 (f := .glo "piece_of") rfl)
  n_int := He.free_ok X G (c.fact 22 (f := .free "int") rfl)
  i_SOURCE_OCTETS := He.int_ok X G (c.fact 23 (f := .int "SOURCE_OCTETS" 32768) rfl)
  i_SOURCE_KINDS := He.int_ok X G (c.fact 24 (f := .int "SOURCE_KINDS" 16) rfl)
  g__law_cell := He.glo_ok X G (c.fact 27 (f := .glo "_law_cell") rfl)
  g_Reply := He.glo_ok X G (c.fact 29 (f := .glo "Reply") rfl)
  g_Request := He.glo_ok X G (c.fact 31 (f := .glo "Request") rfl)
  n_range := He.free_ok X G (c.fact 33 (f := .free "range") rfl)
  g__law_row := He.glo_ok X G (c.fact 34 (f := .glo "_law_row") rfl)
  g__law_serve := He.glo_ok X G (c.fact 35 (f := .glo "_law_serve") rfl)
  n_str := He.free_ok X G (c.fact 36 (f := .free "str") rfl)
  g_Holdings := He.glo_ok X G (c.fact 38 (f := .glo "Holdings") rfl)
  g__law_fill := He.glo_ok X G (c.fact 39 (f := .glo "_law_fill") rfl)
  n_min := He.free_ok X G (c.fact 40 (f := .free "min") rfl)
  g__law_due := He.glo_ok X G (c.fact 41 (f := .glo "_law_due") rfl)
theorem dfs (c : He.SaysD fa fn K) : Dfs K where
  d_check_sign_count := c.def_ 0 rfl
  d_goods_size := c.def_ 1 rfl
  d_piece_of := c.def_ 2 rfl
  d_copied := c.def_ 3 rfl
  d_Source___init__ := c.def_ 4 rfl
  d_Source_write := c.def_ 5 rfl
  d_by_number := c.def_ 6 rfl
  d_Holdings___init__ := c.def_ 7 rfl
  d_Holdings_unused := c.def_ 8 rfl
  d_Holdings_write := c.def_ 9 rfl
  d_Reply_wish := c.def_ 10 rfl
  d_Holdings_give := c.def_ 11 rfl
  d_Holdings_serve_transfer := c.def_ 12 rfl
  d_Holdings_serve := c.def_ 13 rfl
  d_Reply___init__ := c.def_ 14 rfl
  d_Request___init__ := c.def_ 15 rfl
  d__law_cell := c.def_ 16 rfl
  d__law_row := c.def_ 17 rfl
  d__law_serve := c.def_ 18 rfl
  d__law_fill := c.def_ 19 rfl
  d__law_due := c.def_ 20 rfl
  d_law := c.def_ 21 rfl
theorem facts {P : Program} {f : Addr} (X : K.In h) (G : h.Ns mainGlobals mg) (hfa : mg ("law" : Str) = some (.ref f)) (c : He.SaysD fa fn K) :
    ∃ fd : FuncData, (∀ (s : Shared) (v : Value), BindsTo s fd ⟨[v], []⟩ [("script", v)]) ∧ ∀ base : Heap, K.In base → base.Ns mainGlobals mg → FnOk P w K mg base CX0 7 f fd ["script"] (p_law K w) := by
  have e := hfa.symm.trans (He.glo_ok X G (c.fact 63 (f := .glo "law") rfl))
  cases e
  obtain ⟨fd0, F⟩ := (dfs c).d_law
  have b := FunD.bindsA (ps := ["script"]) F fun _ _ _ _ _ _ us hl => match us, hl with | [_], _ => rfl
  refine ⟨fd0, fun s v => b s [v] rfl, fun base X2 G2 => ?_⟩
  obtain ⟨fd1, O, _, _, l1⟩ := ok_law (P := P) (base := base) (txt (w := w) X G c) (dfs c)
  have e : fd0 = fd1 := (FunAt.of F).same l1
  subst e
  exact O
end
end SWH
open PySem PySem.W PySem.Calls PyProof.Rows
theorem PySem.Challenge.cw_sillwatch_k62_give_and_drag_holds : PySem.Challenge.rw_sillwatch_k62_give_and_drag.Holds := by
  w_on; o_law
  refine HandSHeadRun.head_any (r := OpenLaw.row PySem.Challenge.rw_sillwatch_k62_give_and_drag) (q := view (OpenLaw.row PySem.Challenge.rw_sillwatch_k62_give_and_drag).prog [66]) (H := SWH.hk) (ob := SWH.ob) (M := 20000) (loose := SWH.loose) (d := HandSHeadRun.topDef (OpenLaw.row PySem.Challenge.rw_sillwatch_k62_give_and_drag).prog 66) (kwd := []) SWH.ob_eq
    (by kernel_rfl) (fun s => by kernel_rfl) SWH.run (by kernel_rfl) (by kernel_rfl) (by kernel_rfl) (by rfl) (by first | assumption | decide +kernel) (by decide +kernel) ⟨rfl, rfl, rfl, rfl, rfl, by decide +kernel⟩ ?hw ?hc
  case hw => w_witness2
  case hc =>
    refine L2.walk_ofE (l := PySem.Challenge.rw_sillwatch_k62_give_and_drag) (n := 63) (k := 7) (x := "script") (CX := L2.CX0) rfl (by decide) (by kernel_rfl) ⟨rfl, by decide, by decide⟩ ?F (fun _ _ _ _ z => z)
    intro w mg fa h Y G hmg0
    obtain ⟨K, KX, cx⟩ := Y
    have c := cx.d
    have hmg : mg ("law" : PySem.Str) = some (.ref fa) := by
      have e : (HandSHeadRun.topDef (OpenLaw.row PySem.Challenge.rw_sillwatch_k62_give_and_drag).prog 66).name = ("law" : PySem.Str) := by kernel_rfl
      rw [← e]
      exact hmg0
    obtain ⟨fd, hb, hF⟩ := SWH.facts (P := (PySem.Challenge.rw_sillwatch_k62_give_and_drag).prog) (w := w) KX G hmg c
    haveI := SWH.txtK c
    exact ⟨K, fd, SW.p_law K w, KX, hb, fun H a ns hl hO hS => SW.law_end hl hO hS, hF⟩
