import PyProof.Rows.All
import Wide.All
import OpenK.AllK
import Wide.FinOn
import HandS.ForMost
import HandS.Defaults
import HandS.Exc
import HandS.TryOnly
import HandS.ExcOwn
import HandS.ExcInit
import HandS.ExcField
import HandS.Flow
import HandS.Style
import HandS.Wide
import HandS.WrittenGet
import HandS.NoneIn
import HandS.IsInst
import HandS.HeadHook1
import HandS.HeadHook2
import HandS.HeadHook3
import HandS.HeadHook4
import HandS.Head0
import HandS.Head1
import HandS.Head2
import HandS.HeadEnd
import KE.GoesMore
import KE.GoesEnum
import KE.KDictZip
import KE.KItemsList
import PyProof.ListNew
import KE.KStateDown
import Lean
import PySem.Challenge.RW_sillwatch_k66_drags_told
set_option Elab.async false
set_option linter.all false
set_option maxRecDepth 100000
set_option maxHeartbeats 0
/-! SWRules: rules that do not ask which kind of value stands there: each reading is the or of the layer's readings. -/
namespace SW
open PySem PySem.Spec PyProof.Rows L2

section
variable {X : Cx} {a b c e : Expr} {ta tb tc te : TE} {pos : Pos}
theorem OpR.or {f : Value → Value → Sem Value} {r r' : R2} (h : OpR X f r) (h' : OpR X f r') : OpR X f (fun x y H Q => r x y H Q ∨ r' x y H Q) := by
  intro pins s σ H x y v u Q I rx ry q
  rcases q with q | q
  · exact h pins s σ H x y v u Q I rx ry q
  · exact h' pins s σ H x y v u Q I rx ry q
theorem CallR.or {f : Value} {r r' : List V → Hp → VK → Prop} (h : CallR X f r) (h' : CallR X f r') : CallR X f (fun xs H Q => r xs H Q ∨ r' xs H Q) := by
  intro pins s σ H xs us Q I rx q
  rcases q with q | q
  · exact h pins s σ H xs us Q I rx q
  · exact h' pins s σ H xs us Q I rx q

/-! ### operators -/
def rAddI : R2 := rI0 fun i j => .int (i + j)
def rAddT : R2 := fun x y H Q => ∃ i j, x = .str i ∧ y = .str j ∧ i.length + j.length ≤ sizeLine ∧ Q (.str (i ++ j)) H
/-- +: ints, texts, lists, tuples -/
def rAdd (K : PySem.W.Frag) : R2 := fun x y H Q => rAddI x y H Q ∨ rAddT x y H Q ∨ rCat x y H Q ∨ rCatT K x y H Q
theorem o_add : OpR X (binaryOp .Add) (rAdd X.K) := OpR.or op_add (OpR.or op_add_str (OpR.or op_cat op_catT))
def rSub : R2 := rI0 fun i j => .int (i - j)
theorem o_sub : OpR X (binaryOp .Sub) rSub := op_sub
def rMulI : R2 := rI CMul fun i j => .int (i * j)
def rMul : R2 := fun x y H Q => rMulI x y H Q ∨ rRep x y H Q
theorem o_mul : OpR X (binaryOp .Mult) rMul := OpR.or op_mul op_rep
def rMod : R2 := rI (fun _ j => 0 < j) fun i j => .int (i % j)
theorem o_mod : OpR X (binaryOp .Mod) rMod := op_mod
def rDiv : R2 := rI CDivW fun i j => .int (i / j)
theorem o_div : OpR X (binaryOp .FloorDiv) rDiv := op_fdivW
def rNeg : V → Hp → VK → Prop := rU fun i => .int (-i)
theorem u_neg : UnR X (unaryOp .USub) rNeg := un_neg

/-! ### comparisons -/
def rLtI : R2 := rI0 fun i j => .bl (decide (i < j))
def rLeI : R2 := rI0 fun i j => .bl (decide (i ≤ j))
def rGtI : R2 := rI0 fun i j => .bl (decide (j < i))
def rGeI : R2 := rI0 fun i j => .bl (decide (j ≤ i))
theorem o_lt : OpR X (compareOp .Lt) rLtI := op_lt
theorem o_le : OpR X (compareOp .LtE) rLeI := op_le
theorem o_gt : OpR X (compareOp .Gt) rGtI := op_gt
theorem o_ge : OpR X (compareOp .GtE) rGeI := op_ge
/-- ==, !=: scalars, or data of any depth -/
def rEqP (K : PySem.W.Frag) : R2 := fun x y H Q => rEq x y H Q ∨ rEqD K x y H Q
def rNeP (K : PySem.W.Frag) : R2 := fun x y H Q => rNe x y H Q ∨ rNeD K x y H Q
theorem o_eq (hu : X.A.units + 64 < cLine) : OpR X (compareOp .Eq) (rEqP X.K) := OpR.or op_eq (op_eqD hu)
theorem o_ne (hu : X.A.units + 64 < cLine) : OpR X (compareOp .NotEq) (rNeP X.K) := OpR.or op_ne (op_neD hu)
/-- is None, is not None; of bools -/
def rIsNone : R2 := fun x y H Q => y = .non ∧ Q (.bl (decide (x = .non))) H
def rNotNone : R2 := fun x y H Q => y = .non ∧ Q (.bl (!decide (x = .non))) H
def rIs : R2 := fun x y H Q => rIsNone x y H Q ∨ rIsB x y H Q
def rIsNot : R2 := fun x y H Q => rNotNone x y H Q ∨ rNotB x y H Q
theorem o_is : OpR X (compareOp .Is) rIs := OpR.or op_isN op_isBl
theorem o_isnot : OpR X (compareOp .IsNot) rIsNot := OpR.or op_notN op_notBl
/-- x in a list or tuple of flat things; one sign in a text -/
def rInP (K : PySem.W.Frag) : R2 := fun x y H Q => rIn K false x y H Q ∨ (∃ (c : Nat) (z : Str), x = .str ⟨#[c]⟩ ∧ y = .str z ∧ Q (.bl (decide (c ∈ z.cps.toList))) H)
def rNotInP (K : PySem.W.Frag) : R2 := fun x y H Q => rIn K true x y H Q ∨ (∃ (c : Nat) (z : Str), x = .str ⟨#[c]⟩ ∧ y = .str z ∧ Q (.bl (!decide (c ∈ z.cps.toList))) H)
theorem o_in : OpR X (compareOp .In) (rInP X.K) := OpR.or op_in_seq op_in_sign
theorem o_notin : OpR X (compareOp .NotIn) (rNotInP X.K) := OpR.or op_notIn_seq op_notIn_sign

/-! ### subscripts, slices, len, truth -/
def rIxP (K : PySem.W.Frag) (w : World) : R2 := fun x y H Q => rIxL K x y H Q ∨ rIxT K x y H Q ∨ rIxS x y H Q ∨ rIxD K w x y H Q
theorem x_any : IxR X (rIxP X.K X.w) := ix_list.or (ix_tup.or (ix_str.or ix_kdict))
def rSlP (K : PySem.W.Frag) : V → Option Int → Option Int → Hp → VK → Prop := fun x lo hi H Q => rSlL K x lo hi H Q ∨ rSlS x lo hi H Q ∨ rSlT K x lo hi H Q
theorem s_any : SlR X (rSlP X.K) := sl_list.or (sl_str.or sl_tup)
def rLenP (K : PySem.W.Frag) : List V → Hp → VK → Prop := fun xs H Q => (∃ p ys, xs = [.ref p] ∧ (SqL K H p ys ∨ SqT K H p ys) ∧ Q (.int ys.length) H) ∨ (∃ z, xs = [.str z] ∧ z.length ≤ sizeLine ∧ Q (.int z.length) H) ∨ (∃ d kvs, xs = [.ref d] ∧ H d = some (.dK kvs) ∧ Q (.int kvs.length) H)
def tTru (K : PySem.W.Frag) (te : TE) : TT := fun σ H Q => te σ H fun x H' => ∃ k, TruV K x H' k ∧ Q k H'
theorem t_tru (ha : PE X a ta) (he : ∀ whole, isTrue a X.env whole = (do let v ← whole; standAt a.pos; holding [v] (truthy v)) := by intro _; rfl) : PT X a (tTru X.K ta) := pt_truth ha he
def rInt : List V → Hp → VK → Prop := fun xs H Q => (∃ i, xs = [.int i] ∧ Q (.int i) H) ∨ ∃ k, xs = [.bl k] ∧ Q (.int (if k then 1 else 0)) H
theorem c_int : CallR X (.type "int") rInt := call_int1
def rStrI : List V → Hp → VK → Prop := fun xs H Q => ∃ i, xs = [.int i] ∧ i.natAbs.log2 < 1920 ∧ Q (.str (toString i)) H
theorem c_str : CallR X (.type "str") rStrI := call_str_int
def rMin2 : List V → Hp → VK → Prop := fun xs H Q => ∃ i j, xs = [.int i, .int j] ∧ Q (.int (if j < i then j else i)) H
def rMax2 : List V → Hp → VK → Prop := fun xs H Q => ∃ i j, xs = [.int i, .int j] ∧ Q (.int (if j > i then j else i)) H
theorem c_min2 (hc : X.calm = true) : CallR X (.builtin "min") rMin2 := call_min2 hc
theorem c_max2 (hc : X.calm = true) : CallR X (.builtin "max") rMax2 := call_max2 hc
def rListOf (K : PySem.W.Frag) : List V → Hp → VK → Prop := fun xs H Q => ∃ p ys, xs = [.ref p] ∧ (SqL K H p ys ∨ SqT K H p ys) ∧ ∀ l, H l = none → Q (.ref l) (upd H l (.lst ys))
theorem c_list : CallR X (.type "list") (rListOf X.K) := call_list_of
end

/-- (a, b, ..) = a tuple or a list of that length -/
def gUnp (K : PySem.W.Frag) (n : Nat) (t : TGs) : TG := fun v σ H Q => gTup K n t v σ H Q ∨ gUnl K n t v σ H Q
theorem pg_unp {X : Cx} {pos : Pos} {es : List Expr} {k : Nat} {t : TGs} {n : Nat} (hc : X.calm = true) (h : PGs X es t) (hn : (assignEach es X.env).length = n := by rfl) (hst : (assignEach es X.env).findIdx? (·.1) = none := by rfl) : PG X (.Tuple es k pos) (gUnp X.K n t) :=
  ⟨fun pins s σ H v u Q I r q => q.elim (fun q => (pg_tup hc h hn hst).run pins s σ H v u Q I r q) fun q => (pg_unl hc h hn hst).run pins s σ H v u Q I r q⟩
/-! ### what is walked -/
/-- a list or a tuple -/
def iSeq (K : PySem.W.Frag) (tl : TE) : TI := fun σ H R => tl σ H fun x H1 => (∃ a xs, x = .ref a ∧ SqL K H1 a xs ∧ R (Itl K a) H1) ∨ (∃ a xs, x = .ref a ∧ SqT K H1 a xs ∧ R (Itt K a) H1) ∨ (∃ z, x = .str z ∧ R (Its z) H1)
section
variable {X : Cx} {tg l : Expr} {tl : TE}
theorem seq_it {pins : List (Addr × Obj)} {s1 : Shared} {σ : L2.St} {H1 : Hp} {R : It → Hp → Prop} {x : V} {v : Value} (I1 : Inv X pins σ H1 s1) (r1 : RelV x v)
    (q : (∃ a xs, x = .ref a ∧ SqL X.K H1 a xs ∧ R (Itl X.K a) H1) ∨ (∃ a xs, x = .ref a ∧ SqT X.K H1 a xs ∧ R (Itt X.K a) H1)) : wpAny (model X.prog X.w) X.A (pyIter v) (PIE X pins σ tg R) X.xe s1 := by
  rcases q with ⟨a, xs, rfl, hq, q⟩ | ⟨a, xs, rfl, hq, q⟩
  · cases r1
    obtain ⟨its, rv, p, hz⟩ := I1.list hq
    refine wpAny_pyIter_list p.isList ?_
    refine ⟨s1.heap.objs.size, [s1.heap.objs.size], _, _, H1, rfl, I1.kept (t' := s1.toks) fun b o e => Heap.get?_push_of_some _ e, turn_list a _, ⟨_, Heap.get?_push_size _ rfl, rfl, rfl⟩, fun b hb => ?_, q⟩
    have e : b = s1.heap.objs.size := by simpa using hb
    subst e
    exact I1.fpOk (Nat.le_refl _) (I1.hok.fresh (Nat.le_refl _))
  · cases r1
    obtain ⟨its, rv, p, hz⟩ := I1.tuple hq
    refine wpAny_pyIter_tuple (show s1.heap.IsTuple a its.toArray from p) ?_
    refine ⟨s1.heap.objs.size, [s1.heap.objs.size], _, _, H1, rfl, I1.kept (t' := s1.toks) fun b o e => Heap.get?_push_of_some _ e, turn_tuple a _, ⟨_, Heap.get?_push_size _ rfl, rfl, rfl⟩, fun b hb => ?_, q⟩
    have e : b = s1.heap.objs.size := by simpa using hb
    subst e
    exact I1.fpOk (Nat.le_refl _) (I1.hok.fresh (Nat.le_refl _))
/-- what a plain for walks: a list, a tuple, a text -/
theorem pi_seq (hl : PE X l tl) : PI X tg l (iSeq X.K tl) := by
  refine ⟨fun pins s σ H R I h => ?_⟩
  refine thn (hl.run pins s σ H _ I h) fun v s1 ⟨x, H1, I1, r1, q1⟩ => ?_
  rcases q1 with q | q | ⟨z, rfl, q⟩
  · exact seq_it I1 r1 (.inl q)
  · exact seq_it I1 r1 (.inr q)
  · obtain ⟨t, rfl⟩ := r1
    cases ha : z.cps.all (· < 128)
    · exact wpAny_pyIter_wide ha (pi_one (tk := s1.toks) I1 _ (turn_str _ z t "str_iterator" (.inr rfl)) ⟨_, Heap.get?_push_size _ rfl, rfl, rfl⟩ q)
    · exact wpAny_pyIter_ascii ha (pi_one (tk := s1.toks) I1 _ (turn_str _ z t "str_ascii_iterator" (.inl rfl)) ⟨_, Heap.get?_push_size _ rfl, rfl, rfl⟩ q)
theorem c_len : CallR X (.builtin "len") (rLenP X.K) := CallR.or call_len_seq (CallR.or call_len_str call_lenD)
end

/-- ord(one sign) -/
def rOrd : List V → Hp → VK → Prop := fun xs H Q => ∃ x, xs = [.str x] ∧ x.length = 1 ∧ Q (.int (x.cps.getD 0 0 : Nat)) H
theorem c_ord {X : Cx} : CallR X (.builtin "ord") rOrd := call_ord
/-! ### calls of the program's own defs -/
/-- fd stands at f -/
def FunAt (K : PySem.W.Frag) (f : Addr) (fd : FuncData) : Prop := ∃ oc od osl, K.lookup f = some ⟨oc, od, .func fd, osl⟩
theorem FunAt.same {K : PySem.W.Frag} {f : Addr} {a b : FuncData} (h : FunAt K f a) (g : FunAt K f b) : a = b := by
  obtain ⟨_, _, _, h⟩ := h
  obtain ⟨_, _, _, g⟩ := g
  rw [h] at g
  injection g with g
  injection g with _ _ g
  injection g
theorem FunAt.of {K : PySem.W.Frag} {x qual : Str} {params : Arguments} {body : List Stmt} {scope : Scope} {dvs : List V} {kws : List (Str × V)} {f : Addr} {fd : FuncData} (F : FunD K x qual params body scope dvs kws f fd) : FunAt K f fd := by
  obtain ⟨oc, od, dV, kV, doc, pm, an, cdv, ct, osl, rfl, lk, _⟩ := F.ex
  exact ⟨oc, od, osl, lk⟩
/-- the def at p keeps sp, whatever its function object is -/
def OkD (P : Program) (w : World) (K : PySem.W.Frag) (mg : Str → Option Value) (base : Heap) (CX : CXT) (k : Nat) (p : Str × Option Str) (ps : List Str) (sp : Sp) : Prop :=
  ∃ fd : FuncData, FnOk P w K mg base CX k (He.fAd K p) fd ps sp ∧ Binds K fd ps [] ∧ PySem.W.keepIn K (.ref (He.fAd K p)) = true ∧ FunAt K (He.fAd K p) fd
section
variable {X : Cx} {CX : CXT} {j k : Nat} {x m : Str} {ps : List Str} {sp : Sp} {e o : Expr} {es : List Expr} {t : TA} {ta : TE} {E : XK} {p pos apos : Pos}
theorem pe_fn (O : OkD X.prog X.w X.K X.mg X.base CX j (x, none) ps sp) (hr : Room k X.A) (hj : j ≤ k) (hm : X.mg x = some (.ref (He.ga X.K x))) (hx : Passes CX X E) (ha : PA X (e :: es) t)
    (hg : Gl X x := by rfl) (hdb : (x == ("__debug__" : Str)) = false := by decide) (he : starEach (e :: es) X.env = (false, eval e X.env) :: starEach es X.env := by rfl) (hpl : (backTo pos (starEach es X.env)).any (·.1) = false := by rfl) :
    PE X (.Call (.Name x p) (e :: es) [] pos) (tCall sp [] E t) := by
  obtain ⟨fd, F, b, kp, _⟩ := O
  exact pe_call F (hr.mono hj) hg hm kp b .nil hx ha hdb he hpl
theorem pe_fn0 (O : OkD X.prog X.w X.K X.mg X.base CX j (x, none) ps sp) (hr : Room k X.A) (hj : j ≤ k) (hm : X.mg x = some (.ref (He.ga X.K x))) (hx : Passes CX X E)
    (hg : Gl X x := by rfl) (hdb : (x == ("__debug__" : Str)) = false := by decide) : PE X (.Call (.Name x p) [] [] pos) (tCall sp [] E tNil) := by
  obtain ⟨fd, F, b, kp, _⟩ := O
  exact pe_call0 F (hr.mono hj) hg hm kp b .nil hx hdb
theorem pe_mt {C : Str} {pl : Sem Bool} (O : OkD X.prog X.w X.K X.mg X.base CX j (C, some m) ps sp) (hr : Room k X.A) (hj : j ≤ k) (he : PE X o ta) (c : Cls X.K (He.ga X.K C)) (hm : Meth X.K (He.ga X.K C) m (He.ma X.K (He.ga X.K C) m)) (hx : Passes CX X E) (ha : PA X (e :: es) t)
    (hst : starEach (e :: es) X.env = (false, eval e X.env) :: starEach es X.env := by rfl) (hpl : (backTo pos (starEach es X.env)).any (·.1) = false := by rfl)
    (ht : eval (.Call (.Attribute o m apos) (e :: es) [] pos) X.env = (do
      let ov ← eval o X.env
      standAt apos.atName
      let (f, first) ← holding [ov] (getMethod ov m pl)
      callWith pos f first (backTo pos (starEach (e :: es) X.env)) (backToKw pos (keywordEach [] X.env))) := by rfl) :
    PE X (.Call (.Attribute o m apos) (e :: es) [] pos) (tMeth (He.ga X.K C) m sp [] E ta t) := by
  obtain ⟨fd, F, b, kp, _⟩ := O
  exact pe_meth (pl := pl) he c hm F (hr.mono hj) b .nil hx ha hst hpl ht
theorem pe_mt0 {C : Str} {pl : Sem Bool} (O : OkD X.prog X.w X.K X.mg X.base CX j (C, some m) ps sp) (hr : Room k X.A) (hj : j ≤ k) (he : PE X o ta) (c : Cls X.K (He.ga X.K C)) (hm : Meth X.K (He.ga X.K C) m (He.ma X.K (He.ga X.K C) m)) (hx : Passes CX X E)
    (ht : eval (.Call (.Attribute o m apos) [] [] pos) X.env = (do
      let ov ← eval o X.env
      standAt apos.atName
      let (f, first) ← holding [ov] (getMethod ov m pl)
      callWith pos f first (backTo pos (starEach [] X.env)) (backToKw pos (keywordEach [] X.env))) := by rfl) :
    PE X (.Call (.Attribute o m apos) [] [] pos) (tMeth (He.ga X.K C) m sp [] E ta tNil) := by
  obtain ⟨fd, F, b, kp, _⟩ := O
  exact pe_meth0 (pl := pl) he c hm F (hr.mono hj) b .nil hx ht
theorem pe_mk (O : OkD X.prog X.w X.K X.mg X.base CX j (x, some "__init__") ps sp) (hr : Room k X.A) (hj : j + 1 ≤ k) (M : Mk X.K (He.ga X.K x) (He.ma X.K (He.ga X.K x) "__init__")) (hm : X.mg x = some (.ref (He.ga X.K x))) (hx : Passes CX X E) (ha : PA X (e :: es) t)
    (hg : Gl X x := by rfl) (hdb : (x == ("__debug__" : Str)) = false := by decide) (he : starEach (e :: es) X.env = (false, eval e X.env) :: starEach es X.env := by rfl) (hpl : (backTo pos (starEach es X.env)).any (·.1) = false := by rfl) :
    PE X (.Call (.Name x p) (e :: es) [] pos) (tMake (He.ga X.K x) sp [] E t) := by
  obtain ⟨fd, F, b, kp, _⟩ := O
  exact pe_make M F (hr.mono hj) hg hm b .nil hx ha hdb he hpl
theorem pe_mk0 (O : OkD X.prog X.w X.K X.mg X.base CX j (x, some "__init__") ps sp) (hr : Room k X.A) (hj : j + 1 ≤ k) (M : Mk X.K (He.ga X.K x) (He.ma X.K (He.ga X.K x) "__init__")) (hm : X.mg x = some (.ref (He.ga X.K x))) (hx : Passes CX X E)
    (hg : Gl X x := by rfl) (hdb : (x == ("__debug__" : Str)) = false := by decide) : PE X (.Call (.Name x p) [] [] pos) (tMake (He.ga X.K x) sp [] E tNil) := by
  obtain ⟨fd, F, b, kp, _⟩ := O
  exact pe_make0 M F (hr.mono hj) hg hm b .nil hx hdb
end
/-- a def's own facts -/
abbrev FnP (K : PySem.W.Frag) (p : Str × Option Str) (x qual : Str) (st : Stmt) : Prop := ∃ fd : FuncData, FunD K x qual (defArgs st) (defBody st) (defScope st) [] [] (He.fAd K p) fd
section
variable {P : Program} {w : World} {K : PySem.W.Frag} {mg : Str → Option Value} {base : Heap} {p : Str × Option Str} {x qual : Str} {st : Stmt} {N ps : List Str} {k : Nat} {t : XK → TS}
/-- what a def of reading t promises -/
def pOf (N : List Str) (n : Nat) (t : XK → TS) : Sp := fun vs H Q E => vs.length = n ∧ t E { nx := fun _ H' => Q .non H', rt := Q } (start N vs) H
/-- a def that lets no exception out -/
theorem ok0 (F : FnP K p x qual st) (S : FnScope N ps (defScope st)) (b : ∀ (kV doc pm : Value) (an : Option Addr) (cdv ct : Value) (us : List Value), us.length = ps.length → bindArgs (PySem.W.fnOf x qual (defArgs st) (defBody st) (defScope st) .none kV doc pm an cdv ct) ⟨us, []⟩ = pure (ps.zip us))
    (h : ∀ (f : Addr) (cdv : Value) (A : Around) (outer : List Env) (s : Shared) (H : Hp) (E : XK), Room k (A.deeper (envOfC qual (defScope st) s.heap.objs.size f cdv)) → PSs (cxOf CX0 P w K mg base N qual (defScope st) f cdv A outer s H E).nox (defBody st) (t E)) :
    OkD P w K mg base CX0 (k + 1) p ps (pOf N ps.length t) := by
  obtain ⟨fd, F⟩ := F
  exact ⟨fd, F.ok S (fun _ _ _ _ h => h.1) (fun cdv A outer s H vs Q E hr q => ⟨t E, (h _ cdv A outer s H E hr).nox, q.2⟩), F.bindsN b, F.kp, FunAt.of F⟩
/-- a def that may -/
theorem ok1 (F : FnP K p x qual st) (S : FnScope N ps (defScope st)) (b : ∀ (kV doc pm : Value) (an : Option Addr) (cdv ct : Value) (us : List Value), us.length = ps.length → bindArgs (PySem.W.fnOf x qual (defArgs st) (defBody st) (defScope st) .none kV doc pm an cdv ct) ⟨us, []⟩ = pure (ps.zip us))
    (h : ∀ (f : Addr) (cdv : Value) (A : Around) (outer : List Env) (s : Shared) (H : Hp) (E : XK), Room k (A.deeper (envOfC qual (defScope st) s.heap.objs.size f cdv)) → PSs (cxOf (L2.CX P w) P w K mg base N qual (defScope st) f cdv A outer s H E) (defBody st) (t E)) :
    OkD P w K mg base (L2.CX P w) (k + 1) p ps (pOf N ps.length t) := by
  obtain ⟨fd, F⟩ := F
  exact ⟨fd, F.ok S (fun _ _ _ _ h => h.1) (fun cdv A outer s H vs Q E hr q => ⟨t E, h _ cdv A outer s H E hr, q.2⟩), F.bindsN b, F.kp, FunAt.of F⟩
end
end SW
/-! SWHook: a head's facts over few addresses: what the names lead to, and no more. -/
namespace SW
open PySem PySem.Spec PyProof.Rows L2
def objRefs (g : Addr → Option Obj) (a : Addr) : List Addr := match g a with
  | some o => He.refsO o
  | none => []
/-- as, then what they name -/
def oneOn (g : Addr → Option Obj) (as : List Addr) : List Addr := as.flatMap (objRefs g)
/-- ns: names of functions, classes, tables; ms: methods; dp: names whose values are followed three steps -/
def asN (ns : List Str) (ms : List (Str × Str)) (dp : List Str) (g : Addr → Option Obj) : List Addr :=
  let K0 := He.frG g [mainGlobals]
  let L1 := ns.map (He.ga K0)
  let L2 := oneOn g L1
  let K2 := He.frG g (mainGlobals :: (L1 ++ L2))
  let L3 := ms.map fun p => He.ma K2 (He.ga K2 p.1) p.2
  let L4 := oneOn g L3
  let D1 := dp.map (He.ga K0)
  let D2 := oneOn g D1
  let D3 := oneOn g D2
  let D4 := oneOn g D3
  mainGlobals :: (L1 ++ (L2 ++ (L3 ++ (L4 ++ (D1 ++ (D2 ++ (D3 ++ D4)))))))
abbrev AlX : Type := He.AlT × Bool
def obsX (fa : List He.Fa) (fn : List He.DefD) (ts : List He.Tab) (ex : PySem.W.Frag → Bool) (K : PySem.W.Frag) : AlX := (He.obsT fa fn ts K, ex K)
def valX (fn : List He.DefD) (ts : List He.Tab) (w : World) : AlX := (He.valT fn ts w, true)
def obsXG (as : (Addr → Option Obj) → List Addr) (fa : List He.Fa) (fn : List He.DefD) (ts : List He.Tab) (ex : PySem.W.Frag → Bool) (g : Addr → Option Obj) : AlX := obsX fa fn ts ex (He.frG g (as g))
def SaysX (fa : List He.Fa) (fn : List He.DefD) (ts : List He.Tab) (ex : PySem.W.Frag → Bool) (w : World) (K : PySem.W.Frag) : Prop := obsX fa fn ts ex K = valX fn ts w
def hookX (as : (Addr → Option Obj) → List Addr) (fa : List He.Fa) (fn : List He.DefD) (ts : List He.Tab) (ex : PySem.W.Frag → Bool) : PySem.W.Hook where
  α := AlX
  obs := fun s => obsXG as fa fn ts ex s.heap.get?
  val := fun w => valX fn ts w
  says := fun w h => ∃ K : PySem.W.Frag, K.In h ∧ SaysX fa fn ts ex w K
  of := fun _ _ e => ⟨_, He.frG_in, e⟩
  keeps := fun _ _ _ ⟨K, hK, c⟩ k => ⟨K, PySem.W.Frag.In.keeps hK k, c⟩
section
variable {as : (Addr → Option Obj) → List Addr} {fa : List He.Fa} {fn : List He.DefD} {ts : List He.Tab} {ex : PySem.W.Frag → Bool} {w : World} {K : PySem.W.Frag}
theorem obsXG_eq {g : Addr → Option Obj} {s : Shared} (h : ∀ a, g a = s.heap.get? a) : obsXG as fa fn ts ex g = (hookX as fa fn ts ex).obs s := by
  have e : g = s.heap.get? := funext h
  rw [e] <;> rfl
theorem SaysX.t (c : SaysX fa fn ts ex w K) : He.SaysT fa fn ts w K := congrArg (fun z : AlX => z.1) c
theorem SaysX.d (c : SaysX fa fn ts ex w K) : He.SaysD fa fn K := c.t.d
theorem SaysX.x (c : SaysX fa fn ts ex w K) : ex K = true := congrArg (fun z : AlX => z.2) c
end
/-! ### tuples of the top, the rows of a table -/
/-- a tuple of the written part, whatever is tracked -/
class KT (K : PySem.W.Frag) (a : Addr) (xs : outParam (List V)) : Prop where
  eq : ∀ H, SqT K H a xs
def tupAt (K : PySem.W.Frag) (a : Addr) (vs : List V) : Bool := match K.lookup a with
  | some ⟨.type c, _, .seq its _, _⟩ => decide (c = "tuple") && (decide (its.size ≤ sizeLine) && He.relAll vs its.toList)
  | _ => false
theorem tupAt_ok {K : PySem.W.Frag} {a : Addr} {vs : List V} (h : tupAt K a vs = true) (H : Hp) : SqT K H a vs := by
  unfold tupAt at h
  cases q : K.lookup a with
  | none =>
    rw [q] at h
    cases h
  | some o =>
    obtain ⟨oc, od, dt, osl⟩ := o
    rw [q] at h
    cases oc with
    | type c =>
      cases dt with
      | seq its n =>
        obtain ⟨h1, h2⟩ := He.ba (show (decide (c = "tuple") && (decide (its.size ≤ sizeLine) && He.relAll vs its.toList)) = true from h)
        obtain ⟨h3, h4⟩ := He.ba h2
        exact .inr ⟨_, its, n, q, congrArg Value.type (of_decide_eq_true h1), rfl, of_decide_eq_true h3, He.relAll_ok h4⟩
      | _ => cases h
    | _ => cases dt <;> cases h
/-- the i-th item of the tuple at a, if it is an object -/
def itA (K : PySem.W.Frag) (a : Addr) (i : Nat) : Addr := match K.lookup a with
  | some ⟨_, _, .seq its _, _⟩ => (match its.toList[i]? with
    | some (.ref b) => b
    | _ => 0)
  | _ => 0
/-- the table's rows for a key -/
def evA (K : PySem.W.Frag) (x : Str) (k : Str) : Addr := match PySem.W.nsIn K (He.ga K x) k with
  | some (some (.ref a)) => a
  | _ => 0
def evRowsB (K : PySem.W.Frag) (a : Addr) : Nat → List (Str × List Str) → Bool
  | _, [] => true
  | i, (nm, ks) :: r => tupAt K (itA K a i) [.str nm, .ref (itA K (itA K a i) 1)] && (tupAt K (itA K (itA K a i) 1) (ks.map V.str) && evRowsB K a (i + 1) r)
def evB (K : PySem.W.Frag) (x k : Str) (rows : List (Str × List Str)) : Bool :=
  He.eqO (PySem.W.nsIn K (He.ga K x) k) (some (some (.ref (evA K x k)))) && (tupAt K (evA K x k) ((List.range rows.length).map fun i => V.ref (itA K (evA K x k) i)) && evRowsB K (evA K x k) 0 rows)
structure EvRow (K : PySem.W.Frag) (w : World) (x k : Str) (rows : List (Str × List Str)) : Prop where
  d : KDct K w (He.ga K x) k (.ref (evA K x k))
  t : ∀ H, SqT K H (evA K x k) ((List.range rows.length).map fun i => V.ref (itA K (evA K x k) i))
  r : ∀ (i : Nat) (nm : Str) (ks : List Str), rows[i]? = some (nm, ks) → (∀ H, SqT K H (itA K (evA K x k) i) [.str nm, .ref (itA K (itA K (evA K x k) i) 1)]) ∧ ∀ H, SqT K H (itA K (itA K (evA K x k) i) 1) (ks.map V.str)
theorem evRowsB_ok {K : PySem.W.Frag} {a : Addr} : ∀ (rows : List (Str × List Str)) (j : Nat), evRowsB K a j rows = true → ∀ (i : Nat) (nm : Str) (ks : List Str), rows[i]? = some (nm, ks) →
    tupAt K (itA K a (j + i)) [.str nm, .ref (itA K (itA K a (j + i)) 1)] = true ∧ tupAt K (itA K (itA K a (j + i)) 1) (ks.map V.str) = true
  | [], j, _, i, nm, ks, e => by simp at e
  | (nm0, ks0) :: r, j, h, i, nm, ks, e => by
    obtain ⟨h1, h2⟩ := He.ba (show (tupAt K (itA K a j) [.str nm0, .ref (itA K (itA K a j) 1)] && (tupAt K (itA K (itA K a j) 1) (ks0.map V.str) && evRowsB K a (j + 1) r)) = true from h)
    obtain ⟨h3, h4⟩ := He.ba h2
    cases i with
    | zero =>
      simp at e
      obtain ⟨e1, e2⟩ := e
      subst e1 e2
      exact ⟨h1, h3⟩
    | succ i =>
      have := evRowsB_ok r (j + 1) h4 i nm ks (by simpa using e)
      rw [show j + 1 + i = j + (i + 1) by omega] at this
      exact this
theorem evB_ok {K : PySem.W.Frag} {w : World} {x k : Str} {rows : List (Str × List Str)} (h : evB K x k rows = true) {es : Array DictEntry} {n : Nat} (d : KDict K w (He.ga K x) es n) : EvRow K w x k rows := by
  obtain ⟨h1, h2⟩ := He.ba h
  obtain ⟨h3, h4⟩ := He.ba h2
  refine ⟨⟨es, n, .ref (evA K x k), d.at_, d.lit, He.eqO_ok h1, rfl⟩, tupAt_ok h3, fun i nm ks e => ?_⟩
  have := evRowsB_ok rows 0 h4 i nm ks e
  rw [Nat.zero_add] at this
  exact ⟨tupAt_ok this.1, tupAt_ok this.2⟩
class EV (K : PySem.W.Frag) (w : World) (k : Str) (rows : outParam (List (Str × List Str))) : Prop where
  ev : EvRow K w "EVENTS" k rows
end SW
/-! SWSpec: what is owned, what is frozen; readings taken step by step, by instances. -/
namespace SW
open PySem L2

abbrev Cell := Addr × HO
abbrev Cs := List Cell
/-- the heap H: I never changes, M is ours to change; all else is not spoken of -/
class Own (I : outParam Hp) (M : outParam Cs) (H : Hp) : Prop where
  im : ∀ a o, I a = some o → H a = some o
  ce : ∀ c ∈ M, H c.1 = some c.2
  nd : (M.map (·.1)).Nodup
  di : ∀ c ∈ M, I c.1 = none
class Sub1 (I : outParam Hp) (I' : Hp) : Prop where
  sub : ∀ a o, I a = some o → I' a = some o
class Sub (I I' : Hp) : Prop where
  sub : ∀ a o, I a = some o → I' a = some o
instance Sub.refl {I : Hp} : Sub I I := ⟨fun _ _ h => h⟩
instance (priority := low) Sub.step {I I1 I2 : Hp} [a : Sub1 I1 I2] [b : Sub I I1] : Sub I I2 := ⟨fun x o h => a.sub x o (b.sub x o h)⟩
class Im (I : Hp) (a : Addr) (o : outParam HO) : Prop where
  eq : I a = some o
instance (priority := low) Im.step {I I1 : Hp} {a : Addr} {o : HO} [b : Sub1 I I1] [c : Im I a o] : Im I1 a o := ⟨b.sub _ _ c.eq⟩
class Mem (M : Cs) (a : Addr) (o : outParam HO) : Prop where
  mem : (a, o) ∈ M
instance Mem.head {M : Cs} {a : Addr} {o : HO} : Mem ((a, o) :: M) a o := ⟨List.mem_cons_self⟩
instance (priority := low) Mem.tail {M : Cs} {c : Cell} {a : Addr} {o : HO} [h : Mem M a o] : Mem (c :: M) a o := ⟨List.mem_cons_of_mem _ h.mem⟩
instance Mem.left {A B : Cs} {a : Addr} {o : HO} [h : Mem A a o] : Mem (A ++ B) a o := ⟨List.mem_append_left _ h.mem⟩
instance (priority := low) Mem.right {A B : Cs} {a : Addr} {o : HO} [h : Mem B a o] : Mem (A ++ B) a o := ⟨List.mem_append_right _ h.mem⟩
class SetC (M : Cs) (a : Addr) (o' : HO) (M' : outParam Cs) : Prop where
  ex : ∃ A B o, M = A ++ (a, o) :: B ∧ M' = A ++ (a, o') :: B
instance SetC.head {M : Cs} {a : Addr} {o o' : HO} : SetC ((a, o) :: M) a o' ((a, o') :: M) := ⟨[], M, o, rfl, rfl⟩
instance (priority := low) SetC.tail {M M' : Cs} {c : Cell} {a : Addr} {o' : HO} [h : SetC M a o' M'] : SetC (c :: M) a o' (c :: M') := by
  obtain ⟨A, B, o, e, e'⟩ := h.ex
  exact ⟨c :: A, B, o, by rw [e]; rfl, by rw [e']; rfl⟩
instance SetC.left {A A' B : Cs} {a : Addr} {o' : HO} [h : SetC A a o' A'] : SetC (A ++ B) a o' (A' ++ B) := by
  obtain ⟨C, D, o, e, e'⟩ := h.ex
  exact ⟨C, D ++ B, o, by rw [e, List.append_assoc]; rfl, by rw [e', List.append_assoc]; rfl⟩
instance (priority := low) SetC.right {A B B' : Cs} {a : Addr} {o' : HO} [h : SetC B a o' B'] : SetC (A ++ B) a o' (A ++ B') := by
  obtain ⟨C, D, o, e, e'⟩ := h.ex
  exact ⟨A ++ C, D, o, by rw [e, List.append_assoc], by rw [e', List.append_assoc]⟩
/-- what stands at a -/
class Ob (H : Hp) (a : Addr) (o : outParam HO) : Prop where
  eq : H a = some o
instance Ob.ofM {I : Hp} {M : Cs} {H : Hp} {a : Addr} {o : HO} [h : Own I M H] [m : Mem M a o] : Ob H a o := ⟨h.ce _ m.mem⟩
instance (priority := low) Ob.ofI {I : Hp} {M : Cs} {H : Hp} {a : Addr} {o : HO} [h : Own I M H] [m : Im I a o] : Ob H a o := ⟨h.im _ _ m.eq⟩

section
variable {I : Hp} {M M' : Cs} {H : Hp} {a p : Addr} {o o' : HO}
theorem Own.perm (h : Own I M H) (e : M.Perm M') : Own I M' H :=
  ⟨h.im, fun c hc => h.ce c (e.mem_iff.mpr hc), (e.map _).nodup_iff.mp h.nd, fun c hc => h.di c (e.mem_iff.mpr hc)⟩
theorem Own.notMem (h : Own I M H) (hp : H p = none) : p ∉ M.map (·.1) := fun hm => by
  obtain ⟨c, hc, e⟩ := List.mem_map.mp hm
  have := h.ce c hc
  rw [e, hp] at this
  cases this
theorem Own.notI (h : Own I M H) (hp : H p = none) : I p = none := by
  cases e : I p with
  | none => rfl
  | some u =>
    have := h.im _ _ e
    rw [hp] at this
    cases this
theorem Own.newM (h : Own I M H) (hp : H p = none) : Own I ((p, o) :: M) (upd H p o) := by
  have nm := h.notMem hp
  refine ⟨fun b u e => ?_, fun c hc => ?_, ?_, fun c hc => ?_⟩
  · rw [upd_ne (ne_of_none (h.im _ _ e) hp)]
    exact h.im _ _ e
  · rcases List.mem_cons.mp hc with rfl | hc
    · exact upd_same
    · rw [upd_ne (ne_of_none (h.ce c hc) hp)]
      exact h.ce c hc
  · rw [List.map_cons]
    exact List.nodup_cons.mpr ⟨nm, h.nd⟩
  · rcases List.mem_cons.mp hc with rfl | hc
    · exact h.notI hp
    · exact h.di c hc
theorem Own.newI (h : Own I M H) (hp : H p = none) : Own (upd I p o) M (upd H p o) := by
  refine ⟨fun b u e => ?_, fun c hc => ?_, h.nd, fun c hc => ?_⟩
  · by_cases hb : b = p
    · subst hb
      rw [upd_same] at e ⊢
      exact e
    · rw [upd_ne hb] at e ⊢
      exact h.im _ _ e
  · rw [upd_ne (ne_of_none (h.ce c hc) hp)]
    exact h.ce c hc
  · have : c.1 ≠ p := ne_of_none (h.ce c hc) hp
    rw [upd_ne this]
    exact h.di c hc
theorem Sub1.new (hp : I p = none) : Sub1 I (upd I p o) := ⟨fun b u e => by
  rw [upd_ne (ne_of_none e hp)]
  exact e⟩
theorem Im.new : Im (upd I p o) p o := ⟨upd_same⟩
/-- a cell that is changed no more -/
theorem Own.freeze (h : Own I ((a, o) :: M) H) : Own (upd I a o) M H := by
  have nd := h.nd
  rw [List.map_cons] at nd
  have nm := (List.nodup_cons.mp nd).1
  refine ⟨fun b u e => ?_, fun c hc => h.ce c (List.mem_cons_of_mem _ hc), (List.nodup_cons.mp nd).2, fun c hc => ?_⟩
  · by_cases hb : b = a
    · subst hb
      rw [upd_same] at e
      cases e
      exact h.ce (b, o) List.mem_cons_self
    · rw [upd_ne hb] at e
      exact h.im _ _ e
  · have : c.1 ≠ a := fun e => nm (List.mem_map.mpr ⟨c, hc, e⟩)
    rw [upd_ne this]
    exact h.di c (List.mem_cons_of_mem _ hc)
theorem Own.frzSub (h : Own I ((a, o) :: M) H) : Sub1 I (upd I a o) := Sub1.new (h.di (a, o) List.mem_cons_self)
theorem Own.drop {A : Cs} (h : Own I (A ++ M) H) : Own I M H :=
  ⟨h.im, fun c hc => h.ce c (List.mem_append_right _ hc), by
    have := h.nd
    rw [List.map_append] at this
    exact (List.nodup_append.mp this).2.1, fun c hc => h.di c (List.mem_append_right _ hc)⟩
theorem Own.set (h : Own I M H) [s : SetC M a o' M'] : Own I M' (upd H a o') := by
  obtain ⟨A, B, o, rfl, rfl⟩ := s.ex
  have nd := h.nd
  rw [List.map_append, List.map_cons] at nd
  have nA : a ∉ A.map (·.1) := fun hm => by
    have := (List.nodup_append.mp nd).2.2
    exact this a hm a List.mem_cons_self rfl
  have nB : a ∉ B.map (·.1) := (List.nodup_cons.mp (List.nodup_append.mp nd).2.1).1
  have ne : ∀ c ∈ A ++ B, c.1 ≠ a := fun c hc e => by
    rcases List.mem_append.mp hc with hc | hc
    · exact nA (List.mem_map.mpr ⟨c, hc, e⟩)
    · exact nB (List.mem_map.mpr ⟨c, hc, e⟩)
  refine ⟨fun b u e => ?_, fun c hc => ?_, by rw [List.map_append, List.map_cons]; exact nd, fun c hc => ?_⟩
  · have : b ≠ a := fun z => by
      have q := h.di (a, o) (List.mem_append_right _ List.mem_cons_self)
      rw [← z, e] at q
      cases q
    rw [upd_ne this]
    exact h.im _ _ e
  · rcases List.mem_append.mp hc with hc | hc
    · rw [upd_ne (ne c (List.mem_append_left _ hc))]
      exact h.ce c (List.mem_append_left _ hc)
    · rcases List.mem_cons.mp hc with rfl | hc
      · exact upd_same
      · rw [upd_ne (ne c (List.mem_append_right _ hc))]
        exact h.ce c (List.mem_append_right _ (List.mem_cons_of_mem _ hc))
  · rcases List.mem_append.mp hc with hc | hc
    · exact h.di c (List.mem_append_left _ hc)
    · rcases List.mem_cons.mp hc with rfl | hc
      · exact h.di (a, o) (List.mem_append_right _ List.mem_cons_self)
      · exact h.di c (List.mem_append_right _ (List.mem_cons_of_mem _ hc))
end
/-- two lists of cells, the one an arrangement of the other -/
theorem perm_count {A B : Cs} (h : ∀ (f : Cell → Nat), (A.map f).sum = (B.map f).sum) : A.Perm B := by
  classical
  refine List.perm_iff_count.mpr fun c => ?_
  have e : ∀ l : Cs, (l.map fun x => if x = c then 1 else 0).sum = l.count c := fun l => by
    induction l with
    | nil => rfl
    | cons x l ih =>
      rw [List.map_cons, List.sum_cons, ih, List.count_cons]
      by_cases hx : x = c
      · rw [if_pos hx, if_pos (by simpa using hx), Nat.add_comm]
      · rw [if_neg hx, if_neg (by simpa using hx)]
        omega
  have := h (fun x => if x = c then 1 else 0)
  rw [e, e] at this
  exact this
end SW
/-! SWZip: list(zip(tuple, list)): zip over two iterators of any kind while the tuple given out is held, the list that holds them all, the rule; enumerate(tuple). -/
namespace SW
open PySem PySem.Spec PyProof.Rows L2
open PySem.Sem (wp)
section
variable {prog : Program} {w : World} {A : Around} {E : Value → Shared → Prop} {s : Shared} {z TI TO T i1 i2 S : Addr} {f : Bool} {oT : Obj} {fp1 fp2 : List Addr} {n i : Nat} {P1 P2 : Nat → Value → Prop} {St1 St2 : Nat → Heap → Prop}
/-- zip's next while the tuple given out is held -/
theorem zh_item {Q : Value → Shared → Prop} (Sp : ZipSep2 z TI TO i1 i2 fp1 fp2) (D1 : Draws prog w A i1 fp1 n P1 St1) (D2 : Draws prog w A i2 fp2 n P2 St2)
    (hz : IsZipHeld s.heap z TI TO T f) (hT : s.heap.get? T = some oT) (hTI : IsTupOf2 s.heap TI (.ref i1) (.ref i2)) (st1 : St1 i s.heap) (st2 : St2 i s.heap) (hlt : i < n)
    (hQ : ∀ x1 x2 h' tk, P1 i x1 → P2 i x2 → IsZipHeld h' z TI TO T true → St1 (i + 1) h' → St2 (i + 1) h' → IsTupOf2 h' s.heap.objs.size x1 x2 → h'.objs.size = s.heap.objs.size + 1 →
      (∀ c o, c ≠ z → c ≠ i1 → c ≠ i2 → s.heap.get? c = some o → h'.get? c = some o) → Q (.ref s.heap.objs.size) { s with heap := h', toks := tk }) :
    wpAny (model prog w) A (Builtin.«zip.__next__» ⟨[.ref z], []⟩) (fun fin s' => ∃ v, fin = .done (.ret v) ∧ Q v s') E s := by
  obtain ⟨hp, g, d, tk0, os⟩ := s
  show wpAny _ _ (field (.ref z) 2 >>= _) _ _ _
  refine wpAny_bind (wpAny_field hz rfl (x := .bool false) rfl ?_)
  show wpAny _ _ (field (.ref z) 3 >>= _) _ _ _
  refine wpAny_bind (wpAny_field hz rfl (x := .ref TI) rfl ?_)
  refine wpAny_bind (wpAny_seqItems hTI rfl ?_)
  show wpAny _ _ (Builtin.SmallTypes.ownedTupleIsFree (.ref z) >>= _) _ _ _
  refine wpAny_bind (wpAny_tupleHeld_zip hz hT fun g0 hz0 hs0 => ?_)
  replace hs0 : Heap.SameBut z hp g0 := hs0
  simp only [Bool.false_eq_true, if_false]
  refine wpAny_bind ?_
  rw [← Array.forIn_toList]
  simp only [List.forIn_cons, List.forIn_nil]
  refine wpAny_bind (wpAny_bind (wpAny_holding ?_))
  show wpAny _ _ (Builtin.SmallTypes.nextOf (.ref i1) >>= _) _ _ ⟨g0, g, d, tk0, os⟩
  refine wpAny_bind (D1.item i _ _ _ hlt (D1.over st1 hs0 Sp.zf1) fun x1 p1 tk1 hx1 sn1 hp1 => wpAny_pure ?_)
  replace hp1 : Heap.SameBut i1 g0 p1 := hp1
  refine wpAny_pure ?_
  refine wpAny_bind (wpAny_bind (wpAny_holding ?_))
  show wpAny _ _ (Builtin.SmallTypes.nextOf (.ref i2) >>= _) _ _ ⟨p1, g, d, tk1, os⟩
  refine wpAny_bind (D2.item i _ _ _ hlt (D2.over (D2.over st2 hs0 Sp.zf2) hp1 Sp.sep1_2) fun x2 p2 tk2 hx2 sn2 hp2 => wpAny_pure ?_)
  replace hp2 : Heap.SameBut i2 p1 p2 := hp2
  refine wpAny_pure (wpAny_pure ?_)
  show wpAny _ _ (newTuple [x1, x2] >>= _) _ _ ⟨p2, g, d, tk2, os⟩
  refine wpAny_bind (wpAny_newTuple ?_)
  have hsz : p2.objs.size = hp.objs.size := by rw [hp2.1, hp1.1, hs0.1]
  have hz3 : IsZipHeld p2 z TI TO T true := hp2.extBut _ _ Sp.zi2 (hp1.extBut _ _ Sp.zi1 hz0)
  have hk : ∀ c o, c ≠ z → c ≠ i1 → c ≠ i2 → hp.get? c = some o → p2.get? c = some o := fun c o c1 c2 c3 e => hp2.extBut _ _ c3 (hp1.extBut _ _ c2 (hs0.extBut _ _ c1 e))
  have hj1 : St1 (i + 1) p2 := D1.over sn1 hp2 Sp.sep2_1
  have hp5 : IsTupOf2 (p2.push { cls := .type "tuple", data := .seq #[x1, x2] }) p2.objs.size x1 x2 := Heap.get?_push_size _ rfl
  have hz4 : (p2.push { cls := .type "tuple", data := .seq #[x1, x2] }).objs.size = p2.objs.size + 1 := Heap.size_push ..
  refine wpAny_pure ⟨_, rfl, ?_⟩
  show Q (.ref p2.objs.size) ⟨p2.push _, g, d, tk2, os⟩
  rw [hsz] at hp5 hz4 ⊢
  exact hQ x1 x2 _ tk2 hx1 hx2 (Heap.get?_push_of_some _ hz3) (D1.frame _ _ _ hj1 fun b _ o e => Heap.get?_push_of_some _ e) (D2.frame _ _ _ sn2 fun b _ o e => Heap.get?_push_of_some _ e) hp5 hz4
    fun c o c1 c2 c3 e => Heap.get?_push_of_some _ (hk c o c1 c2 c3 e)
theorem zh_end {Q : Fin → Shared → Prop} (Sp : ZipSep2 z TI TO i1 i2 fp1 fp2) (D1 : Draws prog w A i1 fp1 n P1 St1) (D2 : Draws prog w A i2 fp2 n P2 St2)
    (hz : IsZipHeld s.heap z TI TO T f) (hT : s.heap.get? T = some oT) (hTI : IsTupOf2 s.heap TI (.ref i1) (.ref i2)) (st1 : St1 n s.heap)
    (hE : ∀ h' tk e, (∀ c o, c ≠ z → c ≠ i1 → c ≠ i2 → s.heap.get? c = some o → h'.get? c = some o) → (∃ o, h'.get? e = some o ∧ o.cls = .type "StopIteration") → E (.ref e) { s with heap := h', toks := tk }) :
    wpAny (model prog w) A (Builtin.«zip.__next__» ⟨[.ref z], []⟩) Q E s := by
  obtain ⟨hp, g, d, tk0, os⟩ := s
  show wpAny _ _ (field (.ref z) 2 >>= _) _ _ _
  refine wpAny_bind (wpAny_field hz rfl (x := .bool false) rfl ?_)
  show wpAny _ _ (field (.ref z) 3 >>= _) _ _ _
  refine wpAny_bind (wpAny_field hz rfl (x := .ref TI) rfl ?_)
  refine wpAny_bind (wpAny_seqItems hTI rfl ?_)
  show wpAny _ _ (Builtin.SmallTypes.ownedTupleIsFree (.ref z) >>= _) _ _ _
  refine wpAny_bind (wpAny_tupleHeld_zip hz hT fun g0 hz0 hs0 => ?_)
  replace hs0 : Heap.SameBut z hp g0 := hs0
  simp only [Bool.false_eq_true, if_false]
  refine wpAny_bind ?_
  rw [← Array.forIn_toList]
  simp only [List.forIn_cons, List.forIn_nil]
  refine wpAny_bind (wpAny_bind (wpAny_holding ?_))
  show wpAny _ _ (Builtin.SmallTypes.nextOf (.ref i1) >>= _) _ _ ⟨g0, g, d, tk0, os⟩
  refine wpAny_bind (D1.done ⟨g0, g, d, tk0, os⟩ _ _ (D1.over st1 hs0 Sp.zf1) fun q e hq he => ?_)
  replace hq : Heap.ExtBut i1 g0 q := hq
  exact hE q tk0 e (fun c o c1 c2 c3 x => hq _ _ c2 (hs0.extBut _ _ c1 x)) he
theorem zn_item {Q : Option Value → Shared → Prop} (Sp : ZipSep2 z TI TO i1 i2 fp1 fp2) (D1 : Draws prog w A.in1 i1 fp1 n P1 St1) (D2 : Draws prog w A.in1 i2 fp2 n P2 St2)
    (hz : IsZipHeld s.heap z TI TO T f) (hT : s.heap.get? T = some oT) (hTI : IsTupOf2 s.heap TI (.ref i1) (.ref i2)) (st1 : St1 i s.heap) (st2 : St2 i s.heap) (hlt : i < n)
    (hQ : ∀ x1 x2 h' tk, P1 i x1 → P2 i x2 → IsZipHeld h' z TI TO T true → St1 (i + 1) h' → St2 (i + 1) h' → IsTupOf2 h' s.heap.objs.size x1 x2 → h'.objs.size = s.heap.objs.size + 1 →
      (∀ c o, c ≠ z → c ≠ i1 → c ≠ i2 → s.heap.get? c = some o → h'.get? c = some o) → Q (some (.ref s.heap.objs.size)) { s with heap := h', toks := tk }) :
    wpAny (model prog w) A (pyNext (.ref z)) Q E s := by
  have hTy : s.TypeIs (.ref z) "zip" := ⟨_, hz, rfl⟩
  unfold pyNext
  exact wpAny_bind (wpAny_attempt (wpAny_callSpecial?_slot (name := Str.ofString "__next__") hTy F.slot_zip_next
    (wpAny_call_entry F.slot_zip_next hTy F.entry_zip_next
      (zh_item Sp D1 D2 hz hT hTI st1 st2 hlt fun x1 x2 h' tk y1 y2 a1 a2 a3 a4 a5 a6 => wpAny_pure (hQ x1 x2 h' tk y1 y2 a1 a2 a3 a4 a5 a6)) (F.args_zip_next_1 _))))
theorem zn_end {Q : Option Value → Shared → Prop} (Sp : ZipSep2 z TI TO i1 i2 fp1 fp2) (D1 : Draws prog w A.in1 i1 fp1 n P1 St1) (D2 : Draws prog w A.in1 i2 fp2 n P2 St2)
    (hz : IsZipHeld s.heap z TI TO T f) (hT : s.heap.get? T = some oT) (hTI : IsTupOf2 s.heap TI (.ref i1) (.ref i2)) (st1 : St1 n s.heap)
    (hQ : ∀ h' tk, (∀ c o, c ≠ z → c ≠ i1 → c ≠ i2 → s.heap.get? c = some o → h'.get? c = some o) → Q none { s with heap := h', toks := tk }) : wpAny (model prog w) A (pyNext (.ref z)) Q E s := by
  have hTy : s.TypeIs (.ref z) "zip" := ⟨_, hz, rfl⟩
  unfold pyNext
  refine wpAny_bind (wpAny_attempt (wpAny_callSpecial?_slot (name := Str.ofString "__next__") hTy F.slot_zip_next
    (wpAny_call_entry F.slot_zip_next hTy F.entry_zip_next (zh_end Sp D1 D2 hz hT hTI st1 fun h' tk e hk he => ?_) (F.args_zip_next_1 _))))
  obtain ⟨o, ho, hc⟩ := he
  refine wpAny_bind (wpAny_isInstance (T := "StopIteration") (b := true) ⟨o, ho, hc⟩ isSubtype_stop ?_)
  exact wpAny_pure (hQ _ _ hk)
/-- a zip between two nexts: none given out yet, or T given out and held (in a list at S) -/
structure ZSt (St1 St2 : Nat → Heap → Prop) (h : Heap) (z TI TO i1 i2 S : Addr) (i : Nat) : Prop where
  ti : IsTupOf2 h TI (.ref i1) (.ref i2)
  s1 : St1 i h
  s2 : St2 i h
  st : (IsZip h z TI TO .none ∧ ∃ a1 a2, IsTupOf2 h TO a1 a2) ∨ ∃ T f oT, IsZipHeld h z TI TO T f ∧ h.get? T = some oT ∧ T ≠ S ∧ T ≠ z ∧ T ≠ i1 ∧ T ≠ i2
theorem ZSt.keep {h h' : Heap} (D1 : Draws prog w A i1 fp1 n P1 St1) (D2 : Draws prog w A i2 fp2 n P2 St2) (x : ZSt St1 St2 h z TI TO i1 i2 S i) (hS : S ∉ z :: TI :: TO :: (fp1 ++ fp2)) (hk : ∀ b o, b ≠ S → h.get? b = some o → h'.get? b = some o) : ZSt St1 St2 h' z TI TO i1 i2 S i := by
  have hz : z ≠ S := fun e => hS (by rw [e]; simp)
  have hTI : TI ≠ S := fun e => hS (by rw [e]; simp)
  have hTO : TO ≠ S := fun e => hS (by rw [e]; simp)
  refine ⟨hk _ _ hTI x.ti, D1.frame _ _ _ x.s1 fun b hb o e => hk b o (fun q => hS (by rw [← q]; simp [hb])) e, D2.frame _ _ _ x.s2 fun b hb o e => hk b o (fun q => hS (by rw [← q]; simp [hb])) e, ?_⟩
  rcases x.st with ⟨a, b, c, d⟩ | ⟨T, f, oT, a, b, c, d⟩
  · exact .inl ⟨hk _ _ hz a, b, c, hk _ _ hTO d⟩
  · exact .inr ⟨T, f, oT, hk _ _ hz a, hk _ _ c b, c, d⟩
theorem zs_item {Q : Option Value → Shared → Prop} (Sp : ZipSep2 z TI TO i1 i2 fp1 fp2) (D1 : Draws prog w A.in1 i1 fp1 n P1 St1) (D2 : Draws prog w A.in1 i2 fp2 n P2 St2) (x : ZSt St1 St2 s.heap z TI TO i1 i2 S i) (hS : S < s.heap.objs.size) (hlt : i < n)
    (hQ : ∀ x1 x2 h' tk, P1 i x1 → P2 i x2 → ZSt St1 St2 h' z TI TO i1 i2 S (i + 1) → IsTupOf2 h' s.heap.objs.size x1 x2 → h'.objs.size = s.heap.objs.size + 1 →
      (∀ c o, c ≠ z → c ≠ TO → c ≠ i1 → c ≠ i2 → s.heap.get? c = some o → h'.get? c = some o) → Q (some (.ref s.heap.objs.size)) { s with heap := h', toks := tk }) :
    wpAny (model prog w) A (pyNext (.ref z)) Q E s := by
  have lt : ∀ {c o}, s.heap.get? c = some o → s.heap.objs.size ≠ c := fun e => Nat.ne_of_gt (Heap.lt_size e)
  have l1 : s.heap.objs.size ≠ i1 := by obtain ⟨_, e⟩ := D1.live _ _ x.s1; exact lt e
  have l2 : s.heap.objs.size ≠ i2 := by obtain ⟨_, e⟩ := D2.live _ _ x.s2; exact lt e
  rcases x.st with ⟨hz, a1, a2, hTO⟩ | ⟨T, f, oT, hz, hT, hTS, hTz, hT1, hT2⟩
  · refine wpAny_pyNext_zipD2_item Sp D1 D2 hz x.ti hTO x.s1 x.s2 hlt hlt fun x1 x2 h' tk y1 y2 b1 b2 d1 d2 b5 b6 hk => ?_
    exact hQ x1 x2 h' tk y1 y2 ⟨hk _ _ Sp.TIz Sp.TITO Sp.TIi1 Sp.TIi2 x.ti, d1, d2, .inr ⟨_, false, _, b1, b5, Nat.ne_of_gt hS, lt hz, l1, l2⟩⟩ b5 b6 hk
  · refine zn_item Sp D1 D2 hz hT x.ti x.s1 x.s2 hlt fun x1 x2 h' tk y1 y2 b1 d1 d2 b5 b6 hk => ?_
    exact hQ x1 x2 h' tk y1 y2 ⟨hk _ _ Sp.TIz Sp.TIi1 Sp.TIi2 x.ti, d1, d2, .inr ⟨T, true, oT, b1, hk _ _ hTz hT1 hT2 hT, hTS, hTz, hT1, hT2⟩⟩ b5 b6 fun c o c1 _ c3 c4 e => hk c o c1 c3 c4 e
theorem zs_end {Q : Option Value → Shared → Prop} (Sp : ZipSep2 z TI TO i1 i2 fp1 fp2) (D1 : Draws prog w A.in1 i1 fp1 n P1 St1) (D2 : Draws prog w A.in1 i2 fp2 n P2 St2) (x : ZSt St1 St2 s.heap z TI TO i1 i2 S n)
    (hQ : ∀ h' tk, (∀ c o, c ≠ z → c ≠ TO → c ≠ i1 → c ≠ i2 → s.heap.get? c = some o → h'.get? c = some o) → Q none { s with heap := h', toks := tk }) : wpAny (model prog w) A (pyNext (.ref z)) Q E s := by
  rcases x.st with ⟨hz, a1, a2, hTO⟩ | ⟨T, f, oT, hz, hT, hTS, hTz, hT1, hT2⟩
  · exact wpAny_pyNext_zipD2_end Sp D1 D2 hz x.ti hTO x.s1 x.s2 (Nat.le_refl _) (Nat.le_refl _) (.inl rfl) hQ
  · exact zn_end Sp D1 D2 hz hT x.ti x.s1 fun h' tk hk => hQ h' tk fun c o c1 _ c3 c4 e => hk c o c1 c3 c4 e
/-- the tuples made -/
structure ZG (P1 P2 : Nat → Value → Prop) (lo : Addr) (h : Heap) (as : List Addr) : Prop where
  rise : as.Pairwise (· < ·)
  above : ∀ a ∈ as, lo < a
  pairs : ∀ (j : Nat) (a : Addr), as[j]? = some a → ∃ x1 x2, P1 j x1 ∧ P2 j x2 ∧ IsTupOf2 h a x1 x2
theorem ZG.there {lo : Addr} {h : Heap} {as : List Addr} (g : ZG P1 P2 lo h as) {a : Addr} (ha : a ∈ as) : a < h.objs.size := by
  obtain ⟨j, hj⟩ := List.mem_iff_getElem?.mp ha
  obtain ⟨_, _, _, _, e⟩ := g.pairs j a hj
  exact Heap.lt_size e
end
section
variable {prog : Program} {w : World} {A : Around} {E : Value → Shared → Prop} {s : Shared} {z TI TO i1 i2 S : Addr} {fp1 fp2 : List Addr} {n : Nat} {P1 P2 : Nat → Value → Prop} {St1 St2 : Nat → Heap → Prop} {R : Result → Shared → Prop}
theorem zl_loop (Sp : ZipSep2 z TI TO i1 i2 fp1 fp2) (D1 : Draws prog w A.in1.in1 i1 fp1 n P1 St1) (D2 : Draws prog w A.in1.in1 i2 fp2 n P2 St2) (low : ∀ b ∈ z :: TI :: TO :: (fp1 ++ fp2), b < S) (hn : n ≤ sizeLine) (res : Value) {h₁ : Heap}
    (hR : ∀ h' tk acc c as, (∀ b o, b ≠ S → b ∉ [z, TO, i1, i2] → h₁.get? b = some o → h'.get? b = some o) → h'.get? S = some { cls := .type "list", dict := none, data := .seq acc c, slots := #[] } → as.length = n → ZG P1 P2 S h' as →
      acc.toList = as.map Value.ref → R (.ok (.ret res)) { s with heap := h', toks := tk }) :
    ∀ (k i : Nat) (h : Heap) (tk c : Nat) (acc : Array Value) (as : List Addr), n - i = k → i ≤ n → ZSt St1 St2 h z TI TO i1 i2 S i → (∀ b o, b ≠ S → b ∉ [z, TO, i1, i2] → h₁.get? b = some o → h.get? b = some o) →
      h.get? S = some { cls := .type "list", dict := none, data := .seq acc c, slots := #[] } → acc.toList = as.map Value.ref → as.length = i → ZG P1 P2 S h as →
      codeAny (model prog w) A (.builtin "list.extend.loop" ⟨[.ref S, .ref z, res], []⟩) R { s with heap := h, toks := tk } := by
  have hSf : S ∉ z :: TI :: TO :: (fp1 ++ fp2) := fun hm => Nat.lt_irrefl _ (low _ hm)
  have nz : ∀ b, S < b → b ≠ z ∧ b ≠ TO ∧ b ≠ i1 ∧ b ≠ i2 := fun b hb => by
    have m1 : i1 ∈ z :: TI :: TO :: (fp1 ++ fp2) := by simp [Sp.mem1]
    have m2 : i2 ∈ z :: TI :: TO :: (fp1 ++ fp2) := by simp [Sp.mem2]
    have a1 := low z (by simp)
    have a2 := low TO (by simp)
    have a3 := low i1 m1
    have a4 := low i2 m2
    exact ⟨Nat.ne_of_gt (Nat.lt_trans a1 hb), Nat.ne_of_gt (Nat.lt_trans a2 hb), Nat.ne_of_gt (Nat.lt_trans a3 hb), Nat.ne_of_gt (Nat.lt_trans a4 hb)⟩
  have Sz : S ≠ z ∧ S ≠ TO ∧ S ≠ i1 ∧ S ≠ i2 := ⟨fun e => hSf (by rw [e]; simp), fun e => hSf (by rw [e]; simp), fun e => hSf (by rw [e]; simp [Sp.mem1]), fun e => hSf (by rw [e]; simp [Sp.mem2])⟩
  intro k
  induction k with
  | zero =>
    intro i h tk c acc as hk hi hst hkeep hS hacc hal hG
    have hin : i = n := by omega
    subst hin
    refine codeAny_builtin PySem.F.entry_extend_loop ?_
    rw [Around.under_plainId PySem.F.plain_extend_loop _]
    show wpAny _ A.in1 (pyNext (.ref z) >>= _) _ _ _
    refine wpAny_bind (zs_end (s := { s with heap := h, toks := tk }) (A := A.in1) Sp D1 D2 hst fun h' tk' he => ?_)
    refine wpAny_pure (hR h' tk' acc c as (fun b o h1 h2 e => ?_) (he S _ Sz.1 Sz.2.1 Sz.2.2.1 Sz.2.2.2 hS) hal ⟨hG.rise, hG.above, fun j a hj => ?_⟩ hacc)
    · simp only [List.mem_cons, List.not_mem_nil, or_false, not_or] at h2
      exact he b o h2.1 h2.2.1 h2.2.2.1 h2.2.2.2 (hkeep b o h1 (by simp [h2]) e)
    · obtain ⟨x1, x2, e1, e2, e3⟩ := hG.pairs j a hj
      obtain ⟨m1, m2, m3, m4⟩ := nz a (hG.above a (List.mem_of_getElem? hj))
      exact ⟨x1, x2, e1, e2, he a _ m1 m2 m3 m4 e3⟩
  | succ k ih =>
    intro i h tk c acc as hk hi hst hkeep hS hacc hal hG
    have hlt : i < n := by omega
    have hsz : acc.size = i := by rw [← Array.length_toList, hacc, List.length_map, hal]
    have hSl : S < h.objs.size := Heap.lt_size hS
    refine codeAny_builtin PySem.F.entry_extend_loop ?_
    rw [Around.under_plainId PySem.F.plain_extend_loop _]
    show wpAny _ A.in1 (pyNext (.ref z) >>= _) _ _ _
    refine wpAny_bind (zs_item (s := { s with heap := h, toks := tk }) (S := S) Sp D1 D2 hst hSl hlt fun x1 x2 h' tk' y1 y2 hst' ht hz hkp => ?_)
    dsimp only at ht hz hkp ⊢
    have hS' := hkp S _ Sz.1 Sz.2.1 Sz.2.2.1 Sz.2.2.2 hS
    have up : ∀ b o, b ≠ S → h'.get? b = some o → (h'.update S (Obj.mapSeq (·.push (Value.ref h.objs.size)))).get? b = some o := fun b o hb e => (Heap.get?_update_other _ _ (Ne.symm hb)).trans e
    show wpAny _ A.in1 (updateSeq S (·.push (Value.ref h.objs.size)) >>= _) _ _ _
    refine wpAny_bind ?_
    refine wpAny_updateSeq hS' rfl (wpAny_pure ⟨plainId_quiet PySem.F.plain_extend_loop _, ih (i + 1) _ tk' _ (acc.push (Value.ref h.objs.size)) (as ++ [h.objs.size]) (by omega) hlt (hst'.keep D1 D2 hSf up)
      (fun b o h1 h2 e => ?_) (Heap.get?_update_self _ hS' rfl) (by rw [Array.toList_push, hacc, List.map_append]; rfl) (by rw [List.length_append, hal]; rfl) ⟨?_, ?_, ?_⟩⟩) (by rw [hsz]; omega) (by show (acc.push (Value.ref h.objs.size)).size ≤ sizeLine + 1; rw [Array.size_push, hsz]; omega)
    · simp only [List.mem_cons, List.not_mem_nil, or_false, not_or] at h2
      exact up b o h1 (hkp b o h2.1 h2.2.1 h2.2.2.1 h2.2.2.2 (hkeep b o h1 (by simp [h2]) e))
    · refine List.pairwise_append.mpr ⟨hG.rise, List.pairwise_singleton _ _, fun a ha b hb => ?_⟩
      rw [List.mem_singleton.mp hb]
      exact hG.there ha
    · intro a ha
      rcases List.mem_append.mp ha with ha | ha
      · exact hG.above a ha
      · rw [List.mem_singleton.mp ha]; exact hSl
    · intro j b hj
      rcases Nat.lt_trichotomy j as.length with h1 | h1 | h1
      · rw [List.getElem?_append_left h1] at hj
        obtain ⟨u1, u2, e1, e2, e3⟩ := hG.pairs j b hj
        have hb := hG.above b (List.mem_of_getElem? hj)
        obtain ⟨m1, m2, m3, m4⟩ := nz b hb
        exact ⟨u1, u2, e1, e2, up b _ (Nat.ne_of_gt hb) (hkp b _ m1 m2 m3 m4 e3)⟩
      · subst h1
        have hb : h.objs.size = b := by simpa using hj
        subst hb
        exact ⟨x1, x2, by rw [hal]; exact y1, by rw [hal]; exact y2, up _ _ (Nat.ne_of_gt hSl) ht⟩
      · have hnone : (as ++ [h.objs.size])[j]? = none := List.getElem?_eq_none (by rw [List.length_append, List.length_singleton]; omega)
        rw [hnone] at hj; cases hj
theorem zip_no_len : typeLookup (.type "zip") "__len__" = pure none := am_miss_of_fast (by decide +kernel)
theorem zip_no_hint : typeLookup (.type "zip") "__length_hint__" = pure none := am_miss_of_fast (by decide +kernel)
theorem zl_extend (Sp : ZipSep2 z TI TO i1 i2 fp1 fp2) (D1 : Draws prog w A.in1.in1 i1 fp1 n P1 St1) (D2 : Draws prog w A.in1.in1 i2 fp2 n P2 St2) (low : ∀ b ∈ z :: TI :: TO :: (fp1 ++ fp2), b < S) (hn : n ≤ sizeLine) (res : Value) (c₀ : Nat)
    (hz : IsZip s.heap z TI TO .none) (hTO : ∃ a1 a2, IsTupOf2 s.heap TO a1 a2) (hTI : IsTupOf2 s.heap TI (.ref i1) (.ref i2)) (s1 : St1 0 s.heap) (s2 : St2 0 s.heap) (hS : s.heap.get? S = some { cls := .type "list", data := .seq #[] c₀ })
    (hR : ∀ h' tk acc c as, (∀ b o, b ≠ S → b ∉ [z, TO, i1, i2] → s.heap.get? b = some o → h'.get? b = some o) → h'.get? S = some { cls := .type "list", dict := none, data := .seq acc c, slots := #[] } → as.length = n → ZG P1 P2 S h' as →
      acc.toList = as.map Value.ref → R (.ok (.ret res)) { s with heap := h', toks := tk }) :
    wpAny (model prog w) A.in1 (Builtin.List.listExtendWith (.ref S) (.ref z) res)
      (fun fin s' => match fin with | .done f => R (.ok f) s' | .again c' => c'.quiet = true ∧ codeAny (model prog w) A c' R s') (fun e s' => R (.error e) s') s := by
  have hSf : S ∉ z :: TI :: TO :: (fp1 ++ fp2) := fun hm => Nat.lt_irrefl _ (low _ hm)
  have hSz : S ≠ z := fun e => hSf (by rw [e]; simp)
  have hT : s.TypeIs (.ref z) "zip" := ⟨_, hz, rfl⟩
  unfold Builtin.List.listExtendWith
  refine wpAny_bind (wpAny_typeOf hT ?_)
  have h1 : Builtin.List.listSameRef (.ref S) (.ref z) = false := by simp [Builtin.List.listSameRef, hSz]
  have h2 : (Value.type "zip" == Value.type "list") = false := by decide
  have h3 : (Value.type "zip" == Value.type "tuple") = false := by decide
  simp only [h1, h2, h3, Bool.or_false, Bool.false_eq_true, if_false]
  refine wpAny_bind (wpAny_pyIter_zip hz ?_)
  refine wpAny_bind (wpAny_holding ?_)
  unfold Builtin.List.listLengthHint
  refine wpAny_bind (wpAny_specialOf hT zip_no_len ?_)
  show wpAny _ A.in1 (specialOf (Value.ref z) (Str.ofString "__length_hint__") >>= _) _ _ _
  refine wpAny_bind (wpAny_specialOf hT zip_no_hint ?_)
  refine wpAny_pure ?_
  show wpAny _ A.in1 (rule "list.extend.makes-room" >>= fun _ => Builtin.List.listTouch (.ref S) >>= fun _ =>
    again (.builtin "list.extend.loop" ⟨[.ref S, .ref z, res], []⟩)) _ _ _
  refine wpAny_bind (wpAny_rule ?_)
  refine wpAny_bind ?_
  show wpAny _ A.in1 (updateSeq S (·.push .none) >>= fun _ => updateSeq S (·.pop)) _ _ _
  refine wpAny_bind (wpAny_updateSeq hS rfl ?_)
  have hS₂ := Heap.get?_update_self (Obj.mapSeq (·.push Value.none)) hS rfl
  refine wpAny_updateSeq (hz := by seq_fits) hS₂ rfl ?_
  have hS₃ := Heap.get?_update_self (Obj.mapSeq (·.pop)) hS₂ rfl
  have oth : ∀ b o, b ≠ S → s.heap.get? b = some o → ((s.heap.update S (Obj.mapSeq (·.push Value.none))).update S (Obj.mapSeq (·.pop))).get? b = some o :=
    fun b o hb e => (Heap.get?_update_other _ _ (Ne.symm hb)).trans ((Heap.get?_update_other _ _ (Ne.symm hb)).trans e)
  refine wpAny_pure ⟨plainId_quiet PySem.F.plain_extend_loop _, zl_loop Sp D1 D2 low hn res (h₁ := s.heap) hR n 0 _ _ _ #[] [] (Nat.sub_zero _) (Nat.zero_le _) (ZSt.keep D1 D2 ⟨hTI, s1, s2, .inl ⟨hz, hTO⟩⟩ hSf oth) (fun b o hb _ e => oth b o hb e) hS₃ rfl rfl
    ⟨List.Pairwise.nil, (fun _ ha => nomatch ha), (fun j a hj => by simp at hj)⟩⟩
theorem zl_init (Sp : ZipSep2 z TI TO i1 i2 fp1 fp2) (D1 : Draws prog w A.in1.in1 i1 fp1 n P1 St1) (D2 : Draws prog w A.in1.in1 i2 fp2 n P2 St2) (low : ∀ b ∈ z :: TI :: TO :: (fp1 ++ fp2), b < S) (hn : n ≤ sizeLine)
    (hz : IsZip s.heap z TI TO .none) (hTO : ∃ a1 a2, IsTupOf2 s.heap TO a1 a2) (hTI : IsTupOf2 s.heap TI (.ref i1) (.ref i2)) (s1 : St1 0 s.heap) (s2 : St2 0 s.heap) (hS : s.heap.get? S = some { cls := .type "list", data := .seq #[] })
    (hR : ∀ h' tk acc c as, (∀ b o, b ≠ S → b ∉ [z, TO, i1, i2] → s.heap.get? b = some o → h'.get? b = some o) → h'.get? S = some { cls := .type "list", dict := none, data := .seq acc c, slots := #[] } → as.length = n → ZG P1 P2 S h' as →
      acc.toList = as.map Value.ref → R (.ok (.ret .none)) { s with heap := h', toks := tk }) :
    wpAny (model prog w) A.in1 (Builtin.«list.__init__» ⟨[.ref S, .ref z], []⟩)
      (fun fin s' => match fin with | .done f => R (.ok f) s' | .again c' => c'.quiet = true ∧ codeAny (model prog w) A c' R s') (fun e s' => R (.error e) s') s := by
  have hSf : S ∉ z :: TI :: TO :: (fp1 ++ fp2) := fun hm => Nat.lt_irrefl _ (low _ hm)
  show wpAny _ A.in1 (do let old ← Builtin.List.listItems (.ref S); Builtin.List.listUpdate (.ref S) (fun _ => #[]); letGo old.toList.reverse; Builtin.List.listExtendWith (.ref S) (.ref z) .none) _ _ s
  refine wpAny_bind ?_
  unfold Builtin.List.listItems
  refine wpAny_bind (wpAny_seqItems hS rfl (wpAny_pure ?_))
  show wpAny _ A.in1 (updateSeq S (fun _ => #[]) >>= fun _ => letGo (#[] : Array Value).toList.reverse >>= fun _ => Builtin.List.listExtendWith (.ref S) (.ref z) .none) _ _ s
  refine wpAny_bind (wpAny_updateSeq hS rfl ?_)
  have hS₂ := Heap.get?_update_self (Obj.mapSeq (fun _ => (#[] : Array Value))) hS rfl
  have oth : ∀ b o, b ≠ S → s.heap.get? b = some o → (s.heap.update S (Obj.mapSeq (fun _ => (#[] : Array Value)))).get? b = some o :=
    fun b o hb e => (Heap.get?_update_other _ _ (Ne.symm hb)).trans e
  refine wpAny_bind (wpAny_letGo ?_)
  have ne : ∀ b ∈ z :: TI :: TO :: (fp1 ++ fp2), b ≠ S := fun b hb e => hSf (e ▸ hb)
  obtain ⟨a1, a2, hTO⟩ := hTO
  refine zl_extend Sp D1 D2 low hn .none _ (oth _ _ (ne z (by simp)) hz) ⟨a1, a2, oth _ _ (ne TO (by simp)) hTO⟩ (oth _ _ (ne TI (by simp)) hTI) (D1.frame _ _ _ s1 fun b hb o e => oth b o (ne b (by simp [hb])) e) (D2.frame _ _ _ s2 fun b hb o e => oth b o (ne b (by simp [hb])) e) hS₂ fun h' tk acc c as hk hS' hl hG hacc => ?_
  exact hR h' tk acc c as (fun b o hb hc e => hk b o hb hc (oth b o hb e)) hS' hl hG hacc
theorem zl_call {Q : Value → Shared → Prop} (Sp : ZipSep2 z TI TO i1 i2 fp1 fp2) (D1 : Draws prog w A.in1.in1.in1 i1 fp1 n P1 St1) (D2 : Draws prog w A.in1.in1.in1 i2 fp2 n P2 St2) (low : ∀ b ∈ z :: TI :: TO :: (fp1 ++ fp2), b < s.heap.objs.size) (hn : n ≤ sizeLine)
    (hz : IsZip s.heap z TI TO .none) (hTO : ∃ a1 a2, IsTupOf2 s.heap TO a1 a2) (hTI : IsTupOf2 s.heap TI (.ref i1) (.ref i2)) (s1 : St1 0 s.heap) (s2 : St2 0 s.heap)
    (hQ : ∀ h' tk acc c as, (∀ b o, b ∉ [z, TO, i1, i2] → s.heap.get? b = some o → h'.get? b = some o) → h'.get? s.heap.objs.size = some { cls := .type "list", dict := none, data := .seq acc c, slots := #[] } → as.length = n → ZG P1 P2 s.heap.objs.size h' as →
      acc.toList = as.map Value.ref → Q (.ref s.heap.objs.size) { s with heap := h', toks := tk }) :
    wpAny (model prog w) A (call (.type "list") [.ref z]) Q E s := by
  refine callType_codes (Q₁ := fun obj s₁ => obj = .ref s.heap.objs.size ∧ s₁ = { s with heap := s.heap.push { cls := .type "list", data := .seq #[] } }) PySem.F.called_list (PySem.F.typeCall_list_1 _) PySem.F.entry_list_init
    (code_list_new _ ⟨rfl, rfl⟩) fun obj s₁ h₁ => ?_
  obtain ⟨rfl, rfl⟩ := h₁
  have hS : (s.heap.push { cls := .type "list", data := .seq #[] }).get? s.heap.objs.size = some { cls := .type "list", data := .seq #[] } := Heap.get?_push_size _ rfl
  have up : ∀ b o, s.heap.get? b = some o → (s.heap.push { cls := .type "list", data := .seq #[] }).get? b = some o := fun b o e => Heap.get?_push_of_some _ e
  obtain ⟨a1, a2, hTO⟩ := hTO
  refine ⟨⟨_, hS, rfl⟩, PySem.F.args_list_init_2 _ _, zl_init (A := A.in1) Sp D1 D2 low hn (up _ _ hz) ⟨a1, a2, up _ _ hTO⟩ (up _ _ hTI) (D1.frame _ _ _ s1 fun b _ o e => up b o e) (D2.frame _ _ _ s2 fun b _ o e => up b o e) hS (fun h' tk acc c as hk hS' hl hG hacc => ?_)⟩
  exact ⟨rfl, hQ h' tk acc c as (fun b o hb e => hk b o (Nat.ne_of_lt (Heap.lt_size e)) hb (up b o e)) hS' hl hG hacc⟩
end
section
variable {X : Cx} {e e2 : Expr} {ta : TA} {te : TE} {p q pos zpos tpos : Pos} {elts : List Expr} {kk : Nat}
/-! ### list(zip(tuple, list)) -/
def putZ : Hp → List Addr → List (V × V) → Hp
  | H, a :: as, x :: xs => putZ (upd H a (.tup [x.1, x.2])) as xs
  | H, _, _ => H
theorem putZ_off {b : Addr} : ∀ (as : List Addr) (xs : List (V × V)) (H : Hp), b ∉ as → putZ H as xs b = H b
  | [], _, _, _ => rfl
  | _ :: _, [], _, _ => rfl
  | a :: as, x :: xs, H, h => by
    show putZ (upd H a (.tup [x.1, x.2])) as xs b = H b
    rw [putZ_off as xs _ (fun z => h (List.mem_cons_of_mem _ z)), upd_ne (fun z => h (by rw [z]; exact List.mem_cons_self))]
theorem putZ_at : ∀ (as : List Addr) (xs : List (V × V)) (H : Hp), as.length = xs.length → as.Nodup → Paired (fun (t : Addr) (x : V × V) => putZ H as xs t = some (.tup [x.1, x.2])) as xs
  | [], [], _, _, _ => .nil
  | [], _ :: _, _, h, _ => by cases h
  | _ :: _, [], _, h, _ => by cases h
  | a :: as, x :: xs, H, h, hn => by
    have hn' := List.nodup_cons.mp hn
    have ih := putZ_at as xs (upd H a (.tup [x.1, x.2])) (Nat.succ.inj h) hn'.2
    refine .cons ?_ ih
    show putZ (upd H a (.tup [x.1, x.2])) as xs a = some (.tup [x.1, x.2])
    rw [putZ_off as xs _ hn'.1, upd_same]
theorem vals_refsZ : ∀ as : List Addr, Vals (as.map V.ref) (as.map Value.ref)
  | [] => .nil
  | _ :: as => .cons rfl (vals_refsZ as)
theorem paired_ixZ {α β : Type} {F : α → β → Prop} : ∀ {xs : List α} {ys : List β}, Paired F xs ys → ∀ {x : α}, x ∈ xs → ∃ (j : Nat) (y : β), xs[j]? = some x ∧ ys[j]? = some y ∧ F x y
  | _, _, .cons h t, x, hx => by
    rcases List.mem_cons.mp hx with e | hx
    · rw [e]
      exact ⟨0, _, rfl, rfl, h⟩
    · obtain ⟨j, y, e1, e2, e3⟩ := paired_ixZ t hx
      exact ⟨j + 1, y, e1, e2, e3⟩
/-- what list(zip(xs, ys)) gives: the list at p, the tuples at ts -/
def LZ (H : Hp) (Q : VK) (xs ys : List V) : Prop := ∀ (H' : Hp) (p : Addr) (ts : List Addr), (∀ b o, H b = some o → H' b = some o) → H p = none → (∀ t ∈ ts, H t = none) → p ∉ ts → (∀ b, b ≠ p → b ∉ ts → H' b = H b) → H' p = some (.lst (ts.map V.ref)) →
  Paired (fun (t : Addr) (x : V × V) => H' t = some (.tup [x.1, x.2])) ts (xs.zip ys) → Q (.ref p) H'
def tListZip (K : PySem.W.Frag) (ta : TA) : TE := fun σ H Q => ta σ H fun vs H1 => ∃ a b xs ys, vs = [.ref a, .ref b] ∧ SqT K H1 a xs ∧ SqL K H1 b ys ∧ xs.length = ys.length ∧ LZ H1 Q xs ys
theorem pe_listzip (hl : X.mg "list" = none) (hm : X.mg "zip" = none) (ha : PA X [e, e2] ta) (hc : X.calm = true := by rfl) (hgl : Gl X "list" := by rfl) (hg : Gl X "zip" := by rfl)
    (hs : starEach [e, e2] X.env = (false, eval e X.env) :: starEach [e2] X.env := by rfl) (hpl : (backTo zpos (starEach [e2] X.env)).any (·.1) = false := by rfl)
    (hs2 : starEach [.Call (.Name "zip" q) [e, e2] [] zpos] X.env = (false, eval (.Call (.Name "zip" q) [e, e2] [] zpos) X.env) :: starEach [] X.env := by rfl) :
    PE X (.Call (.Name "list" p) [.Call (.Name "zip" q) [e, e2] [] zpos] [] pos) (tListZip X.K ta) := by
  refine ⟨fun pins s σ H Q I hq => ?_⟩
  refine wpAny_Call_Name_kw (ld_blt I hgl hl PyProof.Rows.boot_list ?_)
  refine PyProof.Rows.callWith_type1 ?_ hs2 rfl
  rw [hs2]
  show wpAny _ _ (spliced ((false, eval (.Call (.Name "zip" q) [e, e2] [] zpos) X.env) :: backTo pos (starEach [] X.env))) _ _ s
  refine Calls.spliced_cons ?_
  refine Call_ (ld_blt I hg hm PyProof.Rows.boot_zip (PyProof.Rows.callWith_type1 (thn (ha.run zpos pins s σ H _ I hq) fun us s1 ⟨vs, H1, I1, r1, q1⟩ => ?_) hs hpl))
  obtain ⟨a, b, xs, ys, ex, hqx, hqy, hlen, q1⟩ := q1
  subst ex
  cases r1 with
  | cons r rr =>
    cases rr with
    | cons r' rr =>
      cases rr
      cases r
      cases r'
      obtain ⟨its, rv, p1, hz1⟩ := I1.tuple hqx
      obtain ⟨its2, rv2, p2, hz2⟩ := I1.list hqy
      have l1 := rv.length
      have l2 := rv2.length
      have p1' : s1.heap.IsTuple a its.toArray := p1
      have p2' : s1.heap.IsList b its2.toArray := p2.isList
      have la : a < s1.heap.objs.size := by obtain ⟨o, e, _⟩ := id p1'; exact Heap.lt_size e
      have lb : b < s1.heap.objs.size := p2.lt
      refine zip_begins2 (begins_tuple a its.toArray) (begins_list b its2.toArray) p1' p2' fun h' hz hTI hTO hi1 hi2 hsz hk => ?_
      refine Calls.spliced_nil ?_
      have I2 : Inv X pins σ H1 { s1 with heap := h' } := I1.kept (t' := s1.toks) hk
      have Sp := zip_sep2 (N := s1.heap.objs.size) (fp1 := [a]) (fp2 := [b]) (fun x hx => by rw [List.mem_singleton.mp hx]; exact la) (fun x hx => by rw [List.mem_singleton.mp hx]; exact lb)
      have hh := I1.ok.hd hc
      have D1 := Draws.tuple (prog := X.prog) (w := X.w) (A := X.A.in1.in1.in1) hh s1.heap.objs.size a (Nat.ne_of_lt la) its.toArray
      have D2 := Draws.list (prog := X.prog) (w := X.w) (A := X.A.in1.in1.in1) hh (s1.heap.objs.size + 1) b (Nat.ne_of_lt (Nat.lt_succ_of_lt lb)) its2.toArray
      have n1 : its.toArray.size = xs.length := by simp; omega
      have n2 : its2.toArray.size = xs.length := by simp; omega
      rw [n1] at D1
      rw [n2] at D2
      refine zl_call (s := { s1 with heap := h' }) Sp D1 D2 (fun x hx => ?_) (by omega) hz ⟨_, _, hTO⟩ hTI ⟨⟨_, hi1, rfl, rfl⟩, p1'.at fun o e => hk a o e⟩ ⟨⟨_, hi2, rfl, rfl⟩, p2'.at fun o e => hk b o e⟩ fun h2 tk acc c as hk2 hS hl hG hacc => ?_
      · have e5 : s1.heap.objs.size + 5 = h'.objs.size := hsz.symm
        show x < h'.objs.size
        rw [hsz]
        have hx' : x = s1.heap.objs.size + 4 ∨ x = s1.heap.objs.size + 2 ∨ x = s1.heap.objs.size + 3 ∨ x = s1.heap.objs.size ∨ x = a ∨ x = s1.heap.objs.size + 1 ∨ x = b := by simpa using hx
        have go : ∀ (N x a b : Nat), a < N → b < N → (x = N + 4 ∨ x = N + 2 ∨ x = N + 3 ∨ x = N ∨ x = a ∨ x = N + 1 ∨ x = b) → x < N + 5 := fun N x a b h1 h2 h3 => by omega
        exact go _ _ _ _ la lb hx'
      · have hlt : as.length = (xs.zip ys).length := by rw [hl, List.length_zip]; omega
        have low : ∀ b' o, s1.heap.get? b' = some o → b' < s1.heap.objs.size := fun _ _ e => Heap.lt_size e
        have hS5 : s1.heap.objs.size + 5 = h'.objs.size := hsz.symm
        have big : ∀ t ∈ as, s1.heap.objs.size ≤ t := fun t ht => by
          have h1 := hG.above t ht
          have go : ∀ (N M t : Nat), N + 5 = M → M < t → N ≤ t := fun N M t h1 h2 => by omega
          exact go _ _ _ hS5 h1
        have hSn : h'.objs.size ∉ as := fun z => Nat.lt_irrefl _ (hG.above _ z)
        have nd : as.Nodup := List.Pairwise.imp (fun {a b} (h : a < b) => Nat.ne_of_lt h) hG.rise
        have new : ∀ t ∈ as, H1 t = none := fun t ht => I1.hok.fresh (big t ht)
        have newS : H1 h'.objs.size = none := I1.hok.fresh (by rw [hsz]; exact Nat.le_add_right _ _)
        have atP := putZ_at as (xs.zip ys) (upd H1 h'.objs.size (.lst (as.map V.ref))) hlt nd
        have off : ∀ b', b' ∉ as → b' ≠ h'.objs.size → putZ (upd H1 h'.objs.size (.lst (as.map V.ref))) as (xs.zip ys) b' = H1 b' := fun b' h1 h2 => by rw [putZ_off as _ _ h1, upd_ne h2]
        have kp : ∀ b' u, H1 b' = some u → (putZ (upd H1 h'.objs.size (.lst (as.map V.ref))) as (xs.zip ys)) b' = some u := fun b' u e => by
          rw [off b' (fun z => by rw [new b' z] at e; cases e) (fun z => by rw [z, newS] at e; cases e)]
          exact e
        have eS : putZ (upd H1 h'.objs.size (.lst (as.map V.ref))) as (xs.zip ys) h'.objs.size = some (.lst (as.map V.ref)) := by rw [putZ_off as _ _ hSn, upd_same]
        have keep2 : ∀ b' o, s1.heap.get? b' = some o → h2.get? b' = some o := fun b' o e => by
          refine hk2 b' o (fun hm => ?_) (hk b' o e)
          have hlt := low b' o e
          have hm' : b' = s1.heap.objs.size + 4 ∨ b' = s1.heap.objs.size + 3 ∨ b' = s1.heap.objs.size ∨ b' = s1.heap.objs.size + 1 := by simpa using hm
          have go : ∀ (N x : Nat), x < N → (x = N + 4 ∨ x = N + 3 ∨ x = N ∨ x = N + 1) → False := fun N x h1 h2 => by omega
          exact go _ _ hlt hm'
        have J : Inv X pins σ (putZ (upd H1 h'.objs.size (.lst (as.map V.ref))) as (xs.zip ys)) { s1 with heap := h2, toks := tk } := by
          refine I1.call' (ch := []) rfl ⟨fun b o q _ _ _ => keep2 b o q, fun b o q _ _ _ => ⟨o.slots, keep2 b o q⟩, fun b o q n _ => ?_, fun b o q _ => ⟨o, keep2 b o q⟩, fun b xs q => kp b _ q, fun b o u q => kp b _ q, fun b ps q => ⟨#[], by rw [kp b _ q]; simp⟩⟩ (fun b u q => ?_) I1.bare fun b z => by simp at z
          · have hlt := low b o q
            rw [off b (fun z => Nat.lt_irrefl _ (Nat.lt_of_lt_of_le hlt (big b z))) (fun z => by
              have go : ∀ (N M b : Nat), N + 5 = M → b < N → b = M → False := fun N M b h1 h2 h3 => by omega
              exact go _ _ _ hS5 hlt z)]
            exact n
          · by_cases hb : b ∈ as
            · obtain ⟨j, pk, e1, e2, e3⟩ := paired_ixZ atP hb
              rw [e3] at q
              cases q
              obtain ⟨u1, u2, f1, f2, f3⟩ := hG.pairs j b e1
              rw [List.getElem?_zip_eq_some] at e2
              obtain ⟨v1, g1, g2⟩ := rv.get e2.1
              obtain ⟨v2, g3, g4⟩ := rv2.get e2.2
              have c1 : u1 = v1 := by
                have : its.toArray[j]? = some v1 := by simpa using g1
                rw [f1] at this
                exact Option.some.inj this
              have c2 : u2 = v2 := by
                have : its2.toArray[j]? = some v2 := by simpa using g3
                rw [f2] at this
                exact Option.some.inj this
              subst c1 c2
              exact ⟨by show 2 ≤ sizeLine; decide, [u1, u2], .cons g2 (.cons g4 .nil), ⟨_, f3, rfl, _, rfl⟩⟩
            · by_cases hb2 : b = h'.objs.size
              · rw [hb2] at q ⊢
                rw [eS] at q
                cases q
                refine ⟨by rw [List.length_map]; omega, acc.toList, c, by rw [hacc]; exact vals_refsZ as, ?_⟩
                rw [Array.toArray_toList]
                exact hS
              · rw [off b hb hb2] at q
                exact (I1.hok b u q).stay (fun d v _ y => keep2 d v y) (fun d y => kp d _ y) fun d xs y => kp d _ y
        exact ⟨.ref _, _, J, rfl, q1 _ _ as kp newS new hSn (fun b' h1 h2 => off b' h2 h1) eS atP⟩
end
/-! ### enumerate(tuple) -/
theorem meets_enumerate_newB1 {v : Value} {o : Obj} {H : Heap → Prop} (B : Begins v o H) :
    Meets (Builtin.«enumerate.__new__» ⟨[.type "enumerate", v], []⟩) (fun _ R s => H s.heap ∧
      R (.ok (.ret (.ref (s.heap.push o).objs.size))) { s with heap := (s.heap.push o).push { cls := .type "enumerate", data := .fields #[.none, .bool false, .ref s.heap.objs.size, rawInt 0, .none, .none] } }) :=
  .of_wp fun prog w A R s h => by
    obtain ⟨hp, g, d, tk, os⟩ := s; obtain ⟨h1, h⟩ := h
    have hsub := sub_enumerate
    have q1 : ∀ {A' : Around} {E : Value → Shared → Prop} {Q : Value → Shared → Prop}, Q (.ref hp.objs.size) ⟨hp.push o, g, d, tk, os⟩ → wpAny (model prog w) A' (pyIter v) Q E ⟨hp, g, d, tk, os⟩ :=
      fun q => B.iter prog w _ _ ⟨hp, g, d, tk, os⟩ _ h1 q
    wp_walk using q1
    refine wpAny_stack_any fun st => wpAny_pure ?_
    split
    · rename_i c _ _ _ _ _
      cases (c == Value.type "enumerate")
      · wp_walk using q1
        exact ⟨_, rfl, h⟩
      · wp_walk using q1
        exact ⟨_, rfl, h⟩
    · wp_walk using q1
      exact ⟨_, rfl, h⟩
theorem enum_begins1 {prog : Program} {w : World} {A : Around} {E : Value → Shared → Prop} {s : Shared} {v : Value} {o : Obj} {H : Heap → Prop} {Q : Value → Shared → Prop} (B : Begins v o H) (h1 : H s.heap)
    (h : ∀ h', IsEnum h' (s.heap.objs.size + 1) s.heap.objs.size 0 .none → h'.get? s.heap.objs.size = some o → h'.objs.size = s.heap.objs.size + 2 →
      (∀ b o, s.heap.get? b = some o → h'.get? b = some o) → Q (.ref (s.heap.objs.size + 1)) { s with heap := h' }) :
    wpAny (model prog w) A (call (.type "enumerate") [v]) Q E s := by
  refine callType_new F.called_enumerate (by decide) (F.typeCall_enumerate_1 _) (F.newCall_enumerate_1 _) (fun obj => F.args_object_init_2 obj _) F.entry_enumerate_new
    (meets_enumerate_newB1 B) ⟨h1, ?_⟩
  have hz : (s.heap.push o).objs.size = s.heap.objs.size + 1 := Heap.size_push ..
  show _ ∧ _
  rw [hz]
  have he : IsEnum ((s.heap.push o).push { cls := .type "enumerate", data := .fields #[.none, .bool false, .ref s.heap.objs.size, rawInt 0, .none, .none] }) (s.heap.objs.size + 1) s.heap.objs.size 0 .none := by
    have := Heap.get?_push_size (s.heap.push o) (o := { cls := .type "enumerate", data := .fields #[.none, .bool false, .ref s.heap.objs.size, rawInt 0, .none, .none] }) rfl
    rw [hz] at this; exact this
  refine ⟨⟨_, he, rfl⟩, h _ he (Heap.get?_push_of_some _ (Heap.get?_push_size _ B.free)) (by rw [Heap.size_push, hz]) fun b o x => Heap.get?_push_of_some _ (Heap.get?_push_of_some _ x)⟩
/-- the tuple at a, each item in a new pair -/
def IteT (K : PySem.W.Frag) (a : Addr) : It :=
  ⟨fun i H => ∃ (xs : List V) (x : V), SqT K H a xs ∧ xs[i]? = some x, fun i H v H' => ∃ T x, v = .ref T ∧ H T = none ∧ H' = upd H T (.tup [.int (i : Nat), x]) ∧ ∀ xs, SqT K H a xs → xs[i]? = some x, fun i H => ∃ xs : List V, SqT K H a xs ∧ xs.length ≤ i⟩
theorem turn_enumT {P : Program} {w : World} {K : PySem.W.Frag} {elts : List Expr} {kk : Nat} {tpos : Pos} (a e it : Addr) :
    Turn P w K (.Tuple elts kk tpos) (IteT K a) [e, it] e (fun i h => (∃ old, IsEnum h e it ((i : Nat) : Int) old) ∧ h.IsTupleIter it a i ∧ e ≠ it ∧ a ≠ it) where
  mem := by simp
  obj := fun i h st b hb => by
    obtain ⟨⟨old, he⟩, ⟨o, ho, hc, hd⟩, _⟩ := st
    have e' : b = e ∨ b = it := by simpa using hb
    rcases e' with z | z
    · rw [z]; exact ⟨_, he, fun v q => nomatch q⟩
    · rw [z]; exact ⟨o, ho, fun v q => by rw [hd] at q; cases q⟩
  keep := fun i h h' st k => let ⟨⟨old, he⟩, hi, hne⟩ := st; ⟨⟨old, k e (by simp) _ he⟩, hi.at fun o q => k it (by simp) o q, hne⟩
  item := by
    intro X hP hw hK hc i pins s σ H E I hf st hg
    subst hP hw hK
    obtain ⟨⟨old, he⟩, hit, hne, hai⟩ := st
    obtain ⟨xs, x, hq, hx⟩ := hg
    obtain ⟨its, rv, p, hz⟩ := I.tuple hq
    obtain ⟨u, hu, ru⟩ := rv.get hx
    have p' : s.heap.IsTuple a its.toArray := p
    have hel : e < s.heap.objs.size := Heap.lt_size he
    have hil : it < s.heap.objs.size := by obtain ⟨_, q, _⟩ := hit; exact Heap.lt_size q
    have D := Draws.tuple (prog := X.prog) (w := X.w) (A := X.A.in1) (I.ok.hd hc) it a hai its.toArray
    have hea : e ∉ [it, a] := by
      intro hm
      have hm' : e = it ∨ e = a := by simpa using hm
      rcases hm' with q | q
      · exact hne q
      · obtain ⟨o, ho, hc1, _⟩ := p'
        rw [← q, he] at ho
        cases ho
        simp at hc1
    have hil2 : i < its.toArray.size := by
      have := (List.getElem?_eq_some_iff.mp hu).1
      simpa using this
    refine wpAny_pyNext_enum_itemD D he ⟨hit, p'⟩ hil2 hne hea fun x2 h' tk hP ho hst' hT hsz hk => ?_
    have e2 : x2 = u := by
      have : its.toArray[i]? = some u := by simpa using hu
      rw [hP] at this
      exact Option.some.inj this
    subst e2
    refine ⟨_, rfl, wpAny_letOwnedTupleGo_enum (s := { s with heap := h', toks := tk + 1 }) ho fun h'' he' sb => ?_⟩
    have hT2 : h''.get? s.heap.objs.size = some { cls := .type "tuple", data := .seq #[.int i tk, x2] } := (sb.2 _ (Nat.ne_of_gt hel)).trans hT
    have new : ObjOk X.prog X.w (upd H s.heap.objs.size (.tup [.int (i : Nat), x])) h'' s.heap.objs.size (.tup [.int (i : Nat), x]) :=
      ⟨by show 2 ≤ sizeLine; decide, [.int i tk, x2], .cons ⟨_, rfl⟩ (.cons ru .nil), ⟨_, hT2, rfl, _, rfl⟩⟩
    have I1 : Inv X pins σ (upd H s.heap.objs.size (.tup [.int (i : Nat), x])) { s with heap := h'', toks := tk + 1 } :=
      I.turnedNew (ch := [e, it]) (fun b ob hb q => (sb.2 b (fun z => hb (by simp [z]))).trans (hk b ob (fun z => hb (by simp [z])) (fun z => hb (by simp [z])) q)) hf (Nat.le_refl _) new
    refine ⟨.ref s.heap.objs.size, _, I1, rfl, ⟨_, x, rfl, I.hok.fresh (Nat.le_refl _), rfl, fun ys hy => by rw [I.tuple_inj hy hq]; exact hx⟩, ⟨⟨x2, ?_⟩, hst'.1.at fun o q => (sb.2 it (Ne.symm hne)).trans q, hne, hai⟩, fun b hb => ?_⟩
    · have e1 : ((i + 1 : Nat) : Int) = (i : Int) + 1 := by omega
      rw [e1]; exact he'
    · have hb' : b < s.heap.objs.size := by
        have e' : b = e ∨ b = it := by simpa using hb
        rcases e' with z | z
        · rw [z]; exact hel
        · rw [z]; exact hil
      rw [upd_ne (Nat.ne_of_lt hb')]
      exact (hf b hb).1
  done := by
    intro X hP hw hK hc i pins s σ H E I hf st hg
    subst hP hw hK
    obtain ⟨⟨old, he⟩, hit, hne, hai⟩ := st
    obtain ⟨xs, hq, hx⟩ := hg
    obtain ⟨its, rv, p, hz⟩ := I.tuple hq
    have p' : s.heap.IsTuple a its.toArray := p
    obtain ⟨f0, f1, f2, f3, f4, f5⟩ := hf it (by simp)
    have hl := rv.length
    have hn : its.toArray[i]? = none := by simp; omega
    have hT : s.TypeIs (.ref e) "enumerate" := ⟨_, he, rfl⟩
    unfold pyNext
    refine wpAny_bind (wpAny_attempt (wpAny_callSpecial?_slot (name := Str.ofString "__next__") hT PySem.F.slot_enumerate_next
      (wpAny_call_entry PySem.F.slot_enumerate_next hT PySem.F.entry_enumerate_next ?_ (PySem.F.args_enumerate_next_1 _))))
    show wpAny _ _ (field (.ref e) 2 >>= _) _ _ _
    refine wpAny_bind (wpAny_field he rfl (x := .ref it) rfl ?_)
    refine wpAny_bind (wpAny_nextOf_tuple_end (A := X.A.in1) (I.ok.hd hc) hit p' hn fun h' y eb hy => ?_)
    obtain ⟨o, ho, hc2⟩ := hy
    refine wpAny_bind (wpAny_isInstance (T := "StopIteration") (b := true) ⟨o, ho, hc2⟩ isSubtype_stop ?_)
    exact wpAny_pure ⟨rfl, I.turned (t' := s.toks) (fun b o hb q => eb b o hb q) f0 f1 f3 f4 f5⟩
  self := fun A i s Q E st h => let ⟨⟨_, he⟩, _⟩ := st; wpAny_pyIter_enum he h
/-- enumerate(list or tuple) -/
def iEnumA (K : PySem.W.Frag) (ta : TA) : TI := fun σ H R => ta σ H fun vs H1 => ∃ a xs, vs = [.ref a] ∧ ((SqL K H1 a xs ∧ R (Ite K a) H1) ∨ (SqT K H1 a xs ∧ R (IteT K a) H1))
theorem pi_enumA {X : Cx} {e : Expr} {ta : TA} {p pos tpos : Pos} {elts : List Expr} {kk : Nat} (hg : Gl X "enumerate") (hm : X.mg "enumerate" = none) (ha : PA X [e] ta) (hs : starEach [e] X.env = [(false, eval e X.env)] := by rfl) :
    PI X (.Tuple elts kk tpos) (.Call (.Name "enumerate" p) [e] [] pos) (iEnumA X.K ta) := by
  refine ⟨fun pins s σ H R I h => ?_⟩
  refine Call_ (ld_blt I hg hm PyProof.Rows.boot_enumerate (PyProof.Rows.callWith_type1 (thn (ha.run pos pins s σ H _ I h) fun us s1 ⟨vs, H1, I1, r1, q1⟩ => ?_) hs rfl))
  obtain ⟨a, xs, ex, q1⟩ := q1
  subst ex
  cases r1 with
  | cons r rr =>
    cases rr
    cases r
    have fre : ∀ b, b ∈ [s1.heap.objs.size + 1, s1.heap.objs.size] → FpOk X pins H1 b := fun b hb => by
      have e' : b = s1.heap.objs.size + 1 ∨ b = s1.heap.objs.size := by simpa using hb
      have hle : s1.heap.objs.size ≤ b := by
        rcases e' with z | z
        · rw [z]; exact Nat.le_add_right _ _
        · rw [z]; exact Nat.le_refl _
      exact I1.fpOk hle (I1.hok.fresh hle)
    rcases q1 with ⟨hq, q⟩ | ⟨hq, q⟩
    · obtain ⟨its, rv, p', hz⟩ := I1.list hq
      refine call_enumerate_list p'.isList fun h' he hit hsz hk => wpAny_pyIter_enum he ?_
      have I2 : Inv X pins σ H1 { s1 with heap := h' } := I1.kept (t' := s1.toks) hk
      exact ⟨s1.heap.objs.size + 1, [s1.heap.objs.size + 1, s1.heap.objs.size], _, _, H1, rfl, I2, turn_enum a (s1.heap.objs.size + 1) s1.heap.objs.size, ⟨⟨.none, he⟩, hit, Nat.succ_ne_self _⟩, fre, q⟩
    · obtain ⟨its, rv, p', hz⟩ := I1.tuple hq
      have p2 : s1.heap.IsTuple a its.toArray := p'
      have la : a < s1.heap.objs.size := by obtain ⟨o, e, _⟩ := id p2; exact Heap.lt_size e
      refine enum_begins1 (begins_tuple a its.toArray) p2 fun h' he hit hsz hk => wpAny_pyIter_enum he ?_
      have I2 : Inv X pins σ H1 { s1 with heap := h' } := I1.kept (t' := s1.toks) hk
      exact ⟨s1.heap.objs.size + 1, [s1.heap.objs.size + 1, s1.heap.objs.size], _, _, H1, rfl, I2, turn_enumT a (s1.heap.objs.size + 1) s1.heap.objs.size, ⟨⟨.none, he⟩, ⟨_, hit, rfl, rfl⟩, Nat.succ_ne_self _, Nat.ne_of_lt la⟩, fre, q⟩
end SW
/-! SWStep: one lemma a step of a reading. -/
namespace SW
open PySem L2

theorem sz (n : Nat) (h : n ≤ 16777216 := by omega) : n ≤ sizeLine := by rw [sizeLine_eq]; exact h
theorem szl (n : Nat) (h : n < 16777216 := by omega) : n < sizeLine := by rw [sizeLine_eq]; exact h
/-- facts of classes, by instances -/
class CC (K : PySem.W.Frag) (C : Addr) : Prop where
  c : Cls K C
class NA (K : PySem.W.Frag) (C : Addr) (f : Str) : Prop where
  c : NoAttr K C f
class Look (fs : List (Str × V)) (f : Str) (v : outParam V) : Prop where
  eq : fs.lookup f = some v
class NoLook (fs : List (Str × V)) (f : Str) : Prop where
  eq : fs.lookup f = none
class Put (fs : List (Str × V)) (f : Str) (v : V) (fs' : outParam (List (Str × V))) : Prop where
  eq : putF f v fs = fs'
  len : fs.length < 1000

section
variable {K : PySem.W.Frag} {w : World} {σ : L2.St} {H : Hp} {I : Hp} {M M' : Cs} {D : Ends} {Q : VK} {E : XK} {x y v : V} {ta tb tc te : TE} {t u : TT} {t1 t2 : TS} {r : R2} {f m : Str} {a l p C dx : Addr} {fs fs' : List (Str × V)} {vs xs : List V} {i : Nat}
/-! ### names, constants -/
theorem e_var (h : σ[i]? = some (some v)) (q : Q v H) : tVar i σ H Q := ⟨v, h, q⟩
theorem e_c (q : Q v H) : tC v σ H Q := q
/-! ### statements -/
theorem e_seq (h : t1 { D with nx := t2 D } σ H) : tSeq t1 t2 D σ H := h
/-- a test that leaves all as it was: what follows is shown once -/
theorem seq_fin (fin : t2 D σ H) (h : t2 D σ H → t1 { D with nx := t2 D } σ H) : tSeq t1 t2 D σ H := h fin
theorem e_next (h : D.nx σ H) : tNext D σ H := h
theorem e_drop (h : te σ H fun _ H1 => D.nx σ H1) : tDrop te D σ H := h
theorem e_ret (h : te σ H D.rt) : tRet te D σ H := h
theorem e_retN (h : D.rt .non H) : tRetN D σ H := h
theorem e_asgN (h : te σ H fun x H1 => D.nx (σ.set i (some x)) H1) : tAsg te (gName i) D σ H := h
theorem e_asg {g : TG} (h : te σ H fun x H1 => g x σ H1 D.nx) : tAsg te g D σ H := h
theorem e_if {c : TT} (h : c σ H fun b H1 => if b = true then t1 D σ H1 else t2 D σ H1) : tIfS c t1 t2 D σ H := h
theorem e_brk (h : D.bk σ H) : tBreak D σ H := h
theorem e_cont (h : D.ct σ H) : tCont D σ H := h
theorem e_par {j : Nat} {ta : TA} (h : ta σ H fun vs H1 => ∃ v w, vs = [v, w] ∧ D.nx ((σ.set i (some v)).set j (some w)) H1) : tPar i j ta D σ H := h
theorem g_par {P : V → V → Prop} (h : P x y) : ∃ v w, [x, y] = [v, w] ∧ P v w := ⟨x, y, rfl, h⟩
theorem e_aug {ti : TIp} (h : σ[i]? = some (some x)) (q : te σ H fun y H1 => ti x y H1 fun z H2 => D.nx (σ.set i (some z)) H2) : tAug i te ti D σ H := ⟨x, h, q⟩
theorem g_ipI {g : Int → Int → Int} {i j : Int} (q : Q (.int (g i j)) H) : ipI g (.int i) (.int j) H Q := ⟨i, j, rfl, rfl, q⟩
/-! ### tests -/
theorem e_test {te : TE} {Q : Bool → Hp → Prop} (h : te σ H fun x H' => ∃ k, x = .bl k ∧ Q k H') : tTest te σ H Q := h
theorem g_bl {P : Bool → Prop} {b : Bool} (h : P b) : ∃ k, V.bl b = .bl k ∧ P k := ⟨b, rfl, h⟩
theorem e_and {Q : Bool → Hp → Prop} (h : t σ H fun c H1 => if c = true then u σ H1 Q else Q false H1) : tAnd t u σ H Q := h
theorem e_or {Q : Bool → Hp → Prop} (h : t σ H fun c H1 => if c = true then Q true H1 else u σ H1 Q) : tOr t u σ H Q := h
theorem e_not {Q : Bool → Hp → Prop} (h : t σ H fun c H1 => Q (!c) H1) : tNot t σ H Q := h
theorem e_andV (h : ta σ H fun x H1 => ∃ c, x = .bl c ∧ if c = true then tb σ H1 Q else Q (.bl false) H1) : tAndV ta tb σ H Q := h
theorem e_orV (h : ta σ H fun x H1 => ∃ c, x = .bl c ∧ if c = true then Q (.bl true) H1 else tb σ H1 Q) : tOrV ta tb σ H Q := h
theorem e_notV (h : ta σ H fun x H1 => ∃ c, x = .bl c ∧ Q (.bl (!c)) H1) : tNotV ta σ H Q := h
theorem e_ifE (h : t σ H fun c H1 => if c = true then ta σ H1 Q else tb σ H1 Q) : tIf t ta tb σ H Q := h
theorem e_yes {Q : Bool → Hp → Prop} (h : Q true H) : tYes σ H Q := h
theorem if_dec {p : Prop} [Decidable p] {A B : Prop} (h1 : p → A) (h2 : ¬ p → B) : if decide p = true then A else B := by
  by_cases h : p
  · rw [if_pos (decide_eq_true h)]
    exact h1 h
  · rw [if_neg (by simpa using h)]
    exact h2 h
theorem if_ndec {p : Prop} [Decidable p] {A B : Prop} (h1 : ¬ p → A) (h2 : p → B) : if (!decide p) = true then A else B := by
  by_cases h : p
  · rw [if_neg (by simpa using h)]
    exact h2 h
  · rw [if_pos (by simpa using h)]
    exact h1 h
theorem if_b {b : Bool} {A B : Prop} (h1 : b = true → A) (h2 : b = false → B) : if b = true then A else B := by
  cases b with
  | true => exact if_pos rfl ▸ h1 rfl
  | false => rw [if_neg (by decide)]; exact h2 rfl
theorem if_tt {A B : Prop} (q : A) : if true = true then A else B := by rw [if_pos rfl]; exact q
theorem if_ff {A B : Prop} (q : B) : if false = true then A else B := by rw [if_neg Bool.false_ne_true]; exact q
theorem ifT {c A B : Prop} [Decidable c] (h : c) (q : A) : if c then A else B := by rw [if_pos h]; exact q
theorem ifF {c A B : Prop} [Decidable c] (h : ¬ c) (q : B) : if c then A else B := by rw [if_neg h]; exact q
/-- truth -/
def GTru (K : PySem.W.Frag) (x : V) (H : Hp) (Q : Bool → Hp → Prop) : Prop := ∃ k, TruV K x H k ∧ Q k H
theorem e_tru {Q : Bool → Hp → Prop} (h : te σ H fun x H' => GTru K x H' Q) : tTru K te σ H Q := h
theorem g_tru_bl {Q : Bool → Hp → Prop} {b : Bool} (q : Q b H) : GTru K (.bl b) H Q := ⟨b, rfl, q⟩
theorem g_tru_non {Q : Bool → Hp → Prop} (q : Q false H) : GTru K .non H Q := ⟨false, rfl, q⟩
theorem g_tru_int {Q : Bool → Hp → Prop} {i : Int} (q : Q (i != 0) H) : GTru K (.int i) H Q := ⟨_, rfl, q⟩
theorem g_tru_lst {Q : Bool → Hp → Prop} [o : Ob H a (.lst xs)] (q : Q (!xs.isEmpty) H) : GTru K (.ref a) H Q := ⟨_, .inl ⟨xs, SqL.of o.eq, rfl⟩, q⟩
theorem g_tru_tup {Q : Bool → Hp → Prop} [o : Ob H a (.tup xs)] (q : Q (!xs.isEmpty) H) : GTru K (.ref a) H Q := ⟨_, .inr (.inl ⟨xs, SqT.of o.eq, rfl⟩), q⟩
/-! ### arguments, operators -/
theorem e_nil {Q : List V → Hp → Prop} (q : Q [] H) : tNil σ H Q := q
theorem e_cons {tr : TA} {Q : List V → Hp → Prop} (h : te σ H fun x H1 => tr σ H1 fun xs H2 => Q (x :: xs) H2) : tCons te tr σ H Q := h
theorem e_op (h : ta σ H fun x H1 => tb σ H1 fun y H2 => r x y H2 Q) : tOp r ta tb σ H Q := h
theorem e_un {r : V → Hp → VK → Prop} (h : ta σ H fun x H1 => r x H1 Q) : tUn r ta σ H Q := h
theorem e_chain {r r' : R2} (h : ta σ H fun x H1 => tb σ H1 fun y H2 => r x y H2 fun z H3 => ∃ k, z = .bl k ∧ (if k = true then tc σ H3 fun w' H4 => r' y w' H4 Q else Q (.bl false) H3)) : tChain r r' ta tb tc σ H Q := h
theorem e_cb {r : List V → Hp → VK → Prop} {ta : TA} (h : ta σ H fun vs H1 => r vs H1 Q) : tCB r ta σ H Q := h
theorem g_add {i j : Int} (q : Q (.int (i + j)) H) : rAdd K (.int i) (.int j) H Q := .inl ⟨i, j, rfl, rfl, q⟩
theorem g_addT {i j : Str} (h : i.length + j.length ≤ sizeLine) (q : Q (.str (i ++ j)) H) : rAdd K (.str i) (.str j) H Q := .inr (.inl ⟨i, j, rfl, rfl, h, q⟩)
theorem g_sub {i j : Int} (q : Q (.int (i - j)) H) : rSub (.int i) (.int j) H Q := ⟨i, j, rfl, rfl, q⟩
theorem g_mul {i j : Int} (h : CMul i j) (q : Q (.int (i * j)) H) : rMul (.int i) (.int j) H Q := .inl ⟨i, j, rfl, rfl, h, q⟩
theorem g_mod {i j : Int} (h : 0 < j) (q : Q (.int (i % j)) H) : rMod (.int i) (.int j) H Q := ⟨i, j, rfl, rfl, h, q⟩
theorem g_div {i j : Int} (h : CDivW i j) (q : Q (.int (i / j)) H) : rDiv (.int i) (.int j) H Q := ⟨i, j, rfl, rfl, h, q⟩
theorem g_neg {i : Int} (q : Q (.int (-i)) H) : rNeg (.int i) H Q := ⟨i, rfl, q⟩
theorem g_lt {i j : Int} (q : Q (.bl (decide (i < j))) H) : rLtI (.int i) (.int j) H Q := ⟨i, j, rfl, rfl, q⟩
theorem g_le {i j : Int} (q : Q (.bl (decide (i ≤ j))) H) : rLeI (.int i) (.int j) H Q := ⟨i, j, rfl, rfl, q⟩
theorem g_gt {i j : Int} (q : Q (.bl (decide (j < i))) H) : rGtI (.int i) (.int j) H Q := ⟨i, j, rfl, rfl, q⟩
theorem g_ge {i j : Int} (q : Q (.bl (decide (j ≤ i))) H) : rGeI (.int i) (.int j) H Q := ⟨i, j, rfl, rfl, q⟩
theorem g_eqI {i j : Int} (q : Q (.bl (decide (i = j))) H) : rEqP K (.int i) (.int j) H Q := .inl ⟨rfl, by rw [dec_int]; rw [← Bool.beq_eq_decide_eq] at q; exact q⟩
theorem g_neI {i j : Int} (q : Q (.bl (!decide (i = j))) H) : rNeP K (.int i) (.int j) H Q := .inl ⟨rfl, by rw [dec_int]; rw [← Bool.beq_eq_decide_eq] at q; exact q⟩
theorem g_eqS {i j : Str} (q : Q (.bl (decide (i = j))) H) : rEqP K (.str i) (.str j) H Q := .inl ⟨rfl, by rw [dec_str]; rw [← Bool.beq_eq_decide_eq] at q; exact q⟩
theorem g_neS {i j : Str} (q : Q (.bl (!decide (i = j))) H) : rNeP K (.str i) (.str j) H Q := .inl ⟨rfl, by rw [dec_str]; rw [← Bool.beq_eq_decide_eq] at q; exact q⟩
theorem g_eqV (h : scal x y = true) (q : Q (.bl (decide (x = y))) H) : rEqP K x y H Q := .inl ⟨h, q⟩
theorem g_neV (h : scal x y = true) (q : Q (.bl (!decide (x = y))) H) : rNeP K x y H Q := .inl ⟨h, q⟩
theorem g_isN (q : Q (.bl (decide (x = .non))) H) : rIs x .non H Q := .inl ⟨rfl, q⟩
theorem g_notN (q : Q (.bl (!decide (x = .non))) H) : rIsNot x .non H Q := .inl ⟨rfl, q⟩
theorem g_isN_ref {a : Addr} (q : Q (.bl false) H) : rIs (V.ref a) .non H Q := .inl ⟨rfl, by rw [decide_eq_false (by simp)]; exact q⟩
theorem g_notN_ref {a : Addr} (q : Q (.bl true) H) : rIsNot (V.ref a) .non H Q := .inl ⟨rfl, by rw [decide_eq_false (by simp)]; exact q⟩
theorem g_isN_int {n : Int} (q : Q (.bl false) H) : rIs (V.int n) .non H Q := .inl ⟨rfl, by rw [decide_eq_false (by simp)]; exact q⟩
theorem g_notN_int {n : Int} (q : Q (.bl true) H) : rIsNot (V.int n) .non H Q := .inl ⟨rfl, by rw [decide_eq_false (by simp)]; exact q⟩
theorem g_isN_str {z : Str} (q : Q (.bl false) H) : rIs (V.str z) .non H Q := .inl ⟨rfl, by rw [decide_eq_false (by simp)]; exact q⟩
theorem g_notN_str {z : Str} (q : Q (.bl true) H) : rIsNot (V.str z) .non H Q := .inl ⟨rfl, by rw [decide_eq_false (by simp)]; exact q⟩
theorem g_isN_bl {b : Bool} (q : Q (.bl false) H) : rIs (V.bl b) .non H Q := .inl ⟨rfl, by rw [decide_eq_false (by simp)]; exact q⟩
theorem g_notN_bl {b : Bool} (q : Q (.bl true) H) : rIsNot (V.bl b) .non H Q := .inl ⟨rfl, by rw [decide_eq_false (by simp)]; exact q⟩
theorem g_isN_non (q : Q (.bl true) H) : rIs .non .non H Q := .inl ⟨rfl, by rw [decide_eq_true rfl]; exact q⟩
theorem g_notN_non (q : Q (.bl false) H) : rIsNot .non .non H Q := .inl ⟨rfl, by rw [decide_eq_true rfl]; exact q⟩
/-! ### subscripts, len, list -/
theorem g_ixL {i : Int} [o : Ob H p (.lst xs)] (h : atI xs i = some v) (q : Q v H) : rIxP K w (.ref p) (.int i) H Q := .inl ⟨p, xs, i, v, rfl, rfl, SqL.of o.eq, h, q⟩
theorem g_ixT {i : Int} [o : Ob H p (.tup xs)] (h : atI xs i = some v) (q : Q v H) : rIxP K w (.ref p) (.int i) H Q := .inr (.inl ⟨p, xs, i, v, rfl, rfl, SqT.of o.eq, h, q⟩)
theorem atI_of {i : Int} (h0 : 0 ≤ i) (h : xs[i.toNat]? = some v) : atI xs i = some v := by
  have e : i = ((i.toNat : Nat) : Int) := by omega
  rw [e]
  exact atI_nat h
theorem g_ixLn {i : Int} [o : Ob H p (.lst xs)] (h0 : 0 ≤ i) (h : xs[i.toNat]? = some v) (q : Q v H) : rIxP K w (.ref p) (.int i) H Q := g_ixL (atI_of h0 h) q
theorem g_ixTn {i : Int} [o : Ob H p (.tup xs)] (h0 : 0 ≤ i) (h : xs[i.toNat]? = some v) (q : Q v H) : rIxP K w (.ref p) (.int i) H Q := g_ixT (atI_of h0 h) q
theorem g_lenL [o : Ob H p (.lst xs)] (q : Q (.int xs.length) H) : rLenP K [.ref p] H Q := .inl ⟨p, xs, rfl, .inl (SqL.of o.eq), q⟩
theorem g_lenT [o : Ob H p (.tup xs)] (q : Q (.int xs.length) H) : rLenP K [.ref p] H Q := .inl ⟨p, xs, rfl, .inr (SqT.of o.eq), q⟩
theorem g_lenS {z : Str} (h : z.length ≤ sizeLine) (q : Q (.int z.length) H) : rLenP K [.str z] H Q := .inr (.inl ⟨z, rfl, h, q⟩)
theorem g_lenQ (h : SqL K H p xs) (q : Q (.int xs.length) H) : rLenP K [.ref p] H Q := .inl ⟨p, xs, rfl, .inl h, q⟩
theorem g_ixQ {i : Int} (hs : SqL K H p xs) (h : atI xs i = some v) (q : Q v H) : rIxP K w (.ref p) (.int i) H Q := .inl ⟨p, xs, i, v, rfl, rfl, hs, h, q⟩
theorem g_int {i : Int} (q : Q (.int i) H) : rInt [.int i] H Q := .inl ⟨i, rfl, q⟩
theorem g_intB {b : Bool} (q : Q (.int (if b then 1 else 0)) H) : rInt [.bl b] H Q := .inr ⟨b, rfl, q⟩
theorem g_min2 {i j : Int} (q : Q (.int (if j < i then j else i)) H) : rMin2 [.int i, .int j] H Q := ⟨i, j, rfl, q⟩
theorem g_max2 {i j : Int} (q : Q (.int (if j > i then j else i)) H) : rMax2 [.int i, .int j] H Q := ⟨i, j, rfl, q⟩
theorem g_strI {i : Int} (h : i.natAbs.log2 < 1920) (q : Q (.str (toString i)) H) : rStrI [.int i] H Q := ⟨i, rfl, h, q⟩
/-! ### what is made: frozen at once (I), or ours to change (M) -/
def GTup (H : Hp) (Q : VK) (xs : List V) : Prop := xs.length ≤ sizeLine ∧ ∀ p, H p = none → Q (.ref p) (upd H p (.tup xs))
def GLst (H : Hp) (Q : VK) (xs : List V) : Prop := xs.length ≤ sizeLine ∧ ∀ p, H p = none → Q (.ref p) (upd H p (.lst xs))
theorem e_tup {ta : TA} (h : ta σ H fun xs H1 => GTup H1 Q xs) : tTup ta σ H Q := h
theorem e_lst {ta : TA} (h : ta σ H fun xs H1 => GLst H1 Q xs) : tLst ta σ H Q := h
theorem newI [o : Own I M H] {ob : HO} (q : ∀ (p : Addr) (I' H' : Hp), Sub1 I I' → Im I' p ob → Own I' M H' → Q (.ref p) H') : ∀ p, H p = none → Q (.ref p) (upd H p ob) :=
  fun p hp => q p _ _ (Sub1.new (o.notI hp)) Im.new (o.newI hp)
theorem newM [o : Own I M H] {ob : HO} (q : ∀ (p : Addr) (H' : Hp), Own I ((p, ob) :: M) H' → Q (.ref p) H') : ∀ p, H p = none → Q (.ref p) (upd H p ob) :=
  fun p hp => q p _ (o.newM hp)
theorem g_tup [o : Own I M H] (h : xs.length ≤ sizeLine) (q : ∀ (p : Addr) (I' H' : Hp), Sub1 I I' → Im I' p (.tup xs) → Own I' M H' → Q (.ref p) H') : GTup H Q xs := ⟨h, newI q⟩
theorem g_lstI [o : Own I M H] (h : xs.length ≤ sizeLine) (q : ∀ (p : Addr) (I' H' : Hp), Sub1 I I' → Im I' p (.lst xs) → Own I' M H' → Q (.ref p) H') : GLst H Q xs := ⟨h, newI q⟩
theorem g_lstM [o : Own I M H] (h : xs.length ≤ sizeLine) (q : ∀ (p : Addr) (H' : Hp), Own I ((p, .lst xs) :: M) H' → Q (.ref p) H') : GLst H Q xs := ⟨h, newM q⟩
theorem g_listI [o : Own I M H] [b : Ob H p (.lst xs)] (q : ∀ (p : Addr) (I' H' : Hp), Sub1 I I' → Im I' p (.lst xs) → Own I' M H' → Q (.ref p) H') : rListOf K [.ref p] H Q := ⟨p, xs, rfl, .inl (SqL.of b.eq), newI q⟩
theorem g_catI [o : Own I M H] {b : Addr} {ys : List V} [h1 : Ob H a (.lst xs)] [h2 : Ob H b (.lst ys)] (hl : xs.length + ys.length ≤ sizeLine) (q : ∀ (p : Addr) (I' H' : Hp), Sub1 I I' → Im I' p (.lst (xs ++ ys)) → Own I' M H' → Q (.ref p) H') :
    rAdd K (.ref a) (.ref b) H Q := .inr (.inr (.inl ⟨a, b, xs, ys, rfl, rfl, h1.eq, h2.eq, hl, newI q⟩))
/-! ### fields, methods, instances -/
def GFld (K : PySem.W.Frag) (f : Str) (x : V) (H : Hp) (Q : VK) : Prop := ∃ a C dx fs v, x = .ref a ∧ H a = some (.ins C dx fs) ∧ Cls K C ∧ NoAttr K C f ∧ fs.lookup f = some v ∧ Q v H
theorem e_fld (h : ta σ H fun x H1 => GFld K f x H1 Q) : tFld K ta f σ H Q := h
theorem g_fld [o : Ob H a (.ins C dx fs)] [c : CC K C] [n : NA K C f] [k : Look fs f v] (q : Q v H) : GFld K f (.ref a) H Q := ⟨a, C, dx, fs, v, rfl, o.eq, c.c, n.c, k.eq, q⟩
def GSet (K : PySem.W.Frag) (f : Str) (y x : V) (H : Hp) (Q : Hp → Prop) : Prop := ∃ a C dx fs, x = .ref a ∧ H a = some (.ins C dx fs) ∧ Cls K C ∧ NoAttr K C f ∧ fs.length < 1000 ∧ Q (upd H a (.ins C dx (putF f y fs)))
theorem e_set (h : te σ H fun y H1 => ta σ H1 fun x H2 => GSet K f y x H2 (D.nx σ)) : sFld K ta te f D σ H := h
theorem g_set {Q : Hp → Prop} [w : Own I M H] [o : Ob H a (.ins C dx fs)] [c : CC K C] [n : NA K C f] [k : Put fs f y fs'] [s : SetC M a (.ins C dx fs') M'] (q : ∀ H' : Hp, Own I M' H' → Q H') : GSet K f y (.ref a) H Q := by
  refine ⟨a, C, dx, fs, rfl, o.eq, c.c, n.c, k.len, ?_⟩
  rw [k.eq]
  exact q _ w.set
def GMeth (C : Addr) (m : Str) (sp : Sp) (E : XK) (t : TA) (σ : L2.St) (x : V) (H : Hp) (Q : VK) : Prop := ∃ a dx fs, x = .ref a ∧ H a = some (.ins C dx fs) ∧ fs.lookup m = none ∧ t σ H fun vs H2 => sp (x :: (vs ++ [])) H2 Q E
theorem e_meth {sp : Sp} {t : TA} (h : ta σ H fun x H1 => GMeth C m sp E t σ x H1 Q) : tMeth C m sp [] E ta t σ H Q := h
theorem g_meth {sp : Sp} {t : TA} [o : Ob H a (.ins C dx fs)] [n : NoLook fs m] (q : t σ H fun vs H2 => sp (.ref a :: vs) H2 Q E) : GMeth C m sp E t σ (.ref a) H Q :=
  ⟨a, dx, fs, rfl, o.eq, n.eq, by simpa only [List.append_nil] using q⟩
theorem e_call {sp : Sp} {t : TA} (h : t σ H fun vs H1 => sp vs H1 Q E) : tCall sp [] E t σ H Q := by
  unfold tCall
  simpa only [List.append_nil] using h
def GMake (C : Addr) (sp : Sp) (E : XK) (vs : List V) (H : Hp) (Q : VK) : Prop := ∀ x dx, H x = none → H dx = none → dx ≠ x → sp (.ref x :: vs) (upd (upd H dx (.own x)) x (.ins C dx [])) (fun v H2 => v = .non ∧ Q (.ref x) H2) E
theorem e_make {sp : Sp} {t : TA} (h : t σ H fun vs H1 => GMake C sp E vs H1 Q) : tMake C sp [] E t σ H Q := by
  unfold tMake
  simpa only [List.append_nil, GMake] using h
theorem g_make {sp : Sp} [w : Own I M H] (q : ∀ (x dx : Addr) (I' H' : Hp), Sub1 I I' → Own I' ((x, .ins C dx []) :: M) H' → sp (.ref x :: vs) H' (fun v H2 => v = .non ∧ Q (.ref x) H2) E) : GMake C sp E vs H Q := by
  intro x dx hx hd ne
  have o1 := w.newI (o := .own x) hd
  have hx2 : upd H dx (.own x) x = none := by rw [upd_ne (Ne.symm ne)]; exact hx
  exact q x dx _ _ (Sub1.new (w.notI hd)) (o1.newM hx2)
/-! ### methods of lists -/
def GBM (K : PySem.W.Frag) (T : String) (r : V → List V → Hp → VK → Prop) (t : TA) (σ : L2.St) (x : V) (H : Hp) (Q : VK) : Prop := tyV K T x H ∧ t σ H fun xs H2 => r x xs H2 Q
theorem e_bm {T : String} {r : V → List V → Hp → VK → Prop} {t : TA} (h : ta σ H fun x H1 => GBM K T r t σ x H1 Q) : tBM K T r ta t σ H Q := h
theorem g_bmL {r : V → List V → Hp → VK → Prop} {t : TA} [o : Ob H l (.lst xs)] (q : t σ H fun ys H2 => r (.ref l) ys H2 Q) : GBM K "list" r t σ (.ref l) H Q := ⟨.inl ⟨rfl, xs, SqL.of o.eq⟩, q⟩
theorem g_append [w : Own I M H] [o : Ob H l (.lst xs)] [s : SetC M l (.lst (xs ++ [y])) M'] (h : xs.length < sizeLine) (q : ∀ H' : Hp, Own I M' H' → Q .non H') : rAppend (.ref l) [y] H Q := ⟨l, xs, y, rfl, rfl, o.eq, h, q _ w.set⟩
theorem g_extend [w : Own I M H] {b : Addr} {ys : List V} [o : Ob H l (.lst xs)] [o2 : Ob H b (.lst ys)] [s : SetC M l (.lst (xs ++ ys)) M'] (h : xs.length + ys.length ≤ sizeLine) (q : ∀ H' : Hp, Own I M' H' → Q .non H') : rExtend (.ref l) [.ref b] H Q :=
  ⟨l, b, xs, ys, rfl, rfl, o.eq, o2.eq, h, q _ w.set⟩
/-! ### xs[i] = v -/
theorem e_sub {to ti : TE} {t : TSet} {Q : L2.St → Hp → Prop} (h : to σ H fun o H1 => ti σ H1 fun i H2 => t o i v H2 fun H3 => Q σ H3) : gSub to ti t v σ H Q := h
theorem g_setL {Q : Hp → Prop} {j : Nat} [w : Own I M H] [o : Ob H l (.lst xs)] [s : SetC M l (.lst (xs.set j v)) M'] (h : j < xs.length) (q : ∀ H' : Hp, Own I M' H' → Q H') : rSetL (.ref l) (.int (j : Int)) v H Q :=
  ⟨l, xs, (j : Int), j, rfl, rfl, o.eq, by
    unfold ixN
    rw [if_pos (by omega), if_pos (by omega)]
    simp, q _ w.set⟩
/-! ### targets -/
theorem e_gname {Q : L2.St → Hp → Prop} (h : Q (σ.set i (some v)) H) : gName i v σ H Q := h
theorem g_gtup {n : Nat} {t : TGs} {Q : L2.St → Hp → Prop} [o : Ob H a (.tup xs)] (hn : xs.length = n) (h : t xs σ H Q) : gUnp K n t (.ref a) σ H Q := .inl ⟨a, xs, rfl, SqT.of o.eq, hn, h⟩
theorem g_glst {n : Nat} {t : TGs} {Q : L2.St → Hp → Prop} [o : Ob H a (.lst xs)] (hn : xs.length = n) (h : t xs σ H Q) : gUnp K n t (.ref a) σ H Q := .inr ⟨a, xs, rfl, SqL.of o.eq, hn, h⟩
theorem e_gnil {Q : L2.St → Hp → Prop} (h : Q σ H) : gNil [] σ H Q := ⟨rfl, h⟩
theorem e_gcons {t : TG} {u : TGs} {Q : L2.St → Hp → Prop} (h : t v σ H fun σ' H' => u vs σ' H' Q) : gCons t u (v :: vs) σ H Q := ⟨v, vs, rfl, h⟩
/-! ### loops over what stands still -/
end
def GSeq (K : PySem.W.Frag) (x : V) (H1 : Hp) (R : It → Hp → Prop) : Prop := (∃ a xs, x = .ref a ∧ SqL K H1 a xs ∧ R (Itl K a) H1) ∨ (∃ a xs, x = .ref a ∧ SqT K H1 a xs ∧ R (Itt K a) H1) ∨ (∃ z, x = .str z ∧ R (Its z) H1)
def GRng1 (vs : List V) (H : Hp) (R : It → Hp → Prop) : Prop := ∃ j : Int, vs = [.int j] ∧ -(2 ^ 62) ≤ j ∧ j < 2 ^ 62 ∧ R (Itr 0 j.toNat) H
def GRng2 (vs : List V) (H : Hp) (R : It → Hp → Prop) : Prop := ∃ i j : Int, vs = [.int i, .int j] ∧ (-(2 ^ 62) ≤ i ∧ i < 2 ^ 62 ∧ -(2 ^ 62) ≤ j ∧ j < 2 ^ 62) ∧ R (Itr i (j - i).toNat) H
def GEnum (K : PySem.W.Frag) (vs : List V) (H : Hp) (R : It → Hp → Prop) : Prop := ∃ a xs, vs = [.ref a] ∧ ((SqL K H a xs ∧ R (Ite K a) H) ∨ (SqT K H a xs ∧ R (IteT K a) H))
def GFor (J : It) (g : TG) (tb : TS) (D : Ends) (σ : L2.St) (H1 : Hp) : Prop := ∃ W : Nat → Nat → L2.St → Hp → Prop, (∃ m, W 0 m σ H1) ∧ ∀ i m σ H, W i m σ H →
  (J.stop i H ∧ D.nx σ H) ∨ (J.go i H ∧ ∃ N : L2.St → Hp → Prop, (∀ σ' H', N σ' H' → ∃ m', m' < m ∧ W (i + 1) m' σ' H') ∧ ∀ x H', J.yld i H x H' → g x σ H' fun σ2 H2 => tb { D with nx := N, ct := N, bk := D.nx } σ2 H2)
def GLc (J : It) (g : TG) (tt : TT) (te : TE) (vs : List Nat) (σ : L2.St) (H1 : Hp) (Q : VK) : Prop := ∀ D, H1 D = none → ∃ W : Nat → Nat → Hp → Prop, (∃ m, W 0 m (upd H1 D (.lst []))) ∧ ∀ i m H, W i m H →
  (J.stop i H ∧ Q (.ref D) H) ∨ (J.go i H ∧ ∃ Nx : Hp → Prop, (∀ H', Nx H' → ∃ m', m' < m ∧ W (i + 1) m' H') ∧ ∀ x H', J.yld i H x H' → g x (wipe σ vs) H' fun σ2 H2 => wipe σ2 vs = wipe σ vs ∧ tt σ2 H2 fun b H3 =>
    if b = true then te σ2 H3 fun y H4 => ∃ acc, H4 D = some (.lst acc) ∧ acc.length < sizeLine ∧ Nx (upd H4 D (.lst (acc ++ [y]))) else Nx H3)
section
variable {K : PySem.W.Frag} {w : World} {σ : L2.St} {H : Hp} {I : Hp} {M M' : Cs} {D : Ends} {Q : VK} {a : Addr} {xs : List V} {wi : TI} {g : TG} {tb : TS} {te : TE} {tt : TT} {vs : List Nat}
theorem e_for (h : wi σ H fun J H1 => GFor J g tb D σ H1) : tFor wi g tb D σ H := h
theorem e_lc (h : wi σ H fun J H1 => GLc J g tt te vs σ H1 Q) : tLc wi g tt te vs σ H Q := h
theorem e_iseq {R : It → Hp → Prop} {tl : TE} (h : tl σ H fun x H1 => GSeq K x H1 R) : iSeq K tl σ H R := h
theorem g_seqL {R : It → Hp → Prop} [o : Ob H a (.lst xs)] (h : R (Itl K a) H) : GSeq K (.ref a) H R := .inl ⟨a, xs, rfl, SqL.of o.eq, h⟩
theorem g_seqT {R : It → Hp → Prop} [o : Ob H a (.tup xs)] (h : R (Itt K a) H) : GSeq K (.ref a) H R := .inr (.inl ⟨a, xs, rfl, SqT.of o.eq, h⟩)
theorem g_seqS {R : It → Hp → Prop} {z : Str} (h : R (Its z) H) : GSeq K (.str z) H R := .inr (.inr ⟨z, rfl, h⟩)
theorem e_enum {R : It → Hp → Prop} {ta : TA} (h : ta σ H fun vs H1 => GEnum K vs H1 R) : iEnumA K ta σ H R := h
theorem g_enum {R : It → Hp → Prop} [o : Ob H a (.lst xs)] (h : R (Ite K a) H) : GEnum K [.ref a] H R := ⟨a, xs, rfl, .inl ⟨SqL.of o.eq, h⟩⟩
theorem e_rng1 {R : It → Hp → Prop} {ta : TA} (h : ta σ H fun vs H1 => GRng1 vs H1 R) : iRng1 ta σ H R := h
theorem e_rng2 {R : It → Hp → Prop} {ta : TA} (h : ta σ H fun vs H1 => GRng2 vs H1 R) : iRng2 ta σ H R := h
theorem g_rng1 {n : Int} {R : It → Hp → Prop} (h1 : -(2 ^ 62) ≤ n) (h2 : n < 2 ^ 62) (h : R (Itr 0 n.toNat) H) : GRng1 [.int n] H R := ⟨n, rfl, h1, h2, h⟩
theorem g_rng2 {m n : Int} {R : It → Hp → Prop} (h1 : -(2 ^ 62) ≤ m ∧ m < 2 ^ 62 ∧ -(2 ^ 62) ≤ n ∧ n < 2 ^ 62) (h : R (Itr m (n - m).toNat) H) : GRng2 [.int m, .int n] H R := ⟨m, n, rfl, h1, h⟩
/-- a list that stands still through the loop: Pv by the turn -/
theorem for_l (Pv : Nat → L2.St → Hp → Prop) (h0 : Pv 0 σ H) (hl : ∀ i σ H, i ≤ xs.length → Pv i σ H → H a = some (.lst xs))
    (hs : ∀ i x σ H, xs[i]? = some x → Pv i σ H → g x σ H fun σ2 H2 => tb { D with nx := Pv (i + 1), ct := Pv (i + 1), bk := D.nx } σ2 H2) (hd : ∀ σ H, Pv xs.length σ H → D.nx σ H) : GFor (Itl K a) g tb D σ H :=
  for_list Pv h0 (fun i σ H hi p => SqL.of (hl i σ H hi p)) hs hd
theorem for_r {lo : Int} {n : Nat} (Pv : Nat → L2.St → Hp → Prop) (h0 : Pv 0 σ H)
    (hs : ∀ i σ H, i < n → Pv i σ H → g (.int (lo + i)) σ H fun σ2 H2 => tb { D with nx := Pv (i + 1), ct := Pv (i + 1), bk := D.nx } σ2 H2) (hd : ∀ σ H, Pv n σ H → D.nx σ H) : GFor (Itr lo n) g tb D σ H :=
  for_range Pv h0 hs hd
end
/-- the state between two turns of a comprehension whose turns freeze what they make: P by the turn, the frozen part, what was made so far -/
def LcN (I : Hp) (M : Cs) (p : Addr) (Pv : Nat → Hp → List V → Prop) (i : Nat) (H : Hp) : Prop := ∃ I' acc, Sub I I' ∧ Own I' ((p, .lst acc) :: M) H ∧ acc.length ≤ i ∧ Pv i I' acc
def GApp (p : Addr) (y : V) (H : Hp) (N : Hp → Prop) : Prop := ∃ acc, H p = some (.lst acc) ∧ acc.length < sizeLine ∧ N (upd H p (.lst (acc ++ [y])))
theorem Sub.one {I I' : Hp} (h : Sub I I') : Sub1 I I' := ⟨h.sub⟩
theorem Sub1.any {I I' : Hp} (h : Sub1 I I') : Sub I I' := ⟨h.sub⟩
theorem Sub.trans {I I1 I2 : Hp} (a : Sub I I1) (b : Sub I1 I2) : Sub I I2 := ⟨fun x o h => b.sub x o (a.sub x o h)⟩
section
variable {K : PySem.W.Frag} {w : World} {σ : L2.St} {H H4 : Hp} {I I4 : Hp} {M M' : Cs} {D : Ends} {Q : VK} {a p : Addr} {xs acc : List V} {y : V} {g : TG} {tb : TS} {te : TE} {tt : TT} {vs : List Nat} {Pv : Nat → Hp → List V → Prop} {i : Nat}
theorem g_app [w : Own I4 ((p, .lst acc) :: M) H4] (s : Sub I I4) (hl : acc.length ≤ i) (hz : i < sizeLine) (q : Pv (i + 1) I4 (acc ++ [y])) : GApp p y H4 (LcN I M p Pv (i + 1)) :=
  ⟨acc, w.ce _ List.mem_cons_self, by omega, I4, acc ++ [y], s, w.set, by rw [List.length_append]; simp; omega, q⟩
theorem g_skip [w : Own I4 ((p, .lst acc) :: M) H4] (s : Sub I I4) (hl : acc.length ≤ i) (q : Pv (i + 1) I4 acc) : LcN I M p Pv (i + 1) H4 := ⟨I4, acc, s, w, by omega, q⟩
theorem lc_any {J : It} [w : Own I M H] (n : Nat) (Pv : Nat → Hp → List V → Prop) (h0 : Pv 0 I []) (go : ∀ i p H', i < n → LcN I M p Pv i H' → J.go i H') (stop : ∀ p H', LcN I M p Pv n H' → J.stop n H')
    (hs : ∀ i x p I' acc H' H2, i < n → J.yld i H' x H2 → LcN I M p Pv i H' → Sub I I' → acc.length ≤ i → Pv i I' acc → Own I' ((p, .lst acc) :: M) H' → g x (wipe σ vs) H2 fun σ2 H2 => wipe σ2 vs = wipe σ vs ∧ tt σ2 H2 fun b H3 =>
      if b = true then te σ2 H3 fun y H4 => GApp p y H4 (LcN I M p Pv (i + 1)) else LcN I M p Pv (i + 1) H3)
    (hd : ∀ p I' acc H', Sub1 I I' → acc.length ≤ n → Pv n I' acc → Own I' ((p, .lst acc) :: M) H' → Q (.ref p) H') : GLc J g tt te vs σ H Q := fun p hp => by
  refine ⟨fun i m H' => m = n - i ∧ i ≤ n ∧ LcN I M p Pv i H', ⟨n, by simp, Nat.zero_le _, I, [], Sub.refl, w.newM hp, Nat.le_refl _, h0⟩, ?_⟩
  rintro i m H' ⟨rfl, hi, L⟩
  by_cases hlt : i < n
  · refine .inr ⟨go i p H' hlt L, LcN I M p Pv (i + 1), fun H2 L2 => ⟨n - (i + 1), by omega, rfl, hlt, L2⟩, fun x H2 hy => ?_⟩
    obtain ⟨I', acc, s, o, hl, q⟩ := id L
    exact hs i x p I' acc H' H2 hlt hy L s hl q o
  · have e : i = n := by omega
    subst e
    obtain ⟨I', acc, s, o, hl, q⟩ := id L
    exact .inl ⟨stop p H' L, hd p I' acc H' s.one hl q o⟩
/-- over a list: frozen or ours -/
theorem lc_l [w : Own I M H] (hl : ∀ (p : Addr) I' acc H', Sub I I' → Own I' ((p, .lst acc) :: M) H' → H' a = some (.lst xs)) (Pv : Nat → Hp → List V → Prop) (h0 : Pv 0 I [])
    (hs : ∀ i x p I' acc H', xs[i]? = some x → Sub1 I I' → acc.length ≤ i → Pv i I' acc → Own I' ((p, .lst acc) :: M) H' → g x (wipe σ vs) H' fun σ2 H2 => wipe σ2 vs = wipe σ vs ∧ tt σ2 H2 fun b H3 =>
      if b = true then te σ2 H3 fun y H4 => GApp p y H4 (LcN I M p Pv (i + 1)) else LcN I M p Pv (i + 1) H3)
    (hd : ∀ p I' acc H', Sub1 I I' → acc.length ≤ xs.length → Pv xs.length I' acc → Own I' ((p, .lst acc) :: M) H' → Q (.ref p) H') : GLc (Itl K a) g tt te vs σ H Q :=
  lc_any xs.length Pv h0 (fun i p H' hi ⟨I', acc, s, o, _, _⟩ => ⟨xs, xs[i], SqL.of (hl p I' acc H' s o), by simp [hi]⟩) (fun p H' ⟨I', acc, s, o, _, _⟩ => ⟨xs, SqL.of (hl p I' acc H' s o), Nat.le_refl _⟩)
    (fun i x p I' acc H' H2 hi hy _ s hle q o => by
      obtain ⟨e, y⟩ := hy
      subst e
      exact hs i x p I' acc _ (y xs (SqL.of (hl p I' acc _ s o))) s.one hle q o) hd
theorem lc_m [w : Own I M H] [m : Mem M a (.lst xs)] (Pv : Nat → Hp → List V → Prop) (h0 : Pv 0 I [])
    (hs : ∀ i x p I' acc H', xs[i]? = some x → Sub1 I I' → acc.length ≤ i → Pv i I' acc → Own I' ((p, .lst acc) :: M) H' → g x (wipe σ vs) H' fun σ2 H2 => wipe σ2 vs = wipe σ vs ∧ tt σ2 H2 fun b H3 =>
      if b = true then te σ2 H3 fun y H4 => GApp p y H4 (LcN I M p Pv (i + 1)) else LcN I M p Pv (i + 1) H3)
    (hd : ∀ p I' acc H', Sub1 I I' → acc.length ≤ xs.length → Pv xs.length I' acc → Own I' ((p, .lst acc) :: M) H' → Q (.ref p) H') : GLc (Itl K a) g tt te vs σ H Q :=
  lc_l (fun p I' acc H' _ o => o.ce (a, _) (List.mem_cons_of_mem _ m.mem)) Pv h0 hs hd
theorem lc_r {lo : Int} {n : Nat} [w : Own I M H] (Pv : Nat → Hp → List V → Prop) (h0 : Pv 0 I [])
    (hs : ∀ i p I' acc H', i < n → Sub1 I I' → acc.length ≤ i → Pv i I' acc → Own I' ((p, .lst acc) :: M) H' → g (.int (lo + i)) (wipe σ vs) H' fun σ2 H2 => wipe σ2 vs = wipe σ vs ∧ tt σ2 H2 fun b H3 =>
      if b = true then te σ2 H3 fun y H4 => GApp p y H4 (LcN I M p Pv (i + 1)) else LcN I M p Pv (i + 1) H3)
    (hd : ∀ p I' acc H', Sub1 I I' → acc.length ≤ n → Pv n I' acc → Own I' ((p, .lst acc) :: M) H' → Q (.ref p) H') : GLc (Itr lo n) g tt te vs σ H Q :=
  lc_any n Pv h0 (fun i p H' hi _ => hi) (fun p H' _ => Nat.le_refl _)
    (fun i x p I' acc H' H2 hi hy _ s hle q o => by
      obtain ⟨e1, e2⟩ := hy
      subst e1
      subst e2
      exact hs i p I' acc _ hi s.one hle q o) hd
end
section
variable {K : PySem.W.Frag} {σ : L2.St} {H : Hp} {D : Ends} {a : Addr} {xs : List V} {g : TG} {tb : TS}
/-- enumerate(list): the pair is a new tuple -/
theorem for_e (Pv : Nat → L2.St → Hp → Prop) (h0 : Pv 0 σ H) (hl : ∀ i σ H, i ≤ xs.length → Pv i σ H → H a = some (.lst xs))
    (hs : ∀ i x T σ H, xs[i]? = some x → Pv i σ H → H T = none → g (.ref T) σ (upd H T (.tup [.int (i : Nat), x])) fun σ2 H2 => tb { D with nx := Pv (i + 1), ct := Pv (i + 1), bk := D.nx } σ2 H2) (hd : ∀ σ H, Pv xs.length σ H → D.nx σ H) : GFor (Ite K a) g tb D σ H := by
  refine ⟨fun i m σ H => m = xs.length - i ∧ i ≤ xs.length ∧ Pv i σ H, ⟨xs.length, by simp, Nat.zero_le _, h0⟩, ?_⟩
  rintro i m σ H ⟨rfl, hi, p⟩
  have q := SqL.of (K := K) (hl i σ H hi p)
  by_cases hlt : i < xs.length
  · refine .inr ⟨⟨xs, xs[i], q, by simp [hlt]⟩, Pv (i + 1), fun σ' H' p' => ⟨xs.length - (i + 1), by omega, rfl, hlt, p'⟩, fun x H' y => ?_⟩
    obtain ⟨T, x, rfl, hT, rfl, y⟩ := y
    exact hs i x T σ _ (y xs q) p hT
  · have e : i = xs.length := by omega
    subst e
    exact .inl ⟨⟨xs, q, Nat.le_refl _⟩, hd σ H p⟩
end
/-! ### lists read in whatever way (the script) -/
class ImQ (K : PySem.W.Frag) (I : Hp) (a : Addr) (xs : outParam (List V)) : Prop where
  eq : SqL K I a xs
theorem SqL.sub {K : PySem.W.Frag} {I H : Hp} {a : Addr} {xs : List V} (s : ∀ b o, I b = some o → H b = some o) (h : SqL K I a xs) : SqL K H a xs := by
  rcases h with (h | ⟨o, h⟩) | h
  · exact .inl (.inl (s _ _ h))
  · exact .inl (.inr ⟨o, s _ _ h⟩)
  · exact .inr h
instance (priority := low) ImQ.step {K : PySem.W.Frag} {I I1 : Hp} {a : Addr} {xs : List V} [b : Sub1 I I1] [c : ImQ K I a xs] : ImQ K I1 a xs := ⟨SqL.sub b.sub c.eq⟩
class ObQ (K : PySem.W.Frag) (H : Hp) (a : Addr) (xs : outParam (List V)) : Prop where
  eq : SqL K H a xs
instance ObQ.ofI {K : PySem.W.Frag} {I : Hp} {M : Cs} {H : Hp} {a : Addr} {xs : List V} [h : Own I M H] [c : ImQ K I a xs] : ObQ K H a xs := ⟨SqL.sub h.im c.eq⟩
section
variable {K : PySem.W.Frag} {w : World} {H : Hp} {Q : VK} {p : Addr} {xs : List V} {v : V}
theorem g_lenO [o : ObQ K H p xs] (q : Q (.int xs.length) H) : rLenP K [.ref p] H Q := g_lenQ o.eq q
theorem g_ixO {i : Int} [o : ObQ K H p xs] (h0 : 0 ≤ i) (h : xs[i.toNat]? = some v) (q : Q v H) : rIxP K w (.ref p) (.int i) H Q := g_ixQ o.eq (atI_of h0 h) q
end
section
variable {K : PySem.W.Frag} {w : World} {H : Hp} {Q : VK} {x y : V}
theorem g_neD {d e : PyData} (h1 : Dp K H x d) (h2 : Dp K H y e) (s1 : SeqAt.shaped d = true) (s2 : SeqAt.shaped e = true) (q : Q (.bl (!PyData.eqv d e)) H) : rNeP K x y H Q := .inr ⟨d, e, h1, h2, s1, s2, q⟩
theorem g_eqD {d e : PyData} (h1 : Dp K H x d) (h2 : Dp K H y e) (s1 : SeqAt.shaped d = true) (s2 : SeqAt.shaped e = true) (q : Q (.bl (PyData.eqv d e)) H) : rEqP K x y H Q := .inr ⟨d, e, h1, h2, s1, s2, q⟩
theorem g_neSame {d : PyData} (h1 : Dp K H x d) (h2 : Dp K H y d) (s1 : SeqAt.shaped d = true) (q : Q (.bl false) H) : rNeP K x y H Q := g_neD h1 h2 s1 s1 (by
  rw [SeqAt.eqv_refl d (SeqAt.canLay_of_shaped s1)]
  exact q)
theorem g_eqSame {d : PyData} (h1 : Dp K H x d) (h2 : Dp K H y d) (s1 : SeqAt.shaped d = true) (q : Q (.bl true) H) : rEqP K x y H Q := g_eqD h1 h2 s1 s1 (by
  rw [SeqAt.eqv_refl d (SeqAt.canLay_of_shaped s1)]
  exact q)
theorem dp_lst {a : Addr} {xs : List V} {ds : List PyData} (h : H a = some (.lst xs)) (hs : DpAll K H xs ds) : Dp K H (.ref a) (.list ds) := .lst (SqL.of h) hs
theorem dp_tup {a : Addr} {xs : List V} {ds : List PyData} (h : H a = some (.tup xs)) (hs : DpAll K H xs ds) : Dp K H (.ref a) (.tuple ds) := .tup (SqT.of h) hs
theorem dp_ints : ∀ ns : List Int, DpAll K H (ns.map V.int) (ns.map PyData.int)
  | [] => .nil
  | n :: ns => .cons (.int n) (dp_ints ns)
end
theorem Paired.get {α β : Type} {F : α → β → Prop} : ∀ {xs : List α} {ys : List β} {i : Nat} {x : α}, Paired F xs ys → xs[i]? = some x → ∃ y, ys[i]? = some y ∧ F x y
  | _, _, i, x, .nil, h => by simp at h
  | _, _, 0, x, .cons r _, h => by simp at h; subst h; exact ⟨_, rfl, r⟩
  | _, _, i + 1, x, .cons _ t, h => by
    obtain ⟨y, h1, h2⟩ := Paired.get t (by simpa using h)
    exact ⟨y, by simpa using h1, h2⟩
theorem Paired.mp {α β : Type} {F G : α → β → Prop} (f : ∀ a b, F a b → G a b) : ∀ {xs : List α} {ys : List β}, Paired F xs ys → Paired G xs ys
  | _, _, .nil => .nil
  | _, _, .cons r t => .cons (f _ _ r) (Paired.mp f t)
theorem Paired.app {α β : Type} {F : α → β → Prop} : ∀ {xs xs' : List α} {ys ys' : List β}, Paired F xs ys → Paired F xs' ys' → Paired F (xs ++ xs') (ys ++ ys')
  | _, _, _, _, .nil, h => h
  | _, _, _, _, .cons r t, h => .cons r (Paired.app t h)
theorem take_succ {α : Type} {l : List α} {i : Nat} {x : α} (h : l[i]? = some x) : l.take (i + 1) = l.take i ++ [x] := by
  rw [List.take_add_one, h]; rfl
theorem Paired.set {α β : Type} {F : α → β → Prop} {x : α} {y : β} (r : F x y) : ∀ {xs : List α} {ys : List β} (i : Nat), Paired F xs ys → Paired F (xs.set i x) (ys.set i y)
  | _, _, _, .nil => .nil
  | _, _, 0, .cons _ t => .cons r t
  | _, _, i + 1, .cons q t => .cons q (Paired.set r i t)
theorem Paired.at {X Y : Type} {P : X → Y → Prop} : ∀ {xs : List X} {ys : List Y}, Paired P xs ys → ∀ {j : Nat} {y : Y}, ys[j]? = some y → ∃ x, xs[j]? = some x ∧ P x y
  | _, _, .nil, j, y, h => by simp at h
  | _, _, .cons p _, 0, y, h => by
    simp at h
    subst h
    exact ⟨_, rfl, p⟩
  | _, _, .cons _ r, j + 1, y, h => by
    simp only [List.getElem?_cons_succ] at h ⊢
    exact Paired.at r h
theorem Paired.mem_mp {X Y : Type} {P R : X → Y → Prop} : ∀ {xs : List X} {ys : List Y}, (∀ x y, x ∈ xs → P x y → R x y) → Paired P xs ys → Paired R xs ys
  | _, _, _, .nil => .nil
  | _, _, h, .cons p r => .cons (h _ _ List.mem_cons_self p) (Paired.mem_mp (fun x y hx => h x y (List.mem_cons_of_mem _ hx)) r)
/-! ### isinstance, repeated lists, tuples of the top, tables, signs -/
section
variable {K : PySem.W.Frag} {w : World} {σ : L2.St} {H : Hp} {I : Hp} {M : Cs} {Q : VK} {p a : Addr} {xs : List V} {v : V}
theorem g_isiII {n : Int} (q : Q (.bl true) H) : rIsi K [.int n, .ty "int"] H Q := ⟨.int n, .ty "int", .type "int", .type "int", true, rfl, .ty "int", .base (.int n), kit_ty (by decide +kernel), q⟩
theorem g_isiIB {n : Int} (q : Q (.bl false) H) : rIsi K [.int n, .ty "bool"] H Q := ⟨.int n, .ty "bool", .type "int", .type "bool", false, rfl, .ty "bool", .base (.int n), kit_ty (by decide +kernel), q⟩
theorem g_isiSS {z : Str} (q : Q (.bl true) H) : rIsi K [.str z, .ty "str"] H Q := ⟨.str z, .ty "str", .type "str", .type "str", true, rfl, .ty "str", .base (.str z), kit_ty (by decide +kernel), q⟩
theorem g_isiLL [o : Ob H a (.lst xs)] (q : Q (.bl true) H) : rIsi K [.ref a, .ty "list"] H Q := ⟨.ref a, .ty "list", .type "list", .type "list", true, rfl, .ty "list", .base (.lst o.eq), kit_ty (by decide +kernel), q⟩
theorem g_repI {k : Int} [o : Own I M H] [b : Ob H p (.lst xs)] (h1 : 0 ≤ k) (h2 : k < 2 ^ 63) (hl : xs.length * k.toNat ≤ sizeLine) (q : ∀ (p : Addr) (I' H' : Hp), Sub1 I I' → Im I' p (.lst (List.replicate k.toNat xs).flatten) → Own I' M H' → Q (.ref p) H') :
    rMul (.ref p) (.int k) H Q := .inr ⟨p, k, xs, rfl, rfl, b.eq, by omega, h2, hl, newI q⟩
theorem g_ixK {i : Int} [k : KT K p xs] (h0 : 0 ≤ i) (h : xs[i.toNat]? = some v) (q : Q v H) : rIxP K w (.ref p) (.int i) H Q := .inr (.inl ⟨p, xs, i, v, rfl, rfl, k.eq H, atI_of h0 h, q⟩)
theorem g_ixD {z : Str} (d : KDct K w p z v) (q : Q v H) : rIxP K w (.ref p) (.str z) H Q := .inr (.inr (.inr ⟨p, z, v, rfl, rfl, d, q⟩))
theorem g_lenK [k : KT K p xs] (q : Q (.int xs.length) H) : rLenP K [.ref p] H Q := .inl ⟨p, xs, rfl, .inr (k.eq H), q⟩
theorem g_seqK {R : It → Hp → Prop} [k : KT K a xs] (h : R (Itt K a) H) : GSeq K (.ref a) H R := .inr (.inl ⟨a, xs, rfl, k.eq H, h⟩)
theorem g_enumK {R : It → Hp → Prop} [k : KT K a xs] (h : R (IteT K a) H) : GEnum K [.ref a] H R := ⟨a, xs, rfl, .inr ⟨k.eq H, h⟩⟩
theorem g_inK [k : KT K a xs] (h1 : flatV v = true) (h2 : xs.all flatV = true) (q : Q (.bl (inV v xs)) H) : rInP K v (.ref a) H Q := .inl ⟨a, xs, rfl, .inr (k.eq H), h1, h2, q⟩
theorem g_ninK [k : KT K a xs] (h1 : flatV v = true) (h2 : xs.all flatV = true) (q : Q (.bl (!inV v xs)) H) : rNotInP K v (.ref a) H Q := .inl ⟨a, xs, rfl, .inr (k.eq H), h1, h2, q⟩
theorem g_inS {c : Nat} {z : Str} (q : Q (.bl (decide (c ∈ z.cps.toList))) H) : rInP K (.str ⟨#[c]⟩) (.str z) H Q := .inr ⟨c, z, rfl, rfl, q⟩
theorem g_ord {c : Nat} (q : Q (.int (c : Nat)) H) : rOrd [.str ⟨#[c]⟩] H Q := ⟨⟨#[c]⟩, rfl, rfl, q⟩
theorem g_all {bs : List Bool} {l : Addr} [o : Ob H l (.lst (bs.map V.bl))] (q : Q (.bl (bs.all id)) H) : rAll K [.ref l] H Q := ⟨l, bs, rfl, SqL.of o.eq, q⟩
theorem g_any {bs : List Bool} {l : Addr} [o : Ob H l (.lst (bs.map V.bl))] (q : Q (.bl (bs.any id)) H) : rAny K [.ref l] H Q := ⟨l, bs, rfl, SqL.of o.eq, q⟩
end
section
variable {K : PySem.W.Frag} {σ : L2.St} {H : Hp} {I : Hp} {M : Cs} {D : Ends} {Q : VK} {a : Addr} {xs : List V} {g : TG} {tb : TS} {te : TE} {tt : TT} {vs : List Nat}
theorem lc_s {z : Str} [w : Own I M H] (Pv : Nat → Hp → List V → Prop) (h0 : Pv 0 I [])
    (hs : ∀ i c p I' acc H', z.cps[i]? = some c → Sub1 I I' → acc.length ≤ i → Pv i I' acc → Own I' ((p, .lst acc) :: M) H' → g (.str ⟨#[c]⟩) (wipe σ vs) H' fun σ2 H2 => wipe σ2 vs = wipe σ vs ∧ tt σ2 H2 fun b H3 =>
      if b = true then te σ2 H3 fun y H4 => GApp p y H4 (LcN I M p Pv (i + 1)) else LcN I M p Pv (i + 1) H3)
    (hd : ∀ p I' acc H', Sub1 I I' → acc.length ≤ z.cps.size → Pv z.cps.size I' acc → Own I' ((p, .lst acc) :: M) H' → Q (.ref p) H') : GLc (Its z) g tt te vs σ H Q :=
  lc_any z.cps.size Pv h0 (fun i p H' hi _ => hi) (fun p H' _ => Nat.le_refl _)
    (fun i x p I' acc H' H2 hi hy _ s hle q o => by
      obtain ⟨e1, c, hc, e2⟩ := hy
      subst e1
      subst e2
      exact hs i c p I' acc _ hc s.one hle q o) hd
/-- enumerate over a tuple of the top -/
theorem for_eK [k : KT K a xs] (Pv : Nat → L2.St → Hp → Prop) (h0 : Pv 0 σ H)
    (hs : ∀ i x T σ H, xs[i]? = some x → Pv i σ H → H T = none → g (.ref T) σ (upd H T (.tup [.int (i : Nat), x])) fun σ2 H2 => tb { D with nx := Pv (i + 1), ct := Pv (i + 1), bk := D.nx } σ2 H2) (hd : ∀ σ H, Pv xs.length σ H → D.nx σ H) : GFor (IteT K a) g tb D σ H := by
  refine ⟨fun i m σ H => m = xs.length - i ∧ i ≤ xs.length ∧ Pv i σ H, ⟨xs.length, by simp, Nat.zero_le _, h0⟩, ?_⟩
  rintro i m σ H ⟨rfl, hi, p⟩
  have q := k.eq H
  by_cases hlt : i < xs.length
  · refine .inr ⟨⟨xs, xs[i], q, by simp [hlt]⟩, Pv (i + 1), fun σ' H' p' => ⟨xs.length - (i + 1), by omega, rfl, hlt, p'⟩, fun x H' y => ?_⟩
    obtain ⟨T, x, rfl, hT, rfl, y⟩ := y
    exact hs i x T σ _ (y xs q) p hT
  · have e : i = xs.length := by omega
    subst e
    exact .inl ⟨⟨xs, q, Nat.le_refl _⟩, hd σ H p⟩
end
/-- list(zip(..)): all of it frozen -/
theorem g_listzip {K : PySem.W.Frag} {Q : VK} {H I : Hp} {M : Cs} {a b : Addr} {xs ys : List V} [o : Own I M H] [k : KT K a xs] [i : Im I b (.lst ys)] (hl : xs.length = ys.length)
    (q : ∀ (p : Addr) (ts : List Addr) (I' H' : Hp), Sub1 I I' → Im I' p (.lst (ts.map V.ref)) → Paired (fun (t : Addr) (x : V × V) => Im I' t (.tup [x.1, x.2])) ts (xs.zip ys) → Own I' M H' → Q (.ref p) H') :
    ∃ a' b' xs' ys', ([V.ref a, V.ref b] : List V) = [.ref a', .ref b'] ∧ SqT K H a' xs' ∧ SqL K H b' ys' ∧ xs'.length = ys'.length ∧ LZ H Q xs' ys' := by
  refine ⟨a, b, xs, ys, rfl, k.eq H, SqL.of (o.im _ _ i.eq), hl, fun H' p ts hk hp hts hpt hoff hH hP => ?_⟩
  classical
  have off : ∀ c, I c ≠ none → c ≠ p ∧ c ∉ ts := fun c hc => by
    constructor
    · intro e
      subst e
      exact hc (o.notI hp)
    · intro hm
      exact hc (o.notI (hts c hm))
  refine q p ts (fun c => if c = p ∨ c ∈ ts then H' c else I c) H' ⟨fun c u e => ?_⟩ ⟨by rw [if_pos (.inl rfl)]; exact hH⟩ (Paired.mem_mp (fun t x ht h => ⟨by rw [if_pos (.inr ht)]; exact h⟩) hP) ⟨fun c u e => ?_, fun c hc => hk _ _ (o.ce c hc), o.nd, fun c hc => ?_⟩
  · have := off c (by rw [e]; simp)
    rw [if_neg (by simp [this])]
    exact e
  · by_cases hc : c = p ∨ c ∈ ts
    · rw [if_pos hc] at e
      exact e
    · rw [if_neg hc] at e
      exact hk _ _ (o.im _ _ e)
  · have h1 := o.ce c hc
    have n1 : c.1 ≠ p := fun e => by rw [e, hp] at h1; cases h1
    have n2 : c.1 ∉ ts := fun hm => by rw [hts _ hm] at h1; cases h1
    rw [if_neg (by simp [n1, n2])]
    exact o.di c hc
theorem e_listzip {K : PySem.W.Frag} {ta : TA} {σ : L2.St} {H : Hp} {Q : VK} (h : ta σ H fun vs H1 => ∃ a b xs ys, vs = [.ref a, .ref b] ∧ SqT K H1 a xs ∧ SqL K H1 b ys ∧ xs.length = ys.length ∧ LZ H1 Q xs ys) : tListZip K ta σ H Q := h
section
variable {K : PySem.W.Frag} {σ : L2.St} {H : Hp} {D : Ends} {t1 t2 : TS} {t : TT}
theorem seq_finP (P : Hp → Prop) (fin : ∀ H', P H' → t2 D σ H') (h : ∀ N : L2.St → Hp → Prop, (∀ H', P H' → N σ H') → t1 { D with nx := N } σ H) : tSeq t1 t2 D σ H := h _ fin
theorem t_via {Q : Bool → Hp → Prop} (b : Bool) (h : ∀ R : Bool → Hp → Prop, R b H → t σ H R) (q : Q b H) : t σ H Q := h Q q
end
/-! ### fields by places -/
theorem look_ix : ∀ {fs : List (Str × V)} {f : Str} {i : Nat} {v : V}, (fs.map (·.1)).idxOf? f = some i → (fs[i]?).map (·.2) = some v → fs.lookup f = some v
  | [], f, i, v, h, _ => by simp at h
  | (g, u) :: r, f, i, v, h, e => by
    rw [List.map_cons, List.idxOf?_cons] at h
    rw [List.lookup_cons]
    by_cases q : g = f
    · subst q
      simp at h
      subst h
      simpa using e
    · have n1 : (g == f) = false := by simpa using q
      have n2 : (f == g) = false := by simpa using Ne.symm q
      rw [n1] at h
      rw [n2]
      simp only [Bool.false_eq_true, if_false, Option.map_eq_some_iff] at h
      obtain ⟨j, hj, rfl⟩ := h
      exact look_ix hj (by simpa using e)
theorem nolook_of : ∀ {fs : List (Str × V)} {f : Str}, (fs.map (·.1)).idxOf? f = none → fs.lookup f = none
  | [], f, _ => rfl
  | (g, u) :: r, f, h => by
    rw [List.map_cons, List.idxOf?_cons] at h
    rw [List.lookup_cons]
    by_cases q : g = f
    · subst q
      simp at h
    · have n1 : (g == f) = false := by simpa using q
      have n2 : (f == g) = false := by simpa using Ne.symm q
      rw [n1] at h
      rw [n2]
      simp only [Bool.false_eq_true, if_false, Option.map_eq_none_iff] at h
      exact nolook_of h
theorem put_ix : ∀ {fs : List (Str × V)} {f : Str} {i : Nat} {v : V}, (fs.map (·.1)).idxOf? f = some i → putF f v fs = fs.set i (f, v)
  | [], f, i, v, h => by simp at h
  | (g, u) :: r, f, i, v, h => by
    rw [List.map_cons, List.idxOf?_cons] at h
    by_cases q : g = f
    · subst q
      simp at h
      subst h
      simp [putF]
    · have n1 : (g == f) = false := by simpa using q
      rw [n1] at h
      simp only [Bool.false_eq_true, if_false, Option.map_eq_some_iff] at h
      obtain ⟨j, hj, rfl⟩ := h
      simp [putF, q, put_ix hj]
theorem put_new : ∀ {fs : List (Str × V)} {f : Str} {v : V}, (fs.map (·.1)).idxOf? f = none → putF f v fs = fs ++ [(f, v)]
  | [], f, v, _ => rfl
  | (g, u) :: r, f, v, h => by
    rw [List.map_cons, List.idxOf?_cons] at h
    by_cases q : g = f
    · subst q
      simp at h
    · have n1 : (g == f) = false := by simpa using q
      rw [n1] at h
      simp only [Bool.false_eq_true, if_false, Option.map_eq_none_iff] at h
      simp [putF, q, put_new h]
end SW
namespace SW
open PySem L2
def N_Holdings___init__ : List Str := ["self"]
def t_Holdings___init__ (K : PySem.W.Frag) (w : World) (E : XK) : TS := tSeq (sFld K (tVar 0) (tLst (tNil)) "panes") (tSeq (sFld K (tVar 0) (tLst (tNil)) "sources") (tSeq (sFld K (tVar 0) (tLst (tNil)) "offers") (tSeq (sFld K (tVar 0) (tLst (tNil)) "captures") (tSeq (sFld K (tVar 0) (tLst (tNil)) "fetches") (tSeq (sFld K (tVar 0) (tLst (tNil)) "watches") (tSeq (sFld K (tVar 0) (tLst (tNil)) "names") (sFld K (tVar 0) (tC (.bl false)) "was_hovered")))))))
def p_Holdings___init__ (K : PySem.W.Frag) (w : World) : Sp := SW.pOf N_Holdings___init__ 1 (t_Holdings___init__ K w)
theorem i_Holdings___init__ {K : PySem.W.Frag} {w : World} {H : Hp} {Q : VK} {E : XK} {x0 : V} (h : (tSeq (sFld K (tVar 0) (tLst (tNil)) "panes") (tSeq (sFld K (tVar 0) (tLst (tNil)) "sources") (tSeq (sFld K (tVar 0) (tLst (tNil)) "offers") (tSeq (sFld K (tVar 0) (tLst (tNil)) "captures") (tSeq (sFld K (tVar 0) (tLst (tNil)) "fetches") (tSeq (sFld K (tVar 0) (tLst (tNil)) "watches") (tSeq (sFld K (tVar 0) (tLst (tNil)) "names") (sFld K (tVar 0) (tC (.bl false)) "was_hovered")))))))) { nx := fun _ H' => Q .non H', rt := Q } [some x0] H) : p_Holdings___init__ K w [x0] H Q E := ⟨rfl, h⟩
def N_Holdings_pane : List Str := ["self"]
def t_Holdings_pane (K : PySem.W.Frag) (w : World) (E : XK) : TS := tSeq (tIfS (tTru K (tFld K (tVar 0) "panes")) (tRet (tOp (rIxP K w) (tFld K (tVar 0) "panes") (tC (.int 0)))) (tNext)) (tRet (tC .non))
def p_Holdings_pane (K : PySem.W.Frag) (w : World) : Sp := SW.pOf N_Holdings_pane 1 (t_Holdings_pane K w)
theorem i_Holdings_pane {K : PySem.W.Frag} {w : World} {H : Hp} {Q : VK} {E : XK} {x0 : V} (h : (tSeq (tIfS (tTru K (tFld K (tVar 0) "panes")) (tRet (tOp (rIxP K w) (tFld K (tVar 0) "panes") (tC (.int 0)))) (tNext)) (tRet (tC .non))) { nx := fun _ H' => Q .non H', rt := Q } [some x0] H) : p_Holdings_pane K w [x0] H Q E := ⟨rfl, h⟩
def N_Holdings_bound : List Str := ["self", "number"]
def t_Holdings_bound (K : PySem.W.Frag) (w : World) (E : XK) : TS := tDrop (tBM K "list" rAppend (tFld K (tVar 0) "panes") (tCons (tVar 1) (tNil)))
def p_Holdings_bound (K : PySem.W.Frag) (w : World) : Sp := SW.pOf N_Holdings_bound 2 (t_Holdings_bound K w)
theorem i_Holdings_bound {K : PySem.W.Frag} {w : World} {H : Hp} {Q : VK} {E : XK} {x0 x1 : V} (h : (tDrop (tBM K "list" rAppend (tFld K (tVar 0) "panes") (tCons (tVar 1) (tNil)))) { nx := fun _ H' => Q .non H', rt := Q } [some x0, some x1] H) : p_Holdings_bound K w [x0, x1] H Q E := ⟨rfl, h⟩
def N_Holdings_ended : List Str := ["self", "number", "pane", "thing"]
def t_Holdings_ended (K : PySem.W.Frag) (w : World) (E : XK) : TS := tSeq (sFld K (tVar 0) (tLc (iSeq K (tFld K (tVar 0) "panes")) (gName 2) (tTest (tOp (rNeP K) (tVar 2) (tVar 1))) (tVar 2) [2]) "panes") (tSeq (sFld K (tVar 0) (tLc (iSeq K (tFld K (tVar 0) "sources")) (gName 3) (tTest (tOp (rNeP K) (tFld K (tVar 3) "number") (tVar 1))) (tVar 3) [3]) "sources") (tSeq (sFld K (tVar 0) (tLc (iSeq K (tFld K (tVar 0) "offers")) (gName 3) (tTest (tOp (rNeP K) (tFld K (tVar 3) "number") (tVar 1))) (tVar 3) [3]) "offers") (tSeq (sFld K (tVar 0) (tLc (iSeq K (tFld K (tVar 0) "captures")) (gName 3) (tTest (tOp (rNeP K) (tFld K (tVar 3) "number") (tVar 1))) (tVar 3) [3]) "captures") (tSeq (sFld K (tVar 0) (tLc (iSeq K (tFld K (tVar 0) "fetches")) (gName 3) (tTest (tOp (rNeP K) (tFld K (tVar 3) "number") (tVar 1))) (tVar 3) [3]) "fetches") (sFld K (tVar 0) (tLc (iSeq K (tFld K (tVar 0) "watches")) (gName 3) (tTest (tOp (rNeP K) (tFld K (tVar 3) "number") (tVar 1))) (tVar 3) [3]) "watches")))))
def p_Holdings_ended (K : PySem.W.Frag) (w : World) : Sp := SW.pOf N_Holdings_ended 2 (t_Holdings_ended K w)
theorem i_Holdings_ended {K : PySem.W.Frag} {w : World} {H : Hp} {Q : VK} {E : XK} {x0 x1 : V} (h : (tSeq (sFld K (tVar 0) (tLc (iSeq K (tFld K (tVar 0) "panes")) (gName 2) (tTest (tOp (rNeP K) (tVar 2) (tVar 1))) (tVar 2) [2]) "panes") (tSeq (sFld K (tVar 0) (tLc (iSeq K (tFld K (tVar 0) "sources")) (gName 3) (tTest (tOp (rNeP K) (tFld K (tVar 3) "number") (tVar 1))) (tVar 3) [3]) "sources") (tSeq (sFld K (tVar 0) (tLc (iSeq K (tFld K (tVar 0) "offers")) (gName 3) (tTest (tOp (rNeP K) (tFld K (tVar 3) "number") (tVar 1))) (tVar 3) [3]) "offers") (tSeq (sFld K (tVar 0) (tLc (iSeq K (tFld K (tVar 0) "captures")) (gName 3) (tTest (tOp (rNeP K) (tFld K (tVar 3) "number") (tVar 1))) (tVar 3) [3]) "captures") (tSeq (sFld K (tVar 0) (tLc (iSeq K (tFld K (tVar 0) "fetches")) (gName 3) (tTest (tOp (rNeP K) (tFld K (tVar 3) "number") (tVar 1))) (tVar 3) [3]) "fetches") (sFld K (tVar 0) (tLc (iSeq K (tFld K (tVar 0) "watches")) (gName 3) (tTest (tOp (rNeP K) (tFld K (tVar 3) "number") (tVar 1))) (tVar 3) [3]) "watches")))))) { nx := fun _ H' => Q .non H', rt := Q } [some x0, some x1, none, none] H) : p_Holdings_ended K w [x0, x1] H Q E := ⟨rfl, h⟩
def N_is_integer : List Str := ["value"]
def t_is_integer (K : PySem.W.Frag) (w : World) (E : XK) : TS := tRet (tAndV (tCB (rIsi K) (tCons (tVar 0) (tCons (tC (.ty "int")) tNil))) (tNotV (tCB (rIsi K) (tCons (tVar 0) (tCons (tC (.ty "bool")) tNil)))))
def p_is_integer (K : PySem.W.Frag) (w : World) : Sp := SW.pOf N_is_integer 1 (t_is_integer K w)
theorem i_is_integer {K : PySem.W.Frag} {w : World} {H : Hp} {Q : VK} {E : XK} {x0 : V} (h : (tRet (tAndV (tCB (rIsi K) (tCons (tVar 0) (tCons (tC (.ty "int")) tNil))) (tNotV (tCB (rIsi K) (tCons (tVar 0) (tCons (tC (.ty "bool")) tNil)))))) { nx := fun _ H' => Q .non H', rt := Q } [some x0] H) : p_is_integer K w [x0] H Q E := ⟨rfl, h⟩
def N_is_number : List Str := ["value"]
def t_is_number (K : PySem.W.Frag) (w : World) (E : XK) : TS := tRet (tAndV (tCall (p_is_integer K w) [] E0 (tCons (tVar 0) (tNil))) (tChain rLeI rLtI (tC (.int 0)) (tVar 0) (tC (.int 4294967296))))
def p_is_number (K : PySem.W.Frag) (w : World) : Sp := SW.pOf N_is_number 1 (t_is_number K w)
theorem i_is_number {K : PySem.W.Frag} {w : World} {H : Hp} {Q : VK} {E : XK} {x0 : V} (h : (tRet (tAndV (tCall (p_is_integer K w) [] E0 (tCons (tVar 0) (tNil))) (tChain rLeI rLtI (tC (.int 0)) (tVar 0) (tC (.int 4294967296))))) { nx := fun _ H' => Q .non H', rt := Q } [some x0] H) : p_is_number K w [x0] H Q E := ⟨rfl, h⟩
def N_are_octets : List Str := ["value", "octet"]
def t_are_octets (K : PySem.W.Frag) (w : World) (E : XK) : TS := tSeq (tIfS (tOr (tNot (tTru K (tCB (rIsi K) (tCons (tVar 0) (tCons (tC (.ty "list")) tNil))))) (tTest (tOp rGtI (tCB (rLenP K) (tCons (tVar 0) (tNil))) (tC (.int 16384))))) (tRet (tC (.bl false))) (tNext)) (tRet (tCB (rAll K) (tCons (tLc (iSeq K (tVar 0)) (gName 1) (tYes) (tAndV (tCall (p_is_integer K w) [] E0 (tCons (tVar 1) (tNil))) (tChain rLeI rLeI (tC (.int 0)) (tVar 1) (tC (.int 255)))) [1]) (tNil))))
def p_are_octets (K : PySem.W.Frag) (w : World) : Sp := SW.pOf N_are_octets 1 (t_are_octets K w)
theorem i_are_octets {K : PySem.W.Frag} {w : World} {H : Hp} {Q : VK} {E : XK} {x0 : V} (h : (tSeq (tIfS (tOr (tNot (tTru K (tCB (rIsi K) (tCons (tVar 0) (tCons (tC (.ty "list")) tNil))))) (tTest (tOp rGtI (tCB (rLenP K) (tCons (tVar 0) (tNil))) (tC (.int 16384))))) (tRet (tC (.bl false))) (tNext)) (tRet (tCB (rAll K) (tCons (tLc (iSeq K (tVar 0)) (gName 1) (tYes) (tAndV (tCall (p_is_integer K w) [] E0 (tCons (tVar 1) (tNil))) (tChain rLeI rLeI (tC (.int 0)) (tVar 1) (tC (.int 255)))) [1]) (tNil))))) { nx := fun _ H' => Q .non H', rt := Q } [some x0, none] H) : p_are_octets K w [x0] H Q E := ⟨rfl, h⟩
def N_is_text : List Str := ["value", "sign"]
def t_is_text (K : PySem.W.Frag) (w : World) (E : XK) : TS := tRet (tAndV (tOp rLeI (tCB (rLenP K) (tCons (tVar 0) (tNil))) (tC (.int 1000))) (tCB (rAll K) (tCons (tLc (iSeq K (tVar 0)) (gName 1) (tYes) (tOp (rInP K) (tVar 1) (tC (.str " !\"#$&'()*+,-./0123456789:;<=>?@ABCDEFGHIJKLMNOPQRSTUVWXYZ[\\]^_`abcdefghijklmnopqrstuvwxyz{|}~"))) [1]) (tNil))))
def p_is_text (K : PySem.W.Frag) (w : World) : Sp := SW.pOf N_is_text 1 (t_is_text K w)
theorem i_is_text {K : PySem.W.Frag} {w : World} {H : Hp} {Q : VK} {E : XK} {x0 : V} (h : (tRet (tAndV (tOp rLeI (tCB (rLenP K) (tCons (tVar 0) (tNil))) (tC (.int 1000))) (tCB (rAll K) (tCons (tLc (iSeq K (tVar 0)) (gName 1) (tYes) (tOp (rInP K) (tVar 1) (tC (.str " !\"#$&'()*+,-./0123456789:;<=>?@ABCDEFGHIJKLMNOPQRSTUVWXYZ[\\]^_`abcdefghijklmnopqrstuvwxyz{|}~"))) [1]) (tNil))))) { nx := fun _ H' => Q .non H', rt := Q } [some x0, none] H) : p_is_text K w [x0] H Q E := ⟨rfl, h⟩
def N_fits_kind : List Str := ["kind", "value"]
def t_fits_kind (K : PySem.W.Frag) (w : World) (E : XK) : TS := tSeq (tIfS (tOr (tTest (tOp (rEqP K) (tVar 0) (tC (.str "uint")))) (tTest (tOp (rEqP K) (tVar 0) (tC (.str "maybe"))))) (tRet (tCall (p_is_number K w) [] E0 (tCons (tVar 1) (tNil)))) (tNext)) (tSeq (tIfS (tOr (tTest (tOp (rEqP K) (tVar 0) (tC (.str "object")))) (tTest (tOp (rEqP K) (tVar 0) (tC (.str "new"))))) (tRet (tAndV (tCall (p_is_number K w) [] E0 (tCons (tVar 1) (tNil))) (tOp rGtI (tVar 1) (tC (.int 0))))) (tNext)) (tSeq (tIfS (tTest (tOp (rEqP K) (tVar 0) (tC (.str "int")))) (tRet (tAndV (tCall (p_is_integer K w) [] E0 (tCons (tVar 1) (tNil))) (tChain rLeI rLtI (tOp rDiv (tUn rNeg (tC (.int 4294967296))) (tC (.int 2))) (tVar 1) (tOp rDiv (tC (.int 4294967296)) (tC (.int 2)))))) (tNext)) (tSeq (tIfS (tTest (tOp (rEqP K) (tVar 0) (tC (.str "text")))) (tRet (tAndV (tCB (rIsi K) (tCons (tVar 1) (tCons (tC (.ty "str")) tNil))) (tCall (p_is_text K w) [] E0 (tCons (tVar 1) (tNil))))) (tNext)) (tSeq (tIfS (tTest (tOp (rEqP K) (tVar 0) (tC (.str "octets")))) (tRet (tCall (p_are_octets K w) [] E0 (tCons (tVar 1) (tNil)))) (tNext)) (tSeq (tIfS (tOr (tNot (tTru K (tCB (rIsi K) (tCons (tVar 1) (tCons (tC (.ty "tuple")) tNil))))) (tTest (tOp (rNeP K) (tCB (rLenP K) (tCons (tVar 1) (tNil))) (tC (.int 2))))) (tRet (tC (.bl false))) (tNext)) (tRet (tAndV (tCB (rIsi K) (tCons (tOp (rIxP K w) (tVar 1) (tC (.int 0))) (tCons (tC (.ty "str")) tNil))) (tAndV (tCall (p_is_text K w) [] E0 (tCons (tOp (rIxP K w) (tVar 1) (tC (.int 0))) (tNil))) (tAndV (tCall (p_is_number K w) [] E0 (tCons (tOp (rIxP K w) (tVar 1) (tC (.int 1))) (tNil))) (tOp rGtI (tOp (rIxP K w) (tVar 1) (tC (.int 1))) (tC (.int 0))))))))))))
def p_fits_kind (K : PySem.W.Frag) (w : World) : Sp := SW.pOf N_fits_kind 2 (t_fits_kind K w)
theorem i_fits_kind {K : PySem.W.Frag} {w : World} {H : Hp} {Q : VK} {E : XK} {x0 x1 : V} (h : (tSeq (tIfS (tOr (tTest (tOp (rEqP K) (tVar 0) (tC (.str "uint")))) (tTest (tOp (rEqP K) (tVar 0) (tC (.str "maybe"))))) (tRet (tCall (p_is_number K w) [] E0 (tCons (tVar 1) (tNil)))) (tNext)) (tSeq (tIfS (tOr (tTest (tOp (rEqP K) (tVar 0) (tC (.str "object")))) (tTest (tOp (rEqP K) (tVar 0) (tC (.str "new"))))) (tRet (tAndV (tCall (p_is_number K w) [] E0 (tCons (tVar 1) (tNil))) (tOp rGtI (tVar 1) (tC (.int 0))))) (tNext)) (tSeq (tIfS (tTest (tOp (rEqP K) (tVar 0) (tC (.str "int")))) (tRet (tAndV (tCall (p_is_integer K w) [] E0 (tCons (tVar 1) (tNil))) (tChain rLeI rLtI (tOp rDiv (tUn rNeg (tC (.int 4294967296))) (tC (.int 2))) (tVar 1) (tOp rDiv (tC (.int 4294967296)) (tC (.int 2)))))) (tNext)) (tSeq (tIfS (tTest (tOp (rEqP K) (tVar 0) (tC (.str "text")))) (tRet (tAndV (tCB (rIsi K) (tCons (tVar 1) (tCons (tC (.ty "str")) tNil))) (tCall (p_is_text K w) [] E0 (tCons (tVar 1) (tNil))))) (tNext)) (tSeq (tIfS (tTest (tOp (rEqP K) (tVar 0) (tC (.str "octets")))) (tRet (tCall (p_are_octets K w) [] E0 (tCons (tVar 1) (tNil)))) (tNext)) (tSeq (tIfS (tOr (tNot (tTru K (tCB (rIsi K) (tCons (tVar 1) (tCons (tC (.ty "tuple")) tNil))))) (tTest (tOp (rNeP K) (tCB (rLenP K) (tCons (tVar 1) (tNil))) (tC (.int 2))))) (tRet (tC (.bl false))) (tNext)) (tRet (tAndV (tCB (rIsi K) (tCons (tOp (rIxP K w) (tVar 1) (tC (.int 0))) (tCons (tC (.ty "str")) tNil))) (tAndV (tCall (p_is_text K w) [] E0 (tCons (tOp (rIxP K w) (tVar 1) (tC (.int 0))) (tNil))) (tAndV (tCall (p_is_number K w) [] E0 (tCons (tOp (rIxP K w) (tVar 1) (tC (.int 1))) (tNil))) (tOp rGtI (tOp (rIxP K w) (tVar 1) (tC (.int 1))) (tC (.int 0))))))))))))) { nx := fun _ H' => Q .non H', rt := Q } [some x0, some x1] H) : p_fits_kind K w [x0, x1] H Q E := ⟨rfl, h⟩
def N_number_octets : List Str := ["value", "count", "octets", "_"]
def t_number_octets (K : PySem.W.Frag) (w : World) (E : XK) : TS := tSeq (tAsg (tLst (tNil)) (gName 2)) (tSeq (tFor (iRng1 (tCons (tVar 1) (tNil))) (gName 3) (tSeq (tDrop (tBM K "list" rAppend (tVar 2) (tCons (tOp rMod (tVar 0) (tC (.int 256))) (tNil)))) (tAsg (tOp rDiv (tVar 0) (tC (.int 256))) (gName 0)))) (tRet (tVar 2)))
def p_number_octets (K : PySem.W.Frag) (w : World) : Sp := SW.pOf N_number_octets 2 (t_number_octets K w)
theorem i_number_octets {K : PySem.W.Frag} {w : World} {H : Hp} {Q : VK} {E : XK} {x0 x1 : V} (h : (tSeq (tAsg (tLst (tNil)) (gName 2)) (tSeq (tFor (iRng1 (tCons (tVar 1) (tNil))) (gName 3) (tSeq (tDrop (tBM K "list" rAppend (tVar 2) (tCons (tOp rMod (tVar 0) (tC (.int 256))) (tNil)))) (tAsg (tOp rDiv (tVar 0) (tC (.int 256))) (gName 0)))) (tRet (tVar 2)))) { nx := fun _ H' => Q .non H', rt := Q } [some x0, some x1, none, none] H) : p_number_octets K w [x0, x1] H Q E := ⟨rfl, h⟩
def N_padding : List Str := ["count"]
def t_padding (K : PySem.W.Frag) (w : World) (E : XK) : TS := tRet (tOp rMod (tOp rSub (tC (.int 4)) (tOp rMod (tVar 0) (tC (.int 4)))) (tC (.int 4)))
def p_padding (K : PySem.W.Frag) (w : World) : Sp := SW.pOf N_padding 1 (t_padding K w)
theorem i_padding {K : PySem.W.Frag} {w : World} {H : Hp} {Q : VK} {E : XK} {x0 : V} (h : (tRet (tOp rMod (tOp rSub (tC (.int 4)) (tOp rMod (tVar 0) (tC (.int 4)))) (tC (.int 4)))) { nx := fun _ H' => Q .non H', rt := Q } [some x0] H) : p_padding K w [x0] H Q E := ⟨rfl, h⟩
def N_sign_code : List Str := ["sign"]
def t_sign_code (K : PySem.W.Frag) (w : World) (E : XK) : TS := tRet (tCB rOrd (tCons (tVar 0) (tNil)))
def p_sign_code (K : PySem.W.Frag) (w : World) : Sp := SW.pOf N_sign_code 1 (t_sign_code K w)
theorem i_sign_code {K : PySem.W.Frag} {w : World} {H : Hp} {Q : VK} {E : XK} {x0 : V} (h : (tRet (tCB rOrd (tCons (tVar 0) (tNil)))) { nx := fun _ H' => Q .non H', rt := Q } [some x0] H) : p_sign_code K w [x0] H Q E := ⟨rfl, h⟩
def N_text_octets : List Str := ["value", "octets", "sign"]
def t_text_octets (K : PySem.W.Frag) (w : World) (E : XK) : TS := tSeq (tAsg (tOp (rAdd K) (tOp (rAdd K) (tCall (p_number_octets K w) [] E0 (tCons (tOp (rAdd K) (tCB (rLenP K) (tCons (tVar 0) (tNil))) (tC (.int 1))) (tCons (tC (.int 4)) (tNil)))) (tLc (iSeq K (tVar 0)) (gName 2) (tYes) (tCall (p_sign_code K w) [] E0 (tCons (tVar 2) (tNil))) [2])) (tLst (tCons (tC (.int 0)) (tNil)))) (gName 1)) (tRet (tOp (rAdd K) (tVar 1) (tOp rMul (tLst (tCons (tC (.int 0)) (tNil))) (tCall (p_padding K w) [] E0 (tCons (tOp (rAdd K) (tCB (rLenP K) (tCons (tVar 0) (tNil))) (tC (.int 1))) (tNil))))))
def p_text_octets (K : PySem.W.Frag) (w : World) : Sp := SW.pOf N_text_octets 1 (t_text_octets K w)
theorem i_text_octets {K : PySem.W.Frag} {w : World} {H : Hp} {Q : VK} {E : XK} {x0 : V} (h : (tSeq (tAsg (tOp (rAdd K) (tOp (rAdd K) (tCall (p_number_octets K w) [] E0 (tCons (tOp (rAdd K) (tCB (rLenP K) (tCons (tVar 0) (tNil))) (tC (.int 1))) (tCons (tC (.int 4)) (tNil)))) (tLc (iSeq K (tVar 0)) (gName 2) (tYes) (tCall (p_sign_code K w) [] E0 (tCons (tVar 2) (tNil))) [2])) (tLst (tCons (tC (.int 0)) (tNil)))) (gName 1)) (tRet (tOp (rAdd K) (tVar 1) (tOp rMul (tLst (tCons (tC (.int 0)) (tNil))) (tCall (p_padding K w) [] E0 (tCons (tOp (rAdd K) (tCB (rLenP K) (tCons (tVar 0) (tNil))) (tC (.int 1))) (tNil))))))) { nx := fun _ H' => Q .non H', rt := Q } [some x0, none, none] H) : p_text_octets K w [x0] H Q E := ⟨rfl, h⟩
def N_field_octets : List Str := ["kind", "value"]
def t_field_octets (K : PySem.W.Frag) (w : World) (E : XK) : TS := tSeq (tIfS (tOr (tTest (tOp (rNotInP K) (tVar 0) (tC (.ref (He.ga K "KINDS"))))) (tNot (tTru K (tCall (p_fits_kind K w) [] E0 (tCons (tVar 0) (tCons (tVar 1) (tNil))))))) (tNever) (tNext)) (tSeq (tIfS (tTest (tOp (rEqP K) (tVar 0) (tC (.str "text")))) (tRet (tCall (p_text_octets K w) [] E0 (tCons (tVar 1) (tNil)))) (tNext)) (tSeq (tIfS (tTest (tOp (rEqP K) (tVar 0) (tC (.str "octets")))) (tRet (tOp (rAdd K) (tOp (rAdd K) (tCall (p_number_octets K w) [] E0 (tCons (tCB (rLenP K) (tCons (tVar 1) (tNil))) (tCons (tC (.int 4)) (tNil)))) (tVar 1)) (tOp rMul (tLst (tCons (tC (.int 0)) (tNil))) (tCall (p_padding K w) [] E0 (tCons (tCB (rLenP K) (tCons (tVar 1) (tNil))) (tNil)))))) (tNext)) (tSeq (tIfS (tTest (tOp (rEqP K) (tVar 0) (tC (.str "bound")))) (tRet (tOp (rAdd K) (tCall (p_text_octets K w) [] E0 (tCons (tOp (rIxP K w) (tVar 1) (tC (.int 0))) (tNil))) (tCall (p_number_octets K w) [] E0 (tCons (tOp (rIxP K w) (tVar 1) (tC (.int 1))) (tCons (tC (.int 4)) (tNil)))))) (tNext)) (tSeq (tIfS (tAnd (tTest (tOp (rEqP K) (tVar 0) (tC (.str "int")))) (tTest (tOp rLtI (tVar 1) (tC (.int 0))))) (tRet (tCall (p_number_octets K w) [] E0 (tCons (tOp (rAdd K) (tVar 1) (tC (.int 4294967296))) (tCons (tC (.int 4)) (tNil))))) (tNext)) (tRet (tCall (p_number_octets K w) [] E0 (tCons (tVar 1) (tCons (tC (.int 4)) (tNil)))))))))
def p_field_octets (K : PySem.W.Frag) (w : World) : Sp := SW.pOf N_field_octets 2 (t_field_octets K w)
theorem i_field_octets {K : PySem.W.Frag} {w : World} {H : Hp} {Q : VK} {E : XK} {x0 x1 : V} (h : (tSeq (tIfS (tOr (tTest (tOp (rNotInP K) (tVar 0) (tC (.ref (He.ga K "KINDS"))))) (tNot (tTru K (tCall (p_fits_kind K w) [] E0 (tCons (tVar 0) (tCons (tVar 1) (tNil))))))) (tNever) (tNext)) (tSeq (tIfS (tTest (tOp (rEqP K) (tVar 0) (tC (.str "text")))) (tRet (tCall (p_text_octets K w) [] E0 (tCons (tVar 1) (tNil)))) (tNext)) (tSeq (tIfS (tTest (tOp (rEqP K) (tVar 0) (tC (.str "octets")))) (tRet (tOp (rAdd K) (tOp (rAdd K) (tCall (p_number_octets K w) [] E0 (tCons (tCB (rLenP K) (tCons (tVar 1) (tNil))) (tCons (tC (.int 4)) (tNil)))) (tVar 1)) (tOp rMul (tLst (tCons (tC (.int 0)) (tNil))) (tCall (p_padding K w) [] E0 (tCons (tCB (rLenP K) (tCons (tVar 1) (tNil))) (tNil)))))) (tNext)) (tSeq (tIfS (tTest (tOp (rEqP K) (tVar 0) (tC (.str "bound")))) (tRet (tOp (rAdd K) (tCall (p_text_octets K w) [] E0 (tCons (tOp (rIxP K w) (tVar 1) (tC (.int 0))) (tNil))) (tCall (p_number_octets K w) [] E0 (tCons (tOp (rIxP K w) (tVar 1) (tC (.int 1))) (tCons (tC (.int 4)) (tNil)))))) (tNext)) (tSeq (tIfS (tAnd (tTest (tOp (rEqP K) (tVar 0) (tC (.str "int")))) (tTest (tOp rLtI (tVar 1) (tC (.int 0))))) (tRet (tCall (p_number_octets K w) [] E0 (tCons (tOp (rAdd K) (tVar 1) (tC (.int 4294967296))) (tCons (tC (.int 4)) (tNil))))) (tNext)) (tRet (tCall (p_number_octets K w) [] E0 (tCons (tVar 1) (tCons (tC (.int 4)) (tNil)))))))))) { nx := fun _ H' => Q .non H', rt := Q } [some x0, some x1] H) : p_field_octets K w [x0, x1] H Q E := ⟨rfl, h⟩
def N_encode_message : List Str := ["number", "opcode", "arguments", "body", "kind", "value"]
def t_encode_message (K : PySem.W.Frag) (w : World) (E : XK) : TS := tSeq (tIfS (tOr (tNot (tTru K (tCall (p_is_number K w) [] E0 (tCons (tVar 0) (tNil))))) (tOr (tTest (tOp (rEqP K) (tVar 0) (tC (.int 0)))) (tOr (tNot (tTru K (tCall (p_is_number K w) [] E0 (tCons (tVar 1) (tNil))))) (tTest (tOp rGtI (tVar 1) (tC (.int 65535))))))) (tNever) (tNext)) (tSeq (tIfS (tTest (tOp rGtI (tCB (rLenP K) (tCons (tVar 2) (tNil))) (tC (.int 20)))) (tNever) (tNext)) (tSeq (tAsg (tLst (tNil)) (gName 3)) (tSeq (tFor (iSeq K (tVar 2)) (gUnp K 2 (gCons (gName 4) (gCons (gName 5) (gNil)))) (tDrop (tBM K "list" rExtend (tVar 3) (tCons (tCall (p_field_octets K w) [] E0 (tCons (tVar 4) (tCons (tVar 5) (tNil)))) (tNil))))) (tSeq (tIfS (tTest (tOp rGtI (tOp (rAdd K) (tCB (rLenP K) (tCons (tVar 3) (tNil))) (tC (.int 8))) (tC (.int 20480)))) (tNever) (tNext)) (tRet (tOp (rAdd K) (tOp (rAdd K) (tOp (rAdd K) (tCall (p_number_octets K w) [] E0 (tCons (tVar 0) (tCons (tC (.int 4)) (tNil)))) (tCall (p_number_octets K w) [] E0 (tCons (tVar 1) (tCons (tC (.int 2)) (tNil))))) (tCall (p_number_octets K w) [] E0 (tCons (tOp (rAdd K) (tCB (rLenP K) (tCons (tVar 3) (tNil))) (tC (.int 8))) (tCons (tC (.int 2)) (tNil))))) (tVar 3)))))))
def p_encode_message (K : PySem.W.Frag) (w : World) : Sp := SW.pOf N_encode_message 3 (t_encode_message K w)
theorem i_encode_message {K : PySem.W.Frag} {w : World} {H : Hp} {Q : VK} {E : XK} {x0 x1 x2 : V} (h : (tSeq (tIfS (tOr (tNot (tTru K (tCall (p_is_number K w) [] E0 (tCons (tVar 0) (tNil))))) (tOr (tTest (tOp (rEqP K) (tVar 0) (tC (.int 0)))) (tOr (tNot (tTru K (tCall (p_is_number K w) [] E0 (tCons (tVar 1) (tNil))))) (tTest (tOp rGtI (tVar 1) (tC (.int 65535))))))) (tNever) (tNext)) (tSeq (tIfS (tTest (tOp rGtI (tCB (rLenP K) (tCons (tVar 2) (tNil))) (tC (.int 20)))) (tNever) (tNext)) (tSeq (tAsg (tLst (tNil)) (gName 3)) (tSeq (tFor (iSeq K (tVar 2)) (gUnp K 2 (gCons (gName 4) (gCons (gName 5) (gNil)))) (tDrop (tBM K "list" rExtend (tVar 3) (tCons (tCall (p_field_octets K w) [] E0 (tCons (tVar 4) (tCons (tVar 5) (tNil)))) (tNil))))) (tSeq (tIfS (tTest (tOp rGtI (tOp (rAdd K) (tCB (rLenP K) (tCons (tVar 3) (tNil))) (tC (.int 8))) (tC (.int 20480)))) (tNever) (tNext)) (tRet (tOp (rAdd K) (tOp (rAdd K) (tOp (rAdd K) (tCall (p_number_octets K w) [] E0 (tCons (tVar 0) (tCons (tC (.int 4)) (tNil)))) (tCall (p_number_octets K w) [] E0 (tCons (tVar 1) (tCons (tC (.int 2)) (tNil))))) (tCall (p_number_octets K w) [] E0 (tCons (tOp (rAdd K) (tCB (rLenP K) (tCons (tVar 3) (tNil))) (tC (.int 8))) (tCons (tC (.int 2)) (tNil))))) (tVar 3)))))))) { nx := fun _ H' => Q .non H', rt := Q } [some x0, some x1, some x2, none, none, none] H) : p_encode_message K w [x0, x1, x2] H Q E := ⟨rfl, h⟩
def N_opcode_of : List Str := ["rows", "name", "opcode", "row"]
def t_opcode_of (K : PySem.W.Frag) (w : World) (E : XK) : TS := tSeq (tFor (iEnumA K (tCons (tVar 0) (tNil))) (gUnp K 2 (gCons (gName 2) (gCons (gName 3) (gNil)))) (tIfS (tTest (tOp (rEqP K) (tOp (rIxP K w) (tVar 3) (tC (.int 0))) (tVar 1))) (tRet (tVar 2)) (tNext))) (tRet (tCB (rLenP K) (tCons (tVar 0) (tNil))))
def p_opcode_of (K : PySem.W.Frag) (w : World) : Sp := SW.pOf N_opcode_of 2 (t_opcode_of K w)
theorem i_opcode_of {K : PySem.W.Frag} {w : World} {H : Hp} {Q : VK} {E : XK} {x0 x1 : V} (h : (tSeq (tFor (iEnumA K (tCons (tVar 0) (tNil))) (gUnp K 2 (gCons (gName 2) (gCons (gName 3) (gNil)))) (tIfS (tTest (tOp (rEqP K) (tOp (rIxP K w) (tVar 3) (tC (.int 0))) (tVar 1))) (tRet (tVar 2)) (tNext))) (tRet (tCB (rLenP K) (tCons (tVar 0) (tNil))))) { nx := fun _ H' => Q .non H', rt := Q } [some x0, some x1, none, none] H) : p_opcode_of K w [x0, x1] H Q E := ⟨rfl, h⟩
def N_event_octets : List Str := ["number", "interface", "name", "values", "opcode", "kinds"]
def t_event_octets (K : PySem.W.Frag) (w : World) (E : XK) : TS := tSeq (tAsg (tCall (p_opcode_of K w) [] E0 (tCons (tOp (rIxP K w) (tC (.ref (He.ga K "EVENTS"))) (tVar 1)) (tCons (tVar 2) (tNil)))) (gName 4)) (tSeq (tAsg (tOp (rIxP K w) (tOp (rIxP K w) (tOp (rIxP K w) (tC (.ref (He.ga K "EVENTS"))) (tVar 1)) (tVar 4)) (tC (.int 1))) (gName 5)) (tRet (tCall (p_encode_message K w) [] E0 (tCons (tVar 0) (tCons (tVar 4) (tCons (tListZip K (tCons (tVar 5) (tCons (tVar 3) (tNil)))) (tNil)))))))
def p_event_octets (K : PySem.W.Frag) (w : World) : Sp := SW.pOf N_event_octets 4 (t_event_octets K w)
theorem i_event_octets {K : PySem.W.Frag} {w : World} {H : Hp} {Q : VK} {E : XK} {x0 x1 x2 x3 : V} (h : (tSeq (tAsg (tCall (p_opcode_of K w) [] E0 (tCons (tOp (rIxP K w) (tC (.ref (He.ga K "EVENTS"))) (tVar 1)) (tCons (tVar 2) (tNil)))) (gName 4)) (tSeq (tAsg (tOp (rIxP K w) (tOp (rIxP K w) (tOp (rIxP K w) (tC (.ref (He.ga K "EVENTS"))) (tVar 1)) (tVar 4)) (tC (.int 1))) (gName 5)) (tRet (tCall (p_encode_message K w) [] E0 (tCons (tVar 0) (tCons (tVar 4) (tCons (tListZip K (tCons (tVar 5) (tCons (tVar 3) (tNil)))) (tNil)))))))) { nx := fun _ H' => Q .non H', rt := Q } [some x0, some x1, some x2, some x3, none, none] H) : p_event_octets K w [x0, x1, x2, x3] H Q E := ⟨rfl, h⟩
def N_Reply_tell : List Str := ["self", "number", "interface", "name", "values"]
def t_Reply_tell (K : PySem.W.Frag) (w : World) (E : XK) : TS := tDrop (tBM K "list" rAppend (tFld K (tVar 0) "told") (tCons (tCall (p_event_octets K w) [] E0 (tCons (tVar 1) (tCons (tVar 2) (tCons (tVar 3) (tCons (tVar 4) (tNil)))))) (tNil)))
def p_Reply_tell (K : PySem.W.Frag) (w : World) : Sp := SW.pOf N_Reply_tell 5 (t_Reply_tell K w)
theorem i_Reply_tell {K : PySem.W.Frag} {w : World} {H : Hp} {Q : VK} {E : XK} {x0 x1 x2 x3 x4 : V} (h : (tDrop (tBM K "list" rAppend (tFld K (tVar 0) "told") (tCons (tCall (p_event_octets K w) [] E0 (tCons (tVar 1) (tCons (tVar 2) (tCons (tVar 3) (tCons (tVar 4) (tNil)))))) (tNil)))) { nx := fun _ H' => Q .non H', rt := Q } [some x0, some x1, some x2, some x3, some x4] H) : p_Reply_tell K w [x0, x1, x2, x3, x4] H Q E := ⟨rfl, h⟩
def N_Holdings_hovers : List Str := ["self", "surface", "x", "y", "goods", "reply", "pane", "kind", "_"]
def t_Holdings_hovers (K : PySem.W.Frag) (w : World) (E : XK) : TS := tSeq (tAsg (tMeth (He.ga K "Holdings") "pane" (p_Holdings_pane K w) [] E0 (tVar 0) (tNil)) (gName 6)) (tSeq (tIfS (tTest (tOp rIs (tVar 6) (tC .non))) (tRetN) (tNext)) (tSeq (sFld K (tVar 0) (tC (.bl true)) "was_hovered") (tSeq (tDrop (tMeth (He.ga K "Reply") "tell" (p_Reply_tell K w) [] E0 (tVar 5) (tCons (tVar 6) (tCons (tC (.str "transfer")) (tCons (tC (.str "hover")) (tCons (tLst (tCons (tVar 1) (tCons (tVar 2) (tCons (tVar 3) (tNil))))) (tNil))))))) (tFor (iSeq K (tVar 4)) (gUnp K 2 (gCons (gName 7) (gCons (gName 8) (gNil)))) (tDrop (tMeth (He.ga K "Reply") "tell" (p_Reply_tell K w) [] E0 (tVar 5) (tCons (tVar 6) (tCons (tC (.str "transfer")) (tCons (tC (.str "hover_kind")) (tCons (tLst (tCons (tVar 7) (tNil))) (tNil)))))))))))
def p_Holdings_hovers (K : PySem.W.Frag) (w : World) : Sp := SW.pOf N_Holdings_hovers 6 (t_Holdings_hovers K w)
theorem i_Holdings_hovers {K : PySem.W.Frag} {w : World} {H : Hp} {Q : VK} {E : XK} {x0 x1 x2 x3 x4 x5 : V} (h : (tSeq (tAsg (tMeth (He.ga K "Holdings") "pane" (p_Holdings_pane K w) [] E0 (tVar 0) (tNil)) (gName 6)) (tSeq (tIfS (tTest (tOp rIs (tVar 6) (tC .non))) (tRetN) (tNext)) (tSeq (sFld K (tVar 0) (tC (.bl true)) "was_hovered") (tSeq (tDrop (tMeth (He.ga K "Reply") "tell" (p_Reply_tell K w) [] E0 (tVar 5) (tCons (tVar 6) (tCons (tC (.str "transfer")) (tCons (tC (.str "hover")) (tCons (tLst (tCons (tVar 1) (tCons (tVar 2) (tCons (tVar 3) (tNil))))) (tNil))))))) (tFor (iSeq K (tVar 4)) (gUnp K 2 (gCons (gName 7) (gCons (gName 8) (gNil)))) (tDrop (tMeth (He.ga K "Reply") "tell" (p_Reply_tell K w) [] E0 (tVar 5) (tCons (tVar 6) (tCons (tC (.str "transfer")) (tCons (tC (.str "hover_kind")) (tCons (tLst (tCons (tVar 7) (tNil))) (tNil)))))))))))) { nx := fun _ H' => Q .non H', rt := Q } [some x0, some x1, some x2, some x3, some x4, some x5, none, none, none] H) : p_Holdings_hovers K w [x0, x1, x2, x3, x4, x5] H Q E := ⟨rfl, h⟩
def N_Holdings_moves : List Str := ["self", "time", "x", "y", "reply", "pane"]
def t_Holdings_moves (K : PySem.W.Frag) (w : World) (E : XK) : TS := tSeq (tAsg (tMeth (He.ga K "Holdings") "pane" (p_Holdings_pane K w) [] E0 (tVar 0) (tNil)) (gName 5)) (tIfS (tAnd (tTest (tOp rIsNot (tVar 5) (tC .non))) (tTru K (tFld K (tVar 0) "was_hovered"))) (tDrop (tMeth (He.ga K "Reply") "tell" (p_Reply_tell K w) [] E0 (tVar 4) (tCons (tVar 5) (tCons (tC (.str "transfer")) (tCons (tC (.str "moved")) (tCons (tLst (tCons (tVar 1) (tCons (tVar 2) (tCons (tVar 3) (tNil))))) (tNil))))))) (tNext))
def p_Holdings_moves (K : PySem.W.Frag) (w : World) : Sp := SW.pOf N_Holdings_moves 5 (t_Holdings_moves K w)
theorem i_Holdings_moves {K : PySem.W.Frag} {w : World} {H : Hp} {Q : VK} {E : XK} {x0 x1 x2 x3 x4 : V} (h : (tSeq (tAsg (tMeth (He.ga K "Holdings") "pane" (p_Holdings_pane K w) [] E0 (tVar 0) (tNil)) (gName 5)) (tIfS (tAnd (tTest (tOp rIsNot (tVar 5) (tC .non))) (tTru K (tFld K (tVar 0) "was_hovered"))) (tDrop (tMeth (He.ga K "Reply") "tell" (p_Reply_tell K w) [] E0 (tVar 4) (tCons (tVar 5) (tCons (tC (.str "transfer")) (tCons (tC (.str "moved")) (tCons (tLst (tCons (tVar 1) (tCons (tVar 2) (tCons (tVar 3) (tNil))))) (tNil))))))) (tNext))) { nx := fun _ H' => Q .non H', rt := Q } [some x0, some x1, some x2, some x3, some x4, none] H) : p_Holdings_moves K w [x0, x1, x2, x3, x4] H Q E := ⟨rfl, h⟩
def N_Holdings_leaves : List Str := ["self", "reply", "pane"]
def t_Holdings_leaves (K : PySem.W.Frag) (w : World) (E : XK) : TS := tSeq (tAsg (tMeth (He.ga K "Holdings") "pane" (p_Holdings_pane K w) [] E0 (tVar 0) (tNil)) (gName 2)) (tSeq (tIfS (tAnd (tTest (tOp rIsNot (tVar 2) (tC .non))) (tTru K (tFld K (tVar 0) "was_hovered"))) (tDrop (tMeth (He.ga K "Reply") "tell" (p_Reply_tell K w) [] E0 (tVar 1) (tCons (tVar 2) (tCons (tC (.str "transfer")) (tCons (tC (.str "away")) (tCons (tLst (tNil)) (tNil))))))) (tNext)) (sFld K (tVar 0) (tC (.bl false)) "was_hovered"))
def p_Holdings_leaves (K : PySem.W.Frag) (w : World) : Sp := SW.pOf N_Holdings_leaves 2 (t_Holdings_leaves K w)
theorem i_Holdings_leaves {K : PySem.W.Frag} {w : World} {H : Hp} {Q : VK} {E : XK} {x0 x1 : V} (h : (tSeq (tAsg (tMeth (He.ga K "Holdings") "pane" (p_Holdings_pane K w) [] E0 (tVar 0) (tNil)) (gName 2)) (tSeq (tIfS (tAnd (tTest (tOp rIsNot (tVar 2) (tC .non))) (tTru K (tFld K (tVar 0) "was_hovered"))) (tDrop (tMeth (He.ga K "Reply") "tell" (p_Reply_tell K w) [] E0 (tVar 1) (tCons (tVar 2) (tCons (tC (.str "transfer")) (tCons (tC (.str "away")) (tCons (tLst (tNil)) (tNil))))))) (tNext)) (sFld K (tVar 0) (tC (.bl false)) "was_hovered"))) { nx := fun _ H' => Q .non H', rt := Q } [some x0, some x1, none] H) : p_Holdings_leaves K w [x0, x1] H Q E := ⟨rfl, h⟩
def N_Holdings_dropped : List Str := ["self"]
def t_Holdings_dropped (K : PySem.W.Frag) (w : World) (E : XK) : TS := sFld K (tVar 0) (tC (.bl false)) "was_hovered"
def p_Holdings_dropped (K : PySem.W.Frag) (w : World) : Sp := SW.pOf N_Holdings_dropped 1 (t_Holdings_dropped K w)
theorem i_Holdings_dropped {K : PySem.W.Frag} {w : World} {H : Hp} {Q : VK} {E : XK} {x0 : V} (h : (sFld K (tVar 0) (tC (.bl false)) "was_hovered") { nx := fun _ H' => Q .non H', rt := Q } [some x0] H) : p_Holdings_dropped K w [x0] H Q E := ⟨rfl, h⟩
def N_Reply___init__ : List Str := ["self"]
def t_Reply___init__ (K : PySem.W.Frag) (w : World) (E : XK) : TS := tSeq (sFld K (tVar 0) (tLst (tNil)) "told") (tSeq (sFld K (tVar 0) (tLst (tNil)) "ended") (tSeq (sFld K (tVar 0) (tLst (tNil)) "wishes") (sFld K (tVar 0) (tLst (tNil)) "applied")))
def p_Reply___init__ (K : PySem.W.Frag) (w : World) : Sp := SW.pOf N_Reply___init__ 1 (t_Reply___init__ K w)
theorem i_Reply___init__ {K : PySem.W.Frag} {w : World} {H : Hp} {Q : VK} {E : XK} {x0 : V} (h : (tSeq (sFld K (tVar 0) (tLst (tNil)) "told") (tSeq (sFld K (tVar 0) (tLst (tNil)) "ended") (tSeq (sFld K (tVar 0) (tLst (tNil)) "wishes") (sFld K (tVar 0) (tLst (tNil)) "applied")))) { nx := fun _ H' => Q .non H', rt := Q } [some x0] H) : p_Reply___init__ K w [x0] H Q E := ⟨rfl, h⟩
def N__law_cell : List Str := ["script", "k", "cell"]
def t__law_cell (K : PySem.W.Frag) (w : World) (E : XK) : TS := tSeq (tAsg (tC (.int 0)) (gName 2)) (tSeq (tIfS (tTest (tOp rGtI (tCB (rLenP K) (tCons (tVar 0) (tNil))) (tC (.int 0)))) (tAsg (tOp (rIxP K w) (tVar 0) (tOp rMod (tCB rInt (tCons (tVar 1) (tNil))) (tCB (rLenP K) (tCons (tVar 0) (tNil))))) (gName 2)) (tNext)) (tSeq (tIfS (tTest (tOp rLtI (tVar 2) (tC (.int 0)))) (tAsg (tOp rSub (tC (.int 1)) (tOp rMul (tC (.int 2)) (tVar 2))) (gName 2)) (tNext)) (tRet (tVar 2))))
def p__law_cell (K : PySem.W.Frag) (w : World) : Sp := SW.pOf N__law_cell 2 (t__law_cell K w)
theorem i__law_cell {K : PySem.W.Frag} {w : World} {H : Hp} {Q : VK} {E : XK} {x0 x1 : V} (h : (tSeq (tAsg (tC (.int 0)) (gName 2)) (tSeq (tIfS (tTest (tOp rGtI (tCB (rLenP K) (tCons (tVar 0) (tNil))) (tC (.int 0)))) (tAsg (tOp (rIxP K w) (tVar 0) (tOp rMod (tCB rInt (tCons (tVar 1) (tNil))) (tCB (rLenP K) (tCons (tVar 0) (tNil))))) (gName 2)) (tNext)) (tSeq (tIfS (tTest (tOp rLtI (tVar 2) (tC (.int 0)))) (tAsg (tOp rSub (tC (.int 1)) (tOp rMul (tC (.int 2)) (tVar 2))) (gName 2)) (tNext)) (tRet (tVar 2))))) { nx := fun _ H' => Q .non H', rt := Q } [some x0, some x1, none] H) : p__law_cell K w [x0, x1] H Q E := ⟨rfl, h⟩
def N__law_row : List Str := ["script", "k", "cell", "one", "two"]
def t__law_row (K : PySem.W.Frag) (w : World) (E : XK) : TS := tSeq (tAsg (tCall (p__law_cell K w) [] E0 (tCons (tVar 0) (tCons (tVar 1) (tNil)))) (gName 2)) (tSeq (tIfS (tAnd (tTest (tOp rLtI (tVar 1) (tCB (rLenP K) (tCons (tVar 0) (tNil))))) (tTest (tOp rGeI (tVar 2) (tC (.int 1000000000))))) (tRet (tVar 2)) (tNext)) (tSeq (tAsg (tOp rMod (tCB rInt (tCons (tOp (rAdd K) (tOp (rAdd K) (tOp rMul (tVar 2) (tC (.int 48271))) (tOp rMul (tVar 1) (tC (.int 69621)))) (tC (.int 12345))) (tNil))) (tC (.int 2147483647))) (gName 3)) (tSeq (tAsg (tOp rMod (tCB rInt (tCons (tOp (rAdd K) (tOp (rAdd K) (tOp rMul (tVar 3) (tVar 3)) (tOp rMul (tC (.int 16807)) (tVar 1))) (tC (.int 7))) (tNil))) (tC (.int 2147483629))) (gName 4)) (tRet (tOp (rAdd K) (tOp rMod (tCB rInt (tCons (tOp (rAdd K) (tOp rMul (tVar 4) (tVar 4)) (tVar 3)) (tNil))) (tC (.int 4294967291))) (tOp rMul (tC (.int 4294967296)) (tOp (rAdd K) (tVar 3) (tC (.int 1)))))))))
def p__law_row (K : PySem.W.Frag) (w : World) : Sp := SW.pOf N__law_row 2 (t__law_row K w)
theorem i__law_row {K : PySem.W.Frag} {w : World} {H : Hp} {Q : VK} {E : XK} {x0 x1 : V} (h : (tSeq (tAsg (tCall (p__law_cell K w) [] E0 (tCons (tVar 0) (tCons (tVar 1) (tNil)))) (gName 2)) (tSeq (tIfS (tAnd (tTest (tOp rLtI (tVar 1) (tCB (rLenP K) (tCons (tVar 0) (tNil))))) (tTest (tOp rGeI (tVar 2) (tC (.int 1000000000))))) (tRet (tVar 2)) (tNext)) (tSeq (tAsg (tOp rMod (tCB rInt (tCons (tOp (rAdd K) (tOp (rAdd K) (tOp rMul (tVar 2) (tC (.int 48271))) (tOp rMul (tVar 1) (tC (.int 69621)))) (tC (.int 12345))) (tNil))) (tC (.int 2147483647))) (gName 3)) (tSeq (tAsg (tOp rMod (tCB rInt (tCons (tOp (rAdd K) (tOp (rAdd K) (tOp rMul (tVar 3) (tVar 3)) (tOp rMul (tC (.int 16807)) (tVar 1))) (tC (.int 7))) (tNil))) (tC (.int 2147483629))) (gName 4)) (tRet (tOp (rAdd K) (tOp rMod (tCB rInt (tCons (tOp (rAdd K) (tOp rMul (tVar 4) (tVar 4)) (tVar 3)) (tNil))) (tC (.int 4294967291))) (tOp rMul (tC (.int 4294967296)) (tOp (rAdd K) (tVar 3) (tC (.int 1)))))))))) { nx := fun _ H' => Q .non H', rt := Q } [some x0, some x1, none, none, none] H) : p__law_row K w [x0, x1] H Q E := ⟨rfl, h⟩
def N__law_hover : List Str := ["holdings", "pane", "row", "surface", "x", "y", "goods", "due", "piece", "reply", "k"]
def t__law_hover (K : PySem.W.Frag) (w : World) (E : XK) : TS := tSeq (tAsg (tOp (rAdd K) (tOp rMod (tCB rInt (tCons (tVar 2) (tNil))) (tC (.int 9))) (tC (.int 2))) (gName 3)) (tSeq (tAsg (tOp rSub (tOp rMod (tCB rInt (tCons (tOp rDiv (tVar 2) (tC (.int 9))) (tNil))) (tC (.int 100))) (tC (.int 50))) (gName 4)) (tSeq (tAsg (tOp rSub (tOp rMod (tCB rInt (tCons (tOp rDiv (tVar 2) (tC (.int 900))) (tNil))) (tC (.int 100))) (tC (.int 50))) (gName 5)) (tSeq (tAsg (tLc (iRng1 (tCons (tOp (rAdd K) (tOp rMod (tCB rInt (tCons (tOp rDiv (tVar 2) (tC (.int 90000))) (tNil))) (tC (.int 4))) (tC (.int 1))) (tNil))) (gName 10) (tYes) (tTup (tCons (tOp (rAdd K) (tC (.str "k")) (tCB rStrI (tCons (tVar 10) (tNil)))) (tCons (tLst (tCons (tVar 10) (tNil))) (tNil)))) [10]) (gName 6)) (tSeq (tAsg (tLst (tNil)) (gName 7)) (tSeq (tIfS (tTest (tOp rIsNot (tVar 1) (tC .non))) (tSeq (tDrop (tBM K "list" rAppend (tVar 7) (tCons (tCall (p_event_octets K w) [] E0 (tCons (tVar 1) (tCons (tC (.str "transfer")) (tCons (tC (.str "hover")) (tCons (tLst (tCons (tVar 3) (tCons (tVar 4) (tCons (tVar 5) (tNil))))) (tNil)))))) (tNil)))) (tFor (iSeq K (tVar 6)) (gName 8) (tDrop (tBM K "list" rAppend (tVar 7) (tCons (tCall (p_event_octets K w) [] E0 (tCons (tVar 1) (tCons (tC (.str "transfer")) (tCons (tC (.str "hover_kind")) (tCons (tLst (tCons (tOp (rIxP K w) (tVar 8) (tC (.int 0))) (tNil))) (tNil)))))) (tNil)))))) (tNext)) (tSeq (tAsg (tMake (He.ga K "Reply") (p_Reply___init__ K w) [] E0 (tNil)) (gName 9)) (tSeq (tDrop (tMeth (He.ga K "Holdings") "hovers" (p_Holdings_hovers K w) [] E0 (tVar 0) (tCons (tVar 3) (tCons (tVar 4) (tCons (tVar 5) (tCons (tVar 6) (tCons (tVar 9) (tNil)))))))) (tRet (tOp (rEqP K) (tFld K (tVar 9) "told") (tVar 7))))))))))
def p__law_hover (K : PySem.W.Frag) (w : World) : Sp := SW.pOf N__law_hover 3 (t__law_hover K w)
theorem i__law_hover {K : PySem.W.Frag} {w : World} {H : Hp} {Q : VK} {E : XK} {x0 x1 x2 : V} (h : (tSeq (tAsg (tOp (rAdd K) (tOp rMod (tCB rInt (tCons (tVar 2) (tNil))) (tC (.int 9))) (tC (.int 2))) (gName 3)) (tSeq (tAsg (tOp rSub (tOp rMod (tCB rInt (tCons (tOp rDiv (tVar 2) (tC (.int 9))) (tNil))) (tC (.int 100))) (tC (.int 50))) (gName 4)) (tSeq (tAsg (tOp rSub (tOp rMod (tCB rInt (tCons (tOp rDiv (tVar 2) (tC (.int 900))) (tNil))) (tC (.int 100))) (tC (.int 50))) (gName 5)) (tSeq (tAsg (tLc (iRng1 (tCons (tOp (rAdd K) (tOp rMod (tCB rInt (tCons (tOp rDiv (tVar 2) (tC (.int 90000))) (tNil))) (tC (.int 4))) (tC (.int 1))) (tNil))) (gName 10) (tYes) (tTup (tCons (tOp (rAdd K) (tC (.str "k")) (tCB rStrI (tCons (tVar 10) (tNil)))) (tCons (tLst (tCons (tVar 10) (tNil))) (tNil)))) [10]) (gName 6)) (tSeq (tAsg (tLst (tNil)) (gName 7)) (tSeq (tIfS (tTest (tOp rIsNot (tVar 1) (tC .non))) (tSeq (tDrop (tBM K "list" rAppend (tVar 7) (tCons (tCall (p_event_octets K w) [] E0 (tCons (tVar 1) (tCons (tC (.str "transfer")) (tCons (tC (.str "hover")) (tCons (tLst (tCons (tVar 3) (tCons (tVar 4) (tCons (tVar 5) (tNil))))) (tNil)))))) (tNil)))) (tFor (iSeq K (tVar 6)) (gName 8) (tDrop (tBM K "list" rAppend (tVar 7) (tCons (tCall (p_event_octets K w) [] E0 (tCons (tVar 1) (tCons (tC (.str "transfer")) (tCons (tC (.str "hover_kind")) (tCons (tLst (tCons (tOp (rIxP K w) (tVar 8) (tC (.int 0))) (tNil))) (tNil)))))) (tNil)))))) (tNext)) (tSeq (tAsg (tMake (He.ga K "Reply") (p_Reply___init__ K w) [] E0 (tNil)) (gName 9)) (tSeq (tDrop (tMeth (He.ga K "Holdings") "hovers" (p_Holdings_hovers K w) [] E0 (tVar 0) (tCons (tVar 3) (tCons (tVar 4) (tCons (tVar 5) (tCons (tVar 6) (tCons (tVar 9) (tNil)))))))) (tRet (tOp (rEqP K) (tFld K (tVar 9) "told") (tVar 7))))))))))) { nx := fun _ H' => Q .non H', rt := Q } [some x0, some x1, some x2, none, none, none, none, none, none, none, none] H) : p__law_hover K w [x0, x1, x2] H Q E := ⟨rfl, h⟩
def N__law_move : List Str := ["holdings", "pane", "on", "row", "time", "x", "due", "reply"]
def t__law_move (K : PySem.W.Frag) (w : World) (E : XK) : TS := tSeq (tAsg (tOp rMod (tCB rInt (tCons (tVar 3) (tNil))) (tC (.int 4294967296))) (gName 4)) (tSeq (tAsg (tOp rSub (tOp rMod (tCB rInt (tCons (tOp rDiv (tVar 3) (tC (.int 7))) (tNil))) (tC (.int 100))) (tC (.int 50))) (gName 5)) (tSeq (tAsg (tLst (tNil)) (gName 6)) (tSeq (tIfS (tAnd (tTest (tOp rIsNot (tVar 1) (tC .non))) (tTru K (tVar 2))) (tDrop (tBM K "list" rAppend (tVar 6) (tCons (tCall (p_event_octets K w) [] E0 (tCons (tVar 1) (tCons (tC (.str "transfer")) (tCons (tC (.str "moved")) (tCons (tLst (tCons (tVar 4) (tCons (tVar 5) (tCons (tC (.int 3)) (tNil))))) (tNil)))))) (tNil)))) (tNext)) (tSeq (tAsg (tMake (He.ga K "Reply") (p_Reply___init__ K w) [] E0 (tNil)) (gName 7)) (tSeq (tDrop (tMeth (He.ga K "Holdings") "moves" (p_Holdings_moves K w) [] E0 (tVar 0) (tCons (tVar 4) (tCons (tVar 5) (tCons (tC (.int 3)) (tCons (tVar 7) (tNil))))))) (tRet (tOp (rEqP K) (tFld K (tVar 7) "told") (tVar 6))))))))
def p__law_move (K : PySem.W.Frag) (w : World) : Sp := SW.pOf N__law_move 4 (t__law_move K w)
theorem i__law_move {K : PySem.W.Frag} {w : World} {H : Hp} {Q : VK} {E : XK} {x0 x1 x2 x3 : V} (h : (tSeq (tAsg (tOp rMod (tCB rInt (tCons (tVar 3) (tNil))) (tC (.int 4294967296))) (gName 4)) (tSeq (tAsg (tOp rSub (tOp rMod (tCB rInt (tCons (tOp rDiv (tVar 3) (tC (.int 7))) (tNil))) (tC (.int 100))) (tC (.int 50))) (gName 5)) (tSeq (tAsg (tLst (tNil)) (gName 6)) (tSeq (tIfS (tAnd (tTest (tOp rIsNot (tVar 1) (tC .non))) (tTru K (tVar 2))) (tDrop (tBM K "list" rAppend (tVar 6) (tCons (tCall (p_event_octets K w) [] E0 (tCons (tVar 1) (tCons (tC (.str "transfer")) (tCons (tC (.str "moved")) (tCons (tLst (tCons (tVar 4) (tCons (tVar 5) (tCons (tC (.int 3)) (tNil))))) (tNil)))))) (tNil)))) (tNext)) (tSeq (tAsg (tMake (He.ga K "Reply") (p_Reply___init__ K w) [] E0 (tNil)) (gName 7)) (tSeq (tDrop (tMeth (He.ga K "Holdings") "moves" (p_Holdings_moves K w) [] E0 (tVar 0) (tCons (tVar 4) (tCons (tVar 5) (tCons (tC (.int 3)) (tCons (tVar 7) (tNil))))))) (tRet (tOp (rEqP K) (tFld K (tVar 7) "told") (tVar 6))))))))) { nx := fun _ H' => Q .non H', rt := Q } [some x0, some x1, some x2, some x3, none, none, none, none] H) : p__law_move K w [x0, x1, x2, x3] H Q E := ⟨rfl, h⟩
def N__law_leave : List Str := ["holdings", "pane", "on", "due", "reply"]
def t__law_leave (K : PySem.W.Frag) (w : World) (E : XK) : TS := tSeq (tAsg (tLst (tNil)) (gName 3)) (tSeq (tIfS (tAnd (tTest (tOp rIsNot (tVar 1) (tC .non))) (tTru K (tVar 2))) (tDrop (tBM K "list" rAppend (tVar 3) (tCons (tCall (p_event_octets K w) [] E0 (tCons (tVar 1) (tCons (tC (.str "transfer")) (tCons (tC (.str "away")) (tCons (tLst (tNil)) (tNil)))))) (tNil)))) (tNext)) (tSeq (tAsg (tMake (He.ga K "Reply") (p_Reply___init__ K w) [] E0 (tNil)) (gName 4)) (tSeq (tDrop (tMeth (He.ga K "Holdings") "leaves" (p_Holdings_leaves K w) [] E0 (tVar 0) (tCons (tVar 4) (tNil)))) (tRet (tOp (rEqP K) (tFld K (tVar 4) "told") (tVar 3))))))
def p__law_leave (K : PySem.W.Frag) (w : World) : Sp := SW.pOf N__law_leave 3 (t__law_leave K w)
theorem i__law_leave {K : PySem.W.Frag} {w : World} {H : Hp} {Q : VK} {E : XK} {x0 x1 x2 : V} (h : (tSeq (tAsg (tLst (tNil)) (gName 3)) (tSeq (tIfS (tAnd (tTest (tOp rIsNot (tVar 1) (tC .non))) (tTru K (tVar 2))) (tDrop (tBM K "list" rAppend (tVar 3) (tCons (tCall (p_event_octets K w) [] E0 (tCons (tVar 1) (tCons (tC (.str "transfer")) (tCons (tC (.str "away")) (tCons (tLst (tNil)) (tNil)))))) (tNil)))) (tNext)) (tSeq (tAsg (tMake (He.ga K "Reply") (p_Reply___init__ K w) [] E0 (tNil)) (gName 4)) (tSeq (tDrop (tMeth (He.ga K "Holdings") "leaves" (p_Holdings_leaves K w) [] E0 (tVar 0) (tCons (tVar 4) (tNil)))) (tRet (tOp (rEqP K) (tFld K (tVar 4) "told") (tVar 3))))))) { nx := fun _ H' => Q .non H', rt := Q } [some x0, some x1, some x2, none, none] H) : p__law_leave K w [x0, x1, x2] H Q E := ⟨rfl, h⟩
def N_law : List Str := ["script", "holdings", "panes", "on", "k", "row", "deed", "pane", "good", "gone", "one"]
def t_law (K : PySem.W.Frag) (w : World) (E : XK) : TS := tSeq (tAsg (tMake (He.ga K "Holdings") (p_Holdings___init__ K w) [] E0 (tNil)) (gName 1)) (tSeq (tAsg (tLst (tNil)) (gName 2)) (tSeq (tAsg (tC (.bl false)) (gName 3)) (tSeq (tFor (iRng1 (tCons (tOp (rAdd K) (tCB rMin2 (tCons (tC (.int 40)) (tCons (tCB (rLenP K) (tCons (tVar 0) (tNil))) (tNil)))) (tC (.int 1))) (tNil))) (gName 4) (tSeq (tAsg (tCall (p__law_row K w) [] E0 (tCons (tVar 0) (tCons (tVar 4) (tNil)))) (gName 5)) (tSeq (tAsg (tOp rMod (tCB rInt (tCons (tVar 5) (tNil))) (tC (.int 7))) (gName 6)) (tSeq (tAsg (tC .non) (gName 7)) (tSeq (tIfS (tTest (tOp rGtI (tCB (rLenP K) (tCons (tVar 2) (tNil))) (tC (.int 0)))) (tAsg (tOp (rIxP K w) (tVar 2) (tC (.int 0))) (gName 7)) (tNext)) (tSeq (tIfS (tTest (tOp (rNeP K) (tMeth (He.ga K "Holdings") "pane" (p_Holdings_pane K w) [] E0 (tVar 1) (tNil)) (tVar 7))) (tRet (tC (.bl false))) (tNext)) (tSeq (tAsg (tC (.bl true)) (gName 8)) (tSeq (tIfS (tTest (tOp (rEqP K) (tVar 6) (tC (.int 0)))) (tSeq (tDrop (tBM K "list" rAppend (tVar 2) (tCons (tOp rSub (tC (.int 90)) (tVar 4)) (tNil)))) (tDrop (tMeth (He.ga K "Holdings") "bound" (p_Holdings_bound K w) [] E0 (tVar 1) (tCons (tOp rSub (tC (.int 90)) (tVar 4)) (tNil))))) (tIfS (tAnd (tTest (tOp (rEqP K) (tVar 6) (tC (.int 1)))) (tTest (tOp rGtI (tCB (rLenP K) (tCons (tVar 2) (tNil))) (tC (.int 0))))) (tSeq (tAsg (tOp (rIxP K w) (tVar 2) (tOp rMod (tCB rInt (tCons (tOp rDiv (tVar 5) (tC (.int 7))) (tNil))) (tCB (rLenP K) (tCons (tVar 2) (tNil))))) (gName 9)) (tSeq (tAsg (tLc (iSeq K (tVar 2)) (gName 10) (tTest (tOp (rNeP K) (tVar 10) (tVar 9))) (tVar 10) [10]) (gName 2)) (tDrop (tMeth (He.ga K "Holdings") "ended" (p_Holdings_ended K w) [] E0 (tVar 1) (tCons (tVar 9) (tNil)))))) (tIfS (tAnd (tOr (tTest (tOp (rEqP K) (tVar 6) (tC (.int 2)))) (tTest (tOp (rEqP K) (tVar 6) (tC (.int 3))))) (tTest (tOp rIs (tVar 3) (tC (.bl false))))) (tSeq (tAsg (tCall (p__law_hover K w) [] E0 (tCons (tVar 1) (tCons (tVar 7) (tCons (tOp rDiv (tVar 5) (tC (.int 7))) (tNil))))) (gName 8)) (tAsg (tOp rIsNot (tVar 7) (tC .non)) (gName 3))) (tIfS (tTest (tOp (rEqP K) (tVar 6) (tC (.int 4)))) (tSeq (tAsg (tCall (p__law_leave K w) [] E0 (tCons (tVar 1) (tCons (tVar 7) (tCons (tVar 3) (tNil))))) (gName 8)) (tAsg (tC (.bl false)) (gName 3))) (tIfS (tTest (tOp (rEqP K) (tVar 6) (tC (.int 5)))) (tSeq (tDrop (tMeth (He.ga K "Holdings") "dropped" (p_Holdings_dropped K w) [] E0 (tVar 1) (tNil))) (tAsg (tC (.bl false)) (gName 3))) (tAsg (tCall (p__law_move K w) [] E0 (tCons (tVar 1) (tCons (tVar 7) (tCons (tVar 3) (tCons (tOp rDiv (tVar 5) (tC (.int 7))) (tNil)))))) (gName 8))))))) (tIfS (tNot (tTru K (tVar 8))) (tRet (tC (.bl false))) (tNext)))))))))) (tRet (tC (.bl true))))))
def p_law (K : PySem.W.Frag) (w : World) : Sp := SW.pOf N_law 1 (t_law K w)
theorem i_law {K : PySem.W.Frag} {w : World} {H : Hp} {Q : VK} {E : XK} {x0 : V} (h : (tSeq (tAsg (tMake (He.ga K "Holdings") (p_Holdings___init__ K w) [] E0 (tNil)) (gName 1)) (tSeq (tAsg (tLst (tNil)) (gName 2)) (tSeq (tAsg (tC (.bl false)) (gName 3)) (tSeq (tFor (iRng1 (tCons (tOp (rAdd K) (tCB rMin2 (tCons (tC (.int 40)) (tCons (tCB (rLenP K) (tCons (tVar 0) (tNil))) (tNil)))) (tC (.int 1))) (tNil))) (gName 4) (tSeq (tAsg (tCall (p__law_row K w) [] E0 (tCons (tVar 0) (tCons (tVar 4) (tNil)))) (gName 5)) (tSeq (tAsg (tOp rMod (tCB rInt (tCons (tVar 5) (tNil))) (tC (.int 7))) (gName 6)) (tSeq (tAsg (tC .non) (gName 7)) (tSeq (tIfS (tTest (tOp rGtI (tCB (rLenP K) (tCons (tVar 2) (tNil))) (tC (.int 0)))) (tAsg (tOp (rIxP K w) (tVar 2) (tC (.int 0))) (gName 7)) (tNext)) (tSeq (tIfS (tTest (tOp (rNeP K) (tMeth (He.ga K "Holdings") "pane" (p_Holdings_pane K w) [] E0 (tVar 1) (tNil)) (tVar 7))) (tRet (tC (.bl false))) (tNext)) (tSeq (tAsg (tC (.bl true)) (gName 8)) (tSeq (tIfS (tTest (tOp (rEqP K) (tVar 6) (tC (.int 0)))) (tSeq (tDrop (tBM K "list" rAppend (tVar 2) (tCons (tOp rSub (tC (.int 90)) (tVar 4)) (tNil)))) (tDrop (tMeth (He.ga K "Holdings") "bound" (p_Holdings_bound K w) [] E0 (tVar 1) (tCons (tOp rSub (tC (.int 90)) (tVar 4)) (tNil))))) (tIfS (tAnd (tTest (tOp (rEqP K) (tVar 6) (tC (.int 1)))) (tTest (tOp rGtI (tCB (rLenP K) (tCons (tVar 2) (tNil))) (tC (.int 0))))) (tSeq (tAsg (tOp (rIxP K w) (tVar 2) (tOp rMod (tCB rInt (tCons (tOp rDiv (tVar 5) (tC (.int 7))) (tNil))) (tCB (rLenP K) (tCons (tVar 2) (tNil))))) (gName 9)) (tSeq (tAsg (tLc (iSeq K (tVar 2)) (gName 10) (tTest (tOp (rNeP K) (tVar 10) (tVar 9))) (tVar 10) [10]) (gName 2)) (tDrop (tMeth (He.ga K "Holdings") "ended" (p_Holdings_ended K w) [] E0 (tVar 1) (tCons (tVar 9) (tNil)))))) (tIfS (tAnd (tOr (tTest (tOp (rEqP K) (tVar 6) (tC (.int 2)))) (tTest (tOp (rEqP K) (tVar 6) (tC (.int 3))))) (tTest (tOp rIs (tVar 3) (tC (.bl false))))) (tSeq (tAsg (tCall (p__law_hover K w) [] E0 (tCons (tVar 1) (tCons (tVar 7) (tCons (tOp rDiv (tVar 5) (tC (.int 7))) (tNil))))) (gName 8)) (tAsg (tOp rIsNot (tVar 7) (tC .non)) (gName 3))) (tIfS (tTest (tOp (rEqP K) (tVar 6) (tC (.int 4)))) (tSeq (tAsg (tCall (p__law_leave K w) [] E0 (tCons (tVar 1) (tCons (tVar 7) (tCons (tVar 3) (tNil))))) (gName 8)) (tAsg (tC (.bl false)) (gName 3))) (tIfS (tTest (tOp (rEqP K) (tVar 6) (tC (.int 5)))) (tSeq (tDrop (tMeth (He.ga K "Holdings") "dropped" (p_Holdings_dropped K w) [] E0 (tVar 1) (tNil))) (tAsg (tC (.bl false)) (gName 3))) (tAsg (tCall (p__law_move K w) [] E0 (tCons (tVar 1) (tCons (tVar 7) (tCons (tVar 3) (tCons (tOp rDiv (tVar 5) (tC (.int 7))) (tNil)))))) (gName 8))))))) (tIfS (tNot (tTru K (tVar 8))) (tRet (tC (.bl false))) (tNext)))))))))) (tRet (tC (.bl true))))))) { nx := fun _ H' => Q .non H', rt := Q } [some x0, none, none, none, none, none, none, none, none, none, none] H) : p_law K w [x0] H Q E := ⟨rfl, h⟩
class TxtK (K : PySem.W.Frag) : Prop where
  c_Holdings : Cls K (He.ga K "Holdings")
  m_Holdings_pane : Meth K (He.ga K "Holdings") "pane" (He.ma K (He.ga K "Holdings") "pane")
  c_Reply : Cls K (He.ga K "Reply")
  m_Reply_tell : Meth K (He.ga K "Reply") "tell" (He.ma K (He.ga K "Reply") "tell")
  k_Reply : Mk K (He.ga K "Reply") (He.ma K (He.ga K "Reply") "__init__")
  m_Holdings_hovers : Meth K (He.ga K "Holdings") "hovers" (He.ma K (He.ga K "Holdings") "hovers")
  m_Holdings_moves : Meth K (He.ga K "Holdings") "moves" (He.ma K (He.ga K "Holdings") "moves")
  m_Holdings_leaves : Meth K (He.ga K "Holdings") "leaves" (He.ma K (He.ga K "Holdings") "leaves")
  k_Holdings : Mk K (He.ga K "Holdings") (He.ma K (He.ga K "Holdings") "__init__")
  m_Holdings_bound : Meth K (He.ga K "Holdings") "bound" (He.ma K (He.ga K "Holdings") "bound")
  m_Holdings_ended : Meth K (He.ga K "Holdings") "ended" (He.ma K (He.ga K "Holdings") "ended")
  m_Holdings_dropped : Meth K (He.ga K "Holdings") "dropped" (He.ma K (He.ga K "Holdings") "dropped")
  a_Holdings_panes : NoAttr K (He.ga K "Holdings") "panes"
  a_Holdings_sources : NoAttr K (He.ga K "Holdings") "sources"
  a_Holdings_offers : NoAttr K (He.ga K "Holdings") "offers"
  a_Holdings_captures : NoAttr K (He.ga K "Holdings") "captures"
  a_Holdings_fetches : NoAttr K (He.ga K "Holdings") "fetches"
  a_Holdings_watches : NoAttr K (He.ga K "Holdings") "watches"
  a_Holdings_names : NoAttr K (He.ga K "Holdings") "names"
  a_Holdings_was_hovered : NoAttr K (He.ga K "Holdings") "was_hovered"
  a_Reply_told : NoAttr K (He.ga K "Reply") "told"
  a_Reply_ended : NoAttr K (He.ga K "Reply") "ended"
  a_Reply_wishes : NoAttr K (He.ga K "Reply") "wishes"
  a_Reply_applied : NoAttr K (He.ga K "Reply") "applied"
def f_Holdings_1 (v0 : V) : List (Str × V) := [("panes", v0)]
def f_Holdings_2 (v0 v1 : V) : List (Str × V) := [("panes", v0), ("sources", v1)]
def f_Holdings_3 (v0 v1 v2 : V) : List (Str × V) := [("panes", v0), ("sources", v1), ("offers", v2)]
def f_Holdings_4 (v0 v1 v2 v3 : V) : List (Str × V) := [("panes", v0), ("sources", v1), ("offers", v2), ("captures", v3)]
def f_Holdings_5 (v0 v1 v2 v3 v4 : V) : List (Str × V) := [("panes", v0), ("sources", v1), ("offers", v2), ("captures", v3), ("fetches", v4)]
def f_Holdings_6 (v0 v1 v2 v3 v4 v5 : V) : List (Str × V) := [("panes", v0), ("sources", v1), ("offers", v2), ("captures", v3), ("fetches", v4), ("watches", v5)]
def f_Holdings_7 (v0 v1 v2 v3 v4 v5 v6 : V) : List (Str × V) := [("panes", v0), ("sources", v1), ("offers", v2), ("captures", v3), ("fetches", v4), ("watches", v5), ("names", v6)]
def f_Holdings (v0 v1 v2 v3 v4 v5 v6 v7 : V) : List (Str × V) := [("panes", v0), ("sources", v1), ("offers", v2), ("captures", v3), ("fetches", v4), ("watches", v5), ("names", v6), ("was_hovered", v7)]
def f_Holdings_0 : List (Str × V) := []
section
variable {v0 v1 v2 v3 v4 v5 v6 v7 v : V}
instance : Look (f_Holdings v0 v1 v2 v3 v4 v5 v6 v7) "panes" v0 := ⟨look_ix (i := 0) (by show (["panes", "sources", "offers", "captures", "fetches", "watches", "names", "was_hovered"] : List Str).idxOf? ("panes" : Str) = some 0; decide +kernel) rfl⟩
instance : Put (f_Holdings v0 v1 v2 v3 v4 v5 v6 v7) "panes" v (f_Holdings v v1 v2 v3 v4 v5 v6 v7) := ⟨put_ix (i := 0) (by show (["panes", "sources", "offers", "captures", "fetches", "watches", "names", "was_hovered"] : List Str).idxOf? ("panes" : Str) = some 0; decide +kernel), by show 8 < 1000; decide⟩
instance : Look (f_Holdings v0 v1 v2 v3 v4 v5 v6 v7) "sources" v1 := ⟨look_ix (i := 1) (by show (["panes", "sources", "offers", "captures", "fetches", "watches", "names", "was_hovered"] : List Str).idxOf? ("sources" : Str) = some 1; decide +kernel) rfl⟩
instance : Put (f_Holdings v0 v1 v2 v3 v4 v5 v6 v7) "sources" v (f_Holdings v0 v v2 v3 v4 v5 v6 v7) := ⟨put_ix (i := 1) (by show (["panes", "sources", "offers", "captures", "fetches", "watches", "names", "was_hovered"] : List Str).idxOf? ("sources" : Str) = some 1; decide +kernel), by show 8 < 1000; decide⟩
instance : Look (f_Holdings v0 v1 v2 v3 v4 v5 v6 v7) "offers" v2 := ⟨look_ix (i := 2) (by show (["panes", "sources", "offers", "captures", "fetches", "watches", "names", "was_hovered"] : List Str).idxOf? ("offers" : Str) = some 2; decide +kernel) rfl⟩
instance : Put (f_Holdings v0 v1 v2 v3 v4 v5 v6 v7) "offers" v (f_Holdings v0 v1 v v3 v4 v5 v6 v7) := ⟨put_ix (i := 2) (by show (["panes", "sources", "offers", "captures", "fetches", "watches", "names", "was_hovered"] : List Str).idxOf? ("offers" : Str) = some 2; decide +kernel), by show 8 < 1000; decide⟩
instance : Look (f_Holdings v0 v1 v2 v3 v4 v5 v6 v7) "captures" v3 := ⟨look_ix (i := 3) (by show (["panes", "sources", "offers", "captures", "fetches", "watches", "names", "was_hovered"] : List Str).idxOf? ("captures" : Str) = some 3; decide +kernel) rfl⟩
instance : Put (f_Holdings v0 v1 v2 v3 v4 v5 v6 v7) "captures" v (f_Holdings v0 v1 v2 v v4 v5 v6 v7) := ⟨put_ix (i := 3) (by show (["panes", "sources", "offers", "captures", "fetches", "watches", "names", "was_hovered"] : List Str).idxOf? ("captures" : Str) = some 3; decide +kernel), by show 8 < 1000; decide⟩
instance : Look (f_Holdings v0 v1 v2 v3 v4 v5 v6 v7) "fetches" v4 := ⟨look_ix (i := 4) (by show (["panes", "sources", "offers", "captures", "fetches", "watches", "names", "was_hovered"] : List Str).idxOf? ("fetches" : Str) = some 4; decide +kernel) rfl⟩
instance : Put (f_Holdings v0 v1 v2 v3 v4 v5 v6 v7) "fetches" v (f_Holdings v0 v1 v2 v3 v v5 v6 v7) := ⟨put_ix (i := 4) (by show (["panes", "sources", "offers", "captures", "fetches", "watches", "names", "was_hovered"] : List Str).idxOf? ("fetches" : Str) = some 4; decide +kernel), by show 8 < 1000; decide⟩
instance : Look (f_Holdings v0 v1 v2 v3 v4 v5 v6 v7) "watches" v5 := ⟨look_ix (i := 5) (by show (["panes", "sources", "offers", "captures", "fetches", "watches", "names", "was_hovered"] : List Str).idxOf? ("watches" : Str) = some 5; decide +kernel) rfl⟩
instance : Put (f_Holdings v0 v1 v2 v3 v4 v5 v6 v7) "watches" v (f_Holdings v0 v1 v2 v3 v4 v v6 v7) := ⟨put_ix (i := 5) (by show (["panes", "sources", "offers", "captures", "fetches", "watches", "names", "was_hovered"] : List Str).idxOf? ("watches" : Str) = some 5; decide +kernel), by show 8 < 1000; decide⟩
instance : Look (f_Holdings v0 v1 v2 v3 v4 v5 v6 v7) "names" v6 := ⟨look_ix (i := 6) (by show (["panes", "sources", "offers", "captures", "fetches", "watches", "names", "was_hovered"] : List Str).idxOf? ("names" : Str) = some 6; decide +kernel) rfl⟩
instance : Put (f_Holdings v0 v1 v2 v3 v4 v5 v6 v7) "names" v (f_Holdings v0 v1 v2 v3 v4 v5 v v7) := ⟨put_ix (i := 6) (by show (["panes", "sources", "offers", "captures", "fetches", "watches", "names", "was_hovered"] : List Str).idxOf? ("names" : Str) = some 6; decide +kernel), by show 8 < 1000; decide⟩
instance : Look (f_Holdings v0 v1 v2 v3 v4 v5 v6 v7) "was_hovered" v7 := ⟨look_ix (i := 7) (by show (["panes", "sources", "offers", "captures", "fetches", "watches", "names", "was_hovered"] : List Str).idxOf? ("was_hovered" : Str) = some 7; decide +kernel) rfl⟩
instance : Put (f_Holdings v0 v1 v2 v3 v4 v5 v6 v7) "was_hovered" v (f_Holdings v0 v1 v2 v3 v4 v5 v6 v) := ⟨put_ix (i := 7) (by show (["panes", "sources", "offers", "captures", "fetches", "watches", "names", "was_hovered"] : List Str).idxOf? ("was_hovered" : Str) = some 7; decide +kernel), by show 8 < 1000; decide⟩
instance : Put f_Holdings_0 "panes" v (f_Holdings_1 v) := ⟨put_new (by show ([] : List Str).idxOf? ("panes" : Str) = none; decide +kernel), by show 0 < 1000; decide⟩
instance : Put (f_Holdings_1 v0) "sources" v (f_Holdings_2 v0 v) := ⟨put_new (by show (["panes"] : List Str).idxOf? ("sources" : Str) = none; decide +kernel), by show 1 < 1000; decide⟩
instance : Put (f_Holdings_2 v0 v1) "offers" v (f_Holdings_3 v0 v1 v) := ⟨put_new (by show (["panes", "sources"] : List Str).idxOf? ("offers" : Str) = none; decide +kernel), by show 2 < 1000; decide⟩
instance : Put (f_Holdings_3 v0 v1 v2) "captures" v (f_Holdings_4 v0 v1 v2 v) := ⟨put_new (by show (["panes", "sources", "offers"] : List Str).idxOf? ("captures" : Str) = none; decide +kernel), by show 3 < 1000; decide⟩
instance : Put (f_Holdings_4 v0 v1 v2 v3) "fetches" v (f_Holdings_5 v0 v1 v2 v3 v) := ⟨put_new (by show (["panes", "sources", "offers", "captures"] : List Str).idxOf? ("fetches" : Str) = none; decide +kernel), by show 4 < 1000; decide⟩
instance : Put (f_Holdings_5 v0 v1 v2 v3 v4) "watches" v (f_Holdings_6 v0 v1 v2 v3 v4 v) := ⟨put_new (by show (["panes", "sources", "offers", "captures", "fetches"] : List Str).idxOf? ("watches" : Str) = none; decide +kernel), by show 5 < 1000; decide⟩
instance : Put (f_Holdings_6 v0 v1 v2 v3 v4 v5) "names" v (f_Holdings_7 v0 v1 v2 v3 v4 v5 v) := ⟨put_new (by show (["panes", "sources", "offers", "captures", "fetches", "watches"] : List Str).idxOf? ("names" : Str) = none; decide +kernel), by show 6 < 1000; decide⟩
instance : Put (f_Holdings_7 v0 v1 v2 v3 v4 v5 v6) "was_hovered" v (f_Holdings v0 v1 v2 v3 v4 v5 v6 v) := ⟨put_new (by show (["panes", "sources", "offers", "captures", "fetches", "watches", "names"] : List Str).idxOf? ("was_hovered" : Str) = none; decide +kernel), by show 7 < 1000; decide⟩
instance : NoLook (f_Holdings v0 v1 v2 v3 v4 v5 v6 v7) "pane" := ⟨nolook_of (by show (["panes", "sources", "offers", "captures", "fetches", "watches", "names", "was_hovered"] : List Str).idxOf? ("pane" : Str) = none; decide +kernel)⟩
instance : NoLook (f_Holdings v0 v1 v2 v3 v4 v5 v6 v7) "bound" := ⟨nolook_of (by show (["panes", "sources", "offers", "captures", "fetches", "watches", "names", "was_hovered"] : List Str).idxOf? ("bound" : Str) = none; decide +kernel)⟩
instance : NoLook (f_Holdings v0 v1 v2 v3 v4 v5 v6 v7) "ended" := ⟨nolook_of (by show (["panes", "sources", "offers", "captures", "fetches", "watches", "names", "was_hovered"] : List Str).idxOf? ("ended" : Str) = none; decide +kernel)⟩
instance : NoLook (f_Holdings v0 v1 v2 v3 v4 v5 v6 v7) "hovers" := ⟨nolook_of (by show (["panes", "sources", "offers", "captures", "fetches", "watches", "names", "was_hovered"] : List Str).idxOf? ("hovers" : Str) = none; decide +kernel)⟩
instance : NoLook (f_Holdings v0 v1 v2 v3 v4 v5 v6 v7) "moves" := ⟨nolook_of (by show (["panes", "sources", "offers", "captures", "fetches", "watches", "names", "was_hovered"] : List Str).idxOf? ("moves" : Str) = none; decide +kernel)⟩
instance : NoLook (f_Holdings v0 v1 v2 v3 v4 v5 v6 v7) "leaves" := ⟨nolook_of (by show (["panes", "sources", "offers", "captures", "fetches", "watches", "names", "was_hovered"] : List Str).idxOf? ("leaves" : Str) = none; decide +kernel)⟩
instance : NoLook (f_Holdings v0 v1 v2 v3 v4 v5 v6 v7) "dropped" := ⟨nolook_of (by show (["panes", "sources", "offers", "captures", "fetches", "watches", "names", "was_hovered"] : List Str).idxOf? ("dropped" : Str) = none; decide +kernel)⟩
end
instance {K : PySem.W.Frag} [T : TxtK K] : CC K (He.ga K "Holdings") := ⟨T.c_Holdings⟩
instance {K : PySem.W.Frag} [T : TxtK K] : NA K (He.ga K "Holdings") "panes" := ⟨T.a_Holdings_panes⟩
instance {K : PySem.W.Frag} [T : TxtK K] : NA K (He.ga K "Holdings") "sources" := ⟨T.a_Holdings_sources⟩
instance {K : PySem.W.Frag} [T : TxtK K] : NA K (He.ga K "Holdings") "offers" := ⟨T.a_Holdings_offers⟩
instance {K : PySem.W.Frag} [T : TxtK K] : NA K (He.ga K "Holdings") "captures" := ⟨T.a_Holdings_captures⟩
instance {K : PySem.W.Frag} [T : TxtK K] : NA K (He.ga K "Holdings") "fetches" := ⟨T.a_Holdings_fetches⟩
instance {K : PySem.W.Frag} [T : TxtK K] : NA K (He.ga K "Holdings") "watches" := ⟨T.a_Holdings_watches⟩
instance {K : PySem.W.Frag} [T : TxtK K] : NA K (He.ga K "Holdings") "names" := ⟨T.a_Holdings_names⟩
instance {K : PySem.W.Frag} [T : TxtK K] : NA K (He.ga K "Holdings") "was_hovered" := ⟨T.a_Holdings_was_hovered⟩
def f_Reply_1 (v0 : V) : List (Str × V) := [("told", v0)]
def f_Reply_2 (v0 v1 : V) : List (Str × V) := [("told", v0), ("ended", v1)]
def f_Reply_3 (v0 v1 v2 : V) : List (Str × V) := [("told", v0), ("ended", v1), ("wishes", v2)]
def f_Reply (v0 v1 v2 v3 : V) : List (Str × V) := [("told", v0), ("ended", v1), ("wishes", v2), ("applied", v3)]
def f_Reply_0 : List (Str × V) := []
section
variable {v0 v1 v2 v3 v : V}
instance : Look (f_Reply v0 v1 v2 v3) "told" v0 := ⟨look_ix (i := 0) (by show (["told", "ended", "wishes", "applied"] : List Str).idxOf? ("told" : Str) = some 0; decide +kernel) rfl⟩
instance : Put (f_Reply v0 v1 v2 v3) "told" v (f_Reply v v1 v2 v3) := ⟨put_ix (i := 0) (by show (["told", "ended", "wishes", "applied"] : List Str).idxOf? ("told" : Str) = some 0; decide +kernel), by show 4 < 1000; decide⟩
instance : Look (f_Reply v0 v1 v2 v3) "ended" v1 := ⟨look_ix (i := 1) (by show (["told", "ended", "wishes", "applied"] : List Str).idxOf? ("ended" : Str) = some 1; decide +kernel) rfl⟩
instance : Put (f_Reply v0 v1 v2 v3) "ended" v (f_Reply v0 v v2 v3) := ⟨put_ix (i := 1) (by show (["told", "ended", "wishes", "applied"] : List Str).idxOf? ("ended" : Str) = some 1; decide +kernel), by show 4 < 1000; decide⟩
instance : Look (f_Reply v0 v1 v2 v3) "wishes" v2 := ⟨look_ix (i := 2) (by show (["told", "ended", "wishes", "applied"] : List Str).idxOf? ("wishes" : Str) = some 2; decide +kernel) rfl⟩
instance : Put (f_Reply v0 v1 v2 v3) "wishes" v (f_Reply v0 v1 v v3) := ⟨put_ix (i := 2) (by show (["told", "ended", "wishes", "applied"] : List Str).idxOf? ("wishes" : Str) = some 2; decide +kernel), by show 4 < 1000; decide⟩
instance : Look (f_Reply v0 v1 v2 v3) "applied" v3 := ⟨look_ix (i := 3) (by show (["told", "ended", "wishes", "applied"] : List Str).idxOf? ("applied" : Str) = some 3; decide +kernel) rfl⟩
instance : Put (f_Reply v0 v1 v2 v3) "applied" v (f_Reply v0 v1 v2 v) := ⟨put_ix (i := 3) (by show (["told", "ended", "wishes", "applied"] : List Str).idxOf? ("applied" : Str) = some 3; decide +kernel), by show 4 < 1000; decide⟩
instance : Put f_Reply_0 "told" v (f_Reply_1 v) := ⟨put_new (by show ([] : List Str).idxOf? ("told" : Str) = none; decide +kernel), by show 0 < 1000; decide⟩
instance : Put (f_Reply_1 v0) "ended" v (f_Reply_2 v0 v) := ⟨put_new (by show (["told"] : List Str).idxOf? ("ended" : Str) = none; decide +kernel), by show 1 < 1000; decide⟩
instance : Put (f_Reply_2 v0 v1) "wishes" v (f_Reply_3 v0 v1 v) := ⟨put_new (by show (["told", "ended"] : List Str).idxOf? ("wishes" : Str) = none; decide +kernel), by show 2 < 1000; decide⟩
instance : Put (f_Reply_3 v0 v1 v2) "applied" v (f_Reply v0 v1 v2 v) := ⟨put_new (by show (["told", "ended", "wishes"] : List Str).idxOf? ("applied" : Str) = none; decide +kernel), by show 3 < 1000; decide⟩
instance : NoLook (f_Reply v0 v1 v2 v3) "tell" := ⟨nolook_of (by show (["told", "ended", "wishes", "applied"] : List Str).idxOf? ("tell" : Str) = none; decide +kernel)⟩
end
instance {K : PySem.W.Frag} [T : TxtK K] : CC K (He.ga K "Reply") := ⟨T.c_Reply⟩
instance {K : PySem.W.Frag} [T : TxtK K] : NA K (He.ga K "Reply") "told" := ⟨T.a_Reply_told⟩
instance {K : PySem.W.Frag} [T : TxtK K] : NA K (He.ga K "Reply") "ended" := ⟨T.a_Reply_ended⟩
instance {K : PySem.W.Frag} [T : TxtK K] : NA K (He.ga K "Reply") "wishes" := ⟨T.a_Reply_wishes⟩
instance {K : PySem.W.Frag} [T : TxtK K] : NA K (He.ga K "Reply") "applied" := ⟨T.a_Reply_applied⟩
class TxtQ (K : PySem.W.Frag) : Prop where
  q_KINDS : ∀ H, SqT K H (He.ga K "KINDS") [.str "uint", .str "int", .str "text", .str "octets", .str "object", .str "maybe", .str "new", .str "bound"]
instance {K : PySem.W.Frag} [T : TxtQ K] : KT K (He.ga K "KINDS") [.str "uint", .str "int", .str "text", .str "octets", .str "object", .str "maybe", .str "new", .str "bound"] := ⟨T.q_KINDS⟩
class TxtX (K : PySem.W.Frag) (w : World) : Prop where
  e_transfer : EvRow K w "EVENTS" "transfer" [("offer", ["new", "uint"]), ("hover", ["object", "int", "int"]), ("hover_kind", ["text"]), ("moved", ["uint", "int", "int"]), ("away", []), ("ended", [])]
instance {K : PySem.W.Frag} {w : World} [T : TxtX K w] : EV K w "transfer" [("offer", ["new", "uint"]), ("hover", ["object", "int", "int"]), ("hover_kind", ["text"]), ("moved", ["uint", "int", "int"]), ("away", []), ("ended", [])] := ⟨T.e_transfer⟩
structure Txt (K : PySem.W.Frag) (mg : Str → Option Value) (w : World) : Prop extends TxtK K where
  n_isinstance : mg "isinstance" = none
  n_int : mg "int" = none
  n_bool : mg "bool" = none
  g_is_integer : mg "is_integer" = some (.ref (He.ga K "is_integer"))
  i_NUMBER_LIMIT : ∃ t, mg "NUMBER_LIMIT" = some (.int 4294967296 t)
  n_len : mg "len" = none
  i_TEXT_MOST : ∃ t, mg "TEXT_MOST" = some (.int 1000 t)
  s_SIGNS : ∃ t, mg "SIGNS" = some (.str " !\"#$&'()*+,-./0123456789:;<=>?@ABCDEFGHIJKLMNOPQRSTUVWXYZ[\\]^_`abcdefghijklmnopqrstuvwxyz{|}~" t)
  n_all : mg "all" = none
  n_list : mg "list" = none
  i_OCTETS_MOST : ∃ t, mg "OCTETS_MOST" = some (.int 16384 t)
  n_range : mg "range" = none
  n_ord : mg "ord" = none
  g_number_octets : mg "number_octets" = some (.ref (He.ga K "number_octets"))
  g_sign_code : mg "sign_code" = some (.ref (He.ga K "sign_code"))
  g_padding : mg "padding" = some (.ref (He.ga K "padding"))
  g_is_number : mg "is_number" = some (.ref (He.ga K "is_number"))
  n_str : mg "str" = none
  g_is_text : mg "is_text" = some (.ref (He.ga K "is_text"))
  g_are_octets : mg "are_octets" = some (.ref (He.ga K "are_octets"))
  n_tuple : mg "tuple" = none
  g_KINDS : mg "KINDS" = some (.ref (He.ga K "KINDS"))
  g_fits_kind : mg "fits_kind" = some (.ref (He.ga K "fits_kind"))
  g_text_octets : mg "text_octets" = some (.ref (He.ga K "text_octets"))
  i_ARGUMENTS_MOST : ∃ t, mg "ARGUMENTS_MOST" = some (.int 20 t)
  g_field_octets : mg "field_octets" = some (.ref (He.ga K "field_octets"))
  i_HEADER : ∃ t, mg "HEADER" = some (.int 8 t)
  i_SIZE_MOST : ∃ t, mg "SIZE_MOST" = some (.int 20480 t)
  n_enumerate : mg "enumerate" = none
  g_EVENTS : mg "EVENTS" = some (.ref (He.ga K "EVENTS"))
  g_opcode_of : mg "opcode_of" = some (.ref (He.ga K "opcode_of"))
  n_zip : mg "zip" = none
  g_encode_message : mg "encode_message" = some (.ref (He.ga K "encode_message"))
  g_event_octets : mg "event_octets" = some (.ref (He.ga K "event_octets"))
  g__law_cell : mg "_law_cell" = some (.ref (He.ga K "_law_cell"))
  g_Reply : mg "Reply" = some (.ref (He.ga K "Reply"))
  g_Holdings : mg "Holdings" = some (.ref (He.ga K "Holdings"))
  n_min : mg "min" = none
  g__law_row : mg "_law_row" = some (.ref (He.ga K "_law_row"))
  g__law_hover : mg "_law_hover" = some (.ref (He.ga K "_law_hover"))
  g__law_leave : mg "_law_leave" = some (.ref (He.ga K "_law_leave"))
  g__law_move : mg "_law_move" = some (.ref (He.ga K "_law_move"))
end SW
namespace SW
open PySem L2
local macro_rules | `(tactic| walk_at "s") => `(tactic| with_reducible first
  | refine e_seq ?_ | refine e_asgN ?_ | refine e_var (by with_unfolding_all rfl) ?_ | refine e_c ?_ | refine e_op ?_ | refine e_fld ?_ | refine g_fld ?_ | refine e_if ?_ | refine e_test ?_ | refine g_bl ?_
  | refine e_cons ?_ | refine e_nil ?_ | refine e_call ?_ | refine e_meth ?_ | refine g_meth ?_ | refine e_make ?_ | refine e_drop ?_ | refine e_ret ?_ | refine e_retN ?_ | refine e_next ?_ | refine e_asg ?_
  | refine e_set ?_ | refine e_and ?_ | refine e_or ?_ | refine e_not ?_ | refine e_andV ?_ | refine e_orV ?_ | refine e_notV ?_ | refine e_ifE ?_ | refine e_yes ?_ | refine e_tru ?_ | refine g_tru_bl ?_ | refine g_tru_non ?_
  | refine e_un ?_ | refine e_chain ?_ | refine e_cb ?_ | refine e_tup ?_ | refine e_lst ?_ | refine e_bm ?_ | refine g_bmL ?_ | refine e_sub ?_ | refine e_gname ?_ | refine e_gnil ?_ | refine e_gcons ?_ | refine e_for ?_ | refine e_lc ?_
  | refine e_iseq ?_ | refine g_seqL ?_ | refine g_seqT ?_ | refine g_seqS ?_ | refine e_enum ?_ | refine g_enum ?_ | refine e_rng1 ?_ | refine e_rng2 ?_ | refine e_brk ?_ | refine e_cont ?_
  | refine g_add ?_ | refine g_sub ?_ | refine g_neg ?_ | refine g_lt ?_ | refine g_le ?_ | refine g_gt ?_ | refine g_ge ?_ | refine g_eqI ?_ | refine g_neI ?_ | refine g_eqS ?_ | refine g_neS ?_ | refine g_isN_non ?_ | refine g_notN_non ?_ | refine g_isN_ref ?_ | refine g_notN_ref ?_ | refine g_isN_int ?_ | refine g_notN_int ?_ | refine g_isN_str ?_ | refine g_notN_str ?_ | refine g_isN_bl ?_ | refine g_notN_bl ?_ | refine if_tt ?_ | refine if_ff ?_
  | refine g_lenL ?_ | refine g_lenT ?_ | refine g_lenO ?_ | refine g_int ?_ | refine g_intB ?_ | refine g_min2 ?_ | refine g_max2 ?_
  | refine g_ixLn (by decide) (by with_unfolding_all rfl) ?_ | refine g_ixTn (by decide) (by with_unfolding_all rfl) ?_ | refine g_gtup (by with_unfolding_all rfl) ?_ | refine g_glst (by with_unfolding_all rfl) ?_
  | refine ifT (by with_unfolding_all decide +kernel) ?_ | refine ifF (by with_unfolding_all decide +kernel) ?_
  | refine e_listzip ?_ | refine g_isiII ?_ | refine g_isiIB ?_ | refine g_isiSS ?_ | refine g_isiLL ?_ | refine g_ixK (by decide) (by with_unfolding_all rfl) ?_ | refine g_lenK ?_ | refine g_seqK ?_ | refine g_enumK ?_ | refine g_inS ?_ | refine g_ord ?_
  | refine e_par ?_ | refine g_par ?_ | refine e_aug (by with_unfolding_all rfl) ?_ | refine g_ipI ?_)
/-- all steps that ask nothing -/
local macro_rules | `(tactic| walk_at "go") => `(tactic| repeat walk_at "s")
/-- an arrangement of cells -/
local macro_rules | `(tactic| walk_at "prm") => `(tactic| (refine perm_count fun f => ?_; simp only [List.map_append, List.map_cons, List.map_nil, List.sum_append, List.sum_cons, List.sum_nil, List.cons_append, List.nil_append, List.append_assoc]; omega))
/-! ### octets, as plain lists -/
def numO (v : Int) : Nat → List Int
  | 0 => []
  | n + 1 => v % 256 :: numO (v / 256) n
def dvO (v : Int) : Nat → Int
  | 0 => v
  | n + 1 => dvO v n / 256
theorem dvO_in (v : Int) : ∀ n, dvO (v / 256) n = dvO v (n + 1)
  | 0 => rfl
  | n + 1 => by
    show dvO (v / 256) n / 256 = dvO v (n + 1) / 256
    rw [dvO_in v n]
theorem numO_snoc : ∀ (n : Nat) (v : Int), numO v (n + 1) = numO v n ++ [dvO v n % 256]
  | 0, v => rfl
  | n + 1, v => by
    show v % 256 :: numO (v / 256) (n + 1) = (v % 256 :: numO (v / 256) n) ++ [dvO v (n + 1) % 256]
    rw [numO_snoc n (v / 256), dvO_in]
    rfl
theorem numO_len : ∀ (n : Nat) (v : Int), (numO v n).length = n
  | 0, v => rfl
  | n + 1, v => by
    show (numO (v / 256) n).length + 1 = n + 1
    rw [numO_len n]
/-- the signs that a text may have -/
def signsL : List Nat := (" !\"#$&'()*+,-./0123456789:;<=>?@ABCDEFGHIJKLMNOPQRSTUVWXYZ[\\]^_`abcdefghijklmnopqrstuvwxyz{|}~" : Str).cps.toList
def padN (n : Nat) : Nat := ((4 - (n : Int) % 4) % 4).toNat
def zerosN (n : Nat) : List Int := List.replicate (padN n) 0
def txtO (z : Str) : List Int := numO ((z.length : Nat) + 1) 4 ++ z.cps.toList.map (fun c : Nat => (c : Int)) ++ [0] ++ zerosN (z.length + 1)
inductive AV where
  | int (n : Int) | str (z : Str) | oct (l : List Int)
def AVr (I : Hp) : AV → V → Prop
  | .int n, v => v = .int n
  | .str z, v => v = .str z
  | .oct l, v => ∃ a, v = .ref a ∧ Im I a (.lst (l.map V.int))
theorem AVr.mono {I I' : Hp} (s : Sub I I') : ∀ {x : AV} {v : V}, AVr I x v → AVr I' x v
  | .int _, _, h => h
  | .str _, _, h => h
  | .oct _, _, ⟨a, e, h⟩ => ⟨a, e, ⟨s.sub _ _ h.eq⟩⟩
def fits (kind : Str) : AV → Prop
  | .int n => (kind = "uint" ∧ 0 ≤ n ∧ n < 4294967296) ∨ (kind = "object" ∧ 0 < n ∧ n < 4294967296) ∨ (kind = "new" ∧ 0 < n ∧ n < 4294967296) ∨ (kind = "int" ∧ -2147483648 ≤ n ∧ n < 2147483648)
  | .str z => kind = "text" ∧ z.length ≤ 1000 ∧ ∀ c ∈ z.cps.toList, c ∈ signsL
  | .oct l => kind = "octets" ∧ l.length ≤ 16384 ∧ ∀ x ∈ l, 0 ≤ x ∧ x ≤ 255
def fldO (kind : Str) : AV → List Int
  | .int n => if kind = "int" ∧ n < 0 then numO (n + 4294967296) 4 else numO n 4
  | .str z => txtO z
  | .oct l => numO (l.length : Nat) 4 ++ l ++ zerosN l.length
def bodyO (ks : List Str) (vs : List AV) : List Int := (List.zipWith fldO ks vs).flatten
def encO (num op : Int) (ks : List Str) (vs : List AV) : List Int := numO num 4 ++ numO op 2 ++ numO ((bodyO ks vs).length + 8) 2 ++ bodyO ks vs
section
variable {K : PySem.W.Frag} [T : TxtK K] [TQ : TxtQ K] {w : World} {H : Hp} {Q : VK} {E : XK} {I : Hp} {M : Cs} {a : Addr} {z : Str} {l : List Int}
theorem cdivB {i j : Int} (h0 : 0 < j) (h : j < 1000000) : CDivW i j := wide_div (b := 20) h0 (by omega) (by decide) (by decide)
theorem number_octets_spec {v c : Int} {n : Nat} [o : Own I M H] (hc : c = (n : Int)) (hn : n ≤ 4) (q : ∀ (a : Addr) (I' H' : Hp), Sub1 I I' → Im I' a (.lst ((numO v n).map V.int)) → Own I' M H' → Q (.ref a) H') : p_number_octets K w [.int v, .int c] H Q E := by
  refine i_number_octets ?_
  walk_at "go"
  refine g_lstM (sz 0) fun a H1 o1 => ?_
  walk_at "go"
  refine g_rng1 (by omega) (by omega) ?_
  walk_at "go"
  refine for_r (fun i σ H' => ∃ v3, σ = [some (.int (dvO v i)), some (.int c), some (.ref a), v3] ∧ Own I ((a, .lst ((numO v i).map V.int)) :: M) H') ⟨_, rfl, o1⟩ ?_ ?_
  · rintro i σ H2 hi ⟨v3, rfl, o2⟩
    walk_at "go"
    refine g_mod (by decide) ?_
    walk_at "go"
    refine g_append (szl _ (by rw [List.length_map, numO_len]; omega)) fun H3 o3 => ?_
    walk_at "go"
    refine g_div (cdivB (by omega) (by omega)) ?_
    refine ⟨_, rfl, ?_⟩
    rw [numO_snoc, List.map_append]
    exact o3
  · rintro σ H2 ⟨v3, rfl, o2⟩
    have e : c.toNat = n := by omega
    rw [e] at o2
    have s := o2.frzSub
    have o3 := o2.freeze
    walk_at "go"
    exact q a _ H2 s Im.new o3
theorem is_integer_spec {n : Int} (q : Q (.bl true) H) : p_is_integer K w [.int n] H Q E := by
  refine i_is_integer ?_
  walk_at "go"
  exact q
theorem is_number_spec {n : Int} (h0 : 0 ≤ n) (h1 : n < 4294967296) (q : Q (.bl true) H) : p_is_number K w [.int n] H Q E := by
  refine i_is_number ?_
  walk_at "go"
  refine is_integer_spec ?_
  walk_at "go"
  rw [decide_eq_true h0]
  walk_at "go"
  rw [decide_eq_true h1]
  walk_at "go"
  exact q
theorem padding_spec {n : Int} (q : Q (.int ((4 - n % 4) % 4)) H) : p_padding K w [.int n] H Q E := by
  refine i_padding ?_
  walk_at "go"
  refine g_mod (by decide) ?_
  walk_at "go"
  refine g_mod (by decide) ?_
  exact q
theorem sign_code_spec {c : Nat} (q : Q (.int (c : Nat)) H) : p_sign_code K w [.str ⟨#[c]⟩] H Q E := by
  refine i_sign_code ?_
  walk_at "go"
  exact q
theorem is_text_spec [o : Own I M H] (hl : z.length ≤ 1000) (hs : ∀ c ∈ z.cps.toList, c ∈ signsL) (q : ∀ I' H', Sub1 I I' → Own I' M H' → Q (.bl true) H') : p_is_text K w [.str z] H Q E := by
  refine i_is_text ?_
  walk_at "go"
  refine g_lenS (sz _) ?_
  walk_at "go"
  rw [decide_eq_true (by omega)]
  walk_at "go"
  refine lc_s (fun i I' acc => acc = (List.replicate i true).map V.bl) rfl ?_ ?_
  · rintro i c p I' acc H' hc s hle rfl o1
    walk_at "go"
    refine ⟨rfl, ?_⟩
    walk_at "go"
    have : c ∈ signsL := hs c (by rw [Array.mem_toList_iff]; exact Array.mem_of_getElem? hc)
    refine g_app s.any hle (szl _ (by
      have := (Array.getElem?_eq_some_iff.mp hc).1
      have e : z.cps.size = z.length := rfl
      omega)) ?_
    have e2 : decide (c ∈ signsL) = true := decide_eq_true this
    unfold signsL at e2
    rw [e2, List.replicate_succ', List.map_append]
    rfl
  · rintro p I' acc H' s hle rfl o1
    walk_at "go"
    refine g_all ?_
    rw [show (List.replicate z.cps.size true).all id = true by simp]
    have o2 := o1.freeze
    exact q _ H' (Sub.one (s.any.trans o1.frzSub.any)) o2
theorem are_octets_spec [o : Own I M H] [i : Im I a (.lst (l.map V.int))] (hl : l.length ≤ 16384) (hs : ∀ x ∈ l, 0 ≤ x ∧ x ≤ 255) (q : ∀ I' H', Sub1 I I' → Own I' M H' → Q (.bl true) H') : p_are_octets K w [.ref a] H Q E := by
  refine i_are_octets ?_
  walk_at "go"
  rw [List.length_map, decide_eq_false (by omega)]
  walk_at "go"
  refine lc_l (xs := l.map V.int) (fun p I' acc H' s o => o.im _ _ (s.sub _ _ i.eq)) (fun i I' acc => acc = (List.replicate i true).map V.bl) rfl ?_ ?_
  · rintro i x p I' acc H' hx s hle rfl o1
    rw [List.getElem?_map] at hx
    obtain ⟨n, hn, rfl⟩ := Option.map_eq_some_iff.mp hx
    have hb := hs n (List.mem_of_getElem? hn)
    walk_at "go"
    refine ⟨rfl, ?_⟩
    walk_at "go"
    refine is_integer_spec ?_
    walk_at "go"
    rw [decide_eq_true hb.1]
    walk_at "go"
    rw [decide_eq_true hb.2]
    walk_at "go"
    refine g_app s.any hle (szl _ (by
      have := (List.getElem?_eq_some_iff.mp hn).1
      omega)) ?_
    rw [List.replicate_succ', List.map_append]
    rfl
  · rintro p I' acc H' s hle rfl o1
    walk_at "go"
    refine g_all ?_
    rw [show (List.replicate (l.map V.int).length true).all id = true by simp]
    have o2 := o1.freeze
    exact q _ H' (Sub.one (s.any.trans o1.frzSub.any)) o2
theorem text_octets_spec [o : Own I M H] (hl : z.length ≤ 1000) (q : ∀ (a : Addr) (I' H' : Hp), Sub1 I I' → Im I' a (.lst ((txtO z).map V.int)) → Own I' M H' → Q (.ref a) H') : p_text_octets K w [.str z] H Q E := by
  refine i_text_octets ?_
  walk_at "go"
  refine g_lenS (sz _) ?_
  walk_at "go"
  refine number_octets_spec (n := 4) rfl (by omega) fun a1 I1 H1 s1 i1 o1 => ?_
  walk_at "go"
  refine lc_s (fun i I' acc => acc = ((z.cps.toList.take i).map (fun c : Nat => (c : Int))).map V.int) rfl ?_ ?_
  · rintro i c p I' acc H' hc s hle rfl o2
    walk_at "go"
    refine ⟨rfl, ?_⟩
    walk_at "go"
    refine sign_code_spec ?_
    have hi := (Array.getElem?_eq_some_iff.mp hc).1
    have e : z.cps.size = z.length := rfl
    refine g_app s.any hle (szl _ (by omega)) ?_
    have hc2 : z.cps.toList[i]? = some c := by rw [Array.getElem?_toList]; exact hc
    rw [List.take_add_one, hc2]
    simp
  · rintro p I2 acc H2 s2 hle rfl o2
    have ez : z.cps.toList.take z.cps.size = z.cps.toList := by rw [← Array.length_toList, List.take_length]
    rw [ez] at o2 hle
    have hl2 : z.cps.toList.length ≤ 1000 := by rw [Array.length_toList]; exact hl
    have hl3 : z.cps.size ≤ 1000 := hl
    walk_at "go"
    refine g_catI (sz _ (by simp [numO_len]; omega)) fun a3 I3 H3 s3 i3 o3 => ?_
    walk_at "go"
    refine g_lstI (sz 1) fun a4 I4 H4 s4 i4 o4 => ?_
    refine g_catI (sz _ (by simp [numO_len]; omega)) fun a5 I5 H5 s5 i5 o5 => ?_
    walk_at "go"
    refine g_lstI (sz 1) fun a6 I6 H6 s6 i6 o6 => ?_
    walk_at "go"
    refine g_lenS (sz _) ?_
    walk_at "go"
    refine padding_spec ?_
    have p0 := Int.emod_nonneg (4 - ((z.length : Int) + 1) % 4) (show (4 : Int) ≠ 0 by decide)
    have p1 := Int.emod_lt_of_pos (4 - ((z.length : Int) + 1) % 4) (show (0 : Int) < 4 by decide)
    refine g_repI p0 (by omega) (sz _ (by simp; omega)) fun a7 I7 H7 s7 i7 o7 => ?_
    refine g_catI (sz _ (by simp [numO_len]; omega)) fun a8 I8 H8 s8 i8 o8 => ?_
    have o9 := o8.drop (A := [(p, _)])
    refine q a8 I8 H8 (Sub.one inferInstance) ?_ o9
    have e : (txtO z).map V.int = ((numO ((z.length : Int) + 1) 4).map V.int ++ (z.cps.toList.map (fun c : Nat => (c : Int))).map V.int ++ [V.int 0]) ++ (List.replicate ((4 - ((z.length : Int) + 1) % 4) % 4).toNat [V.int 0]).flatten := by
      unfold txtO zerosN padN
      rw [List.map_append, List.map_append, List.map_append]
      have e2 : ∀ n, (List.replicate n (0 : Int)).map V.int = (List.replicate n [V.int 0]).flatten := fun n => by
        induction n with
        | zero => rfl
        | succ n ih => rw [List.replicate_succ, List.replicate_succ, List.map_cons, ih]; rfl
      rw [e2]
      rfl
    rw [e]
    exact i8
end
section
variable {K : PySem.W.Frag} [T : TxtK K] [TQ : TxtQ K] {w : World} {H : Hp} {Q : VK} {E : XK} {I : Hp} {M : Cs} {a : Addr}
theorem fits_kind_spec {kind : Str} {x : AV} {v : V} [o : Own I M H] (f : fits kind x) (r : AVr I x v) (q : ∀ I' H', Sub1 I I' → Own I' M H' → Q (.bl true) H') : p_fits_kind K w [.str kind, v] H Q E := by
  have q0 := q I H ⟨fun _ _ h => h⟩ o
  refine i_fits_kind ?_
  cases x with
  | int n =>
    cases r
    rcases f with ⟨rfl, h0, h1⟩ | ⟨rfl, h0, h1⟩ | ⟨rfl, h0, h1⟩ | ⟨rfl, h0, h1⟩
    · walk_at "go"
      refine is_number_spec h0 h1 ?_
      exact q0
    · walk_at "go"
      refine is_number_spec (by omega) h1 ?_
      walk_at "go"
      rw [decide_eq_true h0]
      exact q0
    · walk_at "go"
      refine is_number_spec (by omega) h1 ?_
      walk_at "go"
      rw [decide_eq_true h0]
      exact q0
    · walk_at "go"
      refine is_integer_spec ?_
      walk_at "go"
      refine g_div (cdivB (by omega) (by omega)) ?_
      walk_at "go"
      rw [show ((-4294967296 : Int) / 2) = -2147483648 by decide, decide_eq_true h0]
      walk_at "go"
      refine g_div (cdivB (by omega) (by omega)) ?_
      walk_at "go"
      rw [show ((4294967296 : Int) / 2) = 2147483648 by decide, decide_eq_true h1]
      exact q0
  | str z =>
    cases r
    obtain ⟨rfl, h0, h1⟩ := f
    walk_at "go"
    refine is_text_spec h0 h1 ?_
    exact q
  | oct l =>
    obtain ⟨b, rfl, i⟩ := r
    obtain ⟨rfl, h0, h1⟩ := f
    walk_at "go"
    refine are_octets_spec (l := l) h0 h1 ?_
    exact q
theorem field_octets_spec {kind : Str} {x : AV} {v : V} [o : Own I M H] (f : fits kind x) (r : AVr I x v) (q : ∀ (a : Addr) (I' H' : Hp), Sub1 I I' → Im I' a (.lst ((fldO kind x).map V.int)) → Own I' M H' → Q (.ref a) H') : p_field_octets K w [.str kind, v] H Q E := by
  refine i_field_octets ?_
  have hk : kind = "uint" ∨ kind = "object" ∨ kind = "new" ∨ kind = "int" ∨ kind = "text" ∨ kind = "octets" := by
    cases x with
    | int n => rcases f with ⟨h, _⟩ | ⟨h, _⟩ | ⟨h, _⟩ | ⟨h, _⟩ <;> simp [h]
    | str z => simp [f.1]
    | oct l => simp [f.1]
  walk_at "go"
  refine g_ninK rfl (by decide +kernel) ?_
  have hin : ∀ k : Str, k = "uint" ∨ k = "object" ∨ k = "new" ∨ k = "int" ∨ k = "text" ∨ k = "octets" → inV (.str k) ([.str "uint", .str "int", .str "text", .str "octets", .str "object", .str "maybe", .str "new", .str "bound"] : List V) = true := by
    rintro k (rfl | rfl | rfl | rfl | rfl | rfl) <;> decide +kernel
  rw [hin kind hk]
  walk_at "go"
  refine fits_kind_spec f r fun I1 H1 s1 o1 => ?_
  walk_at "go"
  cases x with
  | int n =>
    cases r
    rcases f with ⟨rfl, h0, h1⟩ | ⟨rfl, h0, h1⟩ | ⟨rfl, h0, h1⟩ | ⟨rfl, h0, h1⟩
    · walk_at "go"
      refine number_octets_spec (n := 4) rfl (by omega) fun a I2 H2 s2 i2 o2 => q a I2 H2 (Sub.one inferInstance) ?_ o2
      show Im I2 a (.lst ((if (("uint" : Str) = "int" ∧ n < 0) then numO (n + 4294967296) 4 else numO n 4).map V.int))
      rw [if_neg (fun h => by have := h.1; revert this; decide +kernel)]
      exact i2
    · walk_at "go"
      refine number_octets_spec (n := 4) rfl (by omega) fun a I2 H2 s2 i2 o2 => q a I2 H2 (Sub.one inferInstance) ?_ o2
      show Im I2 a (.lst ((if (("object" : Str) = "int" ∧ n < 0) then numO (n + 4294967296) 4 else numO n 4).map V.int))
      rw [if_neg (fun h => by have := h.1; revert this; decide +kernel)]
      exact i2
    · walk_at "go"
      refine number_octets_spec (n := 4) rfl (by omega) fun a I2 H2 s2 i2 o2 => q a I2 H2 (Sub.one inferInstance) ?_ o2
      show Im I2 a (.lst ((if (("new" : Str) = "int" ∧ n < 0) then numO (n + 4294967296) 4 else numO n 4).map V.int))
      rw [if_neg (fun h => by have := h.1; revert this; decide +kernel)]
      exact i2
    · walk_at "go"
      refine if_dec (fun e => ?_) (fun e => ?_)
      · walk_at "go"
        refine number_octets_spec (n := 4) rfl (by omega) fun a I2 H2 s2 i2 o2 => q a I2 H2 (Sub.one inferInstance) ?_ o2
        show Im I2 a (.lst ((if (("int" : Str) = "int" ∧ n < 0) then numO (n + 4294967296) 4 else numO n 4).map V.int))
        rw [if_pos ⟨rfl, e⟩]
        exact i2
      · walk_at "go"
        refine number_octets_spec (n := 4) rfl (by omega) fun a I2 H2 s2 i2 o2 => q a I2 H2 (Sub.one inferInstance) ?_ o2
        show Im I2 a (.lst ((if (("int" : Str) = "int" ∧ n < 0) then numO (n + 4294967296) 4 else numO n 4).map V.int))
        rw [if_neg (fun h => e h.2)]
        exact i2
  | str z =>
    cases r
    obtain ⟨rfl, h0, h1⟩ := f
    walk_at "go"
    refine text_octets_spec h0 fun a I2 H2 s2 i2 o2 => q a I2 H2 (Sub.one inferInstance) i2 o2
  | oct l =>
    obtain ⟨b, rfl, i⟩ := r
    obtain ⟨rfl, h0, h1⟩ := f
    walk_at "go"
    refine number_octets_spec (n := 4) rfl (by omega) fun a2 I2 H2 s2 i2 o2 => ?_
    walk_at "go"
    refine g_catI (xs := (numO ((l.map V.int).length : Nat) 4).map V.int) (sz _ (by simp [numO_len]; omega)) fun a3 I3 H3 s3 i3 o3 => ?_
    walk_at "go"
    refine g_lstI (sz 1) fun a4 I4 H4 s4 i4 o4 => ?_
    walk_at "go"
    refine padding_spec ?_
    rw [List.length_map] at i3 ⊢
    have p0 := Int.emod_nonneg (4 - (l.length : Int) % 4) (show (4 : Int) ≠ 0 by decide)
    have p1 := Int.emod_lt_of_pos (4 - (l.length : Int) % 4) (show (0 : Int) < 4 by decide)
    refine g_repI p0 (by omega) (sz _ (by simp; omega)) fun a7 I7 H7 s7 i7 o7 => ?_
    refine g_catI (sz _ (by simp [numO_len]; omega)) fun a8 I8 H8 s8 i8 o8 => ?_
    refine q a8 I8 H8 (Sub.one inferInstance) ?_ o8
    have e : (fldO "octets" (.oct l)).map V.int = ((numO (l.length : Nat) 4).map V.int ++ l.map V.int) ++ (List.replicate ((4 - (l.length : Int) % 4) % 4).toNat [V.int 0]).flatten := by
      show (numO (l.length : Nat) 4 ++ l ++ zerosN l.length).map V.int = _
      unfold zerosN padN
      rw [List.map_append, List.map_append]
      have e2 : ∀ n, (List.replicate n (0 : Int)).map V.int = (List.replicate n [V.int 0]).flatten := fun n => by
        induction n with
        | zero => rfl
        | succ n ih => rw [List.replicate_succ, List.replicate_succ, List.map_cons, ih]; rfl
      rw [e2]
    rw [e]
    exact i8
theorem flat_take {X : Type} (fs : List (List X)) (i : Nat) : ((fs.take i).flatten).length ≤ fs.flatten.length := by
  conv => rhs; rw [← List.take_append_drop i fs, List.flatten_append, List.length_append]
  omega
theorem encode_message_spec {num op : Int} {ts : List Addr} {ks : List Str} {xs : List AV} {vs : List V} [o : Own I M H] [ia : Im I a (.lst (ts.map V.ref))] (hp : Paired (fun (t : Addr) (x : V × V) => Im I t (.tup [x.1, x.2])) ts ((ks.map V.str).zip vs))
    (hr : Paired (AVr I) xs vs) (hf : Paired fits ks xs) (h0 : 0 < num) (h1 : num < 4294967296) (h2 : 0 ≤ op) (h3 : op ≤ 65535) (h4 : ks.length ≤ 20) (h5 : (bodyO ks xs).length + 8 ≤ 20480)
    (q : ∀ (a : Addr) (I' H' : Hp), Sub1 I I' → Im I' a (.lst ((encO num op ks xs).map V.int)) → Own I' M H' → Q (.ref a) H') : p_encode_message K w [.int num, .int op, .ref a] H Q E := by
  have l1 : ks.length = xs.length := Paired.length hf
  have l2 : xs.length = vs.length := Paired.length hr
  have l3 : ts.length = ks.length := by rw [Paired.length hp, List.length_zip, List.length_map]; omega
  refine i_encode_message ?_
  walk_at "go"
  refine is_number_spec (by omega) h1 ?_
  walk_at "go"
  rw [decide_eq_false (show ¬ num = 0 by omega)]
  walk_at "go"
  refine is_number_spec h2 (by omega) ?_
  walk_at "go"
  rw [decide_eq_false (show ¬ (65535 : Int) < op by omega)]
  walk_at "go"
  rw [decide_eq_false (show ¬ (20 : Int) < ((ts.map V.ref).length : Nat) by rw [List.length_map]; omega)]
  walk_at "go"
  refine g_lstM (sz 0) fun b H1 o1 => ?_
  walk_at "go"
  unfold bodyO at h5
  refine for_l (xs := ts.map V.ref) (fun i σ H' => ∃ I' v4 v5, σ = [some (.int num), some (.int op), some (.ref a), some (.ref b), v4, v5] ∧ Sub1 I I' ∧ Own I' ((b, .lst ((((List.zipWith fldO ks xs).take i).flatten).map V.int)) :: M) H') ⟨I, _, _, rfl, ⟨fun _ _ h => h⟩, o1⟩ (fun i σ H' hi h => ?_) ?_ ?_
  · obtain ⟨I', _, _, _, s, o⟩ := h
    exact o.im _ _ (s.sub _ _ ia.eq)
  · rintro i x σ H2 hx ⟨I2, v4, v5, rfl, s2, o2⟩
    rw [List.getElem?_map] at hx
    obtain ⟨t, ht, rfl⟩ := Option.map_eq_some_iff.mp hx
    obtain ⟨⟨y1, y2⟩, hy, iy⟩ := Paired.get hp ht
    rw [List.getElem?_zip_eq_some] at hy
    obtain ⟨hy1, hy2⟩ := hy
    rw [List.getElem?_map] at hy1
    obtain ⟨k, hk, rfl⟩ := Option.map_eq_some_iff.mp hy1
    obtain ⟨x, hx2, fx⟩ := Paired.get hf hk
    obtain ⟨y2', hy2', rx⟩ := Paired.get hr hx2
    have ey : y2 = y2' := by
      simp only at hy2
      rw [hy2] at hy2'
      exact Option.some.inj hy2'
    subst ey
    haveI : Im I t (.tup [V.str k, y2]) := iy
    walk_at "go"
    refine field_octets_spec fx (rx.mono s2.any) fun c I3 H3 s3 i3 o3 => ?_
    walk_at "go"
    have ez : (List.zipWith fldO ks xs)[i]? = some (fldO k x) := by
      rw [List.getElem?_zipWith, hk, hx2]
    have e3 : ((List.zipWith fldO ks xs).take (i + 1)).flatten = ((List.zipWith fldO ks xs).take i).flatten ++ fldO k x := by
      rw [List.take_add_one, ez, List.flatten_append]
      simp
    have hle := flat_take (List.zipWith fldO ks xs) (i + 1)
    rw [e3, List.length_append] at hle
    refine g_extend (sz _ (by rw [List.length_map, List.length_map]; omega)) fun H4 o4 => ?_
    walk_at "go"
    refine ⟨I3, _, _, rfl, Sub.one inferInstance, ?_⟩
    rw [e3, List.map_append]
    exact o4
  · rintro σ H2 ⟨I2, v4, v5, rfl, s2, o2⟩
    have et : (List.zipWith fldO ks xs).take (ts.map V.ref).length = List.zipWith fldO ks xs := by
      apply List.take_of_length_le
      rw [List.length_zipWith, List.length_map]
      omega
    rw [et] at o2
    have s3 := o2.frzSub
    have i3 : Im (upd I2 b (.lst ((List.zipWith fldO ks xs).flatten.map V.int))) b _ := Im.new
    have o3 := o2.freeze
    clear o2
    generalize upd I2 b (.lst ((List.zipWith fldO ks xs).flatten.map V.int)) = I3 at *
    walk_at "go"
    rw [decide_eq_false (show ¬ (20480 : Int) < (((List.zipWith fldO ks xs).flatten.map V.int).length : Nat) + 8 by rw [List.length_map]; omega)]
    walk_at "go"
    refine number_octets_spec (n := 4) rfl (by omega) fun a4 I4 H4 s4 i4 o4 => ?_
    walk_at "go"
    refine number_octets_spec (n := 2) rfl (by omega) fun a5 I5 H5 s5 i5 o5 => ?_
    refine g_catI (sz _ (by simp [numO_len])) fun a6 I6 H6 s6 i6 o6 => ?_
    walk_at "go"
    refine number_octets_spec (n := 2) rfl (by omega) fun a7 I7 H7 s7 i7 o7 => ?_
    refine g_catI (sz _ (by simp [numO_len])) fun a8 I8 H8 s8 i8 o8 => ?_
    walk_at "go"
    refine g_catI (sz _ (by rw [List.length_append, List.length_append, List.length_map, List.length_map, List.length_map, List.length_map, numO_len, numO_len, numO_len]; omega)) fun a9 I9 H9 s9 i9 o9 => ?_
    refine q a9 I9 H9 (Sub.one (s2.any.trans (s3.any.trans inferInstance))) ?_ o9
    unfold encO bodyO
    rw [List.map_append, List.map_append, List.map_append]
    rw [List.length_map] at i9
    exact i9
theorem opcode_of_spec {k name : Str} {rows : List (Str × List Str)} {ks : List Str} {j : Nat} [o : Own I M H] (ev : EvRow K w "EVENTS" k rows) (hj : rows[j]? = some (name, ks)) (hb : ∀ i, i < j → ∀ r, rows[i]? = some r → r.1 ≠ name)
    (q : ∀ I' H', Sub1 I I' → Own I' M H' → Q (.int (j : Nat)) H') : p_opcode_of K w [.ref (evA K "EVENTS" k), .str name] H Q E := by
  have hjl := (List.getElem?_eq_some_iff.mp hj).1
  haveI kt : KT K (evA K "EVENTS" k) ((List.range rows.length).map fun i => V.ref (itA K (evA K "EVENTS" k) i)) := ⟨ev.t⟩
  refine i_opcode_of ?_
  walk_at "go"
  refine for_eK (xs := (List.range rows.length).map fun i => V.ref (itA K (evA K "EVENTS" k) i)) (fun i σ H' => i ≤ j ∧ ∃ I' v2 v3, σ = [some (.ref (evA K "EVENTS" k)), some (.str name), v2, v3] ∧ Sub1 I I' ∧ Own I' M H') ⟨Nat.zero_le _, I, _, _, rfl, ⟨fun _ _ h => h⟩, o⟩ ?_ ?_
  · rintro i x t σ H2 hx ⟨hij, I2, v2, v3, rfl, s2, o2⟩ ht
    have hil : i < rows.length := by omega
    rw [List.getElem?_map, List.getElem?_range hil] at hx
    cases hx
    have s3 : Sub1 I2 (upd I2 t (.tup [.int (i : Nat), V.ref (itA K (evA K "EVENTS" k) i)])) := Sub1.new (o2.notI ht)
    have i3 : Im (upd I2 t (.tup [.int (i : Nat), V.ref (itA K (evA K "EVENTS" k) i)])) t _ := Im.new
    have o3 := o2.newI (o := .tup [.int (i : Nat), V.ref (itA K (evA K "EVENTS" k) i)]) ht
    obtain ⟨nm, ks2⟩ : Str × List Str := rows[i]
    have hr : rows[i]? = some rows[i] := List.getElem?_eq_getElem hil
    have h1 := ev.r i rows[i].1 rows[i].2 (by rw [hr])
    haveI : KT K (itA K (evA K "EVENTS" k) i) [.str rows[i].1, .ref (itA K (itA K (evA K "EVENTS" k) i) 1)] := ⟨h1.1⟩
    walk_at "go"
    refine if_dec (fun e => ?_) (fun e => ?_)
    · have : i = j := by
        rcases Nat.lt_or_ge i j with h | h
        · exact absurd e (hb i h _ hr)
        · omega
      subst this
      walk_at "go"
      exact q _ _ (Sub.one (s2.any.trans s3.any)) o3
    · walk_at "go"
      refine ⟨?_, _, _, _, rfl, Sub.one (s2.any.trans s3.any), o3⟩
      rcases Nat.lt_or_ge i j with h | h
      · exact h
      · have : i = j := by omega
        subst this
        rw [hr] at hj
        exact absurd (by rw [Option.some.inj hj]) e
  · rintro σ H2 ⟨hij, _⟩
    rw [List.length_map, List.length_range] at hij
    omega
theorem event_octets_spec {num : Int} {k name : Str} {rows : List (Str × List Str)} {ks : List Str} {xs : List AV} {vs : List V} (j : Nat) [o : Own I M H] [ev : EV K w k rows] [ia : Im I a (.lst vs)] (hj : rows[j]? = some (name, ks)) (hb : ∀ i, i < j → ∀ r, rows[i]? = some r → r.1 ≠ name)
    (hr : Paired (AVr I) xs vs) (hf : Paired fits ks xs) (h0 : 0 < num) (h1 : num < 4294967296) (h3 : j ≤ 65535) (h4 : ks.length ≤ 20) (h5 : (bodyO ks xs).length + 8 ≤ 20480)
    (q : ∀ (a : Addr) (I' H' : Hp), Sub1 I I' → Im I' a (.lst ((encO num (j : Nat) ks xs).map V.int)) → Own I' M H' → Q (.ref a) H') : p_event_octets K w [.int num, .str k, .str name, .ref a] H Q E := by
  have hjl := (List.getElem?_eq_some_iff.mp hj).1
  haveI kt : KT K (evA K "EVENTS" k) ((List.range rows.length).map fun i => V.ref (itA K (evA K "EVENTS" k) i)) := ⟨ev.ev.t⟩
  have hr2 := ev.ev.r j name ks hj
  haveI : KT K (itA K (evA K "EVENTS" k) j) [.str name, .ref (itA K (itA K (evA K "EVENTS" k) j) 1)] := ⟨hr2.1⟩
  haveI : KT K (itA K (itA K (evA K "EVENTS" k) j) 1) (ks.map V.str) := ⟨hr2.2⟩
  refine i_event_octets ?_
  walk_at "go"
  refine g_ixD ev.ev.d ?_
  walk_at "go"
  refine opcode_of_spec ev.ev hj hb fun I1 H1 s1 o1 => ?_
  walk_at "go"
  refine g_ixD ev.ev.d ?_
  walk_at "go"
  refine g_ixK (v := V.ref (itA K (evA K "EVENTS" k) j)) (by omega) (by rw [Int.toNat_natCast, List.getElem?_map, List.getElem?_range hjl]; rfl) ?_
  walk_at "go"
  have l1 : ks.length = xs.length := Paired.length hf
  have l2 : xs.length = vs.length := Paired.length hr
  refine g_listzip (by rw [List.length_map]; omega) fun p ts I2 H2 s2 i2 hp o2 => ?_
  walk_at "go"
  refine encode_message_spec hp (Paired.mp (fun _ _ h => h.mono inferInstance) hr) hf h0 h1 (by omega) (by omega) h4 h5 fun b I3 H3 s3 i3 o3 => ?_
  exact q b I3 H3 (Sub.one inferInstance) i3 o3
end
section
variable {K : PySem.W.Frag} [T : TxtK K] {w : World} {H : Hp} {Q : VK} {E : XK} {I : Hp} {M F : Cs} {x dx : Addr}
abbrev cReply (K : PySem.W.Frag) : Addr := He.ga K "Reply"
abbrev cHoldings (K : PySem.W.Frag) : Addr := He.ga K "Holdings"
theorem Reply_init_spec [o : Own I ((x, .ins (cReply K) dx f_Reply_0) :: M) H]
    (q : ∀ (t e wi a : Addr) (H' : Hp), Own I ((a, .lst []) :: (wi, .lst []) :: (e, .lst []) :: (t, .lst []) :: (x, .ins (cReply K) dx (f_Reply (.ref t) (.ref e) (.ref wi) (.ref a))) :: M) H' → Q .non H') : p_Reply___init__ K w [.ref x] H Q E := by
  refine i_Reply___init__ ?_
  walk_at "go"
  refine g_lstM (sz 0) fun t H1 o1 => ?_
  walk_at "go"
  refine g_set fun H2 o2 => ?_
  walk_at "go"
  refine g_lstM (sz 0) fun e H3 o3 => ?_
  walk_at "go"
  refine g_set fun H4 o4 => ?_
  walk_at "go"
  refine g_lstM (sz 0) fun wi H5 o5 => ?_
  walk_at "go"
  refine g_set fun H6 o6 => ?_
  walk_at "go"
  refine g_lstM (sz 0) fun a H7 o7 => ?_
  walk_at "go"
  refine g_set fun H8 o8 => ?_
  walk_at "go"
  exact q t e wi a H8 o8
/-- where things stand -/
structure HA where
  h : Addr
  dx : Addr
  pa : Addr
  so : Addr
  of : Addr
  ca : Addr
  fe : Addr
  wa : Addr
  na : Addr
  hv : Bool
abbrev HA.obj (K : PySem.W.Frag) (p : HA) : HO := .ins (cHoldings K) p.dx (f_Holdings (.ref p.pa) (.ref p.so) (.ref p.of) (.ref p.ca) (.ref p.fe) (.ref p.wa) (.ref p.na) (.bl p.hv))
theorem Holdings_init_spec [o : Own I ((x, .ins (cHoldings K) dx f_Holdings_0) :: M) H]
    (q : ∀ (pa so of ca fe wa na : Addr) (H' : Hp), Own I ((na, .lst []) :: (wa, .lst []) :: (fe, .lst []) :: (ca, .lst []) :: (of, .lst []) :: (so, .lst []) :: (pa, .lst []) :: (x, .ins (cHoldings K) dx (f_Holdings (.ref pa) (.ref so) (.ref of) (.ref ca) (.ref fe) (.ref wa) (.ref na) (.bl false))) :: M) H' → Q .non H') : p_Holdings___init__ K w [.ref x] H Q E := by
  refine i_Holdings___init__ ?_
  walk_at "go"
  refine g_lstM (sz 0) fun b1 H1 o1 => ?_
  walk_at "go"
  refine g_set fun H2 o2 => ?_
  walk_at "go"
  refine g_lstM (sz 0) fun b2 H3 o3 => ?_
  walk_at "go"
  refine g_set fun H4 o4 => ?_
  walk_at "go"
  refine g_lstM (sz 0) fun b3 H5 o5 => ?_
  walk_at "go"
  refine g_set fun H6 o6 => ?_
  walk_at "go"
  refine g_lstM (sz 0) fun b4 H7 o7 => ?_
  walk_at "go"
  refine g_set fun H8 o8 => ?_
  walk_at "go"
  refine g_lstM (sz 0) fun b5 H9 o9 => ?_
  walk_at "go"
  refine g_set fun H10 o10 => ?_
  walk_at "go"
  refine g_lstM (sz 0) fun b6 H11 o11 => ?_
  walk_at "go"
  refine g_set fun H12 o12 => ?_
  walk_at "go"
  refine g_lstM (sz 0) fun b7 H13 o13 => ?_
  walk_at "go"
  refine g_set fun H14 o14 => ?_
  walk_at "go"
  refine g_set fun H15 o15 => ?_
  walk_at "go"
  exact q b1 b2 b3 b4 b5 b6 b7 H15 o15
end
section
variable {K : PySem.W.Frag} [T : TxtK K] {w : World} {H : Hp} {Q : VK} {E : XK} {I : Hp} {M F : Cs}
theorem cdw (j : Int) (h0 : 0 < j) (h : j < 1000000) : CDivW 0 j → CDivW 0 j := id
theorem cdivw {i j : Int} (h0 : 0 < j) (h : j < 1000000) : CDivW i j := wide_div (b := 20) h0 (by omega) (by decide) (by decide)
/-! ### the law's reading of cells -/
theorem law_cell_spec {a : Addr} {ns : List Int} {k : Int} [o : Own I M H] [c : ImQ K I a (ns.map V.int)] (q : ∀ r : Int, Q (.int r) H) : p__law_cell K w [.ref a, .int k] H Q E := by
  refine i__law_cell ?_
  walk_at "go"
  refine if_dec (fun e => ?_) (fun e => ?_)
  · walk_at "go"
    refine g_mod e ?_
    have h0 := Int.emod_nonneg k (show (((ns.map V.int).length : Nat) : Int) ≠ 0 by omega)
    have h1 := Int.emod_lt_of_pos k e
    generalize k % (((ns.map V.int).length : Nat) : Int) = j at *
    have hj : j.toNat < ns.length := by rw [List.length_map] at h1; omega
    refine g_ixO (v := V.int ns[j.toNat]) h0 (by rw [List.getElem?_map, List.getElem?_eq_getElem hj]; rfl) ?_
    walk_at "go"
    refine if_dec (fun e => ?_) (fun e => ?_)
    · walk_at "go"
      refine g_mul (.inl ⟨by omega, by omega⟩) ?_
      walk_at "go"
      exact q _
    · walk_at "go"
      exact q _
  · walk_at "go"
    exact q _
theorem law_row_spec {a : Addr} {ns : List Int} {k : Int} [o : Own I M H] [c : ImQ K I a (ns.map V.int)] (q : ∀ r : Int, Q (.int r) H) : p__law_row K w [.ref a, .int k] H Q E := by
  refine i__law_row ?_
  walk_at "go"
  refine law_cell_spec fun cell => ?_
  dsimp only
  with_reducible refine seq_fin ?_ fun fin => ?_
  · walk_at "go"
    refine g_mul (.inr ⟨by omega, by omega⟩) ?_
    walk_at "go"
    refine g_mul (.inr ⟨by omega, by omega⟩) ?_
    walk_at "go"
    refine g_mod (by decide) ?_
    walk_at "go"
    have h1 := Int.emod_nonneg (cell * 48271 + k * 69621 + 12345) (show (2147483647 : Int) ≠ 0 by decide)
    have h2 := Int.emod_lt_of_pos (cell * 48271 + k * 69621 + 12345) (show (0 : Int) < 2147483647 by decide)
    generalize (cell * 48271 + k * 69621 + 12345) % 2147483647 = one at *
    refine g_mul (.inl ⟨by omega, by omega⟩) ?_
    walk_at "go"
    refine g_mul (.inl ⟨by omega, by omega⟩) ?_
    walk_at "go"
    refine g_mod (by decide) ?_
    walk_at "go"
    have h3 := Int.emod_nonneg (one * one + 16807 * k + 7) (show (2147483629 : Int) ≠ 0 by decide)
    have h4 := Int.emod_lt_of_pos (one * one + 16807 * k + 7) (show (0 : Int) < 2147483629 by decide)
    generalize (one * one + 16807 * k + 7) % 2147483629 = two at *
    refine g_mul (.inl ⟨by omega, by omega⟩) ?_
    walk_at "go"
    refine g_mod (by decide) ?_
    walk_at "go"
    refine g_mul (.inl ⟨by omega, by omega⟩) ?_
    walk_at "go"
    exact q _
  · walk_at "go"
    refine if_dec (fun e => ?_) (fun e => ?_)
    · walk_at "go"
      refine if_dec (fun e => ?_) (fun e => ?_)
      · walk_at "go"
        exact q _
      · exact fin
    · exact fin
end
section
variable {K : PySem.W.Frag} [T : TxtK K] [TQ : TxtQ K] {w : World} [TX : TxtX K w] {H : Hp} {Q : VK} {E : XK} {I : Hp} {M F : Cs} {p : HA} {ns : List Int}
/-! ### lists of messages -/
def Oc (I : Hp) (v : V) (o : List Int) : Prop := ∃ a, v = .ref a ∧ Im I a (.lst (o.map V.int))
abbrev Ocs (I : Hp) (vs : List V) (os : List (List Int)) : Prop := Paired (Oc I) vs os
theorem Oc.mono {I I' : Hp} (s : Sub I I') {v : V} {o : List Int} (h : Oc I v o) : Oc I' v o := by
  obtain ⟨a, e, i⟩ := h
  exact ⟨a, e, ⟨s.sub _ _ i.eq⟩⟩
theorem Ocs.mono {I I' : Hp} (s : Sub I I') {vs : List V} {os : List (List Int)} (h : Ocs I vs os) : Ocs I' vs os := Paired.mp (fun _ _ => Oc.mono s) h
def dpO (os : List (List Int)) : List PyData := os.map fun o => .list (o.map .int)
theorem Ocs.dp {vs : List V} {os : List (List Int)} (o : Own I M H) (h : Ocs I vs os) : DpAll K H vs (dpO os) := by
  induction h with
  | nil => exact .nil
  | cons r t ih =>
    obtain ⟨a, rfl, i⟩ := r
    exact .cons (dp_lst (o.im _ _ i.eq) (dp_ints _)) ih
theorem canIntsO : ∀ ns : List Int, PyData.canLayAll0 (ns.map PyData.int) = true
  | [] => rfl
  | n :: ns => by
    rw [List.map_cons, PyData.canLayAll0, canIntsO ns]; rfl
theorem depIntsO : ∀ ns : List Int, PyData.depthAll (ns.map PyData.int) = 0
  | [] => rfl
  | n :: ns => by
    rw [List.map_cons, PyData.depthAll, depIntsO ns]; rfl
theorem canOs : ∀ os : List (List Int), PyData.canLayAll0 (dpO os) = true
  | [] => rfl
  | o :: os => by
    unfold dpO
    rw [List.map_cons, PyData.canLayAll0, PyData.canLay0, canIntsO]
    exact canOs os
theorem depOs : ∀ os : List (List Int), PyData.depthAll (dpO os) ≤ 1
  | [] => by decide
  | o :: os => by
    have h := depOs os
    unfold dpO at h ⊢
    rw [List.map_cons, PyData.depthAll, PyData.depth, depIntsO]
    omega
theorem shapedO (os : List (List Int)) : SeqAt.shaped (.list (dpO os)) = true := by
  unfold SeqAt.shaped
  rw [Bool.and_eq_true]
  have h1 := canOs os
  have h2 := depOs os
  refine ⟨by rw [PyData.canLay0]; exact h1, decide_eq_true ?_⟩
  rw [PyData.depth]
  omega
/-! ### telling -/
theorem tell_spec {r rdx t : Addr} {v2 v3 v4 : V} {ts : List V} {num : Int} {k name : Str} {rows : List (Str × List Str)} {ks : List Str} {xs : List AV} {vs : List V} {va : Addr} (j : Nat) [o : Own I ((r, .ins (cReply K) rdx (f_Reply (.ref t) v2 v3 v4)) :: (t, .lst ts) :: M) H] [ev : EV K w k rows] [ia : Im I va (.lst vs)]
    (hj : rows[j]? = some (name, ks)) (hb : ∀ i, i < j → ∀ r, rows[i]? = some r → r.1 ≠ name) (hr : Paired (AVr I) xs vs) (hf : Paired fits ks xs) (h0 : 0 < num) (h1 : num < 4294967296) (h3 : j ≤ 65535) (h4 : ks.length ≤ 20) (h5 : (bodyO ks xs).length + 8 ≤ 20480) (hl : ts.length < 100000)
    (q : ∀ (a : Addr) (I' H' : Hp), Sub1 I I' → Oc I' (.ref a) (encO num (j : Nat) ks xs) → Own I' ((r, .ins (cReply K) rdx (f_Reply (.ref t) v2 v3 v4)) :: (t, .lst (ts ++ [.ref a])) :: M) H' → Q .non H') :
    p_Reply_tell K w [.ref r, .int num, .str k, .str name, .ref va] H Q E := by
  refine i_Reply_tell ?_
  walk_at "go"
  refine event_octets_spec j hj hb hr hf h0 h1 h3 h4 h5 fun a I1 H1 s1 i1 o1 => ?_
  walk_at "go"
  refine g_append (szl _ (by omega)) fun H2 o2 => ?_
  walk_at "go"
  exact q a I1 H2 s1 ⟨a, rfl, i1⟩ o2
theorem fldI_len {k : Str} {n : Int} : (fldO k (.int n)).length = 4 := by
  show (if k = "int" ∧ n < 0 then numO (n + 4294967296) 4 else numO n 4).length = 4
  split <;> exact numO_len _ _
theorem padN_le (n : Nat) : padN n ≤ 3 := by
  unfold padN
  have p1 := Int.emod_lt_of_pos (4 - (n : Int) % 4) (show (0 : Int) < 4 by decide)
  omega
theorem txtO_len (z : Str) : (txtO z).length ≤ z.length + 8 := by
  unfold txtO zerosN
  have := padN_le (z.length + 1)
  have e : z.cps.size = z.length := rfl
  simp [numO_len]
  omega
/-! ### panes -/
def paneV : List Int → V
  | [] => .non
  | n :: _ => .int n
abbrev hvC (K : PySem.W.Frag) (p : HA) (ns : List Int) : Cs := (p.h, p.obj K) :: (p.pa, .lst (ns.map V.int)) :: [(p.so, .lst []), (p.of, .lst []), (p.ca, .lst []), (p.fe, .lst []), (p.wa, .lst [])]
theorem pane_spec [o : Own I M H] [m1 : Mem M p.h (p.obj K)] [m2 : Mem M p.pa (.lst (ns.map V.int))] (q : Q (paneV ns) H) : p_Holdings_pane K w [.ref p.h] H Q E := by
  refine i_Holdings_pane ?_
  walk_at "go"
  refine g_tru_lst ?_
  cases ns with
  | nil =>
    walk_at "go"
    exact q
  | cons n r =>
    rw [show (!(List.map V.int (n :: r)).isEmpty) = true from rfl]
    walk_at "go"
    exact q
theorem bound_spec {n : Int} [o : Own I (hvC K p ns ++ M) H] (hl : ns.length < 1000) (q : ∀ H', Own I (hvC K p (ns ++ [n]) ++ M) H' → Q .non H') : p_Holdings_bound K w [.ref p.h, .int n] H Q E := by
  refine i_Holdings_bound ?_
  walk_at "go"
  refine g_append (szl _ (by rw [List.length_map]; omega)) fun H1 o1 => ?_
  walk_at "go"
  refine q H1 ?_
  unfold hvC
  rw [List.map_append]
  exact o1
theorem dropped_spec [o : Own I (hvC K p ns ++ M) H] (q : ∀ H', Own I (hvC K { p with hv := false } ns ++ M) H' → Q .non H') : p_Holdings_dropped K w [.ref p.h] H Q E := by
  refine i_Holdings_dropped ?_
  walk_at "go"
  refine g_set fun H1 o1 => ?_
  walk_at "go"
  exact q H1 o1
def offN (n : Int) (ns : List Int) : List Int := ns.filter fun m => !decide (m = n)
theorem offN_snoc {n m : Int} {ns : List Int} {i : Nat} (h : ns[i]? = some m) : offN n (ns.take (i + 1)) = offN n (ns.take i) ++ (if m = n then [] else [m]) := by
  unfold offN
  rw [List.take_add_one, h, List.filter_append]
  by_cases e : m = n
  · simp [e]
  · simp [e]
theorem ended_spec {n : Int} [o : Own I (hvC K p ns ++ M) H] (hl : ns.length < 1000) (q : ∀ (p' : HA) (I' H' : Hp), Sub1 I I' → p'.h = p.h → p'.hv = p.hv → Own I' (hvC K p' (offN n ns) ++ M) H' → Q .non H') : p_Holdings_ended K w [.ref p.h, .int n] H Q E := by
  refine i_Holdings_ended ?_
  walk_at "go"
  refine lc_m (xs := ns.map V.int) (fun i I' acc => acc = (offN n (ns.take i)).map V.int) rfl ?_ ?_
  · rintro i x b I' acc H' hx s hle rfl o1
    rw [List.getElem?_map] at hx
    obtain ⟨m, hm, rfl⟩ := Option.map_eq_some_iff.mp hx
    have hi := (List.getElem?_eq_some_iff.mp hm).1
    walk_at "go"
    refine ⟨rfl, ?_⟩
    walk_at "go"
    refine if_ndec (fun e => ?_) (fun e => ?_)
    · walk_at "go"
      refine g_app s.any hle (szl _ (by omega)) ?_
      rw [offN_snoc hm, if_neg e, List.map_append]
      rfl
    · refine g_skip s.any hle ?_
      rw [offN_snoc hm, if_pos e, List.append_nil]
  · rintro b I1 acc H1 s1 hle rfl o1
    rw [List.length_map, List.take_length] at o1
    walk_at "go"
    refine g_set fun H2 o2 => ?_
    clear o1
    walk_at "go"
    refine lc_m (xs := []) (fun i I' acc => acc = []) rfl (fun i x b I' acc H' hx => by simp at hx) ?_
    rintro b2 I3 acc H3 s3 hle3 rfl o3
    walk_at "go"
    refine g_set fun H4 o4 => ?_
    clear o3
    walk_at "go"
    refine lc_m (xs := []) (fun i I' acc => acc = []) rfl (fun i x b I' acc H' hx => by simp at hx) ?_
    rintro b3 I5 acc H5 s5 hle5 rfl o5
    walk_at "go"
    refine g_set fun H6 o6 => ?_
    clear o5
    walk_at "go"
    refine lc_m (xs := []) (fun i I' acc => acc = []) rfl (fun i x b I' acc H' hx => by simp at hx) ?_
    rintro b4 I7 acc H7 s7 hle7 rfl o7
    walk_at "go"
    refine g_set fun H8 o8 => ?_
    clear o7
    walk_at "go"
    refine lc_m (xs := []) (fun i I' acc => acc = []) rfl (fun i x b I' acc H' hx => by simp at hx) ?_
    rintro b5 I9 acc H9 s9 hle9 rfl o9
    walk_at "go"
    refine g_set fun H10 o10 => ?_
    clear o9
    walk_at "go"
    refine lc_m (xs := []) (fun i I' acc => acc = []) rfl (fun i x b I' acc H' hx => by simp at hx) ?_
    rintro b6 I11 acc H11 s11 hle11 rfl o11
    walk_at "go"
    refine g_set fun H12 o12 => ?_
    clear o11
    walk_at "go"
    refine q ⟨p.h, p.dx, b, b2, b3, b4, b5, b6, p.na, p.hv⟩ I11 H12 (Sub.one inferInstance) rfl rfl ?_
    have o13 := o12.perm (M' := [(p.pa, .lst (ns.map V.int)), (p.so, .lst []), (p.of, .lst []), (p.ca, .lst []), (p.fe, .lst []), (p.wa, .lst [])] ++ (hvC K ⟨p.h, p.dx, b, b2, b3, b4, b5, b6, p.na, p.hv⟩ (offN n ns) ++ M)) (by
      unfold hvC
      dsimp only [HA.obj]
      walk_at "prm")
    exact o13.drop
end
section
variable {K : PySem.W.Frag} [T : TxtK K] [TQ : TxtQ K] {w : World} [TX : TxtX K w] {H : Hp} {Q : VK} {E : XK} {I : Hp} {M F : Cs} {p : HA} {ns : List Int} {r rdx t : Addr} {v2 v3 v4 : V} {ts : List V}
theorem before {rows : List (Str × List Str)} {j : Nat} {name : Str} (h : ((rows.take j).all fun r => !decide (r.1 = name)) = true) : ∀ i, i < j → ∀ r, rows[i]? = some r → r.1 ≠ name := fun i hi r hr => by
  have hm : r ∈ rows.take j := List.mem_of_getElem? (i := i) (by rw [List.getElem?_take, if_pos hi]; exact hr)
  have := List.all_eq_true.mp h r hm
  simpa using this
theorem aI {n : Int} : AVr I (.int n) (.int n) := rfl
theorem aS {z : Str} : AVr I (.str z) (.str z) := rfl
theorem aO {l : List Int} {a : Addr} [i : Im I a (.lst (l.map V.int))] : AVr I (.oct l) (.ref a) := ⟨a, rfl, i⟩
theorem fU {n : Int} (h0 : 0 ≤ n) (h1 : n < 4294967296) : fits "uint" (.int n) := .inl ⟨rfl, h0, h1⟩
theorem fOb {n : Int} (h0 : 0 < n) (h1 : n < 4294967296) : fits "object" (.int n) := .inr (.inl ⟨rfl, h0, h1⟩)
theorem fNw {n : Int} (h0 : 0 < n) (h1 : n < 4294967296) : fits "new" (.int n) := .inr (.inr (.inl ⟨rfl, h0, h1⟩))
theorem fI {n : Int} (h0 : -2147483648 ≤ n) (h1 : n < 2147483648) : fits "int" (.int n) := .inr (.inr (.inr ⟨rfl, h0, h1⟩))
theorem fT {z : Str} (h0 : z.length ≤ 1000) (h1 : ∀ c ∈ z.cps.toList, c ∈ signsL) : fits "text" (.str z) := ⟨rfl, h0, h1⟩
theorem fOc {l : List Int} (h0 : l.length ≤ 16384) (h1 : ∀ x ∈ l, 0 ≤ x ∧ x ≤ 255) : fits "octets" (.oct l) := ⟨rfl, h0, h1⟩
abbrev rpC (K : PySem.W.Frag) (r rdx t : Addr) (v2 v3 v4 : V) (ts : List V) : Cs := [(r, .ins (cReply K) rdx (f_Reply (.ref t) v2 v3 v4)), (t, .lst ts)]
def movedO : List Int → Bool → Int → Int → List (List Int)
  | n :: _, true, a, x => [encO n (3 : Nat) ["uint", "int", "int"] [.int a, .int x, .int 3]]
  | _, _, _, _ => []
def awayO : List Int → Bool → List (List Int)
  | n :: _, true => [encO n (4 : Nat) [] []]
  | _, _ => []
theorem moved_ev {n a x : Int} {va : Addr} [o : Own I M H] [ia : Im I va (.lst [.int a, .int x, .int 3])] (hn : 0 < n ∧ n < 1000) (ha : 0 ≤ a ∧ a < 4294967296) (hx : -100 ≤ x ∧ x ≤ 100)
    (q : ∀ (b : Addr) (I' H' : Hp), Sub1 I I' → Im I' b (.lst ((encO n (3 : Nat) ["uint", "int", "int"] [.int a, .int x, .int 3]).map V.int)) → Own I' M H' → Q (.ref b) H') : p_event_octets K w [.int n, .str "transfer", .str "moved", .ref va] H Q E :=
  event_octets_spec 3 rfl (before (by decide +kernel)) (.cons aI (.cons aI (.cons aI .nil))) (.cons (fU ha.1 ha.2) (.cons (fI (by omega) (by omega)) (.cons (fI (by omega) (by omega)) .nil))) hn.1 (by omega) (by omega) (by decide) (by simp [bodyO, fldI_len]) q
theorem away_ev {n : Int} {va : Addr} [o : Own I M H] [ia : Im I va (.lst [])] (hn : 0 < n ∧ n < 1000)
    (q : ∀ (b : Addr) (I' H' : Hp), Sub1 I I' → Im I' b (.lst ((encO n (4 : Nat) [] []).map V.int)) → Own I' M H' → Q (.ref b) H') : p_event_octets K w [.int n, .str "transfer", .str "away", .ref va] H Q E :=
  event_octets_spec (xs := []) 4 rfl (before (by decide +kernel)) .nil .nil hn.1 (by omega) (by omega) (by decide) (by simp [bodyO]) q
theorem moves_spec {a x : Int} [o : Own I (rpC K r rdx t v2 v3 v4 [] ++ (hvC K p ns ++ M)) H] (hns : ∀ n ∈ ns, 0 < n ∧ n < 1000) (ha : 0 ≤ a ∧ a < 4294967296) (hx : -100 ≤ x ∧ x ≤ 100)
    (q : ∀ (I' H' : Hp) (ts : List V), Sub1 I I' → Ocs I' ts (movedO ns p.hv a x) → Own I' (rpC K r rdx t v2 v3 v4 ts ++ (hvC K p ns ++ M)) H' → Q .non H') : p_Holdings_moves K w [.ref p.h, .int a, .int x, .int 3, .ref r] H Q E := by
  refine i_Holdings_moves ?_
  walk_at "go"
  refine pane_spec (ns := ns) ?_
  walk_at "go"
  cases ns with
  | nil =>
    show rIsNot V.non _ _ _
    walk_at "go"
    exact q I H [] ⟨fun _ _ h => h⟩ .nil o
  | cons n rs =>
    show rIsNot (V.int n) _ _ _
    walk_at "go"
    cases hb : p.hv with
    | false =>
      rw [hb] at q
      walk_at "go"
      exact q I H [] ⟨fun _ _ h => h⟩ .nil o
    | true =>
      rw [hb] at q
      walk_at "go"
      refine g_lstI (sz 3) fun va I1 H1 s1 i1 o1 => ?_
      walk_at "go"
      refine i_Reply_tell ?_
      walk_at "go"
      refine moved_ev (hns n (by simp)) ha hx fun b I2 H2 s2 i2 o2 => ?_
      walk_at "go"
      refine g_append (szl _ (by simp)) fun H3 o3 => ?_
      walk_at "go"
      exact q I2 H3 [.ref b] (Sub.one inferInstance) (.cons ⟨b, rfl, i2⟩ .nil) o3
theorem leaves_spec [o : Own I (rpC K r rdx t v2 v3 v4 [] ++ (hvC K p ns ++ M)) H] (hns : ∀ n ∈ ns, 0 < n ∧ n < 1000)
    (q : ∀ (I' H' : Hp) (ts : List V), Sub1 I I' → Ocs I' ts (awayO ns p.hv) → Own I' (rpC K r rdx t v2 v3 v4 ts ++ (hvC K { p with hv := false } ns ++ M)) H' → Q .non H') : p_Holdings_leaves K w [.ref p.h, .ref r] H Q E := by
  refine i_Holdings_leaves ?_
  walk_at "go"
  refine pane_spec (ns := ns) ?_
  walk_at "go"
  cases ns with
  | nil =>
    show rIsNot V.non _ _ _
    walk_at "go"
    refine g_set fun H1 o1 => ?_
    walk_at "go"
    exact q I H1 [] ⟨fun _ _ h => h⟩ .nil o1
  | cons n rs =>
    show rIsNot (V.int n) _ _ _
    walk_at "go"
    cases hb : p.hv with
    | false =>
      rw [hb] at q
      walk_at "go"
      refine g_set fun H1 o1 => ?_
      walk_at "go"
      exact q I H1 [] ⟨fun _ _ h => h⟩ .nil o1
    | true =>
      rw [hb] at q
      walk_at "go"
      refine g_lstI (sz 0) fun va I1 H1 s1 i1 o1 => ?_
      walk_at "go"
      refine i_Reply_tell ?_
      walk_at "go"
      refine away_ev (hns n (by simp)) fun b I2 H2 s2 i2 o2 => ?_
      walk_at "go"
      refine g_append (szl _ (by simp)) fun H3 o3 => ?_
      walk_at "go"
      refine g_set fun H4 o4 => ?_
      walk_at "go"
      exact q I2 H4 [.ref b] (Sub.one inferInstance) (.cons ⟨b, rfl, i2⟩ .nil) o4
end
section
variable {K : PySem.W.Frag} [T : TxtK K] [TQ : TxtQ K] {w : World} [TX : TxtX K w] {H : Hp} {Q : VK} {E : XK} {I : Hp} {M F : Cs} {p : HA} {ns : List Int} {r rdx t g : Addr} {v2 v3 v4 : V} {ts gs : List V}
def kS (i : Nat) : Str := ("k" : Str) ++ (toString ((0 : Int) + (i : Nat)) : Str)
theorem kS_sign : ∀ i, i < 4 → (kS i).length ≤ 100 ∧ ∀ c ∈ (kS i).cps.toList, c ∈ signsL := by decide +kernel
theorem kS_len2 : ∀ i : Nat, i < 4 → ("k" : Str).length + (toString ((0 : Int) + (i : Nat)) : Str).length ≤ 128 := by decide +kernel
def Gk (I : Hp) (v : V) (k : Nat) : Prop := ∃ t l, v = .ref t ∧ Im I t (.tup [.str (kS k), l])
theorem Gk.mono {I I' : Hp} (s : Sub I I') {v : V} {k : Nat} (h : Gk I v k) : Gk I' v k := by
  obtain ⟨t, l, e, i⟩ := h
  exact ⟨t, l, e, ⟨s.sub _ _ i.eq⟩⟩
def kindsO (n : Int) (m : Nat) : List (List Int) := (List.range m).map fun k => encO n (2 : Nat) ["text"] [.str (kS k)]
theorem kindsO_succ (n : Int) (m : Nat) : kindsO n (m + 1) = kindsO n m ++ [encO n (2 : Nat) ["text"] [.str (kS m)]] := by
  unfold kindsO
  rw [List.range_succ, List.map_append]
  rfl
def hoverO : List Int → Int → Int → Int → Nat → List (List Int)
  | n :: _, s, x, y, m => encO n (1 : Nat) ["object", "int", "int"] [.int s, .int x, .int y] :: kindsO n m
  | [], _, _, _, _ => []
theorem hover_ev {n s x y : Int} {va : Addr} [o : Own I M H] [ia : Im I va (.lst [.int s, .int x, .int y])] (hn : 0 < n ∧ n < 1000) (hs : 0 < s ∧ s < 1000) (hx : -100 ≤ x ∧ x ≤ 100) (hy : -100 ≤ y ∧ y ≤ 100)
    (q : ∀ (b : Addr) (I' H' : Hp), Sub1 I I' → Im I' b (.lst ((encO n (1 : Nat) ["object", "int", "int"] [.int s, .int x, .int y]).map V.int)) → Own I' M H' → Q (.ref b) H') : p_event_octets K w [.int n, .str "transfer", .str "hover", .ref va] H Q E :=
  event_octets_spec 1 rfl (before (by decide +kernel)) (.cons aI (.cons aI (.cons aI .nil))) (.cons (fOb hs.1 (by omega)) (.cons (fI (by omega) (by omega)) (.cons (fI (by omega) (by omega)) .nil))) hn.1 (by omega) (by omega) (by decide) (by simp [bodyO, fldI_len]) q
theorem kind_ev {n : Int} {k : Nat} {va : Addr} [o : Own I M H] [ia : Im I va (.lst [.str (kS k)])] (hn : 0 < n ∧ n < 1000) (hk : k < 4)
    (q : ∀ (b : Addr) (I' H' : Hp), Sub1 I I' → Im I' b (.lst ((encO n (2 : Nat) ["text"] [.str (kS k)]).map V.int)) → Own I' M H' → Q (.ref b) H') : p_event_octets K w [.int n, .str "transfer", .str "hover_kind", .ref va] H Q E := by
  have h := kS_sign k hk
  have h2 := txtO_len (kS k)
  refine event_octets_spec 2 rfl (before (by decide +kernel)) (.cons aS .nil) (.cons (fT (by omega) h.2) .nil) hn.1 (by omega) (by omega) (by decide) ?_ q
  show ([txtO (kS k)].flatten).length + 8 ≤ 20480
  simp
  omega
theorem hovers_spec {s x y : Int} {m : Nat} [o : Own I (rpC K r rdx t v2 v3 v4 [] ++ (hvC K p ns ++ M)) H] [ig : Im I g (.lst gs)] (hg : Paired (Gk I) gs (List.range m)) (hm : m ≤ 4) (hns : ∀ n ∈ ns, 0 < n ∧ n < 1000) (hs : 0 < s ∧ s < 1000) (hx : -100 ≤ x ∧ x ≤ 100) (hy : -100 ≤ y ∧ y ≤ 100)
    (q : ∀ (I' H' : Hp) (ts : List V), Sub1 I I' → Ocs I' ts (hoverO ns s x y m) → Own I' (rpC K r rdx t v2 v3 v4 ts ++ (hvC K { p with hv := p.hv || !ns.isEmpty } ns ++ M)) H' → Q .non H') : p_Holdings_hovers K w [.ref p.h, .int s, .int x, .int y, .ref g, .ref r] H Q E := by
  refine i_Holdings_hovers ?_
  walk_at "go"
  refine pane_spec (ns := ns) ?_
  walk_at "go"
  cases ns with
  | nil =>
    show rIs V.non _ _ _
    walk_at "go"
    refine q I H [] ⟨fun _ _ h => h⟩ .nil ?_
    rw [show (p.hv || !([] : List Int).isEmpty) = p.hv by simp]
    exact o
  | cons n rs =>
    show rIs (V.int n) _ _ _
    walk_at "go"
    rw [show (p.hv || !(n :: rs).isEmpty) = true by simp] at q
    refine g_set fun H1 o1 => ?_
    walk_at "go"
    refine g_lstI (sz 3) fun va I2 H2 s2 i2 o2 => ?_
    walk_at "go"
    refine i_Reply_tell ?_
    walk_at "go"
    refine hover_ev (hns n (by simp)) hs hx hy fun b I3 H3 s3 i3 o3 => ?_
    walk_at "go"
    refine g_append (szl _ (by simp)) fun H4 o4 => ?_
    walk_at "go"
    have l1 : gs.length = m := by rw [Paired.length hg, List.length_range]
    refine for_l (xs := gs) (fun i σ H' => ∃ I' ts v7 v8, σ = [some (.ref p.h), some (.int s), some (.int x), some (.int y), some (.ref g), some (.ref r), some (.int n), v7, v8] ∧ Sub1 I3 I' ∧ Ocs I' ts (encO n (1 : Nat) ["object", "int", "int"] [.int s, .int x, .int y] :: kindsO n i) ∧
      Own I' (rpC K r rdx t v2 v3 v4 ts ++ (hvC K { p with hv := true } (n :: rs) ++ M)) H') ⟨I3, [.ref b], _, _, rfl, ⟨fun _ _ h => h⟩, .cons ⟨b, rfl, i3⟩ .nil, o4⟩ (fun i σ H' hi h => ?_) ?_ ?_
    · obtain ⟨I', _, _, _, _, s', _, o'⟩ := h
      exact o'.im _ _ (s'.sub _ _ (s3.sub _ _ (s2.sub _ _ ig.eq)))
    · rintro i v σ H5 hv ⟨I5, ts, v7, v8, rfl, s5, hts, o5⟩
      have hi := (List.getElem?_eq_some_iff.mp hv).1
      obtain ⟨k, hk, tt, l, rfl, it⟩ := Paired.get hg hv
      rw [List.getElem?_range (by omega)] at hk
      cases hk
      haveI : Im I5 tt (.tup [.str (kS i), l]) := ⟨s5.sub _ _ (s3.sub _ _ (s2.sub _ _ it.eq))⟩
      walk_at "go"
      refine g_lstI (sz 1) fun vb I6 H6 s6 i6 o6 => ?_
      walk_at "go"
      refine i_Reply_tell ?_
      walk_at "go"
      refine kind_ev (hns n (by simp)) (by omega) fun c I7 H7 s7 i7 o7 => ?_
      walk_at "go"
      have lt : ts.length ≤ 10 := by
        rw [Paired.length hts, List.length_cons]
        unfold kindsO
        rw [List.length_map, List.length_range]
        omega
      refine g_append (szl _ (by omega)) fun H8 o8 => ?_
      walk_at "go"
      refine ⟨I7, _, _, _, rfl, Sub.one inferInstance, ?_, o8⟩
      rw [kindsO_succ]
      exact Paired.app (hts.mono inferInstance) (.cons ⟨c, rfl, i7⟩ .nil)
    · rintro σ H5 ⟨I5, ts, v7, v8, rfl, s5, hts, o5⟩
      rw [l1] at hts
      walk_at "go"
      exact q I5 H5 ts (Sub.one (s2.any.trans (s3.any.trans s5.any))) hts o5
/-! ### the law's deeds -/
theorem law_move_spec {row : Int} [o : Own I (hvC K p ns ++ M) H] (hns : ∀ n ∈ ns, 0 < n ∧ n < 1000) (q : ∀ (I' H' : Hp), Sub1 I I' → Own I' (hvC K p ns ++ M) H' → Q (.bl true) H') : p__law_move K w [.ref p.h, paneV ns, .bl p.hv, .int row] H Q E := by
  refine i__law_move ?_
  walk_at "go"
  refine g_mod (by decide) ?_
  have a0 := Int.emod_nonneg row (show (4294967296 : Int) ≠ 0 by decide)
  have a1 := Int.emod_lt_of_pos row (show (0 : Int) < 4294967296 by decide)
  generalize row % 4294967296 = a at *
  walk_at "go"
  refine g_div (cdivB (by omega) (by omega)) ?_
  walk_at "go"
  refine g_mod (by decide) ?_
  have x0 := Int.emod_nonneg (row / 7) (show (100 : Int) ≠ 0 by decide)
  have x1 := Int.emod_lt_of_pos (row / 7) (show (0 : Int) < 100 by decide)
  generalize row / 7 % 100 = x at *
  walk_at "go"
  refine g_lstM (sz 0) fun d H1 o1 => ?_
  dsimp only
  refine seq_finP (fun H' => ∃ I' dts, Sub1 I I' ∧ Ocs I' dts (movedO ns p.hv a (x - 50)) ∧ Own I' ((d, .lst dts) :: (hvC K p ns ++ M)) H') ?_ fun N fin => ?_
  · rintro H2 ⟨I2, dts, s2, hd, o2⟩
    walk_at "go"
    refine g_make fun r rdx I3 H3 s3 o3 => ?_
    refine Reply_init_spec (o := o3) fun t e wi ap H4 o4 => ⟨rfl, ?_⟩
    walk_at "go"
    have o5 := o4.perm (M' := rpC K r rdx t (.ref e) (.ref wi) (.ref ap) [] ++ (hvC K p ns ++ ((ap, .lst []) :: (wi, .lst []) :: (e, .lst []) :: (d, .lst dts) :: M))) (by
      unfold hvC rpC
      walk_at "prm")
    clear o4 o3
    refine moves_spec (o := o5) hns ⟨a0, a1⟩ (by omega) fun I6 H6 ts s6 hts o6 => ?_
    walk_at "go"
    refine g_eqSame (d := .list (dpO (movedO ns p.hv a (x - 50)))) (dp_lst Ob.eq (Ocs.dp o6 hts)) (dp_lst Ob.eq (Ocs.dp o6 (hd.mono inferInstance))) (shapedO _) ?_
    have o7 := o6.perm (M' := [(r, .ins (cReply K) rdx (f_Reply (.ref t) (.ref e) (.ref wi) (.ref ap))), (t, .lst ts), (ap, .lst []), (wi, .lst []), (e, .lst []), (d, .lst dts)] ++ (hvC K p ns ++ M)) (by
      unfold hvC rpC
      walk_at "prm")
    exact q I6 H6 (Sub.one (s2.any.trans (s3.any.trans s6.any))) o7.drop
  · cases ns with
    | nil =>
      walk_at "s"
      walk_at "s"
      walk_at "s"
      walk_at "s"
      walk_at "s"
      show rIsNot V.non _ _ _
      walk_at "go"
      exact fin _ ⟨I, [], ⟨fun _ _ h => h⟩, .nil, o1⟩
    | cons n rs =>
      walk_at "s"
      walk_at "s"
      walk_at "s"
      walk_at "s"
      walk_at "s"
      show rIsNot (V.int n) _ _ _
      walk_at "go"
      cases hb : p.hv with
      | false =>
        rw [hb] at fin
        walk_at "go"
        exact fin _ ⟨I, [], ⟨fun _ _ h => h⟩, .nil, o1⟩
      | true =>
        rw [hb] at fin
        walk_at "go"
        refine g_lstI (sz 3) fun va I2 H2 s2 i2 o2 => ?_
        walk_at "go"
        refine moved_ev (hns n (by simp)) ⟨a0, a1⟩ (by omega) fun b I3 H3 s3 i3 o3 => ?_
        walk_at "go"
        refine g_append (szl _ (by simp)) fun H4 o4 => ?_
        walk_at "go"
        exact fin _ ⟨I3, [.ref b], Sub.one inferInstance, .cons ⟨b, rfl, i3⟩ .nil, o4⟩
theorem law_leave_spec [o : Own I (hvC K p ns ++ M) H] (hns : ∀ n ∈ ns, 0 < n ∧ n < 1000) (q : ∀ (I' H' : Hp), Sub1 I I' → Own I' (hvC K { p with hv := false } ns ++ M) H' → Q (.bl true) H') : p__law_leave K w [.ref p.h, paneV ns, .bl p.hv] H Q E := by
  refine i__law_leave ?_
  walk_at "go"
  refine g_lstM (sz 0) fun d H1 o1 => ?_
  dsimp only
  refine seq_finP (fun H' => ∃ I' dts, Sub1 I I' ∧ Ocs I' dts (awayO ns p.hv) ∧ Own I' ((d, .lst dts) :: (hvC K p ns ++ M)) H') ?_ fun N fin => ?_
  · rintro H2 ⟨I2, dts, s2, hd, o2⟩
    walk_at "go"
    refine g_make fun r rdx I3 H3 s3 o3 => ?_
    refine Reply_init_spec (o := o3) fun t e wi ap H4 o4 => ⟨rfl, ?_⟩
    walk_at "go"
    have o5 := o4.perm (M' := rpC K r rdx t (.ref e) (.ref wi) (.ref ap) [] ++ (hvC K p ns ++ ((ap, .lst []) :: (wi, .lst []) :: (e, .lst []) :: (d, .lst dts) :: M))) (by
      unfold hvC rpC
      walk_at "prm")
    clear o4 o3
    refine leaves_spec (o := o5) hns fun I6 H6 ts s6 hts o6 => ?_
    walk_at "go"
    refine g_eqSame (d := .list (dpO (awayO ns p.hv))) (dp_lst Ob.eq (Ocs.dp o6 hts)) (dp_lst Ob.eq (Ocs.dp o6 (hd.mono inferInstance))) (shapedO _) ?_
    have o7 := o6.perm (M' := [(r, .ins (cReply K) rdx (f_Reply (.ref t) (.ref e) (.ref wi) (.ref ap))), (t, .lst ts), (ap, .lst []), (wi, .lst []), (e, .lst []), (d, .lst dts)] ++ (hvC K { p with hv := false } ns ++ M)) (by
      unfold hvC rpC
      walk_at "prm")
    exact q I6 H6 (Sub.one (s2.any.trans (s3.any.trans s6.any))) o7.drop
  · cases ns with
    | nil =>
      walk_at "s"
      walk_at "s"
      walk_at "s"
      walk_at "s"
      walk_at "s"
      show rIsNot V.non _ _ _
      walk_at "go"
      exact fin _ ⟨I, [], ⟨fun _ _ h => h⟩, .nil, o1⟩
    | cons n rs =>
      walk_at "s"
      walk_at "s"
      walk_at "s"
      walk_at "s"
      walk_at "s"
      show rIsNot (V.int n) _ _ _
      walk_at "go"
      cases hb : p.hv with
      | false =>
        rw [hb] at fin
        walk_at "go"
        exact fin _ ⟨I, [], ⟨fun _ _ h => h⟩, .nil, o1⟩
      | true =>
        rw [hb] at fin
        walk_at "go"
        refine g_lstI (sz 0) fun va I2 H2 s2 i2 o2 => ?_
        walk_at "go"
        refine away_ev (hns n (by simp)) fun b I3 H3 s3 i3 o3 => ?_
        walk_at "go"
        refine g_append (szl _ (by simp)) fun H4 o4 => ?_
        walk_at "go"
        exact fin _ ⟨I3, [.ref b], Sub.one inferInstance, .cons ⟨b, rfl, i3⟩ .nil, o4⟩
end
theorem g_isB {H : Hp} {Q : VK} {a b : Bool} (q : Q (.bl (decide (a = b))) H) : rIs (.bl a) (.bl b) H Q := .inr ⟨a, b, rfl, rfl, q⟩
theorem seq_fin2 {σ : L2.St} {H : Hp} {D : Ends} {t1 t2 : TS} (P : L2.St → Hp → Prop) (fin : ∀ σ' H', P σ' H' → t2 D σ' H') (h : ∀ N : L2.St → Hp → Prop, (∀ σ' H', P σ' H' → N σ' H') → t1 { D with nx := N } σ H) : tSeq t1 t2 D σ H := h _ fin
section
variable {K : PySem.W.Frag} [T : TxtK K] [TQ : TxtQ K] {w : World} [TX : TxtX K w] {H : Hp} {Q : VK} {E : XK} {I : Hp} {M F : Cs} {p : HA} {ns : List Int} {r rdx t g : Addr} {v2 v3 v4 : V} {ts gs : List V}
theorem law_hover_spec {row : Int} [o : Own I (hvC K p ns ++ M) H] (hns : ∀ n ∈ ns, 0 < n ∧ n < 1000) (q : ∀ (I' H' : Hp), Sub1 I I' → Own I' (hvC K { p with hv := p.hv || !ns.isEmpty } ns ++ M) H' → Q (.bl true) H') : p__law_hover K w [.ref p.h, paneV ns, .int row] H Q E := by
  refine i__law_hover ?_
  walk_at "go"
  refine g_mod (by decide) ?_
  have s0 := Int.emod_nonneg row (show (9 : Int) ≠ 0 by decide)
  have s1 := Int.emod_lt_of_pos row (show (0 : Int) < 9 by decide)
  generalize row % 9 = s at *
  walk_at "go"
  refine g_div (cdivB (by omega) (by omega)) ?_
  walk_at "go"
  refine g_mod (by decide) ?_
  have x0 := Int.emod_nonneg (row / 9) (show (100 : Int) ≠ 0 by decide)
  have x1 := Int.emod_lt_of_pos (row / 9) (show (0 : Int) < 100 by decide)
  generalize row / 9 % 100 = x at *
  walk_at "go"
  refine g_div (cdivB (by omega) (by omega)) ?_
  walk_at "go"
  refine g_mod (by decide) ?_
  have y0 := Int.emod_nonneg (row / 900) (show (100 : Int) ≠ 0 by decide)
  have y1 := Int.emod_lt_of_pos (row / 900) (show (0 : Int) < 100 by decide)
  generalize row / 900 % 100 = y at *
  walk_at "go"
  refine g_div (cdivB (by omega) (by omega)) ?_
  walk_at "go"
  refine g_mod (by decide) ?_
  have m0 := Int.emod_nonneg (row / 90000) (show (4 : Int) ≠ 0 by decide)
  have m1 := Int.emod_lt_of_pos (row / 90000) (show (0 : Int) < 4 by decide)
  generalize row / 90000 % 4 = mm at *
  walk_at "go"
  refine g_rng1 (by omega) (by omega) ?_
  obtain ⟨m, em⟩ : ∃ m : Nat, mm + 1 = (m : Int) := ⟨(mm + 1).toNat, by omega⟩
  have hm : m ≤ 4 := by omega
  rw [show (mm + 1).toNat = m by omega]
  walk_at "go"
  refine lc_r (fun i I' acc => Paired (Gk I') acc (List.range i)) .nil ?_ ?_
  · rintro i b I1 acc H1 hi sb hle hp o1
    walk_at "go"
    refine ⟨rfl, ?_⟩
    walk_at "go"
    refine g_strI (by
      have : ((0 : Int) + (i : Nat)).natAbs = i := by omega
      rw [this]
      have : i.log2 ≤ i := Nat.log2_le_self i
      omega) ?_
    walk_at "go"
    refine g_addT (sz _ (by
      have := kS_len2 i (by omega)
      omega)) ?_
    walk_at "go"
    refine g_lstI (sz 1) fun l I2 H2 s2 i2 o2 => ?_
    walk_at "go"
    refine g_tup (sz _ (by show 2 ≤ _; decide)) fun tt I3 H3 s3 i3 o3 => ?_
    refine g_app (Sub.trans sb.any inferInstance) hle (szl _ (by omega)) ?_
    rw [List.range_succ]
    exact Paired.app (Paired.mp (fun _ _ => Gk.mono inferInstance) hp) (.cons ⟨tt, .ref l, rfl, i3⟩ .nil)
  · rintro g I1 gs H1 sb hle hp o1
    have sf := o1.frzSub
    have ig : Im (upd I1 g (.lst gs)) g _ := Im.new
    have o2 := o1.freeze
    clear o1
    generalize upd I1 g (.lst gs) = I2 at *
    walk_at "go"
    refine g_lstM (sz 0) fun d H3 o3 => ?_
    dsimp only
    refine seq_fin2 (fun σ' H' => ∃ I' dts v8 v9 v10, σ' = [some (.ref p.h), some (paneV ns), some (.int row), some (.int (s + 2)), some (.int (x - 50)), some (.int (y - 50)), some (.ref g), some (.ref d), v8, v9, v10] ∧ Sub1 I2 I' ∧ Ocs I' dts (hoverO ns (s + 2) (x - 50) (y - 50) m) ∧ Own I' ((d, .lst dts) :: (hvC K p ns ++ M)) H') ?_ fun N fin => ?_
    · rintro σ H4 ⟨I4, dts, v8, v9, v10, rfl, s4, hd, o4⟩
      walk_at "go"
      refine g_make fun r rdx I5 H5 s5 o5 => ?_
      refine Reply_init_spec (o := o5) fun t e wi ap H6 o6 => ⟨rfl, ?_⟩
      walk_at "go"
      have o7 := o6.perm (M' := rpC K r rdx t (.ref e) (.ref wi) (.ref ap) [] ++ (hvC K p ns ++ ((ap, .lst []) :: (wi, .lst []) :: (e, .lst []) :: (d, .lst dts) :: M))) (by
        unfold hvC rpC
        walk_at "prm")
      clear o6 o5
      refine hovers_spec (o := o7) (gs := gs) (Paired.mp (fun _ _ => Gk.mono (Sub.trans sf.any inferInstance)) hp) hm hns (by omega) (by omega) (by omega) fun I8 H8 ts s8 hts o8 => ?_
      walk_at "go"
      refine g_eqSame (d := .list (dpO (hoverO ns (s + 2) (x - 50) (y - 50) m))) (dp_lst Ob.eq (Ocs.dp o8 hts)) (dp_lst Ob.eq (Ocs.dp o8 (hd.mono inferInstance))) (shapedO _) ?_
      have o9 := o8.perm (M' := [(r, .ins (cReply K) rdx (f_Reply (.ref t) (.ref e) (.ref wi) (.ref ap))), (t, .lst ts), (ap, .lst []), (wi, .lst []), (e, .lst []), (d, .lst dts)] ++ (hvC K { p with hv := p.hv || !ns.isEmpty } ns ++ M)) (by
        unfold hvC rpC
        walk_at "prm")
      exact q I8 H8 (Sub.one (sb.any.trans (sf.any.trans (s4.any.trans (s5.any.trans s8.any))))) o9.drop
    · cases ns with
      | nil =>
        walk_at "s"
        walk_at "s"
        walk_at "s"
        walk_at "s"
        show rIsNot V.non _ _ _
        walk_at "go"
        exact fin _ _ ⟨I2, [], _, _, _, rfl, ⟨fun _ _ h => h⟩, .nil, o3⟩
      | cons n rs =>
        walk_at "s"
        walk_at "s"
        walk_at "s"
        walk_at "s"
        show rIsNot (V.int n) _ _ _
        walk_at "go"
        refine g_lstI (sz 3) fun va I4 H4 s4 i4 o4 => ?_
        walk_at "go"
        refine hover_ev (hns n (by simp)) (by omega) (by omega) (by omega) fun b I5 H5 s5 i5 o5 => ?_
        walk_at "go"
        refine g_append (szl _ (by simp)) fun H6 o6 => ?_
        walk_at "go"
        have l1 : gs.length = m := by rw [Paired.length hp, List.length_range]
        refine for_l (xs := gs) (fun i σ H' => ∃ I' dts v8 v9 v10, σ = [some (.ref p.h), some (.int n), some (.int row), some (.int (s + 2)), some (.int (x - 50)), some (.int (y - 50)), some (.ref g), some (.ref d), v8, v9, v10] ∧ Sub1 I5 I' ∧ Ocs I' dts (encO n (1 : Nat) ["object", "int", "int"] [.int (s + 2), .int (x - 50), .int (y - 50)] :: kindsO n i) ∧
          Own I' ((d, .lst dts) :: (hvC K p (n :: rs) ++ M)) H') ⟨I5, [.ref b], _, _, _, rfl, ⟨fun _ _ h => h⟩, .cons ⟨b, rfl, i5⟩ .nil, o6⟩ (fun i σ H' hi h => ?_) ?_ ?_
        · obtain ⟨I', _, _, _, _, _, s', _, o'⟩ := h
          exact o'.im _ _ (s'.sub _ _ (s5.sub _ _ (s4.sub _ _ ig.eq)))
        · rintro i v σ H7 hv ⟨I7, dts, v8, v9, v10, rfl, s7, hts, o7⟩
          have hi := (List.getElem?_eq_some_iff.mp hv).1
          obtain ⟨k, hk, tt, l, rfl, it⟩ := Paired.get hp hv
          rw [List.getElem?_range (by omega)] at hk
          cases hk
          haveI : Im I7 tt (.tup [.str (kS i), l]) := ⟨s7.sub _ _ (s5.sub _ _ (s4.sub _ _ (sf.sub _ _ it.eq)))⟩
          walk_at "go"
          refine g_lstI (sz 1) fun vb I8 H8 s8 i8 o8 => ?_
          walk_at "go"
          refine kind_ev (hns n (by simp)) (by omega) fun c I9 H9 s9 i9 o9 => ?_
          walk_at "go"
          have lt : dts.length ≤ 10 := by
            rw [Paired.length hts, List.length_cons]
            unfold kindsO
            rw [List.length_map, List.length_range]
            omega
          refine g_append (szl _ (by omega)) fun H10 o10 => ?_
          walk_at "go"
          refine ⟨I9, _, _, _, _, rfl, Sub.one inferInstance, ?_, o10⟩
          rw [kindsO_succ]
          exact Paired.app (hts.mono inferInstance) (.cons ⟨c, rfl, i9⟩ .nil)
        · rintro σ H7 ⟨I7, dts, v8, v9, v10, rfl, s7, hts, o7⟩
          rw [l1] at hts
          exact fin _ _ ⟨I7, dts, _, _, _, rfl, Sub.one (s4.any.trans (s5.any.trans s7.any)), hts, o7⟩
end
section
variable {K : PySem.W.Frag} [T : TxtK K] [TQ : TxtQ K] {w : World} [TX : TxtX K w] {H : Hp} {Q : VK} {E : XK} {I : Hp} {M F : Cs} {p : HA} {ns : List Int}
theorem paneV_scal : ∀ ns : List Int, scal (paneV ns) (paneV ns) = true
  | [] => rfl
  | _ :: _ => rfl
theorem offN_mem {n m : Int} {ns : List Int} (h : m ∈ offN n ns) : m ∈ ns := (List.mem_filter.mp h).1
theorem offN_len {n : Int} {ns : List Int} : (offN n ns).length ≤ ns.length := List.length_filter_le _ _
theorem law_spec {a : Addr} {sc : List Int} [o : Own I [] H] [c : ImQ K I a (sc.map V.int)] (q : ∀ H', Q (.bl true) H') : p_law K w [.ref a] H Q E := by
  refine i_law ?_
  walk_at "go"
  refine g_make fun h hdx I1 H1 s1 o1 => ?_
  refine Holdings_init_spec (o := o1) fun pa so of ca fe wa na H2 o2 => ⟨rfl, ?_⟩
  walk_at "go"
  refine g_lstM (sz 0) fun lp H3 o3 => ?_
  have o4 := o3.perm (M' := [(na, .lst [])] ++ (hvC K ⟨h, hdx, pa, so, of, ca, fe, wa, na, false⟩ [] ++ [(lp, .lst (([] : List Int).map V.int))])) (by
    unfold hvC
    dsimp only [HA.obj]
    walk_at "prm")
  have o5 := o4.drop
  clear o4 o3 o2 o1
  walk_at "go"
  refine g_rng1 (by split <;> omega) (by split <;> omega) ?_
  walk_at "go"
  refine for_r (fun i σ H' => ∃ I' p lp ns v4 v5 v6 v7 v8 v9 v10, σ = [some (.ref a), some (.ref p.h), some (.ref lp), some (.bl p.hv), v4, v5, v6, v7, v8, v9, v10] ∧ Sub1 I1 I' ∧ ns.length ≤ i ∧ (∀ n ∈ ns, 0 < n ∧ n < 1000) ∧
      Own I' (hvC K p ns ++ [(lp, .lst (ns.map V.int))]) H') ⟨I1, ⟨h, hdx, pa, so, of, ca, fe, wa, na, false⟩, lp, [], _, _, _, _, _, _, _, rfl, ⟨fun _ _ h => h⟩, by simp, (fun n hn => nomatch hn), o5⟩ ?_ ?_
  · clear o5
    rintro i σ H7 hi ⟨I7, p, lp, ns, v4, v5, v6, v7, v8, v9, v10, rfl, s7, hl, hns, o7⟩
    have hi40 : i ≤ 40 := by
      have : ((if ((sc.map V.int).length : Int) < 40 then ((sc.map V.int).length : Int) else 40) + 1).toNat ≤ 41 := by split <;> omega
      omega
    walk_at "go"
    refine law_row_spec (ns := sc) fun row => ?_
    walk_at "go"
    refine g_mod (by decide) ?_
    generalize row % 7 = d
    walk_at "s"
    walk_at "s"
    walk_at "s"
    dsimp only
    refine seq_fin2 (fun σ' H' => H' = H7 ∧ σ' = [some (.ref a), some (.ref p.h), some (.ref lp), some (.bl p.hv), some (.int (0 + (i : Nat))), some (.int row), some (.int d), some (paneV ns), v8, v9, v10]) ?_ fun N fin => ?_
    · rintro σ H8 ⟨rfl, rfl⟩
      walk_at "go"
      refine pane_spec (ns := ns) ?_
      walk_at "go"
      refine g_neV (paneV_scal ns) ?_
      rw [decide_eq_true rfl]
      walk_at "s"
      walk_at "s"
      walk_at "s"
      walk_at "s"
      walk_at "s"
      walk_at "s"
      dsimp only
      refine seq_fin2 (fun σ' H' => ∃ I' p lp ns v4 v5 v6 v7 v9 v10, σ' = [some (.ref a), some (.ref p.h), some (.ref lp), some (.bl p.hv), v4, v5, v6, v7, some (.bl true), v9, v10] ∧ Sub1 I1 I' ∧ ns.length ≤ i + 1 ∧ (∀ n ∈ ns, 0 < n ∧ n < 1000) ∧
        Own I' (hvC K p ns ++ [(lp, .lst (ns.map V.int))]) H') ?_ fun N fin => ?_
      · rintro σ H9 ⟨I9, p, lp, ns, v4, v5, v6, v7, v9, v10, rfl, s9, hl9, hns9, o9⟩
        walk_at "go"
        exact ⟨I9, p, lp, ns, _, _, _, _, _, _, _, rfl, s9, hl9, hns9, o9⟩
      · walk_at "s"
        walk_at "s"
        walk_at "s"
        walk_at "s"
        walk_at "s"
        walk_at "s"
        walk_at "s"
        refine if_dec (fun e => ?_) (fun e => ?_)
        · walk_at "go"
          refine g_append (szl _ (by rw [List.length_map]; omega)) fun H9 o9 => ?_
          walk_at "go"
          refine bound_spec (by omega) fun H10 o10 => ?_
          walk_at "go"
          refine fin _ _ ⟨I7, p, lp, ns ++ [90 - (0 + (i : Int))], _, _, _, _, _, _, rfl, s7, by rw [List.length_append]; simp; omega, fun n hn => ?_, ?_⟩
          · rcases List.mem_append.mp hn with hn | hn
            · exact hns n hn
            · simp at hn
              omega
          · rw [List.map_append]
            exact o10
        refine e_if ?_
        refine t_via (decide (d = 1) && decide ((0 : Int) < ((ns.map V.int).length : Nat))) (fun R rr => ?_) ?_
        · clear fin
          walk_at "go"
          refine if_dec (fun e1 => ?_) (fun e1 => ?_)
          · rw [decide_eq_true e1, Bool.true_and] at rr
            walk_at "go"
            exact rr
          · rw [decide_eq_false e1, Bool.false_and] at rr
            exact rr
        refine if_b (fun hc => ?_) (fun hc => ?_)
        · rw [Bool.and_eq_true] at hc
          have hlen : (0 : Int) < ((ns.map V.int).length : Nat) := of_decide_eq_true hc.2
          walk_at "go"
          refine g_div (cdivB (by omega) (by omega)) ?_
          walk_at "go"
          refine g_mod hlen ?_
          have j0 := Int.emod_nonneg (row / 7) (show (((ns.map V.int).length : Nat) : Int) ≠ 0 by omega)
          have j1 := Int.emod_lt_of_pos (row / 7) hlen
          generalize row / 7 % (((ns.map V.int).length : Nat) : Int) = j at *
          rw [List.length_map] at j1
          have hj : j.toNat < ns.length := by omega
          refine g_ixLn (v := .int ns[j.toNat]) j0 (by rw [List.getElem?_map, List.getElem?_eq_getElem hj]; rfl) ?_
          generalize ns[j.toNat] = gone
          walk_at "go"
          refine lc_m (xs := ns.map V.int) (fun i I' acc => acc = (offN gone (ns.take i)).map V.int) rfl ?_ ?_
          · rintro k x b I9 acc H9 hx s9 hle rfl o9
            rw [List.getElem?_map] at hx
            obtain ⟨m, hm, rfl⟩ := Option.map_eq_some_iff.mp hx
            have hk := (List.getElem?_eq_some_iff.mp hm).1
            walk_at "go"
            refine ⟨rfl, ?_⟩
            walk_at "go"
            refine if_ndec (fun e => ?_) (fun e => ?_)
            · walk_at "go"
              refine g_app s9.any hle (szl _ (by omega)) ?_
              rw [offN_snoc hm, if_neg e, List.map_append]
              rfl
            · refine g_skip s9.any hle ?_
              rw [offN_snoc hm, if_pos e, List.append_nil]
          · rintro b I9 acc H9 s9 hle rfl o9
            rw [List.length_map, List.take_length] at o9
            walk_at "go"
            have o10 := o9.perm (M' := hvC K p ns ++ [(b, .lst ((offN gone ns).map V.int)), (lp, .lst (ns.map V.int))]) (by
              unfold hvC
              walk_at "prm")
            refine ended_spec (o := o10) (by omega) fun p' I11 H11 s11 eh ev o11 => ?_
            walk_at "go"
            have o12 := o11.perm (M' := [(lp, .lst (ns.map V.int))] ++ (hvC K p' (offN gone ns) ++ [(b, .lst ((offN gone ns).map V.int))])) (by
              unfold hvC
              walk_at "prm")
            have ln := offN_len (n := gone) (ns := ns)
            exact fin _ _ ⟨I11, p', b, offN gone ns, _, _, _, _, _, _, by rw [eh, ev]; rfl, Sub.one (s7.any.trans (s9.any.trans s11.any)), by omega, fun n hn => hns n (offN_mem hn), o12.drop⟩
        clear hc
        refine e_if ?_
        refine t_via ((decide (d = 2) || decide (d = 3)) && decide (p.hv = false)) (fun R rr => ?_) ?_
        · clear fin
          walk_at "go"
          refine if_dec (fun e1 => ?_) (fun e1 => ?_)
          · rw [decide_eq_true e1, Bool.true_or, Bool.true_and] at rr
            walk_at "go"
            refine g_isB ?_
            walk_at "go"
            exact rr
          · rw [decide_eq_false e1, Bool.false_or] at rr
            walk_at "go"
            refine if_dec (fun e2 => ?_) (fun e2 => ?_)
            · rw [decide_eq_true e2, Bool.true_and] at rr
              walk_at "go"
              refine g_isB ?_
              walk_at "go"
              exact rr
            · rw [decide_eq_false e2, Bool.false_and] at rr
              exact rr
        refine if_b (fun hc => ?_) (fun hc => ?_)
        · rw [Bool.and_eq_true] at hc
          have hv0 : p.hv = false := of_decide_eq_true hc.2
          walk_at "go"
          refine g_div (cdivB (by omega) (by omega)) ?_
          walk_at "go"
          refine law_hover_spec hns fun I9 H9 s9 o9 => ?_
          walk_at "s"
          walk_at "s"
          walk_at "s"
          walk_at "s"
          cases ns with
          | nil =>
            show rIsNot V.non _ _ _
            walk_at "go"
            exact fin _ _ ⟨I9, _, lp, [], _, _, _, _, _, _, by rw [hv0]; rfl, Sub.one (s7.any.trans s9.any), by simp, hns, o9⟩
          | cons n rs =>
            show rIsNot (V.int n) _ _ _
            walk_at "go"
            exact fin _ _ ⟨I9, _, lp, n :: rs, _, _, _, _, _, _, by rw [hv0]; rfl, Sub.one (s7.any.trans s9.any), by omega, hns, o9⟩
        clear hc
        walk_at "s"
        walk_at "s"
        walk_at "s"
        walk_at "s"
        walk_at "s"
        walk_at "s"
        walk_at "s"
        refine if_dec (fun e4 => ?_) (fun e4 => ?_)
        · walk_at "go"
          refine law_leave_spec hns fun I9 H9 s9 o9 => ?_
          walk_at "go"
          exact fin _ _ ⟨I9, _, lp, ns, _, _, _, _, _, _, rfl, Sub.one (s7.any.trans s9.any), by omega, hns, o9⟩
        walk_at "s"
        walk_at "s"
        walk_at "s"
        walk_at "s"
        walk_at "s"
        walk_at "s"
        walk_at "s"
        refine if_dec (fun e5 => ?_) (fun e5 => ?_)
        · walk_at "go"
          refine dropped_spec fun H9 o9 => ?_
          walk_at "go"
          exact fin _ _ ⟨I7, _, lp, ns, _, _, _, _, _, _, rfl, s7, by omega, hns, o9⟩
        walk_at "go"
        refine g_div (cdivB (by omega) (by omega)) ?_
        walk_at "go"
        refine law_move_spec hns fun I9 H9 s9 o9 => ?_
        walk_at "go"
        exact fin _ _ ⟨I9, p, lp, ns, _, _, _, _, _, _, rfl, Sub.one (s7.any.trans s9.any), by omega, hns, o9⟩
    · cases ns with
      | nil =>
        walk_at "go"
        exact fin _ _ ⟨rfl, rfl⟩
      | cons n rs =>
        walk_at "go"
        rw [decide_eq_true (show (0 : Int) < ((List.map V.int (n :: rs)).length : Nat) by rw [List.length_map, List.length_cons]; omega)]
        walk_at "go"
        exact fin _ _ ⟨rfl, rfl⟩
  · rintro σ H7 _
    obtain ⟨I7, p, lp, ns, v4, v5, v6, v7, v8, v9, v10, rfl, _⟩ := ‹∃ I', _›
    walk_at "go"
    exact q _
end
section
variable {K : PySem.W.Frag} [T : TxtK K] {w : World} [TQ : TxtQ K] [TX : TxtX K w]
theorem law_end {H : Hp} {a : Addr} {ns : List Int} (hl : ns.length ≤ 63) (hO : Only H) (hS : SqL K H a (ns.map V.int)) : p_law K w [.ref a] H (fun v _ => v = .bl true) fun _ _ _ => False := by
  haveI : Own H [] H := ⟨fun _ _ h => h, (fun c hc => nomatch hc), List.nodup_nil, (fun c hc => nomatch hc)⟩
  haveI : ImQ K H a (ns.map V.int) := ⟨hS⟩
  first | exact law_spec (ns := ns) fun _ => rfl | exact law_spec (sc := ns) fun _ => rfl
end
end SW
namespace SW
open PySem L2
def top (i : Nat) : Stmt := PySem.Challenge.pw_sillwatch_k66_drags_told.main.body.getD i (.Pass ⟨0, 0, 0, 0⟩)
abbrev s_Holdings___init__ : Stmt := inClass (top 18) 0
abbrev s_Holdings_pane : Stmt := inClass (top 18) 1
abbrev s_Holdings_bound : Stmt := inClass (top 18) 2
abbrev s_Holdings_ended : Stmt := inClass (top 18) 3
abbrev s_is_integer : Stmt := top 25
abbrev s_is_number : Stmt := top 26
abbrev s_are_octets : Stmt := top 28
abbrev s_is_text : Stmt := top 27
abbrev s_fits_kind : Stmt := top 33
abbrev s_number_octets : Stmt := top 29
abbrev s_padding : Stmt := top 30
abbrev s_sign_code : Stmt := top 31
abbrev s_text_octets : Stmt := top 32
abbrev s_field_octets : Stmt := top 34
abbrev s_encode_message : Stmt := top 39
abbrev s_opcode_of : Stmt := top 42
abbrev s_event_octets : Stmt := top 43
abbrev s_Reply_tell : Stmt := inClass (top 45) 1
abbrev s_Holdings_hovers : Stmt := inClass (top 18) 15
abbrev s_Holdings_moves : Stmt := inClass (top 18) 16
abbrev s_Holdings_leaves : Stmt := inClass (top 18) 17
abbrev s_Holdings_dropped : Stmt := inClass (top 18) 18
abbrev s_Reply___init__ : Stmt := inClass (top 45) 0
abbrev s__law_cell : Stmt := top 47
abbrev s__law_row : Stmt := top 48
abbrev s__law_hover : Stmt := top 49
abbrev s__law_move : Stmt := top 50
abbrev s__law_leave : Stmt := top 51
abbrev s_law : Stmt := top 52
structure Dfs (K : PySem.W.Frag) : Prop where
  d_Holdings___init__ : FnP K ("Holdings", some "__init__") "__init__" "Holdings.__init__" s_Holdings___init__
  d_Holdings_pane : FnP K ("Holdings", some "pane") "pane" "Holdings.pane" s_Holdings_pane
  d_Holdings_bound : FnP K ("Holdings", some "bound") "bound" "Holdings.bound" s_Holdings_bound
  d_Holdings_ended : FnP K ("Holdings", some "ended") "ended" "Holdings.ended" s_Holdings_ended
  d_is_integer : FnP K ("is_integer", none) "is_integer" "is_integer" s_is_integer
  d_is_number : FnP K ("is_number", none) "is_number" "is_number" s_is_number
  d_are_octets : FnP K ("are_octets", none) "are_octets" "are_octets" s_are_octets
  d_is_text : FnP K ("is_text", none) "is_text" "is_text" s_is_text
  d_fits_kind : FnP K ("fits_kind", none) "fits_kind" "fits_kind" s_fits_kind
  d_number_octets : FnP K ("number_octets", none) "number_octets" "number_octets" s_number_octets
  d_padding : FnP K ("padding", none) "padding" "padding" s_padding
  d_sign_code : FnP K ("sign_code", none) "sign_code" "sign_code" s_sign_code
  d_text_octets : FnP K ("text_octets", none) "text_octets" "text_octets" s_text_octets
  d_field_octets : FnP K ("field_octets", none) "field_octets" "field_octets" s_field_octets
  d_encode_message : FnP K ("encode_message", none) "encode_message" "encode_message" s_encode_message
  d_opcode_of : FnP K ("opcode_of", none) "opcode_of" "opcode_of" s_opcode_of
  d_event_octets : FnP K ("event_octets", none) "event_octets" "event_octets" s_event_octets
  d_Reply_tell : FnP K ("Reply", some "tell") "tell" "Reply.tell" s_Reply_tell
  d_Holdings_hovers : FnP K ("Holdings", some "hovers") "hovers" "Holdings.hovers" s_Holdings_hovers
  d_Holdings_moves : FnP K ("Holdings", some "moves") "moves" "Holdings.moves" s_Holdings_moves
  d_Holdings_leaves : FnP K ("Holdings", some "leaves") "leaves" "Holdings.leaves" s_Holdings_leaves
  d_Holdings_dropped : FnP K ("Holdings", some "dropped") "dropped" "Holdings.dropped" s_Holdings_dropped
  d_Reply___init__ : FnP K ("Reply", some "__init__") "__init__" "Reply.__init__" s_Reply___init__
  d__law_cell : FnP K ("_law_cell", none) "_law_cell" "_law_cell" s__law_cell
  d__law_row : FnP K ("_law_row", none) "_law_row" "_law_row" s__law_row
  d__law_hover : FnP K ("_law_hover", none) "_law_hover" "_law_hover" s__law_hover
  d__law_move : FnP K ("_law_move", none) "_law_move" "_law_move" s__law_move
  d__law_leave : FnP K ("_law_leave", none) "_law_leave" "_law_leave" s__law_leave
  d_law : FnP K ("law", none) "law" "law" s_law
section
variable {P : Program} {w : World} {K : PySem.W.Frag} {mg : Str → Option Value} {base : Heap}
theorem sc_Holdings___init__ : FnScope N_Holdings___init__ ["self"] (defScope s_Holdings___init__) := ⟨rfl, rfl, rfl, by decide +kernel, rfl, by decide +kernel, by decide +kernel⟩
theorem ok_Holdings___init__ (T : Txt K mg w) (D : Dfs K) : OkD P w K mg base CX0 1 ("Holdings", some "__init__") ["self"] (p_Holdings___init__ K w) :=
  ok0 D.d_Holdings___init__ sc_Holdings___init__ (fun _ _ _ _ _ _ us hl => match us, hl with | [_], _ => rfl) fun f cdv A outer s H E hr =>
    pss_cons (ps_fld (pv 0) (pe_lst (pa_nil)) rfl) (pss_cons (ps_fld (pv 0) (pe_lst (pa_nil)) rfl) (pss_cons (ps_fld (pv 0) (pe_lst (pa_nil)) rfl) (pss_cons (ps_fld (pv 0) (pe_lst (pa_nil)) rfl) (pss_cons (ps_fld (pv 0) (pe_lst (pa_nil)) rfl) (pss_cons (ps_fld (pv 0) (pe_lst (pa_nil)) rfl) (pss_cons (ps_fld (pv 0) (pe_lst (pa_nil)) rfl) (pss_one (ps_fld (pv 0) (pe_bl) rfl))))))))
theorem sc_Holdings_pane : FnScope N_Holdings_pane ["self"] (defScope s_Holdings_pane) := ⟨rfl, rfl, rfl, by decide +kernel, rfl, by decide +kernel, by decide +kernel⟩
theorem ok_Holdings_pane (T : Txt K mg w) (D : Dfs K) : OkD P w K mg base CX0 1 ("Holdings", some "pane") ["self"] (p_Holdings_pane K w) :=
  ok0 D.d_Holdings_pane sc_Holdings_pane (fun _ _ _ _ _ _ us hl => match us, hl with | [_], _ => rfl) fun f cdv A outer s H E hr =>
    pss_cons (ps_if (t_tru (pe_fld (pv 0) rfl)) (pss_one (ps_ret (pe_ix x_any (pe_fld (pv 0) rfl) (pe_int) (fun _ _ => rfl)))) (pss_nil)) (pss_one (ps_ret (pe_non)))
theorem sc_Holdings_bound : FnScope N_Holdings_bound ["self", "number"] (defScope s_Holdings_bound) := ⟨rfl, rfl, rfl, by decide +kernel, rfl, by decide +kernel, by decide +kernel⟩
theorem ok_Holdings_bound (T : Txt K mg w) (D : Dfs K) : OkD P w K mg base CX0 1 ("Holdings", some "bound") ["self", "number"] (p_Holdings_bound K w) :=
  ok0 D.d_Holdings_bound sc_Holdings_bound (fun _ _ _ _ _ _ us hl => match us, hl with | [_, _], _ => rfl) fun f cdv A outer s H E hr =>
    pss_one (ps_expr (pe_bm PySem.F.plainAttrs_list PySem.F.slot_list_append PySem.F.type_list_append mt_append (pe_fld (pv 0) rfl) (pa_cons (pv 1) (pa_nil))))
theorem sc_Holdings_ended : FnScope N_Holdings_ended ["self", "number"] (defScope s_Holdings_ended) := ⟨rfl, rfl, rfl, by decide +kernel, rfl, by decide +kernel, by decide +kernel⟩
theorem ok_Holdings_ended (T : Txt K mg w) (D : Dfs K) : OkD P w K mg base CX0 1 ("Holdings", some "ended") ["self", "number"] (p_Holdings_ended K w) :=
  ok0 D.d_Holdings_ended sc_Holdings_ended (fun _ _ _ _ _ _ us hl => match us, hl with | [_, _], _ => rfl) fun f cdv A outer s H E hr =>
    pss_cons (ps_fld (pv 0) (pe_lc (own := [("pane", 2)]) rfl sc_Holdings_ended.nd (pi_seq (pe_fld (pv 0) rfl)) (blkOk_by (own := [("pane", 2)]) (N := N_Holdings_ended) (sc := defScope s_Holdings_ended) (by decide +kernel)) (fun _ _ _ _ _ => pg_name (i := 2) sc_Holdings_ended.nd rfl (Or.inl rfl)) (fun _ _ _ _ _ => pts_one (pt_cmpR (o_ne hr.units) (pv 2) (pv 1) (nomark _))) (fun _ _ _ _ _ => pv 2)) rfl) (pss_cons (ps_fld (pv 0) (pe_lc (own := [("thing", 3)]) rfl sc_Holdings_ended.nd (pi_seq (pe_fld (pv 0) rfl)) (blkOk_by (own := [("thing", 3)]) (N := N_Holdings_ended) (sc := defScope s_Holdings_ended) (by decide +kernel)) (fun _ _ _ _ _ => pg_name (i := 3) sc_Holdings_ended.nd rfl (Or.inl rfl)) (fun _ _ _ _ _ => pts_one (pt_cmpR (o_ne hr.units) (pe_fld (pv 3) rfl) (pv 1) (nomark _))) (fun _ _ _ _ _ => pv 3)) rfl) (pss_cons (ps_fld (pv 0) (pe_lc (own := [("thing", 3)]) rfl sc_Holdings_ended.nd (pi_seq (pe_fld (pv 0) rfl)) (blkOk_by (own := [("thing", 3)]) (N := N_Holdings_ended) (sc := defScope s_Holdings_ended) (by decide +kernel)) (fun _ _ _ _ _ => pg_name (i := 3) sc_Holdings_ended.nd rfl (Or.inl rfl)) (fun _ _ _ _ _ => pts_one (pt_cmpR (o_ne hr.units) (pe_fld (pv 3) rfl) (pv 1) (nomark _))) (fun _ _ _ _ _ => pv 3)) rfl) (pss_cons (ps_fld (pv 0) (pe_lc (own := [("thing", 3)]) rfl sc_Holdings_ended.nd (pi_seq (pe_fld (pv 0) rfl)) (blkOk_by (own := [("thing", 3)]) (N := N_Holdings_ended) (sc := defScope s_Holdings_ended) (by decide +kernel)) (fun _ _ _ _ _ => pg_name (i := 3) sc_Holdings_ended.nd rfl (Or.inl rfl)) (fun _ _ _ _ _ => pts_one (pt_cmpR (o_ne hr.units) (pe_fld (pv 3) rfl) (pv 1) (nomark _))) (fun _ _ _ _ _ => pv 3)) rfl) (pss_cons (ps_fld (pv 0) (pe_lc (own := [("thing", 3)]) rfl sc_Holdings_ended.nd (pi_seq (pe_fld (pv 0) rfl)) (blkOk_by (own := [("thing", 3)]) (N := N_Holdings_ended) (sc := defScope s_Holdings_ended) (by decide +kernel)) (fun _ _ _ _ _ => pg_name (i := 3) sc_Holdings_ended.nd rfl (Or.inl rfl)) (fun _ _ _ _ _ => pts_one (pt_cmpR (o_ne hr.units) (pe_fld (pv 3) rfl) (pv 1) (nomark _))) (fun _ _ _ _ _ => pv 3)) rfl) (pss_one (ps_fld (pv 0) (pe_lc (own := [("thing", 3)]) rfl sc_Holdings_ended.nd (pi_seq (pe_fld (pv 0) rfl)) (blkOk_by (own := [("thing", 3)]) (N := N_Holdings_ended) (sc := defScope s_Holdings_ended) (by decide +kernel)) (fun _ _ _ _ _ => pg_name (i := 3) sc_Holdings_ended.nd rfl (Or.inl rfl)) (fun _ _ _ _ _ => pts_one (pt_cmpR (o_ne hr.units) (pe_fld (pv 3) rfl) (pv 1) (nomark _))) (fun _ _ _ _ _ => pv 3)) rfl))))))
theorem sc_is_integer : FnScope N_is_integer ["value"] (defScope s_is_integer) := ⟨rfl, rfl, rfl, by decide +kernel, rfl, by decide +kernel, by decide +kernel⟩
theorem ok_is_integer (T : Txt K mg w) (D : Dfs K) : OkD P w K mg base CX0 1 ("is_integer", none) ["value"] (p_is_integer K w) :=
  ok0 D.d_is_integer sc_is_integer (fun _ _ _ _ _ _ us hl => match us, hl with | [_], _ => rfl) fun f cdv A outer s H E hr =>
    pss_one (ps_ret (pe_and (pe_callB call_isi (by rfl) T.n_isinstance (by decide +kernel) (pa_cons (pv 0) (pa_cons (pe_bltn (v := .ty "int") (by rfl) T.n_int (by decide +kernel) rfl) pa_nil))) (pe_one (pe_not (pe_callB call_isi (by rfl) T.n_isinstance (by decide +kernel) (pa_cons (pv 0) (pa_cons (pe_bltn (v := .ty "bool") (by rfl) T.n_bool (by decide +kernel) rfl) pa_nil)))))))
theorem sc_is_number : FnScope N_is_number ["value"] (defScope s_is_number) := ⟨rfl, rfl, rfl, by decide +kernel, rfl, by decide +kernel, by decide +kernel⟩
theorem ok_is_number (T : Txt K mg w) (D : Dfs K) : OkD P w K mg base CX0 2 ("is_number", none) ["value"] (p_is_number K w) :=
  ok0 D.d_is_number sc_is_number (fun _ _ _ _ _ _ us hl => match us, hl with | [_], _ => rfl) fun f cdv A outer s H E hr =>
    pss_one (ps_ret (pe_and (pe_fn (ok_is_integer T D) hr (by decide) T.g_is_integer pass0 (pa_cons (pv 0) (pa_nil))) (pe_one (pe_chain o_le o_lt (pe_int) (pv 0) (pe_glob rfl T.i_NUMBER_LIMIT.choose_spec ⟨_, rfl⟩)))))
theorem sc_are_octets : FnScope N_are_octets ["value"] (defScope s_are_octets) := ⟨rfl, rfl, rfl, by decide +kernel, rfl, by decide +kernel, by decide +kernel⟩
theorem ok_are_octets (T : Txt K mg w) (D : Dfs K) : OkD P w K mg base CX0 2 ("are_octets", none) ["value"] (p_are_octets K w) :=
  ok0 D.d_are_octets sc_are_octets (fun _ _ _ _ _ _ us hl => match us, hl with | [_], _ => rfl) fun f cdv A outer s H E hr =>
    pss_cons (ps_if (PW.pt (pw_or (pt_not (t_tru (pe_callB call_isi (by rfl) T.n_isinstance (by decide +kernel) (pa_cons (pv 0) (pa_cons (pe_bltn (v := .ty "list") (by rfl) T.n_list (by decide +kernel) rfl) pa_nil))))) (pw_or1 (pt_cmpR o_gt (pe_callB c_len (by rfl) T.n_len (by decide +kernel) (pa_cons (pv 0) (pa_nil))) (pe_glob rfl T.i_OCTETS_MOST.choose_spec ⟨_, rfl⟩) (nomark _))))) (pss_one (ps_ret (pe_bl))) (pss_nil)) (pss_one (ps_ret (pe_callB (cr_all rfl) (by rfl) T.n_all (by decide +kernel) (pa_cons (pe_lc (own := [("octet", 1)]) rfl sc_are_octets.nd (pi_seq (pv 0)) (blkOk_by (own := [("octet", 1)]) (N := N_are_octets) (sc := defScope s_are_octets) (by decide +kernel)) (fun _ _ _ _ _ => pg_name (i := 1) sc_are_octets.nd rfl (Or.inl rfl)) (fun _ _ _ _ _ => pts_nil) (fun _ _ _ _ _ => pe_and (pe_fn (ok_is_integer T D) hr (by decide) T.g_is_integer pass0 (pa_cons (pv 1) (pa_nil))) (pe_one (pe_chain o_le o_le (pe_int) (pv 1) (pe_int))))) (pa_nil)))))
theorem sc_is_text : FnScope N_is_text ["value"] (defScope s_is_text) := ⟨rfl, rfl, rfl, by decide +kernel, rfl, by decide +kernel, by decide +kernel⟩
theorem ok_is_text (T : Txt K mg w) (D : Dfs K) : OkD P w K mg base CX0 1 ("is_text", none) ["value"] (p_is_text K w) :=
  ok0 D.d_is_text sc_is_text (fun _ _ _ _ _ _ us hl => match us, hl with | [_], _ => rfl) fun f cdv A outer s H E hr =>
    pss_one (ps_ret (pe_and (pe_cmpR o_le (pe_callB c_len (by rfl) T.n_len (by decide +kernel) (pa_cons (pv 0) (pa_nil))) (pe_glob rfl T.i_TEXT_MOST.choose_spec ⟨_, rfl⟩) (nomark _)) (pe_one (pe_callB (cr_all rfl) (by rfl) T.n_all (by decide +kernel) (pa_cons (pe_lc (own := [("sign", 1)]) rfl sc_is_text.nd (pi_seq (pv 0)) (blkOk_by (own := [("sign", 1)]) (N := N_is_text) (sc := defScope s_is_text) (by decide +kernel)) (fun _ _ _ _ _ => pg_name (i := 1) sc_is_text.nd rfl (Or.inl rfl)) (fun _ _ _ _ _ => pts_nil) (fun _ _ _ _ _ => pe_cmpR o_in (pv 1) (pe_glob rfl T.s_SIGNS.choose_spec ⟨_, rfl⟩) (by rfl))) (pa_nil))))))
theorem sc_fits_kind : FnScope N_fits_kind ["kind", "value"] (defScope s_fits_kind) := ⟨rfl, rfl, rfl, by decide +kernel, rfl, by decide +kernel, by decide +kernel⟩
theorem ok_fits_kind (T : Txt K mg w) (D : Dfs K) : OkD P w K mg base CX0 3 ("fits_kind", none) ["kind", "value"] (p_fits_kind K w) :=
  ok0 D.d_fits_kind sc_fits_kind (fun _ _ _ _ _ _ us hl => match us, hl with | [_, _], _ => rfl) fun f cdv A outer s H E hr =>
    pss_cons (ps_if (PW.pt (pw_or (pt_cmpR (o_eq hr.units) (pv 0) (pe_str) (nomark _)) (pw_or1 (pt_cmpR (o_eq hr.units) (pv 0) (pe_str) (nomark _))))) (pss_one (ps_ret (pe_fn (ok_is_number T D) hr (by decide) T.g_is_number pass0 (pa_cons (pv 1) (pa_nil))))) (pss_nil)) (pss_cons (ps_if (PW.pt (pw_or (pt_cmpR (o_eq hr.units) (pv 0) (pe_str) (nomark _)) (pw_or1 (pt_cmpR (o_eq hr.units) (pv 0) (pe_str) (nomark _))))) (pss_one (ps_ret (pe_and (pe_fn (ok_is_number T D) hr (by decide) T.g_is_number pass0 (pa_cons (pv 1) (pa_nil))) (pe_one (pe_cmpR o_gt (pv 1) (pe_int) (nomark _)))))) (pss_nil)) (pss_cons (ps_if (pt_cmpR (o_eq hr.units) (pv 0) (pe_str) (nomark _)) (pss_one (ps_ret (pe_and (pe_fn (ok_is_integer T D) hr (by decide) T.g_is_integer pass0 (pa_cons (pv 1) (pa_nil))) (pe_one (pe_chain o_le o_lt (pe_op o_div (pe_un u_neg (pe_glob rfl T.i_NUMBER_LIMIT.choose_spec ⟨_, rfl⟩)) (pe_int)) (pv 1) (pe_op o_div (pe_glob rfl T.i_NUMBER_LIMIT.choose_spec ⟨_, rfl⟩) (pe_int))))))) (pss_nil)) (pss_cons (ps_if (pt_cmpR (o_eq hr.units) (pv 0) (pe_str) (nomark _)) (pss_one (ps_ret (pe_and (pe_callB call_isi (by rfl) T.n_isinstance (by decide +kernel) (pa_cons (pv 1) (pa_cons (pe_bltn (v := .ty "str") (by rfl) T.n_str (by decide +kernel) rfl) pa_nil))) (pe_one (pe_fn (ok_is_text T D) hr (by decide) T.g_is_text pass0 (pa_cons (pv 1) (pa_nil))))))) (pss_nil)) (pss_cons (ps_if (pt_cmpR (o_eq hr.units) (pv 0) (pe_str) (nomark _)) (pss_one (ps_ret (pe_fn (ok_are_octets T D) hr (by decide) T.g_are_octets pass0 (pa_cons (pv 1) (pa_nil))))) (pss_nil)) (pss_cons (ps_if (PW.pt (pw_or (pt_not (t_tru (pe_callB call_isi (by rfl) T.n_isinstance (by decide +kernel) (pa_cons (pv 1) (pa_cons (pe_bltn (v := .ty "tuple") (by rfl) T.n_tuple (by decide +kernel) rfl) pa_nil))))) (pw_or1 (pt_cmpR (o_ne hr.units) (pe_callB c_len (by rfl) T.n_len (by decide +kernel) (pa_cons (pv 1) (pa_nil))) (pe_int) (nomark _))))) (pss_one (ps_ret (pe_bl))) (pss_nil)) (pss_one (ps_ret (pe_and (pe_callB call_isi (by rfl) T.n_isinstance (by decide +kernel) (pa_cons (pe_ix x_any (pv 1) (pe_int) (fun _ _ => rfl)) (pa_cons (pe_bltn (v := .ty "str") (by rfl) T.n_str (by decide +kernel) rfl) pa_nil))) (pe_and (pe_fn (ok_is_text T D) hr (by decide) T.g_is_text pass0 (pa_cons (pe_ix x_any (pv 1) (pe_int) (fun _ _ => rfl)) (pa_nil))) (pe_and (pe_fn (ok_is_number T D) hr (by decide) T.g_is_number pass0 (pa_cons (pe_ix x_any (pv 1) (pe_int) (fun _ _ => rfl)) (pa_nil))) (pe_one (pe_cmpR o_gt (pe_ix x_any (pv 1) (pe_int) (fun _ _ => rfl)) (pe_int) (nomark _)))))))))))))
theorem sc_number_octets : FnScope N_number_octets ["value", "count"] (defScope s_number_octets) := ⟨rfl, rfl, rfl, by decide +kernel, rfl, by decide +kernel, by decide +kernel⟩
theorem ok_number_octets (T : Txt K mg w) (D : Dfs K) : OkD P w K mg base CX0 1 ("number_octets", none) ["value", "count"] (p_number_octets K w) :=
  ok0 D.d_number_octets sc_number_octets (fun _ _ _ _ _ _ us hl => match us, hl with | [_, _], _ => rfl) fun f cdv A outer s H E hr =>
    pss_cons (ps_set (i := 2) sc_number_octets.nd rfl (Or.inl rfl) (pe_lst (pa_nil))) (pss_cons (ps_for PassesOwn.never rfl (pi_range1 (by rfl) T.n_range (pa_cons (pv 1) (pa_nil))) (pg_name (i := 3) sc_number_octets.nd rfl (Or.inl rfl)) (pss_cons (ps_expr (pe_bm PySem.F.plainAttrs_list PySem.F.slot_list_append PySem.F.type_list_append mt_append (pv 2) (pa_cons (pe_op o_mod (pv 0) (pe_int)) (pa_nil)))) (pss_one (ps_set (i := 0) sc_number_octets.nd rfl (Or.inl rfl) (pe_op o_div (pv 0) (pe_int)))))) (pss_one (ps_ret (pv 2))))
theorem sc_padding : FnScope N_padding ["count"] (defScope s_padding) := ⟨rfl, rfl, rfl, by decide +kernel, rfl, by decide +kernel, by decide +kernel⟩
theorem ok_padding (T : Txt K mg w) (D : Dfs K) : OkD P w K mg base CX0 1 ("padding", none) ["count"] (p_padding K w) :=
  ok0 D.d_padding sc_padding (fun _ _ _ _ _ _ us hl => match us, hl with | [_], _ => rfl) fun f cdv A outer s H E hr =>
    pss_one (ps_ret (pe_op o_mod (pe_op o_sub (pe_int) (pe_op o_mod (pv 0) (pe_int))) (pe_int)))
theorem sc_sign_code : FnScope N_sign_code ["sign"] (defScope s_sign_code) := ⟨rfl, rfl, rfl, by decide +kernel, rfl, by decide +kernel, by decide +kernel⟩
theorem ok_sign_code (T : Txt K mg w) (D : Dfs K) : OkD P w K mg base CX0 1 ("sign_code", none) ["sign"] (p_sign_code K w) :=
  ok0 D.d_sign_code sc_sign_code (fun _ _ _ _ _ _ us hl => match us, hl with | [_], _ => rfl) fun f cdv A outer s H E hr =>
    pss_one (ps_ret (pe_callB c_ord (by rfl) T.n_ord (by decide +kernel) (pa_cons (pv 0) (pa_nil))))
theorem sc_text_octets : FnScope N_text_octets ["value"] (defScope s_text_octets) := ⟨rfl, rfl, rfl, by decide +kernel, rfl, by decide +kernel, by decide +kernel⟩
theorem ok_text_octets (T : Txt K mg w) (D : Dfs K) : OkD P w K mg base CX0 2 ("text_octets", none) ["value"] (p_text_octets K w) :=
  ok0 D.d_text_octets sc_text_octets (fun _ _ _ _ _ _ us hl => match us, hl with | [_], _ => rfl) fun f cdv A outer s H E hr =>
    pss_cons (ps_set (i := 1) sc_text_octets.nd rfl (Or.inl rfl) (pe_op o_add (pe_op o_add (pe_fn (ok_number_octets T D) hr (by decide) T.g_number_octets pass0 (pa_cons (pe_op o_add (pe_callB c_len (by rfl) T.n_len (by decide +kernel) (pa_cons (pv 0) (pa_nil))) (pe_int)) (pa_cons (pe_int) (pa_nil)))) (pe_lc (own := [("sign", 2)]) rfl sc_text_octets.nd (pi_seq (pv 0)) (blkOk_by (own := [("sign", 2)]) (N := N_text_octets) (sc := defScope s_text_octets) (by decide +kernel)) (fun _ _ _ _ _ => pg_name (i := 2) sc_text_octets.nd rfl (Or.inl rfl)) (fun _ _ _ _ _ => pts_nil) (fun _ _ _ _ _ => pe_fn (ok_sign_code T D) hr (by decide) T.g_sign_code pass0 (pa_cons (pv 2) (pa_nil))))) (pe_lst (pa_cons (pe_int) (pa_nil))))) (pss_one (ps_ret (pe_op o_add (pv 1) (pe_op o_mul (pe_lst (pa_cons (pe_int) (pa_nil))) (pe_fn (ok_padding T D) hr (by decide) T.g_padding pass0 (pa_cons (pe_op o_add (pe_callB c_len (by rfl) T.n_len (by decide +kernel) (pa_cons (pv 0) (pa_nil))) (pe_int)) (pa_nil)))))))
theorem sc_field_octets : FnScope N_field_octets ["kind", "value"] (defScope s_field_octets) := ⟨rfl, rfl, rfl, by decide +kernel, rfl, by decide +kernel, by decide +kernel⟩
theorem ok_field_octets (T : Txt K mg w) (D : Dfs K) : OkD P w K mg base CX0 4 ("field_octets", none) ["kind", "value"] (p_field_octets K w) :=
  ok0 D.d_field_octets sc_field_octets (fun _ _ _ _ _ _ us hl => match us, hl with | [_, _], _ => rfl) fun f cdv A outer s H E hr =>
    pss_cons (ps_if (PW.pt (pw_or (pt_cmpR o_notin (pv 0) (pe_glob rfl T.g_KINDS rfl) (by rfl)) (pw_or1 (pt_not (t_tru (pe_fn (ok_fits_kind T D) hr (by decide) T.g_fits_kind pass0 (pa_cons (pv 0) (pa_cons (pv 1) (pa_nil))))))))) (pss_never) (pss_nil)) (pss_cons (ps_if (pt_cmpR (o_eq hr.units) (pv 0) (pe_str) (nomark _)) (pss_one (ps_ret (pe_fn (ok_text_octets T D) hr (by decide) T.g_text_octets pass0 (pa_cons (pv 1) (pa_nil))))) (pss_nil)) (pss_cons (ps_if (pt_cmpR (o_eq hr.units) (pv 0) (pe_str) (nomark _)) (pss_one (ps_ret (pe_op o_add (pe_op o_add (pe_fn (ok_number_octets T D) hr (by decide) T.g_number_octets pass0 (pa_cons (pe_callB c_len (by rfl) T.n_len (by decide +kernel) (pa_cons (pv 1) (pa_nil))) (pa_cons (pe_int) (pa_nil)))) (pv 1)) (pe_op o_mul (pe_lst (pa_cons (pe_int) (pa_nil))) (pe_fn (ok_padding T D) hr (by decide) T.g_padding pass0 (pa_cons (pe_callB c_len (by rfl) T.n_len (by decide +kernel) (pa_cons (pv 1) (pa_nil))) (pa_nil))))))) (pss_nil)) (pss_cons (ps_if (pt_cmpR (o_eq hr.units) (pv 0) (pe_str) (nomark _)) (pss_one (ps_ret (pe_op o_add (pe_fn (ok_text_octets T D) hr (by decide) T.g_text_octets pass0 (pa_cons (pe_ix x_any (pv 1) (pe_int) (fun _ _ => rfl)) (pa_nil))) (pe_fn (ok_number_octets T D) hr (by decide) T.g_number_octets pass0 (pa_cons (pe_ix x_any (pv 1) (pe_int) (fun _ _ => rfl)) (pa_cons (pe_int) (pa_nil))))))) (pss_nil)) (pss_cons (ps_if (PW.pt (pw_and (pt_cmpR (o_eq hr.units) (pv 0) (pe_str) (nomark _)) (pw_and1 (pt_cmpR o_lt (pv 1) (pe_int) (nomark _))))) (pss_one (ps_ret (pe_fn (ok_number_octets T D) hr (by decide) T.g_number_octets pass0 (pa_cons (pe_op o_add (pv 1) (pe_glob rfl T.i_NUMBER_LIMIT.choose_spec ⟨_, rfl⟩)) (pa_cons (pe_int) (pa_nil)))))) (pss_nil)) (pss_one (ps_ret (pe_fn (ok_number_octets T D) hr (by decide) T.g_number_octets pass0 (pa_cons (pv 1) (pa_cons (pe_int) (pa_nil))))))))))
theorem sc_encode_message : FnScope N_encode_message ["number", "opcode", "arguments"] (defScope s_encode_message) := ⟨rfl, rfl, rfl, by decide +kernel, rfl, by decide +kernel, by decide +kernel⟩
theorem ok_encode_message (T : Txt K mg w) (D : Dfs K) : OkD P w K mg base CX0 5 ("encode_message", none) ["number", "opcode", "arguments"] (p_encode_message K w) :=
  ok0 D.d_encode_message sc_encode_message (fun _ _ _ _ _ _ us hl => match us, hl with | [_, _, _], _ => rfl) fun f cdv A outer s H E hr =>
    pss_cons (ps_if (PW.pt (pw_or (pt_not (t_tru (pe_fn (ok_is_number T D) hr (by decide) T.g_is_number pass0 (pa_cons (pv 0) (pa_nil))))) (pw_or (pt_cmpR (o_eq hr.units) (pv 0) (pe_int) (nomark _)) (pw_or (pt_not (t_tru (pe_fn (ok_is_number T D) hr (by decide) T.g_is_number pass0 (pa_cons (pv 1) (pa_nil))))) (pw_or1 (pt_cmpR o_gt (pv 1) (pe_int) (nomark _))))))) (pss_never) (pss_nil)) (pss_cons (ps_if (pt_cmpR o_gt (pe_callB c_len (by rfl) T.n_len (by decide +kernel) (pa_cons (pv 2) (pa_nil))) (pe_glob rfl T.i_ARGUMENTS_MOST.choose_spec ⟨_, rfl⟩) (nomark _)) (pss_never) (pss_nil)) (pss_cons (ps_set (i := 3) sc_encode_message.nd rfl (Or.inl rfl) (pe_lst (pa_nil))) (pss_cons (ps_for PassesOwn.never rfl (pi_seq (pv 2)) (pg_unp rfl (pgs_cons (pg_name (i := 4) sc_encode_message.nd rfl (Or.inl rfl)) (pgs_cons (pg_name (i := 5) sc_encode_message.nd rfl (Or.inl rfl)) (pgs_nil)))) (pss_one (ps_expr (pe_bm PySem.F.plainAttrs_list PySem.F.slot_list_extend PySem.F.type_list_extend mt_extend (pv 3) (pa_cons (pe_fn (ok_field_octets T D) hr (by decide) T.g_field_octets pass0 (pa_cons (pv 4) (pa_cons (pv 5) (pa_nil)))) (pa_nil)))))) (pss_cons (ps_if (pt_cmpR o_gt (pe_op o_add (pe_callB c_len (by rfl) T.n_len (by decide +kernel) (pa_cons (pv 3) (pa_nil))) (pe_glob rfl T.i_HEADER.choose_spec ⟨_, rfl⟩)) (pe_glob rfl T.i_SIZE_MOST.choose_spec ⟨_, rfl⟩) (nomark _)) (pss_never) (pss_nil)) (pss_one (ps_ret (pe_op o_add (pe_op o_add (pe_op o_add (pe_fn (ok_number_octets T D) hr (by decide) T.g_number_octets pass0 (pa_cons (pv 0) (pa_cons (pe_int) (pa_nil)))) (pe_fn (ok_number_octets T D) hr (by decide) T.g_number_octets pass0 (pa_cons (pv 1) (pa_cons (pe_int) (pa_nil))))) (pe_fn (ok_number_octets T D) hr (by decide) T.g_number_octets pass0 (pa_cons (pe_op o_add (pe_callB c_len (by rfl) T.n_len (by decide +kernel) (pa_cons (pv 3) (pa_nil))) (pe_glob rfl T.i_HEADER.choose_spec ⟨_, rfl⟩)) (pa_cons (pe_int) (pa_nil))))) (pv 3))))))))
theorem sc_opcode_of : FnScope N_opcode_of ["rows", "name"] (defScope s_opcode_of) := ⟨rfl, rfl, rfl, by decide +kernel, rfl, by decide +kernel, by decide +kernel⟩
theorem ok_opcode_of (T : Txt K mg w) (D : Dfs K) : OkD P w K mg base CX0 1 ("opcode_of", none) ["rows", "name"] (p_opcode_of K w) :=
  ok0 D.d_opcode_of sc_opcode_of (fun _ _ _ _ _ _ us hl => match us, hl with | [_, _], _ => rfl) fun f cdv A outer s H E hr =>
    pss_cons (ps_for PassesOwn.never rfl (pi_enumA (by rfl) T.n_enumerate (pa_cons (pv 0) (pa_nil))) (pg_unp rfl (pgs_cons (pg_name (i := 2) sc_opcode_of.nd rfl (Or.inl rfl)) (pgs_cons (pg_name (i := 3) sc_opcode_of.nd rfl (Or.inl rfl)) (pgs_nil)))) (pss_one (ps_if (pt_cmpR (o_eq hr.units) (pe_ix x_any (pv 3) (pe_int) (fun _ _ => rfl)) (pv 1) (nomark _)) (pss_one (ps_ret (pv 2))) (pss_nil)))) (pss_one (ps_ret (pe_callB c_len (by rfl) T.n_len (by decide +kernel) (pa_cons (pv 0) (pa_nil)))))
theorem sc_event_octets : FnScope N_event_octets ["number", "interface", "name", "values"] (defScope s_event_octets) := ⟨rfl, rfl, rfl, by decide +kernel, rfl, by decide +kernel, by decide +kernel⟩
theorem ok_event_octets (T : Txt K mg w) (D : Dfs K) : OkD P w K mg base CX0 6 ("event_octets", none) ["number", "interface", "name", "values"] (p_event_octets K w) :=
  ok0 D.d_event_octets sc_event_octets (fun _ _ _ _ _ _ us hl => match us, hl with | [_, _, _, _], _ => rfl) fun f cdv A outer s H E hr =>
    pss_cons (ps_set (i := 4) sc_event_octets.nd rfl (Or.inl rfl) (pe_fn (ok_opcode_of T D) hr (by decide) T.g_opcode_of pass0 (pa_cons (pe_ix x_any (pe_glob rfl T.g_EVENTS rfl) (pv 1) (fun _ _ => rfl)) (pa_cons (pv 2) (pa_nil))))) (pss_cons (ps_set (i := 5) sc_event_octets.nd rfl (Or.inl rfl) (pe_ix x_any (pe_ix x_any (pe_ix x_any (pe_glob rfl T.g_EVENTS rfl) (pv 1) (fun _ _ => rfl)) (pv 4) (fun _ _ => rfl)) (pe_int) (fun _ _ => rfl))) (pss_one (ps_ret (pe_fn (ok_encode_message T D) hr (by decide) T.g_encode_message pass0 (pa_cons (pv 0) (pa_cons (pv 4) (pa_cons (pe_listzip T.n_list T.n_zip (pa_cons (pv 5) (pa_cons (pv 3) (pa_nil))) rfl) (pa_nil))))))))
theorem sc_Reply_tell : FnScope N_Reply_tell ["self", "number", "interface", "name", "values"] (defScope s_Reply_tell) := ⟨rfl, rfl, rfl, by decide +kernel, rfl, by decide +kernel, by decide +kernel⟩
theorem ok_Reply_tell (T : Txt K mg w) (D : Dfs K) : OkD P w K mg base CX0 7 ("Reply", some "tell") ["self", "number", "interface", "name", "values"] (p_Reply_tell K w) :=
  ok0 D.d_Reply_tell sc_Reply_tell (fun _ _ _ _ _ _ us hl => match us, hl with | [_, _, _, _, _], _ => rfl) fun f cdv A outer s H E hr =>
    pss_one (ps_expr (pe_bm PySem.F.plainAttrs_list PySem.F.slot_list_append PySem.F.type_list_append mt_append (pe_fld (pv 0) rfl) (pa_cons (pe_fn (ok_event_octets T D) hr (by decide) T.g_event_octets pass0 (pa_cons (pv 1) (pa_cons (pv 2) (pa_cons (pv 3) (pa_cons (pv 4) (pa_nil)))))) (pa_nil))))
theorem sc_Holdings_hovers : FnScope N_Holdings_hovers ["self", "surface", "x", "y", "goods", "reply"] (defScope s_Holdings_hovers) := ⟨rfl, rfl, rfl, by decide +kernel, rfl, by decide +kernel, by decide +kernel⟩
theorem ok_Holdings_hovers (T : Txt K mg w) (D : Dfs K) : OkD P w K mg base CX0 8 ("Holdings", some "hovers") ["self", "surface", "x", "y", "goods", "reply"] (p_Holdings_hovers K w) :=
  ok0 D.d_Holdings_hovers sc_Holdings_hovers (fun _ _ _ _ _ _ us hl => match us, hl with | [_, _, _, _, _, _], _ => rfl) fun f cdv A outer s H E hr =>
    pss_cons (ps_set (i := 6) sc_Holdings_hovers.nd rfl (Or.inl rfl) (pe_mt0 (C := "Holdings") (ok_Holdings_pane T D) hr (by decide) (pv 0) T.c_Holdings T.m_Holdings_pane pass0)) (pss_cons (ps_if (pt_cmpR o_is (pv 6) (pe_non) (nomark _)) (pss_one (ps_retN)) (pss_nil)) (pss_cons (ps_fld (pv 0) (pe_bl) rfl) (pss_cons (ps_expr (pe_mt (C := "Reply") (ok_Reply_tell T D) hr (by decide) (pv 5) T.c_Reply T.m_Reply_tell pass0 (pa_cons (pv 6) (pa_cons (pe_str) (pa_cons (pe_str) (pa_cons (pe_lst (pa_cons (pv 1) (pa_cons (pv 2) (pa_cons (pv 3) (pa_nil))))) (pa_nil))))))) (pss_one (ps_for PassesOwn.never rfl (pi_seq (pv 4)) (pg_unp rfl (pgs_cons (pg_name (i := 7) sc_Holdings_hovers.nd rfl (Or.inl rfl)) (pgs_cons (pg_name (i := 8) sc_Holdings_hovers.nd rfl (Or.inl rfl)) (pgs_nil)))) (pss_one (ps_expr (pe_mt (C := "Reply") (ok_Reply_tell T D) hr (by decide) (pv 5) T.c_Reply T.m_Reply_tell pass0 (pa_cons (pv 6) (pa_cons (pe_str) (pa_cons (pe_str) (pa_cons (pe_lst (pa_cons (pv 7) (pa_nil))) (pa_nil)))))))))))))
theorem sc_Holdings_moves : FnScope N_Holdings_moves ["self", "time", "x", "y", "reply"] (defScope s_Holdings_moves) := ⟨rfl, rfl, rfl, by decide +kernel, rfl, by decide +kernel, by decide +kernel⟩
theorem ok_Holdings_moves (T : Txt K mg w) (D : Dfs K) : OkD P w K mg base CX0 8 ("Holdings", some "moves") ["self", "time", "x", "y", "reply"] (p_Holdings_moves K w) :=
  ok0 D.d_Holdings_moves sc_Holdings_moves (fun _ _ _ _ _ _ us hl => match us, hl with | [_, _, _, _, _], _ => rfl) fun f cdv A outer s H E hr =>
    pss_cons (ps_set (i := 5) sc_Holdings_moves.nd rfl (Or.inl rfl) (pe_mt0 (C := "Holdings") (ok_Holdings_pane T D) hr (by decide) (pv 0) T.c_Holdings T.m_Holdings_pane pass0)) (pss_one (ps_if (PW.pt (pw_and (pt_cmpR o_isnot (pv 5) (pe_non) (nomark _)) (pw_and1 (t_tru (pe_fld (pv 0) rfl))))) (pss_one (ps_expr (pe_mt (C := "Reply") (ok_Reply_tell T D) hr (by decide) (pv 4) T.c_Reply T.m_Reply_tell pass0 (pa_cons (pv 5) (pa_cons (pe_str) (pa_cons (pe_str) (pa_cons (pe_lst (pa_cons (pv 1) (pa_cons (pv 2) (pa_cons (pv 3) (pa_nil))))) (pa_nil)))))))) (pss_nil)))
theorem sc_Holdings_leaves : FnScope N_Holdings_leaves ["self", "reply"] (defScope s_Holdings_leaves) := ⟨rfl, rfl, rfl, by decide +kernel, rfl, by decide +kernel, by decide +kernel⟩
theorem ok_Holdings_leaves (T : Txt K mg w) (D : Dfs K) : OkD P w K mg base CX0 8 ("Holdings", some "leaves") ["self", "reply"] (p_Holdings_leaves K w) :=
  ok0 D.d_Holdings_leaves sc_Holdings_leaves (fun _ _ _ _ _ _ us hl => match us, hl with | [_, _], _ => rfl) fun f cdv A outer s H E hr =>
    pss_cons (ps_set (i := 2) sc_Holdings_leaves.nd rfl (Or.inl rfl) (pe_mt0 (C := "Holdings") (ok_Holdings_pane T D) hr (by decide) (pv 0) T.c_Holdings T.m_Holdings_pane pass0)) (pss_cons (ps_if (PW.pt (pw_and (pt_cmpR o_isnot (pv 2) (pe_non) (nomark _)) (pw_and1 (t_tru (pe_fld (pv 0) rfl))))) (pss_one (ps_expr (pe_mt (C := "Reply") (ok_Reply_tell T D) hr (by decide) (pv 1) T.c_Reply T.m_Reply_tell pass0 (pa_cons (pv 2) (pa_cons (pe_str) (pa_cons (pe_str) (pa_cons (pe_lst (pa_nil)) (pa_nil)))))))) (pss_nil)) (pss_one (ps_fld (pv 0) (pe_bl) rfl)))
theorem sc_Holdings_dropped : FnScope N_Holdings_dropped ["self"] (defScope s_Holdings_dropped) := ⟨rfl, rfl, rfl, by decide +kernel, rfl, by decide +kernel, by decide +kernel⟩
theorem ok_Holdings_dropped (T : Txt K mg w) (D : Dfs K) : OkD P w K mg base CX0 1 ("Holdings", some "dropped") ["self"] (p_Holdings_dropped K w) :=
  ok0 D.d_Holdings_dropped sc_Holdings_dropped (fun _ _ _ _ _ _ us hl => match us, hl with | [_], _ => rfl) fun f cdv A outer s H E hr =>
    pss_one (ps_fld (pv 0) (pe_bl) rfl)
theorem sc_Reply___init__ : FnScope N_Reply___init__ ["self"] (defScope s_Reply___init__) := ⟨rfl, rfl, rfl, by decide +kernel, rfl, by decide +kernel, by decide +kernel⟩
theorem ok_Reply___init__ (T : Txt K mg w) (D : Dfs K) : OkD P w K mg base CX0 1 ("Reply", some "__init__") ["self"] (p_Reply___init__ K w) :=
  ok0 D.d_Reply___init__ sc_Reply___init__ (fun _ _ _ _ _ _ us hl => match us, hl with | [_], _ => rfl) fun f cdv A outer s H E hr =>
    pss_cons (ps_fld (pv 0) (pe_lst (pa_nil)) rfl) (pss_cons (ps_fld (pv 0) (pe_lst (pa_nil)) rfl) (pss_cons (ps_fld (pv 0) (pe_lst (pa_nil)) rfl) (pss_one (ps_fld (pv 0) (pe_lst (pa_nil)) rfl))))
theorem sc__law_cell : FnScope N__law_cell ["script", "k"] (defScope s__law_cell) := ⟨rfl, rfl, rfl, by decide +kernel, rfl, by decide +kernel, by decide +kernel⟩
theorem ok__law_cell (T : Txt K mg w) (D : Dfs K) : OkD P w K mg base CX0 1 ("_law_cell", none) ["script", "k"] (p__law_cell K w) :=
  ok0 D.d__law_cell sc__law_cell (fun _ _ _ _ _ _ us hl => match us, hl with | [_, _], _ => rfl) fun f cdv A outer s H E hr =>
    pss_cons (ps_set (i := 2) sc__law_cell.nd rfl (Or.inl rfl) (pe_int)) (pss_cons (ps_if (pt_cmpR o_gt (pe_callB c_len (by rfl) T.n_len (by decide +kernel) (pa_cons (pv 0) (pa_nil))) (pe_int) (nomark _)) (pss_one (ps_set (i := 2) sc__law_cell.nd rfl (Or.inl rfl) (pe_ix x_any (pv 0) (pe_op o_mod (pe_callTy c_int (by rfl) T.n_int (by decide +kernel) (pa_cons (pv 1) (pa_nil))) (pe_callB c_len (by rfl) T.n_len (by decide +kernel) (pa_cons (pv 0) (pa_nil)))) (fun _ _ => rfl)))) (pss_nil)) (pss_cons (ps_if (pt_cmpR o_lt (pv 2) (pe_int) (nomark _)) (pss_one (ps_set (i := 2) sc__law_cell.nd rfl (Or.inl rfl) (pe_op o_sub (pe_int) (pe_op o_mul (pe_int) (pv 2))))) (pss_nil)) (pss_one (ps_ret (pv 2)))))
theorem sc__law_row : FnScope N__law_row ["script", "k"] (defScope s__law_row) := ⟨rfl, rfl, rfl, by decide +kernel, rfl, by decide +kernel, by decide +kernel⟩
theorem ok__law_row (T : Txt K mg w) (D : Dfs K) : OkD P w K mg base CX0 2 ("_law_row", none) ["script", "k"] (p__law_row K w) :=
  ok0 D.d__law_row sc__law_row (fun _ _ _ _ _ _ us hl => match us, hl with | [_, _], _ => rfl) fun f cdv A outer s H E hr =>
    pss_cons (ps_set (i := 2) sc__law_row.nd rfl (Or.inl rfl) (pe_fn (ok__law_cell T D) hr (by decide) T.g__law_cell pass0 (pa_cons (pv 0) (pa_cons (pv 1) (pa_nil))))) (pss_cons (ps_if (PW.pt (pw_and (pt_cmpR o_lt (pv 1) (pe_callB c_len (by rfl) T.n_len (by decide +kernel) (pa_cons (pv 0) (pa_nil))) (nomark _)) (pw_and1 (pt_cmpR o_ge (pv 2) (pe_int) (nomark _))))) (pss_one (ps_ret (pv 2))) (pss_nil)) (pss_cons (ps_set (i := 3) sc__law_row.nd rfl (Or.inl rfl) (pe_op o_mod (pe_callTy c_int (by rfl) T.n_int (by decide +kernel) (pa_cons (pe_op o_add (pe_op o_add (pe_op o_mul (pv 2) (pe_int)) (pe_op o_mul (pv 1) (pe_int))) (pe_int)) (pa_nil))) (pe_int))) (pss_cons (ps_set (i := 4) sc__law_row.nd rfl (Or.inl rfl) (pe_op o_mod (pe_callTy c_int (by rfl) T.n_int (by decide +kernel) (pa_cons (pe_op o_add (pe_op o_add (pe_op o_mul (pv 3) (pv 3)) (pe_op o_mul (pe_int) (pv 1))) (pe_int)) (pa_nil))) (pe_int))) (pss_one (ps_ret (pe_op o_add (pe_op o_mod (pe_callTy c_int (by rfl) T.n_int (by decide +kernel) (pa_cons (pe_op o_add (pe_op o_mul (pv 4) (pv 4)) (pv 3)) (pa_nil))) (pe_int)) (pe_op o_mul (pe_int) (pe_op o_add (pv 3) (pe_int)))))))))
theorem sc__law_hover : FnScope N__law_hover ["holdings", "pane", "row"] (defScope s__law_hover) := ⟨rfl, rfl, rfl, by decide +kernel, rfl, by decide +kernel, by decide +kernel⟩
theorem ok__law_hover (T : Txt K mg w) (D : Dfs K) : OkD P w K mg base CX0 9 ("_law_hover", none) ["holdings", "pane", "row"] (p__law_hover K w) :=
  ok0 D.d__law_hover sc__law_hover (fun _ _ _ _ _ _ us hl => match us, hl with | [_, _, _], _ => rfl) fun f cdv A outer s H E hr =>
    pss_cons (ps_set (i := 3) sc__law_hover.nd rfl (Or.inl rfl) (pe_op o_add (pe_op o_mod (pe_callTy c_int (by rfl) T.n_int (by decide +kernel) (pa_cons (pv 2) (pa_nil))) (pe_int)) (pe_int))) (pss_cons (ps_set (i := 4) sc__law_hover.nd rfl (Or.inl rfl) (pe_op o_sub (pe_op o_mod (pe_callTy c_int (by rfl) T.n_int (by decide +kernel) (pa_cons (pe_op o_div (pv 2) (pe_int)) (pa_nil))) (pe_int)) (pe_int))) (pss_cons (ps_set (i := 5) sc__law_hover.nd rfl (Or.inl rfl) (pe_op o_sub (pe_op o_mod (pe_callTy c_int (by rfl) T.n_int (by decide +kernel) (pa_cons (pe_op o_div (pv 2) (pe_int)) (pa_nil))) (pe_int)) (pe_int))) (pss_cons (ps_setLc (i := 6) (own := [("k", 10)]) rfl sc__law_hover.nd rfl rfl (sw_true rfl rfl rfl (by decide +kernel)) (pi_range1 (by rfl) T.n_range (pa_cons (pe_op o_add (pe_op o_mod (pe_callTy c_int (by rfl) T.n_int (by decide +kernel) (pa_cons (pe_op o_div (pv 2) (pe_int)) (pa_nil))) (pe_int)) (pe_int)) (pa_nil))) (blkOk_by (own := [("k", 10)]) (N := N__law_hover) (sc := defScope s__law_hover) (by decide +kernel)) (fun _ _ _ _ _ => pg_name (i := 10) sc__law_hover.nd rfl (Or.inl rfl)) (fun _ _ _ _ _ => pts_nil) (fun _ _ _ _ _ => pe_tup (pa_cons (pe_op o_add (pe_str) (pe_callTy c_str (by rfl) T.n_str (by decide +kernel) (pa_cons (pv 10) (pa_nil)))) (pa_cons (pe_lst (pa_cons (pv 10) (pa_nil))) (pa_nil))))) (pss_cons (ps_set (i := 7) sc__law_hover.nd rfl (Or.inl rfl) (pe_lst (pa_nil))) (pss_cons (ps_if (pt_cmpR o_isnot (pv 1) (pe_non) (nomark _)) (pss_cons (ps_expr (pe_bm PySem.F.plainAttrs_list PySem.F.slot_list_append PySem.F.type_list_append mt_append (pv 7) (pa_cons (pe_fn (ok_event_octets T D) hr (by decide) T.g_event_octets pass0 (pa_cons (pv 1) (pa_cons (pe_str) (pa_cons (pe_str) (pa_cons (pe_lst (pa_cons (pv 3) (pa_cons (pv 4) (pa_cons (pv 5) (pa_nil))))) (pa_nil)))))) (pa_nil)))) (pss_one (ps_for PassesOwn.never rfl (pi_seq (pv 6)) (pg_name (i := 8) sc__law_hover.nd rfl (Or.inl rfl)) (pss_one (ps_expr (pe_bm PySem.F.plainAttrs_list PySem.F.slot_list_append PySem.F.type_list_append mt_append (pv 7) (pa_cons (pe_fn (ok_event_octets T D) hr (by decide) T.g_event_octets pass0 (pa_cons (pv 1) (pa_cons (pe_str) (pa_cons (pe_str) (pa_cons (pe_lst (pa_cons (pe_ix x_any (pv 8) (pe_int) (fun _ _ => rfl)) (pa_nil))) (pa_nil)))))) (pa_nil)))))))) (pss_nil)) (pss_cons (ps_set (i := 9) sc__law_hover.nd rfl (Or.inl rfl) (pe_mk0 (ok_Reply___init__ T D) hr (by decide) T.k_Reply T.g_Reply pass0)) (pss_cons (ps_expr (pe_mt (C := "Holdings") (ok_Holdings_hovers T D) hr (by decide) (pv 0) T.c_Holdings T.m_Holdings_hovers pass0 (pa_cons (pv 3) (pa_cons (pv 4) (pa_cons (pv 5) (pa_cons (pv 6) (pa_cons (pv 9) (pa_nil)))))))) (pss_one (ps_ret (pe_cmpR (o_eq hr.units) (pe_fld (pv 9) rfl) (pv 7) (nomark _)))))))))))
theorem sc__law_move : FnScope N__law_move ["holdings", "pane", "on", "row"] (defScope s__law_move) := ⟨rfl, rfl, rfl, by decide +kernel, rfl, by decide +kernel, by decide +kernel⟩
theorem ok__law_move (T : Txt K mg w) (D : Dfs K) : OkD P w K mg base CX0 9 ("_law_move", none) ["holdings", "pane", "on", "row"] (p__law_move K w) :=
  ok0 D.d__law_move sc__law_move (fun _ _ _ _ _ _ us hl => match us, hl with | [_, _, _, _], _ => rfl) fun f cdv A outer s H E hr =>
    pss_cons (ps_set (i := 4) sc__law_move.nd rfl (Or.inl rfl) (pe_op o_mod (pe_callTy c_int (by rfl) T.n_int (by decide +kernel) (pa_cons (pv 3) (pa_nil))) (pe_int))) (pss_cons (ps_set (i := 5) sc__law_move.nd rfl (Or.inl rfl) (pe_op o_sub (pe_op o_mod (pe_callTy c_int (by rfl) T.n_int (by decide +kernel) (pa_cons (pe_op o_div (pv 3) (pe_int)) (pa_nil))) (pe_int)) (pe_int))) (pss_cons (ps_set (i := 6) sc__law_move.nd rfl (Or.inl rfl) (pe_lst (pa_nil))) (pss_cons (ps_if (PW.pt (pw_and (pt_cmpR o_isnot (pv 1) (pe_non) (nomark _)) (pw_and1 (t_tru (pv 2))))) (pss_one (ps_expr (pe_bm PySem.F.plainAttrs_list PySem.F.slot_list_append PySem.F.type_list_append mt_append (pv 6) (pa_cons (pe_fn (ok_event_octets T D) hr (by decide) T.g_event_octets pass0 (pa_cons (pv 1) (pa_cons (pe_str) (pa_cons (pe_str) (pa_cons (pe_lst (pa_cons (pv 4) (pa_cons (pv 5) (pa_cons (pe_int) (pa_nil))))) (pa_nil)))))) (pa_nil))))) (pss_nil)) (pss_cons (ps_set (i := 7) sc__law_move.nd rfl (Or.inl rfl) (pe_mk0 (ok_Reply___init__ T D) hr (by decide) T.k_Reply T.g_Reply pass0)) (pss_cons (ps_expr (pe_mt (C := "Holdings") (ok_Holdings_moves T D) hr (by decide) (pv 0) T.c_Holdings T.m_Holdings_moves pass0 (pa_cons (pv 4) (pa_cons (pv 5) (pa_cons (pe_int) (pa_cons (pv 7) (pa_nil))))))) (pss_one (ps_ret (pe_cmpR (o_eq hr.units) (pe_fld (pv 7) rfl) (pv 6) (nomark _)))))))))
theorem sc__law_leave : FnScope N__law_leave ["holdings", "pane", "on"] (defScope s__law_leave) := ⟨rfl, rfl, rfl, by decide +kernel, rfl, by decide +kernel, by decide +kernel⟩
theorem ok__law_leave (T : Txt K mg w) (D : Dfs K) : OkD P w K mg base CX0 9 ("_law_leave", none) ["holdings", "pane", "on"] (p__law_leave K w) :=
  ok0 D.d__law_leave sc__law_leave (fun _ _ _ _ _ _ us hl => match us, hl with | [_, _, _], _ => rfl) fun f cdv A outer s H E hr =>
    pss_cons (ps_set (i := 3) sc__law_leave.nd rfl (Or.inl rfl) (pe_lst (pa_nil))) (pss_cons (ps_if (PW.pt (pw_and (pt_cmpR o_isnot (pv 1) (pe_non) (nomark _)) (pw_and1 (t_tru (pv 2))))) (pss_one (ps_expr (pe_bm PySem.F.plainAttrs_list PySem.F.slot_list_append PySem.F.type_list_append mt_append (pv 3) (pa_cons (pe_fn (ok_event_octets T D) hr (by decide) T.g_event_octets pass0 (pa_cons (pv 1) (pa_cons (pe_str) (pa_cons (pe_str) (pa_cons (pe_lst (pa_nil)) (pa_nil)))))) (pa_nil))))) (pss_nil)) (pss_cons (ps_set (i := 4) sc__law_leave.nd rfl (Or.inl rfl) (pe_mk0 (ok_Reply___init__ T D) hr (by decide) T.k_Reply T.g_Reply pass0)) (pss_cons (ps_expr (pe_mt (C := "Holdings") (ok_Holdings_leaves T D) hr (by decide) (pv 0) T.c_Holdings T.m_Holdings_leaves pass0 (pa_cons (pv 4) (pa_nil)))) (pss_one (ps_ret (pe_cmpR (o_eq hr.units) (pe_fld (pv 4) rfl) (pv 3) (nomark _)))))))
theorem sc_law : FnScope N_law ["script"] (defScope s_law) := ⟨rfl, rfl, rfl, by decide +kernel, rfl, by decide +kernel, by decide +kernel⟩
theorem ok_law (T : Txt K mg w) (D : Dfs K) : OkD P w K mg base CX0 10 ("law", none) ["script"] (p_law K w) :=
  ok0 D.d_law sc_law (fun _ _ _ _ _ _ us hl => match us, hl with | [_], _ => rfl) fun f cdv A outer s H E hr =>
    pss_cons (ps_set (i := 1) sc_law.nd rfl (Or.inl rfl) (pe_mk0 (ok_Holdings___init__ T D) hr (by decide) T.k_Holdings T.g_Holdings pass0)) (pss_cons (ps_set (i := 2) sc_law.nd rfl (Or.inl rfl) (pe_lst (pa_nil))) (pss_cons (ps_set (i := 3) sc_law.nd rfl (Or.inl rfl) (pe_bl)) (pss_cons (ps_for PassesOwn.never rfl (pi_range1 (by rfl) T.n_range (pa_cons (pe_op o_add (pe_callB (c_min2 rfl) (by rfl) T.n_min (by decide +kernel) (pa_cons (pe_int) (pa_cons (pe_callB c_len (by rfl) T.n_len (by decide +kernel) (pa_cons (pv 0) (pa_nil))) (pa_nil)))) (pe_int)) (pa_nil))) (pg_name (i := 4) sc_law.nd rfl (Or.inl rfl)) (pss_cons (ps_set (i := 5) sc_law.nd rfl (Or.inl rfl) (pe_fn (ok__law_row T D) hr (by decide) T.g__law_row pass0 (pa_cons (pv 0) (pa_cons (pv 4) (pa_nil))))) (pss_cons (ps_set (i := 6) sc_law.nd rfl (Or.inl rfl) (pe_op o_mod (pe_callTy c_int (by rfl) T.n_int (by decide +kernel) (pa_cons (pv 5) (pa_nil))) (pe_int))) (pss_cons (ps_set (i := 7) sc_law.nd rfl (Or.inl rfl) (pe_non)) (pss_cons (ps_if (pt_cmpR o_gt (pe_callB c_len (by rfl) T.n_len (by decide +kernel) (pa_cons (pv 2) (pa_nil))) (pe_int) (nomark _)) (pss_one (ps_set (i := 7) sc_law.nd rfl (Or.inl rfl) (pe_ix x_any (pv 2) (pe_int) (fun _ _ => rfl)))) (pss_nil)) (pss_cons (ps_if (pt_cmpR (o_ne hr.units) (pe_mt0 (C := "Holdings") (ok_Holdings_pane T D) hr (by decide) (pv 1) T.c_Holdings T.m_Holdings_pane pass0) (pv 7) (nomark _)) (pss_one (ps_ret (pe_bl))) (pss_nil)) (pss_cons (ps_set (i := 8) sc_law.nd rfl (Or.inl rfl) (pe_bl)) (pss_cons (ps_if (pt_cmpR (o_eq hr.units) (pv 6) (pe_int) (nomark _)) (pss_cons (ps_expr (pe_bm PySem.F.plainAttrs_list PySem.F.slot_list_append PySem.F.type_list_append mt_append (pv 2) (pa_cons (pe_op o_sub (pe_int) (pv 4)) (pa_nil)))) (pss_one (ps_expr (pe_mt (C := "Holdings") (ok_Holdings_bound T D) hr (by decide) (pv 1) T.c_Holdings T.m_Holdings_bound pass0 (pa_cons (pe_op o_sub (pe_int) (pv 4)) (pa_nil)))))) (pss_one (ps_if (PW.pt (pw_and (pt_cmpR (o_eq hr.units) (pv 6) (pe_int) (nomark _)) (pw_and1 (pt_cmpR o_gt (pe_callB c_len (by rfl) T.n_len (by decide +kernel) (pa_cons (pv 2) (pa_nil))) (pe_int) (nomark _))))) (pss_cons (ps_set (i := 9) sc_law.nd rfl (Or.inr rfl) (pe_ix x_any (pv 2) (pe_op o_mod (pe_callTy c_int (by rfl) T.n_int (by decide +kernel) (pa_cons (pe_op o_div (pv 5) (pe_int)) (pa_nil))) (pe_callB c_len (by rfl) T.n_len (by decide +kernel) (pa_cons (pv 2) (pa_nil)))) (fun _ _ => rfl))) (pss_cons (ps_setLc (i := 2) (own := [("one", 10)]) rfl sc_law.nd rfl rfl (sw_true rfl rfl rfl (by decide +kernel)) (pi_seq (pv 2)) (blkOk_by (own := [("one", 10)]) (N := N_law) (sc := defScope s_law) (by decide +kernel)) (fun _ _ _ _ _ => pg_name (i := 10) sc_law.nd rfl (Or.inl rfl)) (fun _ _ _ _ _ => pts_one (pt_cmpR (o_ne hr.units) (pv 10) (pv 9) (nomark _))) (fun _ _ _ _ _ => pv 10)) (pss_one (ps_expr (pe_mt (C := "Holdings") (ok_Holdings_ended T D) hr (by decide) (pv 1) T.c_Holdings T.m_Holdings_ended pass0 (pa_cons (pv 9) (pa_nil))))))) (pss_one (ps_if (PW.pt (pw_and (PW.pt (pw_or (pt_cmpR (o_eq hr.units) (pv 6) (pe_int) (nomark _)) (pw_or1 (pt_cmpR (o_eq hr.units) (pv 6) (pe_int) (nomark _))))) (pw_and1 (pt_cmpR o_is (pv 3) (pe_bl) (nomark _))))) (pss_cons (ps_set (i := 8) sc_law.nd rfl (Or.inl rfl) (pe_fn (ok__law_hover T D) hr (by decide) T.g__law_hover pass0 (pa_cons (pv 1) (pa_cons (pv 7) (pa_cons (pe_op o_div (pv 5) (pe_int)) (pa_nil)))))) (pss_one (ps_set (i := 3) sc_law.nd rfl (Or.inl rfl) (pe_cmpR o_isnot (pv 7) (pe_non) (nomark _))))) (pss_one (ps_if (pt_cmpR (o_eq hr.units) (pv 6) (pe_int) (nomark _)) (pss_cons (ps_set (i := 8) sc_law.nd rfl (Or.inl rfl) (pe_fn (ok__law_leave T D) hr (by decide) T.g__law_leave pass0 (pa_cons (pv 1) (pa_cons (pv 7) (pa_cons (pv 3) (pa_nil)))))) (pss_one (ps_set (i := 3) sc_law.nd rfl (Or.inl rfl) (pe_bl)))) (pss_one (ps_if (pt_cmpR (o_eq hr.units) (pv 6) (pe_int) (nomark _)) (pss_cons (ps_expr (pe_mt0 (C := "Holdings") (ok_Holdings_dropped T D) hr (by decide) (pv 1) T.c_Holdings T.m_Holdings_dropped pass0)) (pss_one (ps_set (i := 3) sc_law.nd rfl (Or.inl rfl) (pe_bl)))) (pss_one (ps_set (i := 8) sc_law.nd rfl (Or.inl rfl) (pe_fn (ok__law_move T D) hr (by decide) T.g__law_move pass0 (pa_cons (pv 1) (pa_cons (pv 7) (pa_cons (pv 3) (pa_cons (pe_op o_div (pv 5) (pe_int)) (pa_nil))))))))))))))))) (pss_one (ps_if (pt_not (t_tru (pv 8))) (pss_one (ps_ret (pe_bl))) (pss_nil))))))))))) (pss_one (ps_ret (pe_bl))))))
end
end SW
namespace SWH
open PySem PySem.Spec PyProof.Rows L2 SW
abbrev R : PySem.W.OpenRow := PySem.W.OpenLaw.row PySem.Challenge.rw_sillwatch_k66_drags_told
def fn0 : List He.DefD := [⟨("Holdings", some "__init__"), "__init__", "Holdings.__init__", defArgs s_Holdings___init__, defBody s_Holdings___init__, defScope s_Holdings___init__, [], []⟩, ⟨("Holdings", some "pane"), "pane", "Holdings.pane", defArgs s_Holdings_pane, defBody s_Holdings_pane, defScope s_Holdings_pane, [], []⟩, ⟨("Holdings", some "bound"), "bound", "Holdings.bound", defArgs s_Holdings_bound, defBody s_Holdings_bound, defScope s_Holdings_bound, [], []⟩, ⟨("Holdings", some "ended"), "ended", "Holdings.ended", defArgs s_Holdings_ended, defBody s_Holdings_ended, defScope s_Holdings_ended, [], []⟩, ⟨("is_integer", none), "is_integer", "is_integer", defArgs s_is_integer, defBody s_is_integer, defScope s_is_integer, [], []⟩, ⟨("is_number", none), "is_number", "is_number", defArgs s_is_number, defBody s_is_number, defScope s_is_number, [], []⟩, ⟨("are_octets", none), "are_octets", "are_octets", defArgs s_are_octets, defBody s_are_octets, defScope s_are_octets, [], []⟩, ⟨("is_text", none), "is_text", "is_text", defArgs s_is_text, defBody s_is_text, defScope s_is_text, [], []⟩, ⟨("fits_kind", none), "fits_kind", "fits_kind", defArgs s_fits_kind, defBody s_fits_kind, defScope s_fits_kind, [], []⟩, ⟨("number_octets", none), "number_octets", "number_octets", defArgs s_number_octets, defBody s_number_octets, defScope s_number_octets, [], []⟩, ⟨("padding", none), "padding", "padding", defArgs s_padding, defBody s_padding, defScope s_padding, [], []⟩, ⟨("sign_code", none), "sign_code", "sign_code", defArgs s_sign_code, defBody s_sign_code, defScope s_sign_code, [], []⟩, ⟨("text_octets", none), "text_octets", "text_octets", defArgs s_text_octets, defBody s_text_octets, defScope s_text_octets, [], []⟩, ⟨("field_octets", none), "field_octets", "field_octets", defArgs s_field_octets, defBody s_field_octets, defScope s_field_octets, [], []⟩, ⟨("encode_message", none), "encode_message", "encode_message", defArgs s_encode_message, defBody s_encode_message, defScope s_encode_message, [], []⟩, ⟨("opcode_of", none), "opcode_of", "opcode_of", defArgs s_opcode_of, defBody s_opcode_of, defScope s_opcode_of, [], []⟩, ⟨("event_octets", none), "event_octets", "event_octets", defArgs s_event_octets, defBody s_event_octets, defScope s_event_octets, [], []⟩, ⟨("Reply", some "tell"), "tell", "Reply.tell", defArgs s_Reply_tell, defBody s_Reply_tell, defScope s_Reply_tell, [], []⟩, ⟨("Holdings", some "hovers"), "hovers", "Holdings.hovers", defArgs s_Holdings_hovers, defBody s_Holdings_hovers, defScope s_Holdings_hovers, [], []⟩, ⟨("Holdings", some "moves"), "moves", "Holdings.moves", defArgs s_Holdings_moves, defBody s_Holdings_moves, defScope s_Holdings_moves, [], []⟩]
def fn1 : List He.DefD := [⟨("Holdings", some "leaves"), "leaves", "Holdings.leaves", defArgs s_Holdings_leaves, defBody s_Holdings_leaves, defScope s_Holdings_leaves, [], []⟩, ⟨("Holdings", some "dropped"), "dropped", "Holdings.dropped", defArgs s_Holdings_dropped, defBody s_Holdings_dropped, defScope s_Holdings_dropped, [], []⟩, ⟨("Reply", some "__init__"), "__init__", "Reply.__init__", defArgs s_Reply___init__, defBody s_Reply___init__, defScope s_Reply___init__, [], []⟩, ⟨("_law_cell", none), "_law_cell", "_law_cell", defArgs s__law_cell, defBody s__law_cell, defScope s__law_cell, [], []⟩, ⟨("_law_row", none), "_law_row", "_law_row", defArgs s__law_row, defBody s__law_row, defScope s__law_row, [], []⟩, ⟨("_law_hover", none), "_law_hover", "_law_hover", defArgs s__law_hover, defBody s__law_hover, defScope s__law_hover, [], []⟩, ⟨("_law_move", none), "_law_move", "_law_move", defArgs s__law_move, defBody s__law_move, defScope s__law_move, [], []⟩, ⟨("_law_leave", none), "_law_leave", "_law_leave", defArgs s__law_leave, defBody s__law_leave, defScope s__law_leave, [], []⟩, ⟨("law", none), "law", "law", defArgs s_law, defBody s_law, defScope s_law, [], []⟩]
def fn : List He.DefD := fn0 ++ (fn1)
def fa0 : List He.Fa := [.cls "Holdings", .meth "Holdings" "pane", .cls "Reply", .meth "Reply" "tell", .free "isinstance", .free "int", .free "bool", .glo "is_integer", .int "NUMBER_LIMIT" 4294967296, .free "len", .int "TEXT_MOST" 1000, .str "SIGNS" " !\"#$&'()*+,-./0123456789:;<=>?@ABCDEFGHIJKLMNOPQRSTUVWXYZ[\\]^_`abcdefghijklmnopqrstuvwxyz{|}~", .free "all", .free "list", .int "OCTETS_MOST" 16384, .free "range", .free "ord", .glo "number_octets", .glo "sign_code", .glo "padding", .glo "is_number", .free "str", .glo "is_text", .glo "are_octets", .free "tuple", .glo "KINDS", .glo "fits_kind", .glo "text_octets", .int "ARGUMENTS_MOST" 20, .glo "field_octets"]
def fa1 : List He.Fa := [.int "HEADER" 8, .int "SIZE_MOST" 20480, .free "enumerate", .glo "EVENTS", .glo "opcode_of", .free "zip", .glo "encode_message", .glo "event_octets", .glo "_law_cell", .mkr "Reply", .glo "Reply", .meth "Holdings" "hovers", .meth "Holdings" "moves", .meth "Holdings" "leaves", .mkr "Holdings", .glo "Holdings", .free "min", .glo "_law_row", .meth "Holdings" "bound", .meth "Holdings" "ended", .glo "_law_hover", .glo "_law_leave", .meth "Holdings" "dropped", .glo "_law_move", .noat "Holdings" "panes", .noat "Holdings" "sources", .noat "Holdings" "offers", .noat "Holdings" "captures", .noat "Holdings" "fetches", .noat "Holdings" "watches"]
def fa2 : List He.Fa := [.noat "Holdings" "names", .noat "Holdings" "was_hovered", .noat "Reply" "told", .noat "Reply" "ended", .noat "Reply" "wishes", .noat "Reply" "applied", .glo "law"]
def fa : List He.Fa := fa0 ++ (fa1 ++ (fa2))
def lo0 : List Str := ["_wall", "DisplayError", "BadMessage", "MessageTooLong", "Fault", "KIND_SIGNS", "SOURCE_OCTETS", "SOURCE_KINDS", "check_sign_count", "goods_size", "piece_of", "NAMES", "NAME_OCTETS", "by_number", "too_much", "Holdings", "KINDS", "NUMBER_LIMIT", "TEXT_MOST", "OCTETS_MOST", "SIGNS", "is_integer", "is_number", "is_text", "are_octets", "number_octets", "padding", "sign_code", "text_octets", "fits_kind"]
def lo1 : List Str := ["field_octets", "HEADER", "SIZE_MOST", "ARGUMENTS_MOST", "encode_message", "EVENTS", "opcode_of", "event_octets", "Reply", "_law_cell", "_law_row", "_law_hover", "_law_move", "_law_leave"]
def loose : List Str := lo0 ++ (lo1)
def ns0 : List Str := ["Holdings", "is_integer", "is_number", "are_octets", "is_text", "fits_kind", "number_octets", "padding", "sign_code", "text_octets", "field_octets", "encode_message", "opcode_of", "event_octets", "Reply", "_law_cell", "_law_row", "_law_hover", "_law_move", "_law_leave", "law", "KINDS", "EVENTS"]
def ns : List Str := ns0
def ms0 : List (Str × Str) := [("Holdings", "__init__"), ("Holdings", "pane"), ("Holdings", "bound"), ("Holdings", "ended"), ("Reply", "tell"), ("Holdings", "hovers"), ("Holdings", "moves"), ("Holdings", "leaves"), ("Holdings", "dropped"), ("Reply", "__init__")]
def ms : List (Str × Str) := ms0
def dp : List Str := ["EVENTS"]
def ts : List He.Tab := [(fun K => He.ga K "EVENTS", ["display", "callback", "registry", "memory", "buffer", "compositor", "region", "surface", "joiner", "sub", "output", "windows", "window", "popup", "seat", "pointer", "keyboard", "transfer", "source", "offer", "capture", "fetch", "watch"])]
def exs (K : PySem.W.Frag) : List Bool := [He.tupB K "KINDS" [.str "uint", .str "int", .str "text", .str "octets", .str "object", .str "maybe", .str "new", .str "bound"], evB K "EVENTS" "transfer" [("offer", ["new", "uint"]), ("hover", ["object", "int", "int"]), ("hover_kind", ["text"]), ("moved", ["uint", "int", "int"]), ("away", []), ("ended", [])]]
def ex (K : PySem.W.Frag) : Bool := (exs K).all id
abbrev hk : PySem.W.Hook := hookX (asN ns ms dp) fa fn ts ex
def ob (s : PySem.W.SharedT) : AlX := obsXG (asN ns ms dp) fa fn ts ex (HandSHeadRun.getT s)
theorem ob_eq (s : PySem.W.SharedT) : ob s = hk.obs s.abs := obsXG_eq (HandSHeadRun.getT_eq s)
abbrev qv : Program := PySem.W.view R.prog [52]
theorem run (w : World) : HandSHeadRun.RunEq R qv hk ob 20000 loose w :=
  PySem.W.byRow2 "special-get-raises" (P := fun w => HandSHeadRun.RunEq R qv hk ob 20000 loose w) (fun w => by intro os; kernel_rfl) (fun w => by intro os; kernel_rfl) w
section
variable {K : PySem.W.Frag} {h : Heap} {mg : Str → Option Value} {w : World}
theorem txtK (c : He.SaysD fa fn K) : TxtK K where
  c_Holdings := He.cls_ok (c.fact 0 (f := .cls "Holdings") rfl)
  m_Holdings_pane := He.meth_ok (c.fact 1 (f := .meth "Holdings" "pane") rfl)
  c_Reply := He.cls_ok (c.fact 2 (f := .cls "Reply") rfl)
  m_Reply_tell := He.meth_ok (c.fact 3 (f := .meth "Reply" "tell") rfl)
  k_Reply := He.mkr_ok (c.fact 39 (f := .mkr "Reply") rfl)
  m_Holdings_hovers := He.meth_ok (c.fact 41 (f := .meth "Holdings" "hovers") rfl)
  m_Holdings_moves := He.meth_ok (c.fact 42 (f := .meth "Holdings" "moves") rfl)
  m_Holdings_leaves := He.meth_ok (c.fact 43 (f := .meth "Holdings" "leaves") rfl)
  k_Holdings := He.mkr_ok (c.fact 44 (f := .mkr "Holdings") rfl)
  m_Holdings_bound := He.meth_ok (c.fact 48 (f := .meth "Holdings" "bound") rfl)
  m_Holdings_ended := He.meth_ok (c.fact 49 (f := .meth "Holdings" "ended") rfl)
  m_Holdings_dropped := He.meth_ok (c.fact 52 (f := .meth "Holdings" "dropped") rfl)
  a_Holdings_panes := He.noat_ok (c.fact 54 (f := .noat "Holdings" "panes") rfl)
  a_Holdings_sources := He.noat_ok (c.fact 55 (f := .noat "Holdings" "sources") rfl)
  a_Holdings_offers := He.noat_ok (c.fact 56 (f := .noat "Holdings" "offers") rfl)
  a_Holdings_captures := He.noat_ok (c.fact 57 (f := .noat "Holdings" "captures") rfl)
  a_Holdings_fetches := He.noat_ok (c.fact 58 (f := .noat "Holdings" "fetches") rfl)
  a_Holdings_watches := He.noat_ok (c.fact 59 (f := .noat "Holdings" "watches") rfl)
  a_Holdings_names := He.noat_ok (c.fact 60 (f := .noat "Holdings" "names") rfl)
  a_Holdings_was_hovered := He.noat_ok (c.fact 61 (f := .noat "Holdings" "was_hovered") rfl)
  a_Reply_told := He.noat_ok (c.fact 62 (f := .noat "Reply" "told") rfl)
  a_Reply_ended := He.noat_ok (c.fact 63 (f := .noat "Reply" "ended") rfl)
  a_Reply_wishes := He.noat_ok (c.fact 64 (f := .noat "Reply" "wishes") rfl)
  a_Reply_applied := He.noat_ok (c.fact 65 (f := .noat "Reply" "applied") rfl)
theorem txt (X : K.In h) (G : h.Ns mainGlobals mg) (c : He.SaysD fa fn K) : Txt K mg w where
  toTxtK := txtK c
  n_isinstance := He.free_ok X G (c.fact 4 (f := .free "isinstance") rfl)
  n_int := He.free_ok X G (c.fact 5 (f := .free "int") rfl)
  n_bool := He.free_ok X G (c.fact 6 (f := .free "bool") rfl)
  g_is_integer := He.glo_ok X G (c.fact 7 (f := .glo "is_integer") rfl)
  i_NUMBER_LIMIT := He.int_ok X G (c.fact 8 (f := .int "NUMBER_LIMIT" 4294967296) rfl)
  n_len := He.free_ok X G (c.fact 9 (f := .free "len") rfl)
  i_TEXT_MOST := He.int_ok X G (c.fact 10 (f := .int "TEXT_MOST" 1000) rfl)
  s_SIGNS := He.str_ok X G (c.fact 11 (f := .str "SIGNS" " !\"#$&'()*+,-./0123456789:;<=>?@ABCDEFGHIJKLMNOPQRSTUVWXYZ[\\]^_`abcdefghijklmnopqrstuvwxyz{|}~") rfl)
  n_all := He.free_ok X G (c.fact 12 (f := .free "all") rfl)
  n_list := He.free_ok X G (c.fact 13 (f := .free "list") rfl)
  i_OCTETS_MOST := He.int_ok X G (c.fact 14 (f := .int "OCTETS_MOST" 16384) rfl)
  n_range := He.free_ok X G (c.fact 15 (f := .free "range") rfl)
  n_ord := He.free_ok X G (c.fact 16 (f := .free "ord") rfl)
  g_number_octets := He.glo_ok X G (c.fact 17 (f := .glo "number_octets") rfl)
  g_sign_code := He.glo_ok X G (c.fact 18 (f := .glo "sign_code") rfl)
  g_padding := He.glo_ok X G (c.fact 19 (f := .glo "padding") rfl)
  g_is_number := He.glo_ok X G (c.fact 20 (f := .glo "is_number") rfl)
  n_str := He.free_ok X G (c.fact 21 (f := .free "str") rfl)
  g_is_text := He.glo_ok X G (c.fact 22 (f := .glo "is_text") rfl)
  g_are_octets := He.glo_ok X G (c.fact 23 (f := .glo "are_octets") rfl)
  n_tuple := He.free_ok X G (c.fact 24 (f := .free "tuple") rfl)
  g_KINDS := He.glo_ok X G (c.fact 25 (f := .glo "KINDS") rfl)
  g_fits_kind := He.glo_ok X G (c.fact 26 (f := .glo "fits_kind") rfl)
  g_text_octets := He.glo_ok X G (c.fact 27 (f := .glo "text_octets") rfl)
  i_ARGUMENTS_MOST := He.int_ok X G (c.fact 28 (f := .int "ARGUMENTS_MOST" 20) rfl)
  g_field_octets := He.glo_ok X G (c.fact 29 (f := .glo "field_octets") rfl)
  i_HEADER := He.int_ok X G (c.fact 30 (f := .int "HEADER" 8) rfl)
  i_SIZE_MOST := He.int_ok X G (c.fact 31 (f := .int "SIZE_MOST" 20480) rfl)
  n_enumerate := He.free_ok X G (c.fact 32 (f := .free "enumerate") rfl)
  g_EVENTS := He.glo_ok X G (c.fact 33 (f := .glo "EVENTS") rfl)
  g_opcode_of := He.glo_ok X G (c.fact 34 (f := .glo "opcode_of") rfl)
  n_zip := He.free_ok X G (c.fact 35 (f := .free "zip") rfl)
  g_encode_message := He.glo_ok X G (c.fact 36 (f := .glo "encode_message") rfl)
  g_event_octets := He.glo_ok X G (c.fact 37 (f := .glo "event_octets") rfl)
  g__law_cell := He.glo_ok X G (c.fact 38 (f := .glo "_law_cell") rfl)
  g_Reply := He.glo_ok X G (c.fact 40 (f := .glo "Reply") rfl)
  g_Holdings := He.glo_ok X G (c.fact 45 (f := .glo "Holdings") rfl)
  n_min := He.free_ok X G (c.fact 46 (f := .free "min") rfl)
  g__law_row := He.glo_ok X G (c.fact 47 (f := .glo "_law_row") rfl)
  g__law_hover := He.glo_ok X G (c.fact 50 (f := .glo "_law_hover") rfl)
  g__law_leave := He.glo_ok X G (c.fact 51 (f := .glo "_law_leave") rfl)
  g__law_move := He.glo_ok X G (c.fact 53 (f := .glo "_law_move") rfl)
theorem exOk (c : SaysX fa fn ts ex w K) (i : Nat) {b : Bool} (h : (exs K)[i]? = some b) : b = true := List.all_eq_true.mp (show (exs K).all id = true from c.x) b (List.mem_of_getElem? h)
theorem txtQ (c : SaysX fa fn ts ex w K) : TxtQ K where
  q_KINDS := fun H => He.tupB_ok (exOk c 0 rfl) H
theorem txtX (c : SaysX fa fn ts ex w K) : TxtX K w where
  e_transfer := by
    obtain ⟨es, n, d⟩ := c.t.tab 0 rfl
    exact evB_ok (exOk c 1 rfl) d
theorem dfs (c : He.SaysD fa fn K) : Dfs K where
  d_Holdings___init__ := c.def_ 0 rfl
  d_Holdings_pane := c.def_ 1 rfl
  d_Holdings_bound := c.def_ 2 rfl
  d_Holdings_ended := c.def_ 3 rfl
  d_is_integer := c.def_ 4 rfl
  d_is_number := c.def_ 5 rfl
  d_are_octets := c.def_ 6 rfl
  d_is_text := c.def_ 7 rfl
  d_fits_kind := c.def_ 8 rfl
  d_number_octets := c.def_ 9 rfl
  d_padding := c.def_ 10 rfl
  d_sign_code := c.def_ 11 rfl
  d_text_octets := c.def_ 12 rfl
  d_field_octets := c.def_ 13 rfl
  d_encode_message := c.def_ 14 rfl
  d_opcode_of := c.def_ 15 rfl
  d_event_octets := c.def_ 16 rfl
  d_Reply_tell := c.def_ 17 rfl
  d_Holdings_hovers := c.def_ 18 rfl
  d_Holdings_moves := c.def_ 19 rfl
  d_Holdings_leaves := c.def_ 20 rfl
  d_Holdings_dropped := c.def_ 21 rfl
  d_Reply___init__ := c.def_ 22 rfl
  d__law_cell := c.def_ 23 rfl
  d__law_row := c.def_ 24 rfl
  d__law_hover := c.def_ 25 rfl
  d__law_move := c.def_ 26 rfl
  d__law_leave := c.def_ 27 rfl
  d_law := c.def_ 28 rfl
theorem facts {P : Program} {f : Addr} (X : K.In h) (G : h.Ns mainGlobals mg) (hfa : mg ("law" : Str) = some (.ref f)) (c : He.SaysD fa fn K) :
    ∃ fd : FuncData, (∀ (s : Shared) (v : Value), BindsTo s fd ⟨[v], []⟩ [("script", v)]) ∧ ∀ base : Heap, K.In base → base.Ns mainGlobals mg → FnOk P w K mg base CX0 10 f fd ["script"] (p_law K w) := by
  have e := hfa.symm.trans (He.glo_ok X G (c.fact 66 (f := .glo "law") rfl))
  cases e
  obtain ⟨fd0, F⟩ := (dfs c).d_law
  have b := FunD.bindsA (ps := ["script"]) F fun _ _ _ _ _ _ us hl => match us, hl with | [_], _ => rfl
  refine ⟨fd0, fun s v => b s [v] rfl, fun base X2 G2 => ?_⟩
  obtain ⟨fd1, O, _, _, l1⟩ := ok_law (P := P) (base := base) (txt (w := w) X G c) (dfs c)
  have e : fd0 = fd1 := (FunAt.of F).same l1
  subst e
  exact O
end
end SWH
open PySem PySem.W PySem.Calls PyProof.Rows
theorem PySem.Challenge.cw_sillwatch_k66_drags_told_holds : PySem.Challenge.rw_sillwatch_k66_drags_told.Holds := by
  w_on; o_law
  refine HandSHeadRun.head_any (r := OpenLaw.row PySem.Challenge.rw_sillwatch_k66_drags_told) (q := view (OpenLaw.row PySem.Challenge.rw_sillwatch_k66_drags_told).prog [52]) (H := SWH.hk) (ob := SWH.ob) (M := 20000) (loose := SWH.loose) (d := HandSHeadRun.topDef (OpenLaw.row PySem.Challenge.rw_sillwatch_k66_drags_told).prog 52) (kwd := []) SWH.ob_eq
    (by kernel_rfl) (fun s => by kernel_rfl) SWH.run (by kernel_rfl) (by kernel_rfl) (by kernel_rfl) (by rfl) (by first | assumption | decide +kernel) (by decide +kernel) ⟨rfl, rfl, rfl, rfl, rfl, by decide +kernel⟩ ?hw ?hc
  case hw => w_witness2
  case hc =>
    refine L2.walk_ofE (l := PySem.Challenge.rw_sillwatch_k66_drags_told) (n := 63) (k := 10) (x := "script") (CX := L2.CX0) rfl (by decide) (by kernel_rfl) ⟨rfl, by decide, by decide⟩ ?F (fun _ _ _ _ z => z)
    intro w mg fa h Y G hmg0
    obtain ⟨K, KX, cx⟩ := Y
    have c := cx.d
    have hmg : mg ("law" : PySem.Str) = some (.ref fa) := by
      have e : (HandSHeadRun.topDef (OpenLaw.row PySem.Challenge.rw_sillwatch_k66_drags_told).prog 52).name = ("law" : PySem.Str) := by kernel_rfl
      rw [← e]
      exact hmg0
    obtain ⟨fd, hb, hF⟩ := SWH.facts (P := (PySem.Challenge.rw_sillwatch_k66_drags_told).prog) (w := w) KX G hmg c
    haveI := SWH.txtK c
    haveI := SWH.txtQ cx
    haveI := SWH.txtX (w := w) cx
    exact ⟨K, fd, SW.p_law K w, KX, hb, fun H a ns hl hO hS => SW.law_end hl hO hS, hF⟩
