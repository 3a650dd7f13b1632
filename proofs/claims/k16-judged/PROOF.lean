import PyProof.Rows.All
import Wide.All
import OpenK.AllK
import Wide.FinOn
import KE.KStateDown
import KE.GoesMore
import KE.KDictPairs
import KE.KExcIs
import Lean
import HandS.ForMost
import HandS.ForExc
import HandS.Defaults
import HandS.Flow
import HandS.Small
import HandS.TupAny
import HandS.Wide
import HandS.IsInst
import HandS.ExcIs
import HandS.HotCalls
import HandS.SetFor
import HandS.Zip
import HandS.More
import HandS.Strs
import HandS.ExcInit
import HandS.ExcInitHot
import HandS.ExcField
import HandS.Dict
import HandS.Lambda
import HandS.Head0
import HandS.Head1
import HandS.Head2
import HandS.HeadEnd
import HandS.HeadHook1
import HandS.HeadHook2
import HandS.HeadHook3
import HandS.HeadHook4
import HandS.HeadWalk
import PySem.Challenge.RW_stillcopy_k16_readings_judged
set_option Elab.async false
set_option linter.all false
set_option maxRecDepth 100000
set_option maxHeartbeats 1000000
section
/-! ### C0: combined rules -/
namespace Cm
open PySem PySem.Spec PyProof.Rows L2
section
variable {X : Cx}
/-! items, stores, comparisons: one rule for several kinds of things -/
def rIxD : R2 := fun x y H Q => ∃ a v, x = .ref a ∧ DGet H a y (some v) ∧ Q v H
theorem tail_typed {prog : Program} {w : World} {A : Around} {E : Value → Shared → Prop} {s : Shared} {value slice : Expr} {T id : String} {o i : Value} {Q : Value → Shared → Prop}
    (hT : s.TypeIs o T) (hl : typeLookup (.type T) "__getitem__" = pure (some (.builtin id))) (hs : subscripted slice false o i = operate [o, i] (getItem o i)) (h : wpAny (model prog w) A (getItem o i) Q E s) :
    wpAny (model prog w) A (subscriptTail value slice o i) Q E s := by
  unfold subscriptTail
  refine wpAny_bind ?_
  rw [getitemInPython_of_ne hT.not_modules]
  refine wpAny_bind (wpAny_specialOf hT hl ?_)
  have fin : wpAny (model prog w) A (subscripted slice false o i) (fun r s₃ => wpAny (model prog w) A (letTemporaryGo value o r >>= fun _ => pure r) Q E s₃) E s := by
    rw [hs]
    exact wpAny_operating (wpAny_mono h (fun r s₃ h₃ => wpAny_bind (wpAny_letTemporaryGo (wpAny_pure h₃))) fun _ _ x => x)
  first
    | exact wpAny_pure (wpAny_bind fin)
    | exact wpAny_bind (wpAny_pure (wpAny_bind fin))
    | exact wpAny_bind fin
theorem ix_dict (hu : X.A.units + 1 < cLine) : IxR X rIxD := by
  intro value slice pins s σ H x y v u Q I rx ry h hs
  obtain ⟨a, z, rfl, g, q⟩ := h
  obtain rfl : v = Value.ref a := rx
  exact tail_typed (dict_typeIs I g) PySem.F.slot_dict_getitem.lookup hs (d_getItem hu I g ry fun w' s3 I3 rw' => ⟨z, H, I3, rw', q⟩)
def rIxA (K : PySem.W.Frag) : R2 := fun x y H Q => (rIxL K x y H Q ∨ rIxT K x y H Q ∨ rIxS x y H Q) ∨ rIxD x y H Q
theorem ix_any (hu : X.A.units + 1 < cLine) : IxR X (rIxA X.K) := ix_seq.or (ix_dict hu)
def rSetA : TSet := fun o i v H Q => rSetL o i v H Q ∨ rSetD o i v H Q
theorem set_any (hu : X.A.units + 1 < cLine) : PSet X rSetA := by
  intro pins s σ H o i v ov iv u Q I ro ri rv h
  rcases h with h | h
  · exact set_list pins s σ H o i v ov iv u Q I ro ri rv h
  · exact set_dict hu pins s σ H o i v ov iv u Q I ro ri rv h
/-! a list against an empty one -/
def rEqE (K : PySem.W.Frag) : R2 := fun x y H Q => ∃ a b xs, x = .ref a ∧ y = .ref b ∧ SqL K H a xs ∧ SqL K H b [] ∧ Q (.bl xs.isEmpty) H
def rNeE (K : PySem.W.Frag) : R2 := fun x y H Q => ∃ a b xs, x = .ref a ∧ y = .ref b ∧ SqL K H a xs ∧ SqL K H b [] ∧ Q (.bl (!xs.isEmpty)) H
theorem op_eqE (hu : X.A.units + 64 < cLine) : OpR X (compareOp .Eq) (rEqE X.K) := by
  intro pins s σ H x y v u Q I rx ry h
  obtain ⟨a, b, xs, rfl, rfl, ha, hb, q⟩ := h
  obtain rfl : v = Value.ref a := rx
  obtain rfl : u = Value.ref b := ry
  obtain ⟨its, r1, p1, _⟩ := I.list ha
  obtain ⟨its2, r2, p2, _⟩ := I.list hb
  cases r2
  cases r1 with
  | nil => exact SeqAt.eq_listAt (e := fun _ => true) p1.isList p2.isList rfl (by omega) (fun j h1 => absurd h1 (by simp)) ⟨.bl true, H, I, rfl, q⟩
  | cons z zs => exact SeqAt.eq_list_lengthsAt p1.isList p2.isList (by simp) (by omega) ⟨.bl false, H, I, rfl, q⟩
theorem op_neE (hu : X.A.units + 64 < cLine) : OpR X (compareOp .NotEq) (rNeE X.K) := by
  intro pins s σ H x y v u Q I rx ry h
  obtain ⟨a, b, xs, rfl, rfl, ha, hb, q⟩ := h
  obtain rfl : v = Value.ref a := rx
  obtain rfl : u = Value.ref b := ry
  obtain ⟨its, r1, p1, _⟩ := I.list ha
  obtain ⟨its2, r2, p2, _⟩ := I.list hb
  cases r2
  cases r1 with
  | nil => exact SeqAt.RcNeAt.lists (e := fun _ => true) p1.isList p2.isList rfl (by omega) (fun j h1 => absurd h1 (by simp)) X.prog X.w X.xe _ ⟨.bl false, H, I, rfl, q⟩
  | cons z zs => exact SeqAt.RcNeAt.lists_lengths p1.isList p2.isList (by simp) (by omega) X.prog X.w X.xe _ ⟨.bl true, H, I, rfl, q⟩
def rEqA (K : PySem.W.Frag) : R2 := fun x y H Q => (rEq x y H Q ∨ rEqE K x y H Q) ∨ rEqD K x y H Q
def rNeA (K : PySem.W.Frag) : R2 := fun x y H Q => (rNe x y H Q ∨ rNeE K x y H Q) ∨ rNeD K x y H Q
theorem op_eqA (hu : X.A.units + 64 < cLine) : OpR X (compareOp .Eq) (rEqA X.K) := (op_eq.or (op_eqE hu)).or (op_eqD hu)
theorem op_neA (hu : X.A.units + 64 < cLine) : OpR X (compareOp .NotEq) (rNeA X.K) := (op_ne.or (op_neE hu)).or (op_neD hu)
/-! + : numbers, texts, lists, tuples -/
def rAddT : R2 := fun x y H Q => ∃ i j : Str, x = .str i ∧ y = .str j ∧ i.length + j.length ≤ sizeLine ∧ Q (.str (i ++ j)) H
def rAddA (K : PySem.W.Frag) : R2 := fun x y H Q => ((rI0 (fun i j => .int (i + j)) x y H Q ∨ rAddT x y H Q) ∨ rCat x y H Q) ∨ rCatA K x y H Q
theorem op_addA : OpR X (binaryOp .Add) (rAddA X.K) := ((op_add.or op_add_str).or op_cat).or op_catA
def rMulA : R2 := fun x y H Q => rI CMul (fun i j => .int (i * j)) x y H Q ∨ rRep x y H Q
theorem op_mulA : OpR X (binaryOp .Mult) rMulA := op_mul.or op_rep
/-! in: flat sequences, dicts, texts -/
def rDIn : R2 := fun y x H Q => ∃ a o, x = .ref a ∧ DGet H a y o ∧ Q (.bl o.isSome) H
def rDNotIn : R2 := fun y x H Q => ∃ a o, x = .ref a ∧ DGet H a y o ∧ Q (.bl (!o.isSome)) H
theorem op_dIn (hu : X.A.units + 1 < cLine) : OpR X (compareOp .In) rDIn := by
  intro pins s σ H y x v u Q I ry rx h
  obtain ⟨a, o, rfl, g, q⟩ := h
  obtain rfl : u = Value.ref a := rx
  exact d_in hu I g ry fun s3 I3 => ⟨.bl o.isSome, H, I3, rfl, q⟩
theorem op_dNotIn (hu : X.A.units + 1 < cLine) : OpR X (compareOp .NotIn) rDNotIn := by
  intro pins s σ H y x v u Q I ry rx h
  obtain ⟨a, o, rfl, g, q⟩ := h
  obtain rfl : u = Value.ref a := rx
  exact d_notIn hu I g ry fun s3 I3 => ⟨.bl (!o.isSome), H, I3, rfl, q⟩
def rInA (K : PySem.W.Frag) : R2 := fun x y H Q => rIn K false x y H Q ∨ rDIn x y H Q
def rNotInA (K : PySem.W.Frag) : R2 := fun x y H Q => rIn K true x y H Q ∨ rDNotIn x y H Q
theorem op_inA (hu : X.A.units + 64 < cLine) : OpR X (compareOp .In) (rInA X.K) := op_in_seq.or (op_dIn (by omega))
theorem op_notInA (hu : X.A.units + 64 < cLine) : OpR X (compareOp .NotIn) (rNotInA X.K) := op_notIn_seq.or (op_dNotIn (by omega))
/-! len: lists, tuples, texts, dicts -/
def rLenA (K : PySem.W.Frag) : List V → Hp → VK → Prop := fun xs H Q => ((∃ p ys, xs = [.ref p] ∧ (SqL K H p ys ∨ SqT K H p ys) ∧ Q (.int ys.length) H) ∨ (∃ z : Str, xs = [.str z] ∧ z.length ≤ sizeLine ∧ Q (.int z.length) H))
theorem call_lenA : CallR X (.builtin "len") (rLenA X.K) := call_len_seq.or call_len_str
/-! slices -/
def rSlAny (K : PySem.W.Frag) : V → Option Int → Option Int → Hp → VK → Prop := fun x lo hi H Q => rSlL K x lo hi H Q ∨ rSlA K x lo hi H Q
theorem sl_any : SlR X (rSlAny X.K) := sl_list.or sl_tupA
end
end Cm

end
section
/-! ### C1: names of readings, built-ins, defs -/
namespace Cm
open PySem PySem.Spec PyProof.Rows L2
theorem bt_len : bootBuiltins "len" = some (.builtin "len") := by decide +kernel
theorem bt_sum : bootBuiltins "sum" = some (.builtin "sum") := by decide +kernel
theorem bt_max : bootBuiltins "max" = some (.builtin "max") := by decide +kernel
theorem bt_min : bootBuiltins "min" = some (.builtin "min") := by decide +kernel
theorem bt_abs : bootBuiltins "abs" = some (.builtin "abs") := by decide +kernel
theorem bt_sorted : bootBuiltins "sorted" = some (.builtin "sorted") := by decide +kernel
theorem bt_isinstance : bootBuiltins "isinstance" = some (.builtin "isinstance") := by decide +kernel
theorem bt_list : bootBuiltins "list" = some (.type "list") := by decide +kernel
theorem bt_tuple : bootBuiltins "tuple" = some (.type "tuple") := by decide +kernel
theorem bt_int : bootBuiltins "int" = some (.type "int") := by decide +kernel
theorem bt_str : bootBuiltins "str" = some (.type "str") := by decide +kernel
theorem bt_bool : bootBuiltins "bool" = some (.type "bool") := by decide +kernel
theorem bt_dict : bootBuiltins "dict" = some (.type "dict") := by decide +kernel
theorem bt_set : bootBuiltins "set" = some (.type "set") := by decide +kernel
theorem bt_ValueError : bootBuiltins "ValueError" = some (.type "ValueError") := by decide +kernel
def rIsNo : R2 := fun x y H Q => y = .non ∧ Q (.bl (decide (x = .non))) H
def rNotNo : R2 := fun x y H Q => y = .non ∧ Q (.bl (!decide (x = .non))) H
def rInt1 : List V → Hp → VK → Prop := fun xs H Q => (∃ i, xs = [.int i] ∧ Q (.int i) H) ∨ ∃ k, xs = [.bl k] ∧ Q (.int (if k then 1 else 0)) H
def rStrI : List V → Hp → VK → Prop := fun xs H Q => ∃ i : Int, xs = [.int i] ∧ i.natAbs.log2 < 1920 ∧ Q (.str (toString i)) H
def rMax2 : List V → Hp → VK → Prop := fun xs H Q => ∃ i j : Int, xs = [.int i, .int j] ∧ Q (.int (if j > i then j else i)) H
def rMin2 : List V → Hp → VK → Prop := fun xs H Q => ∃ i j : Int, xs = [.int i, .int j] ∧ Q (.int (if j < i then j else i)) H
def rAbs : List V → Hp → VK → Prop := fun xs H Q => ∃ i : Int, xs = [.int i] ∧ Q (.int (if i < 0 then -i else i)) H
def rTupleA (K : PySem.W.Frag) : List V → Hp → VK → Prop := fun xs H Q => ∃ p ys, xs = [.ref p] ∧ ((SqL K H p ys ∧ ∀ l, H l = none → Q (.ref l) (upd H l (.tup ys))) ∨ (SqT K H p ys ∧ Q (.ref p) H))
def rListS (K : PySem.W.Frag) : List V → Hp → VK → Prop := fun xs H Q => ∃ p ys, xs = [.ref p] ∧ (SqL K H p ys ∨ SqT K H p ys) ∧ ∀ l, H l = none → Q (.ref l) (upd H l (.lst ys))
def rListDk : List V → Hp → VK → Prop := fun xs H Q => ∃ (a : Addr) (kvs : List (Key × V)), xs = [.ref a] ∧ Rd H a (.dK kvs) ∧ ∀ p, H p = none → Q (.ref p) (upd H p (.lst (kvs.map fun kv => kV kv.1)))
def rListA (K : PySem.W.Frag) : List V → Hp → VK → Prop := fun xs H Q => rListS K xs H Q ∨ rListDk xs H Q
section
variable {X : Cx}
theorem op_isNo : OpR X (compareOp .Is) rIsNo := op_isN
theorem op_notNo : OpR X (compareOp .IsNot) rNotNo := op_notN
theorem call_listA (hc : X.calm = true) : CallR X (.type "list") (rListA X.K) := call_list_of.or (call_listD hc)
/-- a test that is a value's truth -/
def tTr (K : PySem.W.Frag) (ta : TE) : TT := fun σ H Q => ta σ H fun x H' => ∃ k, TruV K x H' k ∧ Q k H'
/-- a list or a tuple is walked -/
def iSeq (K : PySem.W.Frag) (tl : TE) : TI := fun σ H R => iList K tl σ H R ∨ iTup K tl σ H R
theorem pi_seq {tg l : Expr} {tl : TE} (hl : PE X l tl) : PI X tg l (iSeq X.K tl) := ⟨fun pins s σ H R I h => by
  rcases h with h | h
  · exact (pi_list hl).run pins s σ H R I h
  · exact (pi_tup hl).run pins s σ H R I h⟩
theorem psG {E : XK} {E₁ : Value → Shared → Prop} (hs : X.stack = X.env :: X.outer) (hf : X.env.frame = some X.env.locals) (hex : X.ex = [])
    (hx : X.xe = fun e s' => wpAny (model X.prog X.w) X.A (leaving X.env e) (fun _ s'' => L2N.CX X.prog X.w X.outer X.H_0 X.s_0 E e s'') E₁ s') : Passes (L2N.CX X.prog X.w) X E := L2N.passes_call (L2N.takes_of hs hf hex hx) (fun _ _ _ _ h => h)
/-- nothing is let out -/
theorem psN : Passes (L2N.CX X.prog X.w) X E0 := fun _ _ _ _ _ _ _ h => by
  obtain ⟨_, _, _, _, _, _, _, _, _, _, _, _, z⟩ := h
  exact z.elim
theorem tkN : L2N.Takes X (fun _ _ _ _ => False) := fun _ _ x => by
  obtain ⟨_, _, _, _, _, _, _, _, _, _, _, _, _, _, _, _, z⟩ := x
  exact z.elim
/-- raise C('..') -/
def tRs (E : XK) (C : Addr) : TS := fun _ _ H => E (.ref C) none H
end
/-! promises by the number of arguments -/
def sp0 (f : Hp → VK → XK → Prop) : Sp := fun vs H Q E => vs = [] ∧ f H Q E
def sp1 (f : V → Hp → VK → XK → Prop) : Sp := fun vs H Q E => ∃ a, vs = [a] ∧ f a H Q E
def sp2 (f : V → V → Hp → VK → XK → Prop) : Sp := fun vs H Q E => ∃ a b, vs = [a, b] ∧ f a b H Q E
def sp3 (f : V → V → V → Hp → VK → XK → Prop) : Sp := fun vs H Q E => ∃ a b c, vs = [a, b, c] ∧ f a b c H Q E
def sp4 (f : V → V → V → V → Hp → VK → XK → Prop) : Sp := fun vs H Q E => ∃ a b c d, vs = [a, b, c, d] ∧ f a b c d H Q E
def sp5 (f : V → V → V → V → V → Hp → VK → XK → Prop) : Sp := fun vs H Q E => ∃ a b c d e, vs = [a, b, c, d, e] ∧ f a b c d e H Q E
section
variable {P : Program} {w : World} {K : PySem.W.Frag} {mg : Str → Option Value} {base : Heap}
/-- a def of the text keeps its promise -/
def DOk (P : Program) (w : World) (K : PySem.W.Frag) (mg : Str → Option Value) (base : Heap) (k : Nat) (at_ : Str × Option Str) (ps : List Str) (sp : Sp) : Prop :=
  ∃ fd, Binds K fd ps [] ∧ PySem.W.keepIn K (.ref (He.fAd K at_)) = true ∧ FnOk P w K mg base (L2N.CX P w) k (He.fAd K at_) fd ps sp ∧ ∃ oc od osl, K.lookup (He.fAd K at_) = some ⟨oc, od, .func fd, osl⟩
theorem dok_of {x qual : Str} {params : Arguments} {body : List Stmt} {scope : Scope} {at_ : Str × Option Str} {N ps : List Str} {k : Nat} {sp : Sp} (F : ∃ fd, FunD K x qual params body scope [] [] (He.fAd K at_) fd) (S : FnScope N ps scope)
    (hb : ∀ (kV doc pm : Value) (an : Option Addr) (cdv ct : Value) (us : List Value), us.length = ps.length → bindArgs (PySem.W.fnOf x qual params body scope .none kV doc pm an cdv ct) ⟨us, []⟩ = pure (ps.zip us)) (len : ∀ vs H Q E, sp vs H Q E → vs.length = ps.length)
    (hbody : ∀ (cdv : Value) (A : Around) (outer : List Env) (s : Shared) (H : Hp) (vs : List V) (Q : VK) (E : XK), Room k (A.deeper (envOfC qual scope s.heap.objs.size (He.fAd K at_) cdv)) → sp vs H Q E →
      ∃ t, PSs (cxOf (L2N.CX P w) P w K mg base N qual scope (He.fAd K at_) cdv A outer s H E) body t ∧ t { nx := fun _ H' => Q .non H', rt := Q } (start N vs) H) : DOk P w K mg base (k + 1) at_ ps sp := by
  obtain ⟨fd, F⟩ := F
  refine ⟨fd, F.bindsN hb, F.kp, F.ok S len hbody, ?_⟩
  obtain ⟨oc, od, dV, kV, doc, pm, an, cdv, ct, osl, rfl, lk, hcd, _, _⟩ := F.ex
  exact ⟨oc, od, osl, lk⟩
/-- .. where the code object of the def is told -/
theorem dok_ofC {x qual : Str} {params : Arguments} {body : List Stmt} {scope : Scope} {at_ : Str × Option Str} {N ps : List Str} {k : Nat} {sp : Sp} (F : ∃ fd, FunD K x qual params body scope [] [] (He.fAd K at_) fd) (S : FnScope N ps scope)
    (hb : ∀ (kV doc pm : Value) (an : Option Addr) (cdv ct : Value) (us : List Value), us.length = ps.length → bindArgs (PySem.W.fnOf x qual params body scope .none kV doc pm an cdv ct) ⟨us, []⟩ = pure (ps.zip us)) (len : ∀ vs H Q E, sp vs H Q E → vs.length = ps.length)
    (hbody : ∀ (cdv : Value) (A : Around) (outer : List Env) (s : Shared) (H : Hp) (vs : List V) (Q : VK) (E : XK), cdv = .ref (He.codeOf K at_) → Room k (A.deeper (envOfC qual scope s.heap.objs.size (He.fAd K at_) cdv)) → sp vs H Q E →
      ∃ t, PSs (cxOf (L2N.CX P w) P w K mg base N qual scope (He.fAd K at_) cdv A outer s H E) body t ∧ t { nx := fun _ H' => Q .non H', rt := Q } (start N vs) H) : DOk P w K mg base (k + 1) at_ ps sp := by
  obtain ⟨fd, F⟩ := F
  refine ⟨fd, F.bindsN hb, F.kp, ?_⟩
  obtain ⟨oc, od, dV, kV, doc, pm, an, cdv, ct, osl, rfl, lk, hcd, _, _⟩ := F.ex
  obtain ⟨c, e⟩ := He.codeIn_ref hcd
  subst e
  refine ⟨?_, oc, od, osl, lk⟩
  exact fn_of lk hcd S len fun A outer s H vs Q E hr hsp => hbody (.ref c) A outer s H vs Q E (by rw [He.codeOf_eq lk rfl]) hr hsp
/-- nothing is promised -/
theorem dok_false {x qual : Str} {params : Arguments} {body : List Stmt} {scope : Scope} {at_ : Str × Option Str} {N ps : List Str} {k : Nat} (F : ∃ fd, FunD K x qual params body scope [] [] (He.fAd K at_) fd) (S : FnScope N ps scope)
    (hb : ∀ (kV doc pm : Value) (an : Option Addr) (cdv ct : Value) (us : List Value), us.length = ps.length → bindArgs (PySem.W.fnOf x qual params body scope .none kV doc pm an cdv ct) ⟨us, []⟩ = pure (ps.zip us)) : DOk P w K mg base (k + 1) at_ ps (fun _ _ _ _ => False) :=
  dok_of F S hb (fun _ _ _ _ h => h.elim) (fun _ _ _ _ _ _ _ _ _ h => h.elim)
end
theorem len0 {f : Hp → VK → XK → Prop} (vs : List V) (H : Hp) (Q : VK) (E : XK) (h : sp0 f vs H Q E) : vs.length = 0 := by
  obtain ⟨rfl, _⟩ := h; rfl
theorem len1 {f : V → Hp → VK → XK → Prop} (vs : List V) (H : Hp) (Q : VK) (E : XK) (h : sp1 f vs H Q E) : vs.length = 1 := by
  obtain ⟨_, rfl, _⟩ := h; rfl
theorem len2 {f : V → V → Hp → VK → XK → Prop} (vs : List V) (H : Hp) (Q : VK) (E : XK) (h : sp2 f vs H Q E) : vs.length = 2 := by
  obtain ⟨_, _, rfl, _⟩ := h; rfl
theorem len3 {f : V → V → V → Hp → VK → XK → Prop} (vs : List V) (H : Hp) (Q : VK) (E : XK) (h : sp3 f vs H Q E) : vs.length = 3 := by
  obtain ⟨_, _, _, rfl, _⟩ := h; rfl
theorem len4 {f : V → V → V → V → Hp → VK → XK → Prop} (vs : List V) (H : Hp) (Q : VK) (E : XK) (h : sp4 f vs H Q E) : vs.length = 4 := by
  obtain ⟨_, _, _, _, rfl, _⟩ := h; rfl
theorem len5 {f : V → V → V → V → V → Hp → VK → XK → Prop} (vs : List V) (H : Hp) (Q : VK) (E : XK) (h : sp5 f vs H Q E) : vs.length = 5 := by
  obtain ⟨_, _, _, _, _, rfl, _⟩ := h; rfl
end Cm

end
section
/-! ### LN: a lambda handed to a def that calls it within a try; a def called within the except suite with the error -/
namespace Cm
open PySem PySem.Spec PyProof.Rows L2 L2H
/-- the context of a lambda's body; what it lets out has no context of its own -/
def lamN (X : Cx) (A : Around) (outer : List Env) (s : Shared) (H : Hp) (E : XK) (scope : Scope) (f c' : Addr) : Cx :=
  (LamX.lamCx X A outer s H E scope f c').tr [] fun e s' =>
    wpAny (model X.prog X.w) (A.deeper (LamX.lamEnv X scope s.heap.objs.size f c')) (leaving (LamX.lamEnv X scope s.heap.objs.size f c') e)
      (fun _ s2 => L2N.CX X.prog X.w outer H s E e s2) (fun e2 s2 => L2N.CX X.prog X.w outer H s E e2 s2) s'
section
variable {X : Cx} {pins : List (Addr × Obj)} {σ : L2.St} {H : Hp} {s : Shared}
abbrev zCx (CXg : CXT) (X : Cx) (Ng : List Str) (qg : Str) (sg : Scope) (g : Addr) (cdg : Value) (s : Shared) (H : Hp) (Eg : XK) : Cx := cxOf CXg X.prog X.w X.K X.mg X.base Ng qg sg g cdg X.A X.stack s H Eg
theorem act_n {CXg : CXT} {Eg : XK} {Ng : List Str} {qg : Str} {sg : Scope} {g f c' : Addr} {cdg pm ctv : Value} {params : Arguments} {body : Expr} {scope : Scope} {k i : Nat} {a : Str}
    {pn : List (Addr × Obj)} {xe : Value → Shared → Prop} {W : WX} {E : XK} {tb : TE} {p1 p2 : Pos} (I : Inv X pins σ H s) (L : LamX.LamS X.env.scope scope)
    (hf : s.heap.get? f = some (PySem.W.kla_obj "<lambda>" (X.env.qual ++ "<lambda>") params body scope (cloFrom X.env.cells scope.names []) pm c' ctv)) (hfn : H f = none) (hfr : f ∉ frs X.stack)
    (hbind : bindArgs (PySem.W.kla_fn "<lambda>" (X.env.qual ++ "<lambda>") params body scope (cloFrom X.env.cells scope.names []) pm (.ref c') ctv) ⟨[], []⟩ = pure [])
    (tk : L2N.Takes ((zCx CXg X Ng qg sg g cdg s H Eg).tr pn xe) W) (hW : ∀ cls d σ' H', E cls d H' → W cls d σ' H') (hr : Room (k + 1) (X.A.deeper (envOfC qg sg s.heap.objs.size g cdg)))
    (hbody : ∀ (A : Around) (outer : List Env) (s : Shared) (H : Hp), Room k (A.deeper (LamX.lamEnv X scope s.heap.objs.size f c')) → PE (lamN X A outer s H E scope f c') body tb)
    (hN : Ng[i]? = some a) (hv : Vis sg a) (hd : (a == ("__debug__" : Str)) = false := by decide) (hcd : (a == ("__classdict__" : Str)) = false := by decide) :
    PE ((zCx CXg X Ng qg sg g cdg s H Eg).tr pn xe) (.Call (.Name a p1) [] [] p2) (fun σZ HZ Q => σZ[i]? = some (some (.ref f)) ∧ HZ c' = some (LamX.CodeO c' (X.env.qual ++ "<lambda>")) ∧ tb σ HZ Q) := by
  constructor
  rintro pinsZ sZ σZ HZ Q IZ ⟨hslot, hcode, ht⟩
  have nm := (pe_var (X := (zCx CXg X Ng qg sg g cdg s H Eg).tr pn xe) (pos := p1) (i := i) hN hv hd hcd).run pinsZ sZ σZ HZ (fun v H1 => v = .ref f ∧ H1 = HZ) IZ ⟨.ref f, hslot, rfl, rfl⟩
  refine wpAny_Call_Name_kw (thn nm ?_)
  rintro u s1 ⟨v, H1, I1, r1, rfl, rfl⟩
  obtain rfl : u = Value.ref f := r1
  have at1 := I1.base.keep f _ hf hfn hfr (fun z => nomatch (show f ∈ ([] : List Addr) from z))
  refine PySem.W.callWith_F0 ⟨_, _, _, _, at1⟩ ?_
  obtain ⟨⟨oc, vs, t, hoc, hdc, hvc⟩, _, _⟩ := I1.hok c' _ hcode
  have inner : codeAny (model X.prog X.w) (X.A.deeper (envOfC qg sg s.heap.objs.size g cdg)) (.call (.ref f) ⟨[], []⟩)
      (CR (L2N.CX X.prog X.w) (envOfC qg sg s.heap.objs.size g cdg :: X.stack) X.prog X.w H1 s1 Q E) s1 := by
    refine PySem.W.kla_callFunE hr.depth at1 rfl L.co L.gen rfl ⟨c', oc, vs, t, rfl, hoc, hdc, hvc⟩ ?_
    rw [hbind]
    refine wpAny_pure (wpAny_newFunctionEnv (fun y hy => (L.own y hy).2) (fun y hy => absurd hy (by simp)) (fun h1 hns hsb => ⟨I1.nolimit.fresh _ hsb, ?_⟩) L.kind)
    have kp : ∀ b o, s1.heap.get? b = some o → h1.get? b = some o := fun b o e => hsb.extBut b o (Nat.ne_of_lt (Heap.lt_size e)) (Heap.get?_push_of_some _ e)
    have J0 := LamX.lam_start2 (E := E) (f := f) (c' := c') (tk := s1.toks + ([] : List (Str × Value)).length) I L I1.env0 hr.hd I1.base hns kp
    have J := J0.toTry (fun e s' => wpAny (model X.prog X.w) ((X.A.deeper (envOfC qg sg s.heap.objs.size g cdg)).deeper (LamX.lamEnv X scope s1.heap.objs.size f c')) (leaving (LamX.lamEnv X scope s1.heap.objs.size f c') e)
      (fun _ s2 => L2N.CX X.prog X.w (envOfC qg sg s.heap.objs.size g cdg :: X.stack) H1 s1 E e s2) (fun e2 s2 => L2N.CX X.prog X.w (envOfC qg sg s.heap.objs.size g cdg :: X.stack) H1 s1 E e2 s2) s')
    have go := (hbody _ _ s1 H1 (hr.deeper _)).run [] _ σ H1 Q J ht
    refine PySem.W.kla_codeExpr (wpAny_mono go ?_ fun e s' hq => hq)
    rintro v s' ⟨w', H', J', rv, q⟩
    exact ⟨w', H', J'.os, J'.bare, J'.base, J'.hok, rv, q⟩
  have out : Passes (L2N.CX X.prog X.w) ((zCx CXg X Ng qg sg g cdg s H Eg).tr pn xe) E := L2N.passes_call tk hW
  refine wpAny_call (codeAny_mono inner ?_)
  rintro (e | fl) s' hq
  · exact out pinsZ σZ H1 s1 e s' I1 hq
  · cases fl with
    | ret u => exact I1.after hq
    | next => exact False.elim hq
    | brk => exact False.elim hq
    | cont => exact False.elim hq
end
/-- the def x(a) makes TT of the reading of what it is handed (q: the lambda's name) -/
def GivesN (X : Cx) (k : Nat) (Ng : List Str) (x : Str) (sg : Scope) (g : Addr) (cdg : Value) (bg : List Stmt) (a : Str) (q : Str) (TT : (XK → Hp → VK → Prop) → Hp → VK → Prop) : Prop :=
  ∀ (f c' : Addr) (s : Shared) (H : Hp) (Q : VK) (tl : XK → Hp → VK → Prop), Room k (X.A.deeper (envOfC x sg s.heap.objs.size g cdg)) →
    (∀ (W : WX) (pn : List (Addr × Obj)) (xe : Value → Shared → Prop) (E : XK) (p1 p2 : Pos), L2N.Takes ((zCx CX0 X Ng x sg g cdg s H E0).tr pn xe) W → (∀ cls d σ' H', E cls d H' → W cls d σ' H') →
      PE ((zCx CX0 X Ng x sg g cdg s H E0).tr pn xe) (.Call (.Name a p1) [] [] p2) (fun σZ HZ Q => σZ[0]? = some (some (.ref f)) ∧ HZ c' = some (LamX.CodeO c' q) ∧ tl E HZ Q)) →
    H c' = some (LamX.CodeO c' q) → TT tl H Q → ∃ t, PSs (zCx CX0 X Ng x sg g cdg s H E0).nox bg t ∧ t { nx := fun _ H' => Q .non H', rt := Q } (L2.start Ng [.ref f]) H
section
variable {X : Cx}
theorem lam_n {T : List (Addr × Str)} {TT : (XK → Hp → VK → Prop) → Hp → VK → Prop} {x a : Str} {g c P : Addr} {k : Nat} {pg : Arguments} {bg : List Stmt} {sg : Scope} {fd : FuncData} {Ng : List Str} {params : Arguments} {body : Expr} {scope : Scope} {t : XK → TE} {p lpos pos : Pos}
    (F : FunD X.K x x pg bg sg [] [] g fd) (hg : Gl X x) (hm : X.mg x = some (.ref g)) (hb : L2.Binds X.K fd [a] []) (Sg : FnScope Ng [a] sg) (hNg : Ng[0]? = some a) (hva : Vis sg a)
    (hG : ∀ cdv, GivesN X (k + 1) Ng x sg g cdv bg a (X.env.qual ++ "<lambda>") TT) (TB : LamX.TabB X.base X.mg c P) (hcode : X.env.code = .ref c) (hmT : (P, X.env.qual ++ "<lambda>") ∈ T) (hu : ∀ p ∈ T, p.1 = P → p.2 = X.env.qual ++ "<lambda>")
    (hr : Room (k + 2) X.A) (L : LamX.LamS X.env.scope scope) (hdef : defaultsOf params X.env = ([], [])) (hbind : ∀ (q : Str) (cl : List (Str × Addr)) (pm cv ctv : Value), bindArgs (PySem.W.kla_fn "<lambda>" q params body scope cl pm cv ctv) ⟨[], []⟩ = pure [])
    (hbody : ∀ (A : Around) (outer : List Env) (s : Shared) (H : Hp) (E : XK) (f c' : Addr), Room k (A.deeper (LamX.lamEnv X scope s.heap.objs.size f c')) → PE (lamN X A outer s H E scope f c') body (t E))
    (hdb : (x == ("__debug__" : Str)) = false := by decide) (hd : (a == ("__debug__" : Str)) = false := by decide) (hcd : (a == ("__classdict__" : Str)) = false := by decide) :
    PE X (.Call (.Name x p) [.Lambda params body scope lpos] [] pos) (LamX.tLam T TT t) := by
  obtain ⟨oc, od, dV, kV, doc, pm0, an, cdv, ct, osl, rfl, lk, hcg, _, _⟩ := F.ex
  constructor
  rintro pins s σ H Q I ⟨hT, h⟩
  refine wpAny_Call_Name_kw (ld_glob I hg hm ?_ hdb)
  refine PySem.W.callWith_K (h₀ := X.base) I.ok.mod.kin F.kp ?_ (by rfl) (by rfl)
  refine Calls.spliced_cons (LamX.lam_make2 I TB hcode hmT hu hT hdef (L.has I.ok) ?_)
  intro f c' pm' ctv H1 s' I1 eN T1 hf hfn hfr hco
  refine Calls.spliced_nil ⟨I1.kIn, ?_⟩
  have inner : codeAny (model X.prog X.w) X.A (.call (.ref g) ⟨[.ref f], []⟩) (CR CX0 X.stack X.prog X.w H1 s' Q E0) s' := by
    refine LamX.run_ofS (N := Ng) (ps := [a]) (us := [.ref f]) (vs := [.ref f]) lk hcg Sg hr I1.env0 (hb s' [.ref f] I1.kIn rfl) (.cons rfl .nil) rfl ?_
    intro hr'
    obtain ⟨t', ht', hq'⟩ := hG cdv f c' s' H1 Q (fun E H' Q' => t E σ H' Q') hr'
      (fun W pn xe E p1 p2 tk hW => act_n (i := 0) I1 L hf hfn hfr (hbind _ _ _ _ _) tk hW hr' (fun A outer s H hr2 => hbody A outer s H E f c' hr2) hNg hva hd hcd) hco (h H1 eN T1)
    exact ⟨t', ht'.nox, hq'⟩
  refine wpAny_call (codeAny_mono inner ?_)
  rintro (e | fl) s2 hq
  · exact (show False from hq).elim
  · cases fl with
    | ret u => exact I1.after hq
    | next => exact False.elim hq
    | brk => exact False.elim hq
    | cont => exact False.elim hq
/-- isinstance(e, c), e the error that the context holds fast at a -/
theorem is_pin {a D : Addr} {oe : Obj} (C : ExcC X.K D) (hz : Zc (.ref D) none oe) (hf : ∃ vs, oe.data = .fields vs) (hp : (a, oe) ∈ X.pn) : CallR X (.builtin "isinstance") (rIsE X.K D a) := by
  intro pins s σ H xs us Q I r h
  obtain ⟨c, cv, b, rfl, hcv, e, q⟩ := h
  rcases r with _ | ⟨rx, _ | ⟨rt, _ | _⟩⟩
  cases rx
  obtain rfl := hcv _ rt
  have hget := (I.pin (a, oe) (List.mem_append.mpr (.inl hp))).1
  obtain ⟨vs, hv⟩ := hf
  have J : PySem.W.InstAt s.heap a oe D none := by
    obtain ⟨oc, od, oda, osl⟩ := oe
    obtain ⟨h1, h2⟩ := hz
    dsimp only at h1 h2 hv
    subst h1 h2 hv
    exact ⟨hget, rfl, rfl, trivial⟩
  refine PySem.W.kia_one (PySem.W.handS_kitx_exc C.hg C.hk C.hs C.hd C.ha C.hn C.ht C.hm) I.kIn J e (fun z => nomatch z) ?_
  intro tk
  exact ⟨.bl b, H, I.kept (t' := tk) fun _ _ z => z, rfl, q⟩
/-- f(e, ..) within an except suite, p the error's pin: by f's own body -/
theorem call_pin {k : Nat} {f : Addr} {x : Str} {params : Arguments} {body : List Stmt} {scope : Scope} {fd : FuncData} {N ps : List Str} {sp : Sp} {p : Addr × Obj} {q pos : Pos} {e : Expr} {es : List Expr} {t : TA}
    (F : FunD X.K x x params body scope [] [] f fd) (S : FnScope N ps scope) (len : ∀ vs H Q E, sp vs H Q E → vs.length = ps.length) (hr : RoomH (k + 1) X.A) (hot : Hot1 X.A p) (hp : p ∈ X.pn) (hg : Gl X x) (hm : X.mg x = some (.ref f)) (hb : L2.Binds X.K fd ps [])
    (hbody : ∀ (cdv : Value) (s : Shared) (H : Hp) (vs : List V) (Q : VK), RoomH k (X.A.deeper (envOfC x scope s.heap.objs.size f cdv)) → sp vs H Q E0 →
      ∃ t, PSs (cxH CX0 X.prog X.w X.K X.mg X.base N x scope f cdv X.A X.stack s H E0 p) body t ∧ t { nx := fun _ H' => Q .non H', rt := Q } (L2.start N vs) H)
    (ha : PA X (e :: es) t) (hdb : (x == ("__debug__" : Str)) = false := by decide) (he : starEach (e :: es) X.env = (false, eval e X.env) :: starEach es X.env := by rfl) (hpl : (backTo pos (starEach es X.env)).any (·.1) = false := by rfl) :
    PE X (.Call (.Name x q) (e :: es) [] pos) (tCall sp [] E0 t) := by
  obtain ⟨oc, od, dV, kV, doc, pm0, an, cdv, ct, osl, rfl, lk, hcd, _, _⟩ := F.ex
  constructor
  intro pins s σ H Q I h
  refine wpAny_Call_Name_kw (ld_glob I hg hm ?_ hdb)
  refine PySem.W.callWith_K (h₀ := X.base) I.ok.mod.kin F.kp (thn (ha.run pos pins s σ H _ I h) ?_) he hpl
  rintro us s1 ⟨vs, H1, I1, r, hsp⟩
  rw [List.append_nil] at hsp
  refine ⟨I1.kIn, ?_⟩
  have hl := len _ _ _ _ hsp
  have hlu : us.length = ps.length := by rw [← r.length]; exact hl
  have bd := hb s1 us I1.kIn (by rw [List.append_nil]; exact hlu)
  rw [List.append_nil] at bd
  have P1 := I1.pin p (List.mem_append_left _ hp)
  have hpin : PinOk X.stack H1 s1 p := ⟨P1.1, P1.2.1, fun hm => (List.mem_cons.mp (I1.stkSub p.1 hm)).elim P1.2.2.1 P1.2.2.2.1, P1.2.2.2.2⟩
  have hkind : ∀ y ∈ ps.zip us, scope.names.lookup y.1 = some .local ∨ (scope.names.lookup y.1 = some .cell ∧ ((cellsFrom (s1.heap.objs.size + 1) scope.names []).lookup y.1).isSome = true) := by
    rintro ⟨n, v⟩ hy
    rcases S.par n (List.of_mem_zip hy).1 with z | z
    · exact .inl z
    · exact .inr ⟨z, PySem.W.cellsFrom_some _ _ _ (.inl z)⟩
  have inner : codeAny (model X.prog X.w) X.A (.call (.ref f) ⟨us, []⟩) (CR CX0 X.stack X.prog X.w H1 s1 Q E0) s1 := by
    refine codeAny_call_function hr.depth (I1.kIn _ _ lk) rfl S.co S.gen rfl (PySem.W.codeRec_of I1.kIn hcd) (bd _ _ _ _ ?_)
    refine wpAny_newFunctionEnv_cells S.kind hkind ?_
    rintro env rfl s2 xx
    refine ⟨I1.nolimit.keeps xx.toInCall.keep, codeAny_func ?_⟩
    obtain ⟨t', ht', hq'⟩ := hbody cdv s1 H1 vs Q (hr.deeper _) hsp
    have J : Inv (cxH CX0 X.prog X.w X.K X.mg X.base N x scope f cdv X.A X.stack s1 H1 E0 p) [] (L2.start N vs) H1 s2 := inv_startH S hpin I1.env0 hl r xx
    refine wpAny_mono (ht'.run [] s2 (L2.start N vs) H1 _ J hq') ?_ fun _ _ hs => hs
    intro fl s' hs
    cases fl with
    | ret u =>
      obtain ⟨v, σ', H', J', rv, z⟩ := hs
      exact ⟨v, H', J'.os, J'.bare, J'.base, J'.hok, rv, z⟩
    | next =>
      obtain ⟨σ', H', J', z⟩ := hs
      exact ⟨V.non, H', J'.os, J'.bare, J'.base, J'.hok, rfl, z⟩
    | brk =>
      obtain ⟨_, _, _, z⟩ := hs
      exact False.elim z
    | cont =>
      obtain ⟨_, _, _, z⟩ := hs
      exact False.elim z
  refine wpAny_call (codeAny_mono inner ?_)
  rintro (e | fl) s' hq
  · exact (show False from hq).elim
  · cases fl with
    | ret u => exact I1.after hq
    | next => exact False.elim hq
    | brk => exact False.elim hq
    | cont => exact False.elim hq
end
end Cm
/-! ### the classes of refusals -/
namespace Cm
open PySem PySem.Spec PyProof.Rows L2 L2H
def kinds : List Str := ["BadDeal", "BadHand", "BadLetter", "BadTime", "BadKey", "BadHouse", "NoCopy", "Behind", "BadBlock", "BadEntry", "BadText", "Stopped"]
def ecOk (K : PySem.W.Frag) (D : Addr) : Bool := decide (PySem.W.findIn K (.ref D) "__getattribute__" = some (some (.builtin "BaseException.__getattribute__"))) && (decide (PySem.W.findIn K (.ref D) "__getattr__" = some none) && (decide (PySem.W.subIn K (.ref D) (.type "BaseException") = some true) &&
  (PySem.W.hasDictIn K D && (decide (PySem.W.findIn K (.ref D) "__class__" = some (some (.builtin "object.__class__"))) && (decide (PySem.W.specialIn K (.builtin "object.__class__") "__get__" = some (some (.builtin "getset_descriptor.__get__"))) && (decide (PySem.W.takesIn K (.builtin "object.__class__") = some true) && decide (PySem.W.mroIn K D (.type "object") = some true)))))))
theorem ec_of {K : PySem.W.Frag} {D : Addr} (h : ecOk K D = true) : ExcC K D := by
  unfold ecOk at h
  simp only [Bool.and_eq_true, decide_eq_true_eq] at h
  exact ⟨h.1, h.2.1, h.2.2.1, h.2.2.2.1, h.2.2.2.2.1, h.2.2.2.2.2.1, h.2.2.2.2.2.2.1, h.2.2.2.2.2.2.2⟩
/-- each is of its own class, and a ValueError -/
def exK (K : PySem.W.Frag) : Bool := kinds.all fun x => ecOk K (He.ga K x) && (decide (PySem.W.kitOne K (.ref (He.ga K x)) (.type "ValueError") = some true) && kinds.all fun y => decide (PySem.W.kitOne K (.ref (He.ga K x)) (.ref (He.ga K y)) = some (x == y)))
theorem exK_of {K : PySem.W.Frag} (h : exK K = true) {x : Str} (hx : x ∈ kinds) : ExcC K (He.ga K x) ∧ PySem.W.kitOne K (.ref (He.ga K x)) (.type "ValueError") = some true ∧ ∀ y ∈ kinds, PySem.W.kitOne K (.ref (He.ga K x)) (.ref (He.ga K y)) = some (x == y) := by
  have z := List.all_eq_true.mp h x hx
  simp only [Bool.and_eq_true, decide_eq_true_eq] at z
  exact ⟨ec_of z.1, z.2.1, fun y hy => of_decide_eq_true (List.all_eq_true.mp z.2.2 y hy)⟩
/-- .count(k) of bools -/
def rCntB (K : PySem.W.Frag) : V → List V → Hp → VK → Prop := fun x xs H Q => ∃ (p : Addr) (bs : List Bool) (k : Bool), x = .ref p ∧ xs = [.bl k] ∧ SqL K H p (bs.map V.bl) ∧ Q (.int (bs.count k : Nat)) H
theorem cntB {k : Bool} : ∀ {bs : List Bool} {us : List Value}, Vals (bs.map V.bl) us → us.countP (eqU (.bl k)) = bs.count k
  | [], _, .nil => rfl
  | b :: bs, u :: us, .cons r t => by
    rw [List.countP_cons, List.count_cons, cntB t, eqU_of r rfl]; rfl
theorem mt_cntB {X : Cx} : MtR X "list.count" (rCntB X.K) := by
  intro pins s σ H x xs v us Q I rx rxs h
  obtain ⟨p, bs, k, rfl, rfl, hs, q⟩ := h
  cases rx
  obtain ⟨u, rfl, ru⟩ := rxs.one
  obtain ⟨its, rv, ⟨⟨cls, dd, data, sl⟩, n, ho, hc, hdn, hd⟩, hlen⟩ := I.list hs
  simp only at hc hd
  subst hc hd
  refine call_meets PySem.F.slot_list_count ⟨_, ho, rfl⟩ PySem.F.entry_list_count (PySem.F.args_list_count_2 _ _)
    (SeqAt.list_countAt p its.toArray n dd sl u (eqU (.bl k))) ⟨ho, fun y hy => mem_eqAt ru rfl rv (by rw [List.all_map]; exact List.all_eq_true.mpr fun _ _ => rfl) y (by simpa using hy), ?_⟩
  refine ⟨.int (bs.count k : Nat), H, I.tok _, ⟨s.toks, ?_⟩, q⟩
  show Value.int ((its.toArray.toList.countP (eqU (.bl k)) : Nat) : Int) s.toks = Value.int ((bs.count k : Nat) : Int) s.toks
  rw [show its.toArray.toList.countP (eqU (.bl k)) = bs.count k from cntB rv]
theorem kinds_at : ∀ x ∈ kinds, (kinds.map (x == ·)).count true = 1 ∧ ∃ j, j < 12 ∧ (kinds.map (x == ·))[j]? = some true ∧ (∀ m, m < j → (kinds.map (x == ·))[m]? = some false) ∧ kinds[j]? = some x := by decide
theorem inj_map {α β : Type} {f : α → β} : ∀ {l : List α}, (l.map f).Nodup → ∀ {a b : α}, a ∈ l → b ∈ l → f a = f b → a = b
  | [], _, _, _, h, _, _ => nomatch h
  | x :: l, hn, a, b, ha, hb, e => by
    rw [List.map_cons, List.nodup_cons] at hn
    rcases List.mem_cons.mp ha with rfl | ha'
    · rcases List.mem_cons.mp hb with rfl | hb
      · rfl
      · exact absurd (e ▸ List.mem_map_of_mem hb) hn.1
    · rcases List.mem_cons.mp hb with rfl | hb'
      · exact absurd (e ▸ List.mem_map_of_mem ha') hn.1
      · exact inj_map hn.2 ha' hb' e
end Cm

end
section
/-! ### C2: readings step by step -/
namespace Cm
open PySem PySem.Spec PyProof.Rows L2
section
variable {K : PySem.W.Frag} {σ : L2.St} {H : Hp} {Q : VK} {QB : Bool → Hp → Prop} {QA : List V → Hp → Prop} {i : Nat} {v x y z : V} {ta tb te tv : TE} {t u c : TT} {tr : TA} {D : Ends} {t1 t2 : TS} {a b p C dx : Addr} {fs : List (Str × V)} {f : Str}
/-! expressions -/
theorem e_var (h : σ[i]? = some (some v)) (q : Q v H) : tVar i σ H Q := ⟨v, h, q⟩
theorem e_c (q : Q v H) : tC v σ H Q := q
theorem e_op {r : R2} (q : ta σ H fun x H1 => tb σ H1 fun y H2 => r x y H2 Q) : tOp r ta tb σ H Q := q
theorem e_un {r : V → Hp → VK → Prop} (q : ta σ H fun x H1 => r x H1 Q) : tUn r ta σ H Q := q
theorem e_nil (q : QA [] H) : tNil σ H QA := q
theorem e_cons (q : ta σ H fun x H1 => tr σ H1 fun xs H2 => QA (x :: xs) H2) : tCons ta tr σ H QA := q
theorem e_tup (q : tr σ H fun xs H1 => xs.length ≤ sizeLine ∧ ∀ p, H1 p = none → Q (.ref p) (upd H1 p (.tup xs))) : tTup tr σ H Q := q
theorem e_lst (q : tr σ H fun xs H1 => xs.length ≤ sizeLine ∧ ∀ p, H1 p = none → Q (.ref p) (upd H1 p (.lst xs))) : tLst tr σ H Q := q
theorem e_cb {r : List V → Hp → VK → Prop} (q : tr σ H fun vs H1 => r vs H1 Q) : tCB r tr σ H Q := q
theorem e_call {sp : Sp} {E : XK} (q : tr σ H fun vs H1 => sp (vs ++ []) H1 Q E) : tCall sp [] E tr σ H Q := q
theorem e_if (q : t σ H fun c H1 => if c = true then ta σ H1 Q else tb σ H1 Q) : tIf t ta tb σ H Q := q
theorem e_andV (q : ta σ H fun x H1 => ∃ c, x = .bl c ∧ if c = true then tb σ H1 Q else Q (.bl false) H1) : tAndV ta tb σ H Q := q
theorem e_orV (q : ta σ H fun x H1 => ∃ c, x = .bl c ∧ if c = true then Q (.bl true) H1 else tb σ H1 Q) : tOrV ta tb σ H Q := q
theorem e_notV (q : ta σ H fun x H1 => ∃ c, x = .bl c ∧ Q (.bl (!c)) H1) : tNotV ta σ H Q := q
theorem e_fld0 (q : ta σ H fun x H1 => ∃ a C dx fs v, x = .ref a ∧ H1 a = some (.ins C dx fs) ∧ Cls K C ∧ NoAttr K C f ∧ fs.lookup f = some v ∧ Q v H1) : tFld K ta f σ H Q := q
theorem fld_at {C dx : Addr} {fs : List (Str × V)} {v : V} (h : H a = some (.ins C dx fs)) (hc : Cls K C) (hn : NoAttr K C f) (hl : fs.lookup f = some v) (q : Q v H) :
    ∃ a' C dx fs v, V.ref a = V.ref a' ∧ H a' = some (.ins C dx fs) ∧ Cls K C ∧ NoAttr K C f ∧ fs.lookup f = some v ∧ Q v H := ⟨a, C, dx, fs, v, rfl, h, hc, hn, hl, q⟩
theorem e_meth0 {sp : Sp} {E : XK} {m : Str} (q : ta σ H fun x H1 => ∃ a dx fs, x = .ref a ∧ H1 a = some (.ins C dx fs) ∧ fs.lookup m = none ∧ tr σ H1 fun vs H2 => sp (x :: (vs ++ [])) H2 Q E) : tMeth C m sp [] E ta tr σ H Q := q
theorem meth_at {m : Str} {R : Prop} (h : H a = some (.ins C dx fs)) (hl : fs.lookup m = none) (q : R) : ∃ a' dx fs, V.ref a = V.ref a' ∧ H a' = some (.ins C dx fs) ∧ fs.lookup m = none ∧ R := ⟨a, dx, fs, rfl, h, hl, q⟩
theorem e_bm0 {ty : String} {r : V → List V → Hp → VK → Prop} (q : ta σ H fun x H1 => tyV K ty x H1 ∧ r x [] H1 Q) : tBM0 K ty r ta σ H Q := q
theorem e_bm {ty : String} {r : V → List V → Hp → VK → Prop} (q : ta σ H fun x H1 => tyV K ty x H1 ∧ tr σ H1 fun xs H2 => r x xs H2 Q) : tBM K ty r ta tr σ H Q := q
theorem ty_lst {xs : List V} (h : H a = some (.lst xs)) : tyV K "list" (.ref a) H := .inl ⟨rfl, _, SqL.of h⟩
theorem e_sl {r : V → Option Int → Option Int → Hp → VK → Prop} {tl th : TO} (q : ta σ H fun x H1 => tl σ H1 fun l H2 => th σ H2 fun u H3 => r x l u H3 Q) : tSl r ta tl th σ H Q := q
theorem o_none {QO : Option Int → Hp → Prop} (q : QO none H) : tNoPart σ H QO := q
theorem o_some {QO : Option Int → Hp → Prop} (q : ta σ H fun x H1 => ∃ i, x = .int i ∧ QO (some i) H1) : tPart ta σ H QO := q
theorem int_at {R : Int → Prop} {j : Int} (q : R j) : ∃ i, V.int j = V.int i ∧ R i := ⟨j, rfl, q⟩
theorem bl_at {R : Bool → Prop} {b : Bool} (q : R b) : ∃ k, V.bl b = V.bl k ∧ R k := ⟨b, rfl, q⟩
theorem e_dnew (q : ∀ p, H p = none → Q (.ref p) (upd H p (.dK []))) : tDNewK σ H Q := q
/-! tests -/
theorem e_test (q : ta σ H fun x H1 => ∃ k, x = .bl k ∧ QB k H1) : tTest ta σ H QB := q
theorem e_tr (q : ta σ H fun x H1 => ∃ k, TruV K x H1 k ∧ QB k H1) : tTr K ta σ H QB := q
theorem tr_bl {R : Bool → Prop} {b : Bool} (q : R b) : ∃ k, TruV K (.bl b) H k ∧ R k := ⟨b, rfl, q⟩
theorem tr_non {R : Bool → Prop} (q : R false) : ∃ k, TruV K .non H k ∧ R k := ⟨false, rfl, q⟩
theorem e_and (q : t σ H fun c H1 => if c = true then u σ H1 QB else QB false H1) : tAnd t u σ H QB := q
theorem e_or (q : t σ H fun c H1 => if c = true then QB true H1 else u σ H1 QB) : tOr t u σ H QB := q
theorem e_not (q : t σ H fun c H1 => QB (!c) H1) : tNot t σ H QB := q
theorem e_yes (q : QB true H) : tYes σ H QB := q
theorem e_chain {r r' : R2} {tc : TE} (q : ta σ H fun x H1 => tb σ H1 fun y H2 => r x y H2 fun z H3 => ∃ k, z = .bl k ∧ if k = true then tc σ H3 fun w H4 => r' y w H4 Q else Q (.bl false) H3) : tChain r r' ta tb tc σ H Q := q
/-! rules on values -/
theorem r_i0 {g : Int → Int → V} {i j : Int} (q : Q (g i j) H) : rI0 g (.int i) (.int j) H Q := ⟨i, j, rfl, rfl, q⟩
theorem r_i {Cn : Int → Int → Prop} {g : Int → Int → V} {i j : Int} (h : Cn i j) (q : Q (g i j) H) : rI Cn g (.int i) (.int j) H Q := ⟨i, j, rfl, rfl, h, q⟩
theorem r_u {g : Int → V} {i : Int} (q : Q (g i) H) : rU g (.int i) H Q := ⟨i, rfl, q⟩
theorem r_isNo (q : Q (.bl (decide (x = .non))) H) : rIsNo x .non H Q := ⟨rfl, q⟩
theorem r_notNo (q : Q (.bl (!decide (x = .non))) H) : rNotNo x .non H Q := ⟨rfl, q⟩
theorem r_addI {i j : Int} (q : Q (.int (i + j)) H) : rAddA K (.int i) (.int j) H Q := .inl (.inl (.inl ⟨i, j, rfl, rfl, q⟩))
theorem r_addL {xs ys : List V} (ha : H a = some (.lst xs)) (hb : H b = some (.lst ys)) (hz : xs.length + ys.length ≤ sizeLine) (q : ∀ p, H p = none → Q (.ref p) (upd H p (.lst (xs ++ ys)))) : rAddA K (.ref a) (.ref b) H Q := .inl (.inr ⟨a, b, xs, ys, rfl, rfl, ha, hb, hz, q⟩)
theorem r_mulI {i j : Int} (h : CMul i j) (q : Q (.int (i * j)) H) : rMulA (.int i) (.int j) H Q := .inl ⟨i, j, rfl, rfl, h, q⟩
theorem r_eqS (h : scal x y = true) (q : Q (.bl (decide (x = y))) H) : rEqA K x y H Q := .inl (.inl ⟨h, q⟩)
theorem r_neS (h : scal x y = true) (q : Q (.bl (!decide (x = y))) H) : rNeA K x y H Q := .inl (.inl ⟨h, q⟩)
theorem r_eqE {xs : List V} (ha : SqL K H a xs) (hb : SqL K H b []) (q : Q (.bl xs.isEmpty) H) : rEqA K (.ref a) (.ref b) H Q := .inl (.inr ⟨a, b, xs, rfl, rfl, ha, hb, q⟩)
theorem r_neE {xs : List V} (ha : SqL K H a xs) (hb : SqL K H b []) (q : Q (.bl (!xs.isEmpty)) H) : rNeA K (.ref a) (.ref b) H Q := .inl (.inr ⟨a, b, xs, rfl, rfl, ha, hb, q⟩)
theorem r_ixL {xs : List V} {i : Int} {v : V} (h : SqL K H p xs) (e : atI xs i = some v) (q : Q v H) : rIxA K (.ref p) (.int i) H Q := .inl (.inl ⟨p, xs, i, v, rfl, rfl, h, e, q⟩)
theorem r_ixT {xs : List V} {i : Int} {v : V} (h : SqT K H p xs) (e : atI xs i = some v) (q : Q v H) : rIxA K (.ref p) (.int i) H Q := .inl (.inr (.inl ⟨p, xs, i, v, rfl, rfl, h, e, q⟩))
theorem r_ixD {kvs : List (Key × V)} {k : Key} {v : V} (h : Rd H p (.dK kvs)) (e : valV kvs k = some v) (q : Q v H) : rIxA K (.ref p) (kV k) H Q := .inr ⟨p, v, rfl, .inl ⟨kvs, k, h, rfl, e.symm⟩, q⟩
theorem r_ixDs {kvs : List (Key × V)} {k : Str} {v : V} (h : Rd H p (.dK kvs)) (e : valV kvs (.inr k) = some v) (q : Q v H) : rIxA K (.ref p) (.str k) H Q := r_ixD (k := .inr k) h e q
theorem r_ixDi {kvs : List (Key × V)} {k : Int} {v : V} (h : Rd H p (.dK kvs)) (e : valV kvs (.inl k) = some v) (q : Q v H) : rIxA K (.ref p) (.int k) H Q := r_ixD (k := .inl k) h e q
theorem r_lenL {xs : List V} (h : SqL K H p xs) (q : Q (.int xs.length) H) : rLenA K [.ref p] H Q := .inl ⟨p, xs, rfl, .inl h, q⟩
theorem r_lenT {xs : List V} (h : SqT K H p xs) (q : Q (.int xs.length) H) : rLenA K [.ref p] H Q := .inl ⟨p, xs, rfl, .inr h, q⟩
theorem r_lenS {s : Str} (h : s.length ≤ sizeLine) (q : Q (.int s.length) H) : rLenA K [.str s] H Q := .inr ⟨s, rfl, h, q⟩
theorem r_listL {xs : List V} (h : SqL K H p xs) (q : ∀ l, H l = none → Q (.ref l) (upd H l (.lst xs))) : rListA K [.ref p] H Q := .inl ⟨p, xs, rfl, .inl h, q⟩
theorem r_listT {xs : List V} (h : SqT K H p xs) (q : ∀ l, H l = none → Q (.ref l) (upd H l (.lst xs))) : rListA K [.ref p] H Q := .inl ⟨p, xs, rfl, .inr h, q⟩
theorem r_int1b {k : Bool} (q : Q (.int (if k then 1 else 0)) H) : rInt1 [.bl k] H Q := .inr ⟨k, rfl, q⟩
theorem r_max2 {i j : Int} (q : Q (.int (if j > i then j else i)) H) : rMax2 [.int i, .int j] H Q := ⟨i, j, rfl, q⟩
theorem r_tupL {xs : List V} (h : SqL K H p xs) (q : ∀ l, H l = none → Q (.ref l) (upd H l (.tup xs))) : rTupleA K [.ref p] H Q := ⟨p, xs, rfl, .inl ⟨h, q⟩⟩
theorem r_tupT {xs : List V} (h : SqT K H p xs) (q : Q (.ref p) H) : rTupleA K [.ref p] H Q := ⟨p, xs, rfl, .inr ⟨h, q⟩⟩
theorem m_append {xs : List V} (h : H p = some (.lst xs)) (hz : xs.length < sizeLine) (q : Q .non (upd H p (.lst (xs ++ [y])))) : rAppend (.ref p) [y] H Q := ⟨p, xs, y, rfl, rfl, h, hz, q⟩
theorem m_clear {xs : List V} (h : H p = some (.lst xs)) (q : Q .non (upd H p (.lst []))) : rClear (.ref p) [] H Q := ⟨p, xs, rfl, rfl, h, q⟩
/-! targets, statements -/
theorem g_name {QS : L2.St → Hp → Prop} (q : QS (σ.set i (some v)) H) : gName i v σ H QS := q
theorem g_setL {xs : List V} {k : Int} {j : Nat} {QS : Hp → Prop} (h : H p = some (.lst xs)) (e : ixN xs.length k = some j) (q : QS (upd H p (.lst (xs.set j v)))) : rSetA (.ref p) (.int k) v H QS := .inl ⟨p, xs, k, j, rfl, rfl, h, e, q⟩
theorem g_setDs {kvs kvs' : List (Key × V)} {k : Str} {QS : Hp → Prop} (h : H p = some (.dK kvs)) (hz : kvs.length < sizeLine) (e : putK kvs (.inr k) v = kvs') (q : QS (upd H p (.dK kvs'))) : rSetA (.ref p) (.str k) v H QS := .inr ⟨p, _, rfl, DPut.k (k := .inr k) h hz, by rw [e]; exact q⟩
theorem g_setDi {kvs : List (Key × V)} {k : Int} {QS : Hp → Prop} (h : H p = some (.dK kvs)) (hz : kvs.length < sizeLine) (q : QS (upd H p (.dK (putK kvs (.inl k) v)))) : rSetA (.ref p) (.int k) v H QS := .inr ⟨p, _, rfl, DPut.k (k := .inl k) h hz, q⟩
theorem g_sub {to ti : TE} {ts : TSet} {QS : L2.St → Hp → Prop} (q : to σ H fun o H1 => ti σ H1 fun i H2 => ts o i v H2 fun H3 => QS σ H3) : gSub to ti ts v σ H QS := q
theorem g_tup {n : Nat} {gs : TGs} {xs : List V} {QS : L2.St → Hp → Prop} (h : SqT K H p xs) (e : xs.length = n) (q : gs xs σ H QS) : gTup K n gs (.ref p) σ H QS := ⟨p, xs, rfl, h, e, q⟩
theorem g_cons {g : TG} {gs : TGs} {xs : List V} {QS : L2.St → Hp → Prop} (q : g x σ H fun σ' H' => gs xs σ' H' QS) : gCons g gs (x :: xs) σ H QS := ⟨x, xs, rfl, q⟩
theorem g_nil {QS : L2.St → Hp → Prop} (q : QS σ H) : gNil [] σ H QS := ⟨rfl, q⟩
theorem s_seq (q : t1 { D with nx := t2 D } σ H) : tSeq t1 t2 D σ H := q
theorem s_next (q : D.nx σ H) : tNext D σ H := q
theorem s_asg {g : TG} (q : ta σ H fun x H1 => g x σ H1 D.nx) : tAsg ta g D σ H := q
theorem s_drop (q : ta σ H fun _ H1 => D.nx σ H1) : tDrop ta D σ H := q
theorem s_ret (q : ta σ H D.rt) : tRet ta D σ H := q
theorem s_retN (q : D.rt .non H) : tRetN D σ H := q
theorem s_if (q : t σ H fun b H1 => if b = true then t1 D σ H1 else t2 D σ H1) : tIfS t t1 t2 D σ H := q
theorem s_rs {E : XK} (q : E (.ref C) none H) : tRs E C D σ H := q
theorem s_fld0 (q : tv σ H fun y H1 => ta σ H1 fun x H2 => ∃ a C dx fs, x = .ref a ∧ H2 a = some (.ins C dx fs) ∧ Cls K C ∧ NoAttr K C f ∧ fs.length < 1000 ∧ D.nx σ (upd H2 a (.ins C dx (putF f y fs)))) : sFld K ta tv f D σ H := q
theorem fldset_at {R : Hp → Prop} {fs' : List (Str × V)} (h : H a = some (.ins C dx fs)) (hc : Cls K C) (hn : NoAttr K C f) (hl : fs.length < 1000) (e : putF f y fs = fs') (q : R (upd H a (.ins C dx fs'))) :
    ∃ a' C dx fs, V.ref a = V.ref a' ∧ H a' = some (.ins C dx fs) ∧ Cls K C ∧ NoAttr K C f ∧ fs.length < 1000 ∧ R (upd H a' (.ins C dx (putF f y fs))) := ⟨a, C, dx, fs, rfl, h, hc, hn, hl, by rw [e]; exact q⟩
theorem s_fldaug0 {rd : V → V → Hp → VK → Prop} (q : ta σ H fun x H1 => ∃ a C dx fs v, x = .ref a ∧ H1 a = some (.ins C dx fs) ∧ Cls K C ∧ NoAttr K C f ∧ fs.lookup f = some v ∧
    tv σ H1 fun y H2 => rd v y H2 fun z H3 => ∃ dx fs, H3 a = some (.ins C dx fs) ∧ fs.length < 1000 ∧ D.nx σ (upd H3 a (.ins C dx (putF f z fs)))) : sFldAug K ta tv rd f D σ H := q
theorem aug_at {P : Addr → Addr → Addr → List (Str × V) → V → Prop} (h : H a = some (.ins C dx fs)) (hc : Cls K C) (hn : NoAttr K C f) (hl : fs.lookup f = some v) (q : P a C dx fs v) :
    ∃ a' C dx fs v, V.ref a = V.ref a' ∧ H a' = some (.ins C dx fs) ∧ Cls K C ∧ NoAttr K C f ∧ fs.lookup f = some v ∧ P a' C dx fs v := ⟨a, C, dx, fs, v, rfl, h, hc, hn, hl, q⟩
theorem augset_at {R : Hp → Prop} {fs' : List (Str × V)} (h : H a = some (.ins C dx fs)) (hl : fs.length < 1000) (e : putF f z fs = fs') (q : R (upd H a (.ins C dx fs'))) :
    ∃ dx fs, H a = some (.ins C dx fs) ∧ fs.length < 1000 ∧ R (upd H a (.ins C dx (putF f z fs))) := ⟨dx, fs, h, hl, by rw [e]; exact q⟩
theorem in_sub_at {i j : Int} (q : Q (.int (i - j)) H) : L2.rSub (.int i) (.int j) H Q := ⟨i, j, rfl, rfl, q⟩
theorem in_add_at {i j : Int} (q : Q (.int (i + j)) H) : L2.rAdd (.int i) (.int j) H Q := ⟨i, j, rfl, rfl, q⟩
theorem fl0 : ([] : List (Str × V)).length ≤ 0 := Nat.le_refl _
theorem flS {n : Nat} {fs : List (Str × V)} (h : fs.length ≤ n) : (putF f v fs).length ≤ n + 1 := Nat.le_trans (length_putF f v fs) (Nat.succ_le_succ h)
/-! tests decided -/
theorem if_d {p : Prop} [Decidable p] {A B : Prop} (h1 : p → A) (h2 : ¬ p → B) : if decide p = true then A else B := by
  by_cases h : p
  · rw [decide_eq_true h, if_pos rfl]; exact h1 h
  · rw [decide_eq_false h, if_neg Bool.false_ne_true]; exact h2 h
theorem if_nd {p : Prop} [Decidable p] {A B : Prop} (h1 : ¬ p → A) (h2 : p → B) : if (!decide p) = true then A else B := by
  by_cases h : p
  · rw [decide_eq_true h]; exact iteF (h2 h)
  · rw [decide_eq_false h]; exact iteT (h1 h)
theorem if_dT {p : Prop} [Decidable p] {A B : Prop} (h : p) (q : A) : if decide p = true then A else B := by
  rw [decide_eq_true h, if_pos rfl]; exact q
theorem if_dF {p : Prop} [Decidable p] {A B : Prop} (h : ¬ p) (q : B) : if decide p = true then A else B := by
  rw [decide_eq_false h, if_neg Bool.false_ne_true]; exact q
theorem if_ndT {p : Prop} [Decidable p] {A B : Prop} (h : ¬ p) (q : A) : if (!decide p) = true then A else B := by
  rw [decide_eq_false h]; exact iteT q
theorem if_ndF {p : Prop} [Decidable p] {A B : Prop} (h : p) (q : B) : if (!decide p) = true then A else B := by
  rw [decide_eq_true h]; exact iteF q
theorem if_b {b : Bool} {A B : Prop} (h1 : b = true → A) (h2 : b = false → B) : if b = true then A else B := by
  cases b
  · exact iteF (h2 rfl)
  · exact iteT (h1 rfl)
theorem at0 {x : V} {xs : List V} : atI (x :: xs) 0 = some x := atI_nat (j := 0) rfl
theorem at1 {x y : V} {xs : List V} : atI (x :: y :: xs) 1 = some y := atI_nat (j := 1) rfl
theorem at2 {x y z : V} {xs : List V} : atI (x :: y :: z :: xs) 2 = some z := atI_nat (j := 2) rfl
end
/-! ### what stays: all but the things at S; tuples and the like always; the tables of code objects stay such -/
def Imm : HO → Bool
  | .tup _ | .own _ | .ext _ | .frz _ _ | .xd _ | .met _ _ | .rng _ _ => true
  | _ => false
/-- nothing of ours stands at a -/
def Nw (H : Hp) (a : Addr) : Prop := H a = none ∨ ∃ ps, H a = some (.tbl ps)
theorem nw_of {H : Hp} {a : Addr} (h : H a = none) : Nw H a := .inl h
theorem nw_no {H : Hp} {a : Addr} {o : HO} (h : Nw H a) (e : H a = some o) (n : ∀ ps, o ≠ .tbl ps) : False := by
  rcases h with h | ⟨ps, h⟩
  · rw [h] at e; cases e
  · rw [h] at e; cases e; exact n ps rfl
structure Kp (T : List (Addr × Str)) (S : Addr → Prop) (H H' : Hp) : Prop where
  old : ∀ a o, H a = some o → (∀ ps, o ≠ .tbl ps) → ¬ S a → H' a = some o
  imm : ∀ a o, H a = some o → Imm o = true → H' a = some o
  tab : LamX.Tabs T H → LamX.Tabs T H'
  dom : ∀ a, Nw H' a → Nw H a
abbrev No : Addr → Prop := fun _ => False
section
variable {T : List (Addr × Str)} {S S' : Addr → Prop} {H H1 H2 : Hp} {a p : Addr} {o : HO}
theorem Kp.refl : Kp T S H H := ⟨fun _ _ h _ _ => h, fun _ _ h _ => h, fun h => h, fun _ h => h⟩
theorem Kp.trans (k : Kp T S H H1) (k' : Kp T S' H1 H2) (h : ∀ a, S' a → S a ∨ Nw H a) : Kp T S H H2 :=
  ⟨fun a o e n ns => k'.old a o (k.old a o e n ns) n (fun z => (h a z).elim ns (fun q => nw_no q e n)), fun a o e i => k'.imm a o (k.imm a o e i) i, fun t => k'.tab (k.tab t), fun a e => k.dom a (k'.dom a e)⟩
theorem Kp.mono (k : Kp T S H H1) (h : ∀ a, S a → S' a) : Kp T S' H H1 := ⟨fun a o e n ns => k.old a o e n fun z => ns (h a z), k.imm, k.tab, k.dom⟩
theorem Kp.lst {xs : List V} (k : Kp T S H H1) (e : H a = some (.lst xs)) (n : ¬ S a) : H1 a = some (.lst xs) := k.old a _ e (fun _ z => nomatch z) n
theorem Kp.ins {C dx : Addr} {fs : List (Str × V)} (k : Kp T S H H1) (e : H a = some (.ins C dx fs)) (n : ¬ S a) : H1 a = some (.ins C dx fs) := k.old a _ e (fun _ z => nomatch z) n
theorem Kp.dK {kvs : List (Key × V)} (k : Kp T S H H1) (e : H a = some (.dK kvs)) (n : ¬ S a) : H1 a = some (.dK kvs) := k.old a _ e (fun _ z => nomatch z) n
theorem Kp.tup {xs : List V} (k : Kp T S H H1) (e : H a = some (.tup xs)) : H1 a = some (.tup xs) := k.imm a _ e rfl
theorem Kp.sqt {K : PySem.W.Frag} {xs : List V} (k : Kp T S H H1) (h : SqT K H a xs) : SqT K H1 a xs := by
  rcases h with (h | ⟨o, h⟩) | h
  · exact .inl (.inl (k.tup h))
  · exact .inl (.inr ⟨o, k.imm a _ h rfl⟩)
  · exact .inr h
theorem Kp.free (k : Kp T S H H1) (h : H1 a = none) : Nw H a := k.dom a (.inl h)
theorem tabs_upd (h : ∀ q : Addr × Str, LamX.TabS H q.1 q.2 → LamX.TabS H1 q.1 q.2) : LamX.Tabs T H → LamX.Tabs T H1 := fun t q hq => h q (t q hq)
/-- a new thing -/
theorem Kp.new (hp : H p = none) : Kp T S H (upd H p o) := by
  have ex : ∀ b u, H b = some u → upd H p o b = some u := fun b u e => by rw [upd_ne (ne_of_none e hp)]; exact e
  exact ⟨fun b u e _ _ => ex b u e, fun b u e _ => ex b u e, fun t => t.ext ex, fun b e => by
    by_cases hb : b = p
    · rw [hb]; exact .inl hp
    · unfold Nw at e; rw [upd_ne hb] at e; exact e⟩
/-- a thing of S is changed -/
theorem Kp.set {u : HO} (hp : H p = some u) (hu : Imm u = false) (hu2 : ∀ ps, u ≠ .tbl ps) (hs : S p) (ho : ∀ ps, o ≠ .tbl ps := by intro _ z; cases z) : Kp T S H (upd H p o) := by
  have ne : ∀ b v, H b = some v → Imm v = true → b ≠ p := fun b v e i z => by rw [z, hp] at e; cases e; rw [i] at hu; cases hu
  have nt : ∀ b ps, H b = some (.tbl ps) → b ≠ p := fun b ps e z => by rw [z, hp] at e; cases e; exact hu2 ps rfl
  refine ⟨fun b v e _ n => by rw [upd_ne (fun z => n (by rw [z]; exact hs))]; exact e, fun b v e i => by rw [upd_ne (ne b v e i)]; exact e, tabs_upd fun q t => ?_, fun b e => ?_⟩
  · obtain ⟨ps, h1, h2, h3⟩ := t
    refine ⟨ps, by rw [upd_ne (nt _ ps h1)]; exact h1, h2, fun pos cv hc => ?_⟩
    obtain ⟨c, e1, e2⟩ := h3 pos cv hc
    exact ⟨c, e1, by rw [upd_ne (ne c _ e2 rfl)]; exact e2⟩
  · by_cases hb : b = p
    · rw [hb] at e; exact (nw_no e upd_same ho).elim
    · unfold Nw at e; rw [upd_ne hb] at e; exact e
theorem Kp.setL {xs : List V} (hp : H p = some (.lst xs)) (hs : S p) (ho : ∀ ps, o ≠ .tbl ps := by intro _ z; cases z) : Kp T S H (upd H p o) := Kp.set hp rfl (fun _ z => nomatch z) hs ho
theorem Kp.setI {C dx : Addr} {fs : List (Str × V)} (hp : H p = some (.ins C dx fs)) (hs : S p) (ho : ∀ ps, o ≠ .tbl ps := by intro _ z; cases z) : Kp T S H (upd H p o) := Kp.set hp rfl (fun _ z => nomatch z) hs ho
theorem Kp.setD {kvs : List (Key × V)} (hp : H p = some (.dK kvs)) (hs : S p) (ho : ∀ ps, o ≠ .tbl ps := by intro _ z; cases z) : Kp T S H (upd H p o) := Kp.set hp rfl (fun _ z => nomatch z) hs ho
/-- on and on -/
theorem Kp.setX' {u : HO} (k : Kp T S H H1) (hp : H1 p = some u) (hu : Imm u = false) (hu2 : ∀ ps, u ≠ .tbl ps) (hs : S p ∨ Nw H p) (ho : ∀ ps, o ≠ .tbl ps := by intro _ z; cases z) : Kp T S H (upd H1 p o) := k.trans (S' := fun a => a = p) (Kp.set hp hu hu2 rfl ho) fun a z => by rw [z]; exact hs
theorem Kp.new' (k : Kp T S H H1) (hp : H1 p = none) : Kp T S H (upd H1 p o) := k.trans (S' := No) (Kp.new hp) fun _ z => z.elim
theorem Kp.setL' {xs : List V} (k : Kp T S H H1) (hp : H1 p = some (.lst xs)) (hs : S p ∨ Nw H p) (ho : ∀ ps, o ≠ .tbl ps := by intro _ z; cases z) : Kp T S H (upd H1 p o) := k.trans (S' := fun a => a = p) (Kp.setL hp rfl ho) fun a z => by rw [z]; exact hs
theorem Kp.setI' {C dx : Addr} {fs : List (Str × V)} (k : Kp T S H H1) (hp : H1 p = some (.ins C dx fs)) (hs : S p ∨ Nw H p) (ho : ∀ ps, o ≠ .tbl ps := by intro _ z; cases z) : Kp T S H (upd H1 p o) := k.trans (S' := fun a => a = p) (Kp.setI hp rfl ho) fun a z => by rw [z]; exact hs
theorem Kp.setD' {kvs : List (Key × V)} (k : Kp T S H H1) (hp : H1 p = some (.dK kvs)) (hs : S p ∨ Nw H p) (ho : ∀ ps, o ≠ .tbl ps := by intro _ z; cases z) : Kp T S H (upd H1 p o) := k.trans (S' := fun a => a = p) (Kp.setD hp rfl ho) fun a z => by rw [z]; exact hs
end
end Cm
namespace Cm
open PySem PySem.Spec PyProof.Rows L2
section
variable {K : PySem.W.Frag} {σ : L2.St} {H : Hp} {Q : VK} {v x y z : V} {a b p : Addr}
theorem r_ixl {xs : List V} {i : Int} {v : V} (h : H p = some (.lst xs)) (e : atI xs i = some v) (q : Q v H) : rIxA K (.ref p) (.int i) H Q := r_ixL (SqL.of h) e q
theorem r_ixt {xs : List V} {i : Int} {v : V} (h : H p = some (.tup xs)) (e : atI xs i = some v) (q : Q v H) : rIxA K (.ref p) (.int i) H Q := r_ixT (SqT.of h) e q
theorem r_ixds {kvs : List (Key × V)} {k : Str} {v : V} (h : H p = some (.dK kvs)) (e : valV kvs (.inr k) = some v) (q : Q v H) : rIxA K (.ref p) (.str k) H Q := r_ixDs (.inl h) e q
theorem r_eqe {xs : List V} (ha : H a = some (.lst xs)) (hb : H b = some (.lst [])) (q : Q (.bl xs.isEmpty) H) : rEqA K (.ref a) (.ref b) H Q := r_eqE (SqL.of ha) (SqL.of hb) q
theorem r_nee {xs : List V} (ha : H a = some (.lst xs)) (hb : H b = some (.lst [])) (q : Q (.bl (!xs.isEmpty)) H) : rNeA K (.ref a) (.ref b) H Q := r_neE (SqL.of ha) (SqL.of hb) q
theorem r_lenl {xs : List V} (h : H p = some (.lst xs)) (q : Q (.int xs.length) H) : rLenA K [.ref p] H Q := r_lenL (SqL.of h) q
theorem r_lent {xs : List V} (h : H p = some (.tup xs)) (q : Q (.int xs.length) H) : rLenA K [.ref p] H Q := r_lenT (SqT.of h) q
theorem r_listl {xs : List V} (h : H p = some (.lst xs)) (q : ∀ l, H l = none → Q (.ref l) (upd H l (.lst xs))) : rListA K [.ref p] H Q := r_listL (SqL.of h) q
theorem r_tupl {xs : List V} (h : H p = some (.lst xs)) (q : ∀ l, H l = none → Q (.ref l) (upd H l (.tup xs))) : rTupleA K [.ref p] H Q := r_tupL (SqL.of h) q
theorem new_at {n : Nat} {R : Addr → Prop} (hz : n ≤ sizeLine) (q : ∀ p, H p = none → R p) : n ≤ sizeLine ∧ ∀ p, H p = none → R p := ⟨hz, q⟩
theorem and_at {A B : Prop} (h : A) (q : B) : A ∧ B := ⟨h, q⟩
theorem g_tupt {n : Nat} {gs : TGs} {xs : List V} {QS : L2.St → Hp → Prop} (h : H p = some (.tup xs)) (e : xs.length = n) (q : gs xs σ H QS) : gTup K n gs (.ref p) σ H QS := g_tup (SqT.of h) e q
theorem ix0 {n : Nat} (h : 0 < n) : ixN n 0 = some 0 := by
  unfold ixN
  rw [if_pos (by decide), if_pos (by omega)]; rfl
theorem ix1 {n : Nat} (h : 1 < n) : ixN n 1 = some 1 := by
  unfold ixN
  rw [if_pos (by decide), if_pos (by omega)]; rfl
theorem ix_nat {n : Nat} {i : Int} (h0 : 0 ≤ i) (h : i < n) : ixN n i = some i.toNat := by
  unfold ixN
  rw [if_pos h0, if_pos h]
theorem at_nat {α : Type} {xs : List α} {i : Int} {v : α} (h0 : 0 ≤ i) (h : xs[i.toNat]? = some v) : atI xs i = some v := by
  have e : i = ((i.toNat : Nat) : Int) := by omega
  rw [e]; exact atI_nat h
end
end Cm
namespace Cm
open PySem PySem.Spec PyProof.Rows L2
/-- nothing that stands is forgotten -/
def Dm (H H' : Hp) : Prop := ∀ a, Nw H' a → Nw H a
section
variable {T : List (Addr × Str)} {S S' : Addr → Prop} {H H1 H2 : Hp} {a p : Addr} {o : HO}
theorem dm_refl : Dm H H := fun _ h => h
theorem dm_upd (d : Dm H H1) (ho : ∀ ps, o ≠ .tbl ps := by intro _ z; cases z) : Dm H (upd H1 p o) := fun b e => by
  by_cases hb : b = p
  · rw [hb] at e; exact (nw_no e upd_same ho).elim
  · unfold Nw at e; rw [upd_ne hb] at e; exact d b e
theorem dm_kp (d : Dm H H1) (k : Kp T S H1 H2) : Dm H H2 := fun b e => d b (k.dom b e)
theorem dm_use (d : Dm H H1) (h : H1 a = none) : Nw H a := d a (.inl h)
theorem dm_use2 (d : Dm H H1) (h : Nw H1 a) : Nw H a := d a h
theorem kp_look (k : Kp T S H H1) (e : H a = some o) (nt : ∀ ps, o ≠ .tbl ps) (n : Imm o = true ∨ ¬ S a) : H1 a = some o := by
  rcases n with n | n
  · exact k.imm a o e n
  · exact k.old a o e nt n
theorem kp_dom (k : Kp T S H H1) : Dm H H1 := k.dom
/-- a lambda was made -/
theorem kp_lam (e : LamX.ExtN H H1) (t : LamX.Tabs T H1) : Kp T S H H1 := ⟨fun a o h n _ => e a o h n, fun a o h i => e a o h (fun ps z => by rw [z] at i; cases i), fun _ => t, fun a h => by
  cases hq : H a with
  | none => exact .inl hq
  | some o =>
    by_cases z : ∃ ps, o = .tbl ps
    · obtain ⟨ps, rfl⟩ := z; exact .inr ⟨ps, hq⟩
    · exact (nw_no h (e a o hq (fun ps y => z ⟨ps, y⟩)) (fun ps y => z ⟨ps, y⟩)).elim⟩
theorem kp_step (k : Kp T S H H1) (k' : Kp T S' H1 H2) (h : ∀ a, S' a → S a ∨ Nw H a) : Kp T S H H2 := k.trans k' h
end
end Cm
namespace Cm
open PySem PySem.Spec PyProof.Rows L2
section
variable {K : PySem.W.Frag} {H : Hp} {Q : VK} {x : V} {p : Addr}
theorem m_pop0 {xs : List V} (h : H p = some (.lst (x :: xs))) (q : Q x (upd H p (.lst xs))) : rPopAt (.ref p) [.int 0] H Q :=
  ⟨p, x :: xs, 0, 0, x, rfl, rfl, h, by decide, by decide, seqIndex_of (by decide) (by simp), rfl, q⟩
end
end Cm
namespace Cm
open PySem PySem.Spec PyProof.Rows L2
section
variable {K : PySem.W.Frag} {H : Hp} {Q : VK}
theorem q_dec {p : Prop} [Decidable p] (h : p) (q : Q (.bl true) H) : Q (.bl (decide p)) H := by rw [decide_eq_true h]; exact q
theorem q_ndec {p : Prop} [Decidable p] (h : p) (q : Q (.bl false) H) : Q (.bl (!decide p)) H := by rw [decide_eq_true h]; exact q
end
end Cm
namespace Cm
open PySem PySem.Spec PyProof.Rows L2
section
variable {K : PySem.W.Frag} {σ : L2.St} {H : Hp} {Q : VK} {a : Addr} {tk tv : TE} {trs : List (TE × TE)} {QP : List (V × V) → Hp → Prop}
theorem e_disp (q : ∀ p, H p = none → tPairs trs σ (upd H p (.dK [])) fun ps H2 => H2 p = some (.dK []) ∧ ∃ kvs : List (Key × V), ps = kvs.map (fun kv => (kV kv.1, kv.2)) ∧ kvs.length ≤ 15 ∧ Q (.ref p) (upd H2 p (.dK (mergeK [] kvs)))) : tDisp trs σ H Q := q
theorem e_pnil (q : QP [] H) : tPairs [] σ H QP := q
theorem e_pcons (q : tk σ H fun x H1 => tv σ H1 fun y H2 => tPairs trs σ H2 fun ps H3 => QP ((x, y) :: ps) H3) : tPairs ((tk, tv) :: trs) σ H QP := q
theorem r_rep {xs : List V} {k : Int} (h : H a = some (.lst xs)) (h1 : -(2 ^ 63) ≤ k) (h2 : k < 2 ^ 63) (h3 : xs.length * k.toNat ≤ sizeLine) (q : ∀ p, H p = none → Q (.ref p) (upd H p (.lst (List.replicate k.toNat xs).flatten))) : rMulA (.ref a) (.int k) H Q := .inr ⟨a, k, xs, rfl, rfl, h, h1, h2, h3, q⟩
end
end Cm
namespace Cm
open PySem PySem.Spec PyProof.Rows L2
section
variable {K : PySem.W.Frag} {H : Hp} {Q : VK} {p a b : Addr}
theorem cut_to {xs : List V} {i : Int} (h : 0 ≤ i) : cutV xs none (some i) = xs.take i.toNat := by
  have e : i = ((i.toNat : Nat) : Int) := by omega
  unfold cutV
  rw [e, HT.sIx_nat, HT.sIx_none]
  simp only [List.drop_zero, Nat.sub_zero]
  rw [Int.toNat_natCast, ← List.take_take, List.take_length]
theorem cut_from {xs : List V} {i : Int} (h : 0 ≤ i) : cutV xs (some i) none = xs.drop i.toNat := by
  have e : i = ((i.toNat : Nat) : Int) := by omega
  unfold cutV
  rw [e, HT.sIx_nat, HT.sIx_none, Int.toNat_natCast]
  rcases Nat.le_total i.toNat xs.length with hl | hl
  · rw [Nat.min_eq_left hl, ← List.length_drop, List.take_length]
  · rw [Nat.min_eq_right hl, List.drop_length, List.drop_eq_nil_of_le hl]; simp
theorem r_slTo {xs : List V} {i : Int} (h : H p = some (.lst xs)) (h0 : 0 ≤ i) (q : ∀ l, H l = none → Q (.ref l) (upd H l (.lst (xs.take i.toNat)))) : rSlAny K (.ref p) none (some i) H Q := .inl ⟨p, xs, rfl, SqL.of h, fun l hl => by rw [cut_to h0]; exact q l hl⟩
theorem r_slFrom {xs : List V} {i : Int} (h : H p = some (.lst xs)) (h0 : 0 ≤ i) (q : ∀ l, H l = none → Q (.ref l) (upd H l (.lst (xs.drop i.toNat)))) : rSlAny K (.ref p) (some i) none H Q := .inl ⟨p, xs, rfl, SqL.of h, fun l hl => by rw [cut_from h0]; exact q l hl⟩
theorem r_catT {xs ys : List V} (ha : H a = some (.tup xs)) (hb : H b = some (.tup ys)) (hz : xs.length + ys.length ≤ sizeLine) (q0 : xs = [] → Q (.ref b) H) (q1 : xs ≠ [] → ys = [] → Q (.ref a) H) (q2 : xs ≠ [] → ys ≠ [] → ∀ p, H p = none → Q (.ref p) (upd H p (.tup (xs ++ ys)))) :
    rAddA K (.ref a) (.ref b) H Q := .inr ⟨a, b, xs, ys, rfl, rfl, SqT.of ha, SqT.of hb, hz, q0, q1, q2⟩
end
end Cm
namespace Cm
open PySem PySem.Spec PyProof.Rows L2
theorem sz_lit {n : Nat} (h : Nat.ble n 1000 = true) : n ≤ sizeLine := Nat.le_trans (Nat.le_of_ble_eq_true h) (by decide)
theorem sz_lt {n : Nat} (h : Nat.ble (n + 1) 1000 = true) : n < sizeLine := Nat.lt_of_lt_of_le (Nat.lt_of_succ_le (Nat.le_of_ble_eq_true h)) (by decide)
theorem fs_lt {n : Nat} (h : Nat.ble (n + 1) 900 = true) : n < 1000 := Nat.lt_of_lt_of_le (Nat.lt_of_succ_le (Nat.le_of_ble_eq_true h)) (by decide)
end Cm
namespace Cm
open PySem PySem.Spec PyProof.Rows L2
section
variable {x0 x1 x2 x3 x4 x5 x6 x7 x8 : V} {xs : List V}
theorem at0s {v : V} : atI ((x0 :: xs).set 0 v) 0 = some v := atI_nat (j := 0) rfl
theorem at1s {v : V} : atI ((x0 :: x1 :: xs).set 1 v) 1 = some v := atI_nat (j := 1) rfl
theorem at01s {v : V} : atI ((x0 :: x1 :: xs).set 1 v) 0 = some x0 := atI_nat (j := 0) rfl
theorem at10s {v : V} : atI ((x0 :: x1 :: xs).set 0 v) 1 = some x1 := atI_nat (j := 1) rfl
theorem at3 : atI (x0 :: x1 :: x2 :: x3 :: xs) 3 = some x3 := atI_nat (j := 3) rfl
theorem at4 : atI (x0 :: x1 :: x2 :: x3 :: x4 :: xs) 4 = some x4 := atI_nat (j := 4) rfl
theorem at5 : atI (x0 :: x1 :: x2 :: x3 :: x4 :: x5 :: xs) 5 = some x5 := atI_nat (j := 5) rfl
theorem at6 : atI (x0 :: x1 :: x2 :: x3 :: x4 :: x5 :: x6 :: xs) 6 = some x6 := atI_nat (j := 6) rfl
theorem at7 : atI (x0 :: x1 :: x2 :: x3 :: x4 :: x5 :: x6 :: x7 :: xs) 7 = some x7 := atI_nat (j := 7) rfl
theorem at8 : atI (x0 :: x1 :: x2 :: x3 :: x4 :: x5 :: x6 :: x7 :: x8 :: xs) 8 = some x8 := atI_nat (j := 8) rfl
end
end Cm

end
section
/-! ### LX: refusals with a field of their own: class C(StillError): __init__(self, x): StillError.__init__(self, '..'); self.f = x -/
namespace Cm
open PySem PySem.Spec PyProof.Rows L2
def oexB (K : PySem.W.Frag) (C : Addr) : Bool := (match K.lookup C with
  | some ⟨.type "type", _, .cls cd, sl⟩ => (match cd.mro, sl.toList with
    | .ref C' :: bm, [_, _, _, _, some (.builtin n), _] => C' == C && n == "ValueError.__new__" && !cd.hasDel && cd.hasDict && PySem.HandSPX.refsVE bm
    | _, _ => false)
  | _ => false) && (decide (PySem.W.findIn K (.ref C) "__setattr__" = some (some (.builtin "object.__setattr__"))) && (decide (PySem.W.subIn K (.ref C) (.type "BaseException") = some true) && (decide (PySem.W.typeIn K (.ref C) = some (.type "type")) && PySem.W.keepIn K (.ref C))))
theorem oex_of {K : PySem.W.Frag} {C : Addr} (h : oexB K C = true) : OexC K C := by
  unfold oexB at h
  obtain ⟨q, h⟩ := Bool.and_eq_true_iff.mp h
  simp only [Bool.and_eq_true, decide_eq_true_eq] at h
  refine ⟨?_, h.1, h.2.1, h.2.2.1, h.2.2.2⟩
  split at q
  · rename_i dd cd sl ho
    split at q
    · rename_i C' bm k0 k1 k2 k3 n k5 hm hs
      simp only [Bool.and_eq_true, beq_iff_eq, Bool.not_eq_true'] at q
      obtain ⟨⟨⟨⟨rfl, rfl⟩, hdel⟩, hdc⟩, ht⟩ := q
      obtain ⟨nm, bs, mro, ns, qn, hd, sn, sub, ab, col, del⟩ := cd
      dsimp only at hm hdel hdc
      subst hm hdel hdc
      have hsl : sl = #[k0, k1, k2, k3, some (.builtin "ValueError.__new__"), k5] := by
        obtain ⟨l⟩ := sl
        simp only at hs
        rw [hs]
      subst hsl
      exact ⟨nm, qn, ns, bs, bm, sn, sub, ab, col, dd, k0, k1, k2, k3, k5, ho, ht⟩
    · cases q
  · cases q
/-- the class by whose name __init__ is called -/
structure IniC (K : PySem.W.Frag) (S : Addr) : Prop where
  ga : PySem.W.specialIn K (.ref S) "__getattribute__" = some (some (.builtin "type.__getattribute__"))
  ty : PySem.W.typeIn K (.ref S) = some (.type "type")
  rd : PySem.W.readsIn K S (.type "type") = true
  fc : PySem.W.findCls K (.ref S) (.type "type") "__init__" = some (.val (.builtin "ValueError.__init__"))
def iniB (K : PySem.W.Frag) (S : Addr) : Bool := decide (PySem.W.specialIn K (.ref S) "__getattribute__" = some (some (.builtin "type.__getattribute__"))) && (decide (PySem.W.typeIn K (.ref S) = some (.type "type")) && (PySem.W.readsIn K S (.type "type") &&
  (match PySem.W.findCls K (.ref S) (.type "type") "__init__" with
    | some (.val (.builtin n)) => n == "ValueError.__init__"
    | _ => false)))
theorem ini_of {K : PySem.W.Frag} {S : Addr} (h : iniB K S = true) : IniC K S := by
  unfold iniB at h
  simp only [Bool.and_eq_true, decide_eq_true_eq] at h
  obtain ⟨h1, h2, h3, h4⟩ := h
  refine ⟨h1, h2, h3, ?_⟩
  split at h4
  · rename_i n e
    rw [e, beq_iff_eq.mp h4]
  · cases h4
section
variable {X : Cx} {e : Expr} {es : List Expr} {ta : TA} {p1 p2 pos : Pos}
theorem pe_seinit {pl : Sem Bool} {x : Str} {S : Addr} (hg : Gl X x) (hm : X.mg x = some (.ref S)) (T : IniC X.K S) (ha : PA X (e :: es) ta) (hdb : (x == ("__debug__" : Str)) = false := by decide)
    (hc : eval (.Call (.Attribute (.Name x p1) "__init__" p2) (e :: es) [] pos) X.env = (do
      let ov ← eval (.Name x p1) X.env
      standAt p2.atName
      let (f, first) ← holding [ov] (getMethod ov "__init__" pl)
      callWith pos f first (backTo pos (starEach (e :: es) X.env)) (backToKw pos (keywordEach [] X.env))) := by rfl)
    (he : starEach (e :: es) X.env = (false, eval e X.env) :: starEach es X.env := by rfl) (hpl : (backTo pos (starEach es X.env)).any (·.1) = false := by rfl) :
    PE X (.Call (.Attribute (.Name x p1) "__init__" p2) (e :: es) [] pos) (tVeI X.K ta) := by
  refine ⟨fun pins s σ H Q I h => ?_⟩
  refine PySem.W.methodCall_KW (ld_glob I hg hm ?_ hdb) hc
  obtain ⟨m, fr⟩ := I.fr
  refine PySem.W.method_of_cls fr I.ok.mod.kin T.ga (PySem.W.cls_val fr I.ok.mod.kin T.ty T.rd T.fc (by decide +kernel) ?_)
  show wpAny _ _ (callWith pos (Value.builtin "ValueError.__init__") [] (backTo pos (starEach (e :: es) X.env)) []) _ _ _
  refine PyProof.Rows.callWith_method1 (thn (ha.run pos pins _ σ H _ (I.tok _) h) fun us s1 ⟨vs, H1, I1, r1, a, C, ws, ev, hl, T, ea, q⟩ => ?_) he hpl
  subst ev
  cases r1 with
  | @cons _ u0 _ ur ra rw' =>
    obtain rfl : u0 = Value.ref a := ra
    have hlen : ur.length ≤ sizeLine := by
      rw [← Paired.length rw', sizeLine_eq]
      omega
    exact oinit_ok T I1 ea hlen fun s' J => ⟨.non, H1, J, rfl, q⟩
/-- C(e), C's own __init__ keeping sp; the error has no context -/
theorem pmkN_oex {CX : CXT} {x : Str} {C fI : Addr} {k : Nat} {fd : FuncData} {ps : List Str} {sp : Sp} {p : Pos} (T : OexC X.K C) (iC : PySem.W.findIn X.K (.ref C) "__init__" = some (some (.ref fI))) (tI : PySem.W.typeIn X.K (.ref fI) = some (.type "function"))
    (F1 : FnOk X.prog X.w X.K X.mg X.base CX k fI fd ps sp) (hr : Room (k + 1) X.A) (hb : L2.Binds X.K fd ps []) (hx : Passes CX X (fun _ _ _ => False)) (hg : Gl X x) (hm : X.mg x = some (.ref C)) (ha : PA X (e :: es) ta)
    (hdb : (x == ("__debug__" : Str)) = false := by decide) (he : starEach (e :: es) X.env = (false, eval e X.env) :: starEach es X.env := by rfl) (hpl : (backTo pos (starEach es X.env)).any (·.1) = false := by rfl) :
    L2N.PMk X (.Call (.Name x p) (e :: es) [] pos) (tMkO C sp [] ta) := by
  intro pins s σ H Q I h
  obtain ⟨nm, q, N, bs, bm, sn, sub, ab, col, dd, k0, k1, k2, k3, k5, hC, hbm⟩ := T.cls
  refine wpAny_Call_Name_kw (ld_glob I hg hm ?_ hdb)
  refine PySem.W.callWith_K (h₀ := X.base) I.ok.mod.kin T.kC (thn (ha.run pos pins s σ H _ I h) fun us s1 ⟨vs, H1, I1, r1, hz, q1⟩ => ⟨I1.kIn, ?_⟩) he hpl
  show wpAny _ _ (call (.ref C) us) _ _ _
  obtain ⟨hp, g, dr, tk, os⟩ := s1
  have hsz : hp.objs.size ≤ hp.objs.size + 1 := Nat.le_succ _
  have hn : H1 (hp.objs.size + 1) = none := I1.hok.fresh hsz
  have hq := q1 (hp.objs.size + 1) hn
  have kk : ∀ b o, hp.get? b = some o → ((hp.push (PySem.W.kdv_tup us)).push (PySem.HandSPX.excO C hp.objs.size)).get? b = some o := fun b o e => Heap.get?_push_of_some _ (Heap.get?_push_of_some _ e)
  have hget : ((hp.push (PySem.W.kdv_tup us)).push (PySem.HandSPX.excO C hp.objs.size)).get? (hp.objs.size + 1) = some (PySem.HandSPX.excO C hp.objs.size) := by heap_get
  have I2 : Inv X pins σ (upd H1 (hp.objs.size + 1) (exo (hp.objs.size + 1) C none)) ⟨(hp.push (PySem.W.kdv_tup us)).push (PySem.HandSPX.excO C hp.objs.size), g, dr, tk, os⟩ :=
    I1.laid (t' := tk) (a := hp.objs.size + 1) (o := exo (hp.objs.size + 1) C none) (h' := (hp.push (PySem.W.kdv_tup us)).push (PySem.HandSPX.excO C hp.objs.size)) kk hsz (exo_ok hget)
  have r2 : Vals (V.ref (hp.objs.size + 1) :: (vs ++ [])) (Value.ref (hp.objs.size + 1) :: us) := by rw [List.append_nil]; exact .cons rfl r1
  have hl : (Value.ref (hp.objs.size + 1) :: us ++ []).length = ps.length := by
    have e := r2.length
    rw [F1.len _ _ _ _ hq] at e
    rw [List.append_nil]
    exact e.symm
  have b2 := hb _ (Value.ref (hp.objs.size + 1) :: us) I2.kIn hl
  rw [List.append_nil] at b2
  have hus : us.length ≤ sizeLine := by
    rw [← Paired.length r1, sizeLine_eq]
    omega
  refine wpAny_call (PySem.HandSPX.call_own F.excBase_ValueError (fun Y => PySem.HandSPX.refsVE_contains Y bm hbm) (I1.kIn _ _ hC) (PySem.W.looks_findIn I1.kIn iC) (fun self => PySem.W.bind_fn I1.kIn self tI) hus
    (codeAny_mono (F1.run _ X.stack _ _ ⟨Value.ref (hp.objs.size + 1) :: us, []⟩ (Value.ref (hp.objs.size + 1) :: us) _ _ (fun _ _ _ => False) (hr.make C us []) (I2.env0.make C us []) b2 r2 hq) fun r s' hq' => ?_))
  cases r with
  | error er => exact hx pins σ _ _ er s' I2 hq'
  | ok fl =>
    cases fl with
    | ret u =>
      obtain ⟨v, H2, os2, bare2, un2, hok2, rv, ev, d, fs, ea, ed, hd1, q2⟩ := hq'
      subst ev
      obtain ⟨h2, g2, d2, t2, os'⟩ := s'
      obtain ⟨t0, G, J, kG, ge, hoe, na⟩ := mk_end0 (d2 := d2) (t2 := t2) I1 hsz kk un2 hok2 os2 bare2 ea ed hd1
      exact ⟨rv, hp.objs.size + 1, _, _, ⟨G, g2, d2, t2, os'⟩, _, .ref C, some d, rfl, J, kG, ge, hoe, ⟨rfl, rfl, fun vs hv => by cases hv; rfl⟩, rfl, rfl, na, rfl, bare2, raises_own T.exC T.tyC, q2⟩
    | next => exact False.elim hq'
    | brk => exact False.elim hq'
    | cont => exact False.elim hq'
end
/-- what such an __init__ promises -/
def spXI (K : PySem.W.Frag) (C : Addr) (f : Str) : Sp := sp2 fun x y H Q _ => ∃ a, x = .ref a ∧ H a = some (exo a C none) ∧ ∀ dx, H dx = none → dx ≠ a → Q .non (upd (upd H dx (exd dx [(f, y)])) a (exo a C (some dx)))
/-- raise C(e): the reading -/
def tRx (K : PySem.W.Frag) (E : XK) (C : Addr) (f : Str) (te : TE) : TS := fun _ σ H => tMkO C (spXI K C f) [] (tCons te tNil) σ H fun cls d H' => E cls d H'
def RxG (K : PySem.W.Frag) (E : XK) (C : Addr) (f : Str) (v : V) (H1 : Hp) : Prop := [v].length ≤ 1000 ∧ ∀ a, H1 a = none → spXI K C f (.ref a :: ([v] ++ [])) (upd H1 a (exo a C none))
  (fun v H2 => v = .non ∧ ∃ (d : Addr) (fs : List (Str × V)), H2 a = some (exo a C (some d)) ∧ H2 d = some (exd d fs) ∧ H1 d = none ∧ E (.ref C) (some d) (upd (del H2 a) d (.xd fs))) (fun _ _ _ => False)
theorem s_rx {K : PySem.W.Frag} {E : XK} {C : Addr} {f : Str} {te : TE} {D : Ends} {σ : L2.St} {H : Hp} (q : te σ H fun v H1 => RxG K E C f v H1) : tRx K E C f te D σ H := q
theorem rx_at {K : PySem.W.Frag} {E : XK} {C : Addr} {f : Str} {v : V} {H1 : Hp} (h1 : ∀ d, H1 d = none → E (.ref C) (some d) (upd H1 d (.xd [(f, v)]))) : RxG K E C f v H1 := by
  refine ⟨by show 1 ≤ 1000; decide, fun a ha => ⟨_, _, rfl, a, rfl, upd_same, fun dx hd hda => ⟨rfl, dx, [(f, v)], upd_same, ?_, ?_, ?_⟩⟩⟩
  · rw [upd_ne hda]; exact upd_same
  · rw [upd_ne hda] at hd; exact hd
  · rw [upd_ne hda] at hd
    have e : upd (del (upd (upd (upd H1 a (exo a C none)) dx (exd dx [(f, v)])) a (exo a C (some dx))) a) dx (.xd [(f, v)]) = upd H1 dx (.xd [(f, v)]) := by
      funext b
      by_cases hb : b = dx
      · rw [hb, upd_same, upd_same]
      · rw [upd_ne hb, upd_ne hb]
        by_cases hba : b = a
        · rw [hba, del_same, ha]
        · rw [del_ne hba, upd_ne hba, upd_ne hb, upd_ne hba]
    rw [e]
    exact h1 dx hd
/-- the facts of the refusals with a field: (class, field) -/
def exX (K : PySem.W.Frag) (xs : List (Str × Str)) : Bool := iniB K (He.ga K "StillError") && xs.all fun x => oexB K (He.ga K x.1) && (decide (PySem.W.findIn K (.ref (He.ga K x.1)) "__init__" = some (some (.ref (He.fAd K (x.1, some "__init__"))))) &&
  (decide (PySem.W.typeIn K (.ref (He.fAd K (x.1, some "__init__"))) = some (.type "function")) && (xfB K (He.ga K x.1) && decide (PySem.W.findIn K (.ref (He.ga K x.1)) x.2 = some none))))
structure XX (K : PySem.W.Frag) (C f : Str) : Prop where
  ox : OexC K (He.ga K C)
  iC : PySem.W.findIn K (.ref (He.ga K C)) "__init__" = some (some (.ref (He.fAd K (C, some "__init__"))))
  tI : PySem.W.typeIn K (.ref (He.fAd K (C, some "__init__"))) = some (.type "function")
  xf : XfC K (He.ga K C)
  no : PySem.W.findIn K (.ref (He.ga K C)) f = some none
theorem exX_ini {K : PySem.W.Frag} {xs : List (Str × Str)} (h : exX K xs = true) : IniC K (He.ga K "StillError") := ini_of (Bool.and_eq_true_iff.mp h).1
theorem exX_of {K : PySem.W.Frag} {xs : List (Str × Str)} (h : exX K xs = true) {C f : Str} (hm : (C, f) ∈ xs) : XX K C f := by
  have z := List.all_eq_true.mp (Bool.and_eq_true_iff.mp h).2 _ hm
  simp only [Bool.and_eq_true, decide_eq_true_eq] at z
  exact ⟨oex_of z.1, z.2.1, z.2.2.1, xfB_ok z.2.2.2.1, z.2.2.2.2⟩
end Cm

end
section
namespace W
open PySem PySem.Spec PyProof.Rows L2 Cm
def top (i : Nat) : Stmt := PySem.Challenge.pw_stillcopy_k16_readings_judged.main.body.getD i (.Pass ⟨0, 0, 0, 0⟩)
abbrev s__wall : Stmt := top 0
abbrev s_BadDeal_init : Stmt := inClass (top 3) 0
abbrev s_Behind_init : Stmt := inClass (top 10) 0
abbrev s_BadText_init : Stmt := inClass (top 13) 0
abbrev s_is_from : Stmt := top 21
abbrev s_is_put : Stmt := top 22
abbrev s_is_if : Stmt := top 23
abbrev s_is_deed : Stmt := top 24
abbrev s_need_deal : Stmt := top 25
abbrev s_need_hand : Stmt := top 26
abbrev s_need_key : Stmt := top 27
abbrev s_shown_row : Stmt := top 28
abbrev s_row_behind : Stmt := top 29
abbrev s_effects_of : Stmt := top 30
abbrev s_page_of : Stmt := top 35
abbrev s_pages_of : Stmt := top 36
abbrev s_Table_init : Stmt := inClass (top 37) 0
abbrev s_Table_row_at : Stmt := inClass (top 37) 1
abbrev s_Table_shown : Stmt := inClass (top 37) 2
abbrev s_Table_content : Stmt := inClass (top 37) 3
abbrev s_Table_put_page : Stmt := inClass (top 37) 4
abbrev s_Table_prune : Stmt := inClass (top 37) 5
abbrev s_Table_change : Stmt := inClass (top 37) 6
abbrev s_Table_whole : Stmt := inClass (top 37) 7
abbrev s_need_entry : Stmt := top 40
abbrev s_tables_of : Stmt := top 41
abbrev s_judge : Stmt := top 42
abbrev s_begun_ : Stmt := top 44
abbrev s_take_ : Stmt := top 45
abbrev s_alike_ : Stmt := top 46
abbrev s_class_ : Stmt := top 47
abbrev s_refused_ : Stmt := top 48
abbrev s_all_ : Stmt := top 49
abbrev s_store_ : Stmt := top 50
abbrev s_again_ : Stmt := top 51
abbrev s_seen_ : Stmt := top 52
abbrev s_tried_ : Stmt := top 53
abbrev s_deal_ : Stmt := top 54
abbrev s_whole_ : Stmt := top 55
abbrev s_deed_ : Stmt := top 56
abbrev s_drawn_ : Stmt := top 57
abbrev s_entries_ : Stmt := top 58
abbrev s_readings_ : Stmt := top 59
abbrev s_due_ : Stmt := top 60
abbrev s_odd_ : Stmt := top 61
abbrev s_law : Stmt := top 62
def d__wall : He.DefD := ⟨("_wall", none), "_wall", "_wall", defArgs s__wall, defBody s__wall, defScope s__wall, [], []⟩
def d_BadDeal_init : He.DefD := ⟨("BadDeal", some "__init__"), "__init__", "BadDeal.__init__", defArgs s_BadDeal_init, defBody s_BadDeal_init, defScope s_BadDeal_init, [], []⟩
def d_Behind_init : He.DefD := ⟨("Behind", some "__init__"), "__init__", "Behind.__init__", defArgs s_Behind_init, defBody s_Behind_init, defScope s_Behind_init, [], []⟩
def d_BadText_init : He.DefD := ⟨("BadText", some "__init__"), "__init__", "BadText.__init__", defArgs s_BadText_init, defBody s_BadText_init, defScope s_BadText_init, [], []⟩
def d_is_from : He.DefD := ⟨("is_from", none), "is_from", "is_from", defArgs s_is_from, defBody s_is_from, defScope s_is_from, [], []⟩
def d_is_put : He.DefD := ⟨("is_put", none), "is_put", "is_put", defArgs s_is_put, defBody s_is_put, defScope s_is_put, [], []⟩
def d_is_if : He.DefD := ⟨("is_if", none), "is_if", "is_if", defArgs s_is_if, defBody s_is_if, defScope s_is_if, [], []⟩
def d_is_deed : He.DefD := ⟨("is_deed", none), "is_deed", "is_deed", defArgs s_is_deed, defBody s_is_deed, defScope s_is_deed, [], []⟩
def d_need_deal : He.DefD := ⟨("need_deal", none), "need_deal", "need_deal", defArgs s_need_deal, defBody s_need_deal, defScope s_need_deal, [], []⟩
def d_need_hand : He.DefD := ⟨("need_hand", none), "need_hand", "need_hand", defArgs s_need_hand, defBody s_need_hand, defScope s_need_hand, [], []⟩
def d_need_key : He.DefD := ⟨("need_key", none), "need_key", "need_key", defArgs s_need_key, defBody s_need_key, defScope s_need_key, [], []⟩
def d_shown_row : He.DefD := ⟨("shown_row", none), "shown_row", "shown_row", defArgs s_shown_row, defBody s_shown_row, defScope s_shown_row, [], []⟩
def d_row_behind : He.DefD := ⟨("row_behind", none), "row_behind", "row_behind", defArgs s_row_behind, defBody s_row_behind, defScope s_row_behind, [], []⟩
def d_effects_of : He.DefD := ⟨("effects_of", none), "effects_of", "effects_of", defArgs s_effects_of, defBody s_effects_of, defScope s_effects_of, [], []⟩
def d_page_of : He.DefD := ⟨("page_of", none), "page_of", "page_of", defArgs s_page_of, defBody s_page_of, defScope s_page_of, [], []⟩
def d_pages_of : He.DefD := ⟨("pages_of", none), "pages_of", "pages_of", defArgs s_pages_of, defBody s_pages_of, defScope s_pages_of, [], []⟩
def d_Table_init : He.DefD := ⟨("Table", some "__init__"), "__init__", "Table.__init__", defArgs s_Table_init, defBody s_Table_init, defScope s_Table_init, [], []⟩
def d_Table_row_at : He.DefD := ⟨("Table", some "row_at"), "row_at", "Table.row_at", defArgs s_Table_row_at, defBody s_Table_row_at, defScope s_Table_row_at, [], []⟩
def d_Table_shown : He.DefD := ⟨("Table", some "shown"), "shown", "Table.shown", defArgs s_Table_shown, defBody s_Table_shown, defScope s_Table_shown, [], []⟩
def d_Table_content : He.DefD := ⟨("Table", some "content"), "content", "Table.content", defArgs s_Table_content, defBody s_Table_content, defScope s_Table_content, [], []⟩
def d_Table_put_page : He.DefD := ⟨("Table", some "put_page"), "put_page", "Table.put_page", defArgs s_Table_put_page, defBody s_Table_put_page, defScope s_Table_put_page, [], []⟩
def d_Table_prune : He.DefD := ⟨("Table", some "prune"), "prune", "Table.prune", defArgs s_Table_prune, defBody s_Table_prune, defScope s_Table_prune, [], []⟩
def d_Table_change : He.DefD := ⟨("Table", some "change"), "change", "Table.change", defArgs s_Table_change, defBody s_Table_change, defScope s_Table_change, [], []⟩
def d_Table_whole : He.DefD := ⟨("Table", some "whole"), "whole", "Table.whole", defArgs s_Table_whole, defBody s_Table_whole, defScope s_Table_whole, [], []⟩
def d_need_entry : He.DefD := ⟨("need_entry", none), "need_entry", "need_entry", defArgs s_need_entry, defBody s_need_entry, defScope s_need_entry, [], []⟩
def d_tables_of : He.DefD := ⟨("tables_of", none), "tables_of", "tables_of", defArgs s_tables_of, defBody s_tables_of, defScope s_tables_of, [], []⟩
def d_judge : He.DefD := ⟨("judge", none), "judge", "judge", defArgs s_judge, defBody s_judge, defScope s_judge, [], []⟩
def d_begun_ : He.DefD := ⟨("_law_begun", none), "_law_begun", "_law_begun", defArgs s_begun_, defBody s_begun_, defScope s_begun_, [], []⟩
def d_take_ : He.DefD := ⟨("_law_take", none), "_law_take", "_law_take", defArgs s_take_, defBody s_take_, defScope s_take_, [], []⟩
def d_alike_ : He.DefD := ⟨("_law_alike", none), "_law_alike", "_law_alike", defArgs s_alike_, defBody s_alike_, defScope s_alike_, [], []⟩
def d_class_ : He.DefD := ⟨("_law_class", none), "_law_class", "_law_class", defArgs s_class_, defBody s_class_, defScope s_class_, [], []⟩
def d_refused_ : He.DefD := ⟨("_law_refused", none), "_law_refused", "_law_refused", defArgs s_refused_, defBody s_refused_, defScope s_refused_, [], []⟩
def d_all_ : He.DefD := ⟨("_law_all", none), "_law_all", "_law_all", defArgs s_all_, defBody s_all_, defScope s_all_, [], []⟩
def d_store_ : He.DefD := ⟨("_law_store", none), "_law_store", "_law_store", defArgs s_store_, defBody s_store_, defScope s_store_, [], []⟩
def d_again_ : He.DefD := ⟨("_law_again", none), "_law_again", "_law_again", defArgs s_again_, defBody s_again_, defScope s_again_, [], []⟩
def d_seen_ : He.DefD := ⟨("_law_seen", none), "_law_seen", "_law_seen", defArgs s_seen_, defBody s_seen_, defScope s_seen_, [], []⟩
def d_tried_ : He.DefD := ⟨("_law_tried", none), "_law_tried", "_law_tried", defArgs s_tried_, defBody s_tried_, defScope s_tried_, [], []⟩
def d_deal_ : He.DefD := ⟨("_law_deal", none), "_law_deal", "_law_deal", defArgs s_deal_, defBody s_deal_, defScope s_deal_, [], []⟩
def d_whole_ : He.DefD := ⟨("_law_whole", none), "_law_whole", "_law_whole", defArgs s_whole_, defBody s_whole_, defScope s_whole_, [], []⟩
def d_deed_ : He.DefD := ⟨("_law_deed", none), "_law_deed", "_law_deed", defArgs s_deed_, defBody s_deed_, defScope s_deed_, [], []⟩
def d_drawn_ : He.DefD := ⟨("_law_drawn", none), "_law_drawn", "_law_drawn", defArgs s_drawn_, defBody s_drawn_, defScope s_drawn_, [], []⟩
def d_entries_ : He.DefD := ⟨("_law_entries", none), "_law_entries", "_law_entries", defArgs s_entries_, defBody s_entries_, defScope s_entries_, [], []⟩
def d_readings_ : He.DefD := ⟨("_law_readings", none), "_law_readings", "_law_readings", defArgs s_readings_, defBody s_readings_, defScope s_readings_, [], []⟩
def d_due_ : He.DefD := ⟨("_law_due", none), "_law_due", "_law_due", defArgs s_due_, defBody s_due_, defScope s_due_, [], []⟩
def d_odd_ : He.DefD := ⟨("_law_odd", none), "_law_odd", "_law_odd", defArgs s_odd_, defBody s_odd_, defScope s_odd_, [], []⟩
def d_law : He.DefD := ⟨("law", none), "law", "law", defArgs s_law, defBody s_law, defScope s_law, [], []⟩
def fn0 : List He.DefD := [d__wall, d_BadDeal_init, d_Behind_init, d_BadText_init, d_is_from, d_is_put, d_is_if, d_is_deed, d_need_deal, d_need_hand, d_need_key, d_shown_row, d_row_behind, d_effects_of, d_page_of, d_pages_of, d_Table_init, d_Table_row_at, d_Table_shown, d_Table_content, d_Table_put_page, d_Table_prune, d_Table_change, d_Table_whole, d_need_entry]
def fn1 : List He.DefD := [d_tables_of, d_judge, d_begun_, d_take_, d_alike_, d_class_, d_refused_, d_all_, d_store_, d_again_, d_seen_, d_tried_, d_deal_, d_whole_, d_deed_, d_drawn_, d_entries_, d_readings_, d_due_, d_odd_, d_law]
def fn : List He.DefD := fn0 ++ (fn1)
def fa0 : List He.Fa := [.glo "_wall", .glo "StillError", .glo "BadDeal", .glo "BadHand", .glo "BadLetter", .glo "BadTime", .glo "BadKey", .glo "BadHouse", .glo "NoCopy", .glo "Behind", .glo "BadBlock", .glo "BadEntry", .glo "BadText", .glo "Stopped", .glo "is_from", .glo "is_put", .glo "is_if", .glo "is_deed", .glo "need_deal", .glo "need_hand", .glo "need_key", .glo "shown_row", .glo "row_behind", .glo "effects_of", .glo "page_of"]
def fa1 : List He.Fa := [.glo "pages_of", .glo "Table", .glo "need_entry", .glo "tables_of", .glo "judge", .glo "_law_begun", .glo "_law_take", .glo "_law_alike", .glo "_law_class", .glo "_law_refused", .glo "_law_all", .glo "_law_store", .glo "_law_again", .glo "_law_seen", .glo "_law_tried", .glo "_law_deal", .glo "_law_whole", .glo "_law_deed", .glo "_law_drawn", .glo "_law_entries", .glo "_law_readings", .glo "_law_due", .glo "_law_odd", .glo "law", .free "len"]
def fa2 : List He.Fa := [.free "range", .free "list", .free "tuple", .free "int", .free "str", .free "bool", .free "max", .free "min", .free "sorted", .free "isinstance", .free "enumerate", .free "dict", .free "set", .free "ValueError", .int "KEYS" (32), .int "HANDS" (4), .int "MOST_WORTH" (999), .int "MOST_LIFE" (1000), .int "MOST_DEEDS" (4), .int "PER_PAGE" (4), .int "ROW_PAGES" (8), .int "HANDS_PAGE" (8), .int "MOST_MOMENT" (1000000), .exc "StillError", .keep "StillError"]
def fa3 : List He.Fa := [.exm "StillError" "StillError" true, .keep "BadDeal", .exm "BadDeal" "StillError" true, .exc "BadHand", .keep "BadHand", .exm "BadHand" "StillError" true, .exc "BadLetter", .keep "BadLetter", .exm "BadLetter" "StillError" true, .exc "BadTime", .keep "BadTime", .exm "BadTime" "StillError" true, .exc "BadKey", .keep "BadKey", .exm "BadKey" "StillError" true, .exc "BadHouse", .keep "BadHouse", .exm "BadHouse" "StillError" true, .exc "NoCopy", .keep "NoCopy", .exm "NoCopy" "StillError" true, .keep "Behind", .exm "Behind" "StillError" true, .exc "BadBlock", .keep "BadBlock"]
def fa4 : List He.Fa := [.exm "BadBlock" "StillError" true, .exc "BadEntry", .keep "BadEntry", .exm "BadEntry" "StillError" true, .keep "BadText", .exm "BadText" "StillError" true, .exc "Stopped", .keep "Stopped", .exm "Stopped" "StillError" true, .cls "Table", .noat "Table" "rows", .noat "Table" "hands", .noat "Table" "moment", .noat "Table" "number", .meth "Table" "row_at", .meth "Table" "shown", .meth "Table" "content", .meth "Table" "put_page", .meth "Table" "prune", .meth "Table" "change", .meth "Table" "whole", .mkr "Table"]
def fa : List He.Fa := fa0 ++ (fa1 ++ (fa2 ++ (fa3 ++ (fa4))))
def tf : List He.Defn := [("law", none)]
def exf (K : PySem.W.Frag) : Bool := (Cm.exK K && Cm.exX K [("BadDeal", "place"), ("Behind", "number"), ("BadText", "row")]) && decide ((tf.map fun p => (He.cT K p).2).Nodup)
/-- what the top has written -/
structure Tx (w : World) (K : PySem.W.Frag) (mg : Str → Option Value) : Prop where
  ex : ∃ h : Heap, K.In h ∧ h.Ns mainGlobals mg ∧ He.SaysX fa fn [] tf exf w h K
section
variable {w : World} {K : PySem.W.Frag} {mg : Str → Option Value}
theorem Tx.fact (T : Tx w K mg) (i : Nat) {f : He.Fa} (h : fa[i]? = some f) : f.ok K = true := by
  obtain ⟨_, _, _, c⟩ := T.ex
  exact c.t.d.fact i h
theorem Tx.dfn (T : Tx w K mg) (i : Nat) {d : He.DefD} (h : fn[i]? = some d) : ∃ fd, FunD K d.name d.qual d.params d.body d.scope (d.dvs K) (d.kws K) (He.fAd K d.at_) fd := by
  obtain ⟨_, _, _, c⟩ := T.ex
  exact c.t.d.def_ i h
theorem Tx.more (T : Tx w K mg) : exf K = true := by
  obtain ⟨_, _, _, c⟩ := T.ex
  exact c.more
theorem Tx.ex0 (T : Tx w K mg) : (Cm.exK K && Cm.exX K [("BadDeal", "place"), ("Behind", "number"), ("BadText", "row")]) = true := (Bool.and_eq_true _ _ ▸ T.more : _ ∧ _).1
theorem Tx.ex1 (T : Tx w K mg) : Cm.exK K = true := (Bool.and_eq_true _ _ ▸ T.ex0 : _ ∧ _).1
theorem Tx.exx0 (T : Tx w K mg) : Cm.exX K [("BadDeal", "place"), ("Behind", "number"), ("BadText", "row")] = true := (Bool.and_eq_true _ _ ▸ T.ex0 : _ ∧ _).2
theorem Tx.exx (T : Tx w K mg) : Cm.exX K [("BadDeal", "place"), ("Behind", "number"), ("BadText", "row")] = true := T.exx0
theorem Tx.ini (T : Tx w K mg) : Cm.IniC K (He.ga K "StillError") := Cm.exX_ini T.exx
theorem Tx.tnd (T : Tx w K mg) : (tf.map fun p => (He.cT K p).2).Nodup := of_decide_eq_true (Bool.and_eq_true _ _ ▸ T.more : _ ∧ _).2
theorem Tx.x_BadDeal (T : Tx w K mg) : Cm.XX K "BadDeal" "place" := Cm.exX_of T.exx (by decide)
theorem Tx.x_Behind (T : Tx w K mg) : Cm.XX K "Behind" "number" := Cm.exX_of T.exx (by decide)
theorem Tx.x_BadText (T : Tx w K mg) : Cm.XX K "BadText" "row" := Cm.exX_of T.exx (by decide)
theorem Tx.g__wall (T : Tx w K mg) : mg "_wall" = some (.ref (He.ga K "_wall")) := by
  obtain ⟨h, X, G, c⟩ := T.ex
  exact He.glo_ok X G (c.t.d.fact 0 rfl)
theorem Tx.g_StillError (T : Tx w K mg) : mg "StillError" = some (.ref (He.ga K "StillError")) := by
  obtain ⟨h, X, G, c⟩ := T.ex
  exact He.glo_ok X G (c.t.d.fact 1 rfl)
theorem Tx.g_BadDeal (T : Tx w K mg) : mg "BadDeal" = some (.ref (He.ga K "BadDeal")) := by
  obtain ⟨h, X, G, c⟩ := T.ex
  exact He.glo_ok X G (c.t.d.fact 2 rfl)
theorem Tx.g_BadHand (T : Tx w K mg) : mg "BadHand" = some (.ref (He.ga K "BadHand")) := by
  obtain ⟨h, X, G, c⟩ := T.ex
  exact He.glo_ok X G (c.t.d.fact 3 rfl)
theorem Tx.g_BadLetter (T : Tx w K mg) : mg "BadLetter" = some (.ref (He.ga K "BadLetter")) := by
  obtain ⟨h, X, G, c⟩ := T.ex
  exact He.glo_ok X G (c.t.d.fact 4 rfl)
theorem Tx.g_BadTime (T : Tx w K mg) : mg "BadTime" = some (.ref (He.ga K "BadTime")) := by
  obtain ⟨h, X, G, c⟩ := T.ex
  exact He.glo_ok X G (c.t.d.fact 5 rfl)
theorem Tx.g_BadKey (T : Tx w K mg) : mg "BadKey" = some (.ref (He.ga K "BadKey")) := by
  obtain ⟨h, X, G, c⟩ := T.ex
  exact He.glo_ok X G (c.t.d.fact 6 rfl)
theorem Tx.g_BadHouse (T : Tx w K mg) : mg "BadHouse" = some (.ref (He.ga K "BadHouse")) := by
  obtain ⟨h, X, G, c⟩ := T.ex
  exact He.glo_ok X G (c.t.d.fact 7 rfl)
theorem Tx.g_NoCopy (T : Tx w K mg) : mg "NoCopy" = some (.ref (He.ga K "NoCopy")) := by
  obtain ⟨h, X, G, c⟩ := T.ex
  exact He.glo_ok X G (c.t.d.fact 8 rfl)
theorem Tx.g_Behind (T : Tx w K mg) : mg "Behind" = some (.ref (He.ga K "Behind")) := by
  obtain ⟨h, X, G, c⟩ := T.ex
  exact He.glo_ok X G (c.t.d.fact 9 rfl)
theorem Tx.g_BadBlock (T : Tx w K mg) : mg "BadBlock" = some (.ref (He.ga K "BadBlock")) := by
  obtain ⟨h, X, G, c⟩ := T.ex
  exact He.glo_ok X G (c.t.d.fact 10 rfl)
theorem Tx.g_BadEntry (T : Tx w K mg) : mg "BadEntry" = some (.ref (He.ga K "BadEntry")) := by
  obtain ⟨h, X, G, c⟩ := T.ex
  exact He.glo_ok X G (c.t.d.fact 11 rfl)
theorem Tx.g_BadText (T : Tx w K mg) : mg "BadText" = some (.ref (He.ga K "BadText")) := by
  obtain ⟨h, X, G, c⟩ := T.ex
  exact He.glo_ok X G (c.t.d.fact 12 rfl)
theorem Tx.g_Stopped (T : Tx w K mg) : mg "Stopped" = some (.ref (He.ga K "Stopped")) := by
  obtain ⟨h, X, G, c⟩ := T.ex
  exact He.glo_ok X G (c.t.d.fact 13 rfl)
theorem Tx.g_is_from (T : Tx w K mg) : mg "is_from" = some (.ref (He.ga K "is_from")) := by
  obtain ⟨h, X, G, c⟩ := T.ex
  exact He.glo_ok X G (c.t.d.fact 14 rfl)
theorem Tx.g_is_put (T : Tx w K mg) : mg "is_put" = some (.ref (He.ga K "is_put")) := by
  obtain ⟨h, X, G, c⟩ := T.ex
  exact He.glo_ok X G (c.t.d.fact 15 rfl)
theorem Tx.g_is_if (T : Tx w K mg) : mg "is_if" = some (.ref (He.ga K "is_if")) := by
  obtain ⟨h, X, G, c⟩ := T.ex
  exact He.glo_ok X G (c.t.d.fact 16 rfl)
theorem Tx.g_is_deed (T : Tx w K mg) : mg "is_deed" = some (.ref (He.ga K "is_deed")) := by
  obtain ⟨h, X, G, c⟩ := T.ex
  exact He.glo_ok X G (c.t.d.fact 17 rfl)
theorem Tx.g_need_deal (T : Tx w K mg) : mg "need_deal" = some (.ref (He.ga K "need_deal")) := by
  obtain ⟨h, X, G, c⟩ := T.ex
  exact He.glo_ok X G (c.t.d.fact 18 rfl)
theorem Tx.g_need_hand (T : Tx w K mg) : mg "need_hand" = some (.ref (He.ga K "need_hand")) := by
  obtain ⟨h, X, G, c⟩ := T.ex
  exact He.glo_ok X G (c.t.d.fact 19 rfl)
theorem Tx.g_need_key (T : Tx w K mg) : mg "need_key" = some (.ref (He.ga K "need_key")) := by
  obtain ⟨h, X, G, c⟩ := T.ex
  exact He.glo_ok X G (c.t.d.fact 20 rfl)
theorem Tx.g_shown_row (T : Tx w K mg) : mg "shown_row" = some (.ref (He.ga K "shown_row")) := by
  obtain ⟨h, X, G, c⟩ := T.ex
  exact He.glo_ok X G (c.t.d.fact 21 rfl)
theorem Tx.g_row_behind (T : Tx w K mg) : mg "row_behind" = some (.ref (He.ga K "row_behind")) := by
  obtain ⟨h, X, G, c⟩ := T.ex
  exact He.glo_ok X G (c.t.d.fact 22 rfl)
theorem Tx.g_effects_of (T : Tx w K mg) : mg "effects_of" = some (.ref (He.ga K "effects_of")) := by
  obtain ⟨h, X, G, c⟩ := T.ex
  exact He.glo_ok X G (c.t.d.fact 23 rfl)
theorem Tx.g_page_of (T : Tx w K mg) : mg "page_of" = some (.ref (He.ga K "page_of")) := by
  obtain ⟨h, X, G, c⟩ := T.ex
  exact He.glo_ok X G (c.t.d.fact 24 rfl)
theorem Tx.g_pages_of (T : Tx w K mg) : mg "pages_of" = some (.ref (He.ga K "pages_of")) := by
  obtain ⟨h, X, G, c⟩ := T.ex
  exact He.glo_ok X G (c.t.d.fact 25 rfl)
theorem Tx.g_Table (T : Tx w K mg) : mg "Table" = some (.ref (He.ga K "Table")) := by
  obtain ⟨h, X, G, c⟩ := T.ex
  exact He.glo_ok X G (c.t.d.fact 26 rfl)
theorem Tx.g_need_entry (T : Tx w K mg) : mg "need_entry" = some (.ref (He.ga K "need_entry")) := by
  obtain ⟨h, X, G, c⟩ := T.ex
  exact He.glo_ok X G (c.t.d.fact 27 rfl)
theorem Tx.g_tables_of (T : Tx w K mg) : mg "tables_of" = some (.ref (He.ga K "tables_of")) := by
  obtain ⟨h, X, G, c⟩ := T.ex
  exact He.glo_ok X G (c.t.d.fact 28 rfl)
theorem Tx.g_judge (T : Tx w K mg) : mg "judge" = some (.ref (He.ga K "judge")) := by
  obtain ⟨h, X, G, c⟩ := T.ex
  exact He.glo_ok X G (c.t.d.fact 29 rfl)
theorem Tx.g_begun_ (T : Tx w K mg) : mg "_law_begun" = some (.ref (He.ga K "_law_begun")) := by
  obtain ⟨h, X, G, c⟩ := T.ex
  exact He.glo_ok X G (c.t.d.fact 30 rfl)
theorem Tx.g_take_ (T : Tx w K mg) : mg "_law_take" = some (.ref (He.ga K "_law_take")) := by
  obtain ⟨h, X, G, c⟩ := T.ex
  exact He.glo_ok X G (c.t.d.fact 31 rfl)
theorem Tx.g_alike_ (T : Tx w K mg) : mg "_law_alike" = some (.ref (He.ga K "_law_alike")) := by
  obtain ⟨h, X, G, c⟩ := T.ex
  exact He.glo_ok X G (c.t.d.fact 32 rfl)
theorem Tx.g_class_ (T : Tx w K mg) : mg "_law_class" = some (.ref (He.ga K "_law_class")) := by
  obtain ⟨h, X, G, c⟩ := T.ex
  exact He.glo_ok X G (c.t.d.fact 33 rfl)
theorem Tx.g_refused_ (T : Tx w K mg) : mg "_law_refused" = some (.ref (He.ga K "_law_refused")) := by
  obtain ⟨h, X, G, c⟩ := T.ex
  exact He.glo_ok X G (c.t.d.fact 34 rfl)
theorem Tx.g_all_ (T : Tx w K mg) : mg "_law_all" = some (.ref (He.ga K "_law_all")) := by
  obtain ⟨h, X, G, c⟩ := T.ex
  exact He.glo_ok X G (c.t.d.fact 35 rfl)
theorem Tx.g_store_ (T : Tx w K mg) : mg "_law_store" = some (.ref (He.ga K "_law_store")) := by
  obtain ⟨h, X, G, c⟩ := T.ex
  exact He.glo_ok X G (c.t.d.fact 36 rfl)
theorem Tx.g_again_ (T : Tx w K mg) : mg "_law_again" = some (.ref (He.ga K "_law_again")) := by
  obtain ⟨h, X, G, c⟩ := T.ex
  exact He.glo_ok X G (c.t.d.fact 37 rfl)
theorem Tx.g_seen_ (T : Tx w K mg) : mg "_law_seen" = some (.ref (He.ga K "_law_seen")) := by
  obtain ⟨h, X, G, c⟩ := T.ex
  exact He.glo_ok X G (c.t.d.fact 38 rfl)
theorem Tx.g_tried_ (T : Tx w K mg) : mg "_law_tried" = some (.ref (He.ga K "_law_tried")) := by
  obtain ⟨h, X, G, c⟩ := T.ex
  exact He.glo_ok X G (c.t.d.fact 39 rfl)
theorem Tx.g_deal_ (T : Tx w K mg) : mg "_law_deal" = some (.ref (He.ga K "_law_deal")) := by
  obtain ⟨h, X, G, c⟩ := T.ex
  exact He.glo_ok X G (c.t.d.fact 40 rfl)
theorem Tx.g_whole_ (T : Tx w K mg) : mg "_law_whole" = some (.ref (He.ga K "_law_whole")) := by
  obtain ⟨h, X, G, c⟩ := T.ex
  exact He.glo_ok X G (c.t.d.fact 41 rfl)
theorem Tx.g_deed_ (T : Tx w K mg) : mg "_law_deed" = some (.ref (He.ga K "_law_deed")) := by
  obtain ⟨h, X, G, c⟩ := T.ex
  exact He.glo_ok X G (c.t.d.fact 42 rfl)
theorem Tx.g_drawn_ (T : Tx w K mg) : mg "_law_drawn" = some (.ref (He.ga K "_law_drawn")) := by
  obtain ⟨h, X, G, c⟩ := T.ex
  exact He.glo_ok X G (c.t.d.fact 43 rfl)
theorem Tx.g_entries_ (T : Tx w K mg) : mg "_law_entries" = some (.ref (He.ga K "_law_entries")) := by
  obtain ⟨h, X, G, c⟩ := T.ex
  exact He.glo_ok X G (c.t.d.fact 44 rfl)
theorem Tx.g_readings_ (T : Tx w K mg) : mg "_law_readings" = some (.ref (He.ga K "_law_readings")) := by
  obtain ⟨h, X, G, c⟩ := T.ex
  exact He.glo_ok X G (c.t.d.fact 45 rfl)
theorem Tx.g_due_ (T : Tx w K mg) : mg "_law_due" = some (.ref (He.ga K "_law_due")) := by
  obtain ⟨h, X, G, c⟩ := T.ex
  exact He.glo_ok X G (c.t.d.fact 46 rfl)
theorem Tx.g_odd_ (T : Tx w K mg) : mg "_law_odd" = some (.ref (He.ga K "_law_odd")) := by
  obtain ⟨h, X, G, c⟩ := T.ex
  exact He.glo_ok X G (c.t.d.fact 47 rfl)
theorem Tx.g_law (T : Tx w K mg) : mg "law" = some (.ref (He.ga K "law")) := by
  obtain ⟨h, X, G, c⟩ := T.ex
  exact He.glo_ok X G (c.t.d.fact 48 rfl)
theorem Tx.n_len (T : Tx w K mg) : mg "len" = none := by
  obtain ⟨h, X, G, c⟩ := T.ex
  exact He.free_ok X G (c.t.d.fact 49 rfl)
theorem Tx.n_range (T : Tx w K mg) : mg "range" = none := by
  obtain ⟨h, X, G, c⟩ := T.ex
  exact He.free_ok X G (c.t.d.fact 50 rfl)
theorem Tx.n_list (T : Tx w K mg) : mg "list" = none := by
  obtain ⟨h, X, G, c⟩ := T.ex
  exact He.free_ok X G (c.t.d.fact 51 rfl)
theorem Tx.n_tuple (T : Tx w K mg) : mg "tuple" = none := by
  obtain ⟨h, X, G, c⟩ := T.ex
  exact He.free_ok X G (c.t.d.fact 52 rfl)
theorem Tx.n_int (T : Tx w K mg) : mg "int" = none := by
  obtain ⟨h, X, G, c⟩ := T.ex
  exact He.free_ok X G (c.t.d.fact 53 rfl)
theorem Tx.n_str (T : Tx w K mg) : mg "str" = none := by
  obtain ⟨h, X, G, c⟩ := T.ex
  exact He.free_ok X G (c.t.d.fact 54 rfl)
theorem Tx.n_bool (T : Tx w K mg) : mg "bool" = none := by
  obtain ⟨h, X, G, c⟩ := T.ex
  exact He.free_ok X G (c.t.d.fact 55 rfl)
theorem Tx.n_max (T : Tx w K mg) : mg "max" = none := by
  obtain ⟨h, X, G, c⟩ := T.ex
  exact He.free_ok X G (c.t.d.fact 56 rfl)
theorem Tx.n_min (T : Tx w K mg) : mg "min" = none := by
  obtain ⟨h, X, G, c⟩ := T.ex
  exact He.free_ok X G (c.t.d.fact 57 rfl)
theorem Tx.n_sorted (T : Tx w K mg) : mg "sorted" = none := by
  obtain ⟨h, X, G, c⟩ := T.ex
  exact He.free_ok X G (c.t.d.fact 58 rfl)
theorem Tx.n_isinstance (T : Tx w K mg) : mg "isinstance" = none := by
  obtain ⟨h, X, G, c⟩ := T.ex
  exact He.free_ok X G (c.t.d.fact 59 rfl)
theorem Tx.n_enumerate (T : Tx w K mg) : mg "enumerate" = none := by
  obtain ⟨h, X, G, c⟩ := T.ex
  exact He.free_ok X G (c.t.d.fact 60 rfl)
theorem Tx.n_dict (T : Tx w K mg) : mg "dict" = none := by
  obtain ⟨h, X, G, c⟩ := T.ex
  exact He.free_ok X G (c.t.d.fact 61 rfl)
theorem Tx.n_set (T : Tx w K mg) : mg "set" = none := by
  obtain ⟨h, X, G, c⟩ := T.ex
  exact He.free_ok X G (c.t.d.fact 62 rfl)
theorem Tx.n_ValueError (T : Tx w K mg) : mg "ValueError" = none := by
  obtain ⟨h, X, G, c⟩ := T.ex
  exact He.free_ok X G (c.t.d.fact 63 rfl)
theorem Tx.i_KEYS (T : Tx w K mg) : ∃ t, mg "KEYS" = some (.int (32) t) := by
  obtain ⟨h, X, G, c⟩ := T.ex
  exact He.int_ok X G (c.t.d.fact 64 rfl)
theorem Tx.i_HANDS (T : Tx w K mg) : ∃ t, mg "HANDS" = some (.int (4) t) := by
  obtain ⟨h, X, G, c⟩ := T.ex
  exact He.int_ok X G (c.t.d.fact 65 rfl)
theorem Tx.i_MOST_WORTH (T : Tx w K mg) : ∃ t, mg "MOST_WORTH" = some (.int (999) t) := by
  obtain ⟨h, X, G, c⟩ := T.ex
  exact He.int_ok X G (c.t.d.fact 66 rfl)
theorem Tx.i_MOST_LIFE (T : Tx w K mg) : ∃ t, mg "MOST_LIFE" = some (.int (1000) t) := by
  obtain ⟨h, X, G, c⟩ := T.ex
  exact He.int_ok X G (c.t.d.fact 67 rfl)
theorem Tx.i_MOST_DEEDS (T : Tx w K mg) : ∃ t, mg "MOST_DEEDS" = some (.int (4) t) := by
  obtain ⟨h, X, G, c⟩ := T.ex
  exact He.int_ok X G (c.t.d.fact 68 rfl)
theorem Tx.i_PER_PAGE (T : Tx w K mg) : ∃ t, mg "PER_PAGE" = some (.int (4) t) := by
  obtain ⟨h, X, G, c⟩ := T.ex
  exact He.int_ok X G (c.t.d.fact 69 rfl)
theorem Tx.i_ROW_PAGES (T : Tx w K mg) : ∃ t, mg "ROW_PAGES" = some (.int (8) t) := by
  obtain ⟨h, X, G, c⟩ := T.ex
  exact He.int_ok X G (c.t.d.fact 70 rfl)
theorem Tx.i_HANDS_PAGE (T : Tx w K mg) : ∃ t, mg "HANDS_PAGE" = some (.int (8) t) := by
  obtain ⟨h, X, G, c⟩ := T.ex
  exact He.int_ok X G (c.t.d.fact 71 rfl)
theorem Tx.i_MOST_MOMENT (T : Tx w K mg) : ∃ t, mg "MOST_MOMENT" = some (.int (1000000) t) := by
  obtain ⟨h, X, G, c⟩ := T.ex
  exact He.int_ok X G (c.t.d.fact 72 rfl)
theorem Tx.x_StillError (T : Tx w K mg) : PySem.W.excIn K (He.ga K "StillError") He.veBase "ValueError.__new__" = true := (He.exc_ok (T.fact 73 rfl)).1
theorem Tx.xb_StillError (T : Tx w K mg) : PySem.W.subIn K (.ref (He.ga K "StillError")) (.type "BaseException") = some true := (He.exc_ok (T.fact 73 rfl)).2.2.1
theorem Tx.xt_StillError (T : Tx w K mg) : PySem.W.typeIn K (.ref (He.ga K "StillError")) = some (.type "type") := (He.exc_ok (T.fact 73 rfl)).2.2.2
theorem Tx.k_StillError (T : Tx w K mg) : PySem.W.keepIn K (.ref (He.ga K "StillError")) = true := He.keep_ok (T.fact 74 rfl)
theorem Tx.xm_StillError_StillError (T : Tx w K mg) : PySem.W.exmOne K (.ref (He.ga K "StillError")) (.ref (He.ga K "StillError")) = some true := He.exm_ok (T.fact 75 rfl)
theorem Tx.k_BadDeal (T : Tx w K mg) : PySem.W.keepIn K (.ref (He.ga K "BadDeal")) = true := He.keep_ok (T.fact 76 rfl)
theorem Tx.xm_BadDeal_StillError (T : Tx w K mg) : PySem.W.exmOne K (.ref (He.ga K "BadDeal")) (.ref (He.ga K "StillError")) = some true := He.exm_ok (T.fact 77 rfl)
theorem Tx.x_BadHand (T : Tx w K mg) : PySem.W.excIn K (He.ga K "BadHand") He.veBase "ValueError.__new__" = true := (He.exc_ok (T.fact 78 rfl)).1
theorem Tx.xb_BadHand (T : Tx w K mg) : PySem.W.subIn K (.ref (He.ga K "BadHand")) (.type "BaseException") = some true := (He.exc_ok (T.fact 78 rfl)).2.2.1
theorem Tx.xt_BadHand (T : Tx w K mg) : PySem.W.typeIn K (.ref (He.ga K "BadHand")) = some (.type "type") := (He.exc_ok (T.fact 78 rfl)).2.2.2
theorem Tx.k_BadHand (T : Tx w K mg) : PySem.W.keepIn K (.ref (He.ga K "BadHand")) = true := He.keep_ok (T.fact 79 rfl)
theorem Tx.xm_BadHand_StillError (T : Tx w K mg) : PySem.W.exmOne K (.ref (He.ga K "BadHand")) (.ref (He.ga K "StillError")) = some true := He.exm_ok (T.fact 80 rfl)
theorem Tx.x_BadLetter (T : Tx w K mg) : PySem.W.excIn K (He.ga K "BadLetter") He.veBase "ValueError.__new__" = true := (He.exc_ok (T.fact 81 rfl)).1
theorem Tx.xb_BadLetter (T : Tx w K mg) : PySem.W.subIn K (.ref (He.ga K "BadLetter")) (.type "BaseException") = some true := (He.exc_ok (T.fact 81 rfl)).2.2.1
theorem Tx.xt_BadLetter (T : Tx w K mg) : PySem.W.typeIn K (.ref (He.ga K "BadLetter")) = some (.type "type") := (He.exc_ok (T.fact 81 rfl)).2.2.2
theorem Tx.k_BadLetter (T : Tx w K mg) : PySem.W.keepIn K (.ref (He.ga K "BadLetter")) = true := He.keep_ok (T.fact 82 rfl)
theorem Tx.xm_BadLetter_StillError (T : Tx w K mg) : PySem.W.exmOne K (.ref (He.ga K "BadLetter")) (.ref (He.ga K "StillError")) = some true := He.exm_ok (T.fact 83 rfl)
theorem Tx.x_BadTime (T : Tx w K mg) : PySem.W.excIn K (He.ga K "BadTime") He.veBase "ValueError.__new__" = true := (He.exc_ok (T.fact 84 rfl)).1
theorem Tx.xb_BadTime (T : Tx w K mg) : PySem.W.subIn K (.ref (He.ga K "BadTime")) (.type "BaseException") = some true := (He.exc_ok (T.fact 84 rfl)).2.2.1
theorem Tx.xt_BadTime (T : Tx w K mg) : PySem.W.typeIn K (.ref (He.ga K "BadTime")) = some (.type "type") := (He.exc_ok (T.fact 84 rfl)).2.2.2
theorem Tx.k_BadTime (T : Tx w K mg) : PySem.W.keepIn K (.ref (He.ga K "BadTime")) = true := He.keep_ok (T.fact 85 rfl)
theorem Tx.xm_BadTime_StillError (T : Tx w K mg) : PySem.W.exmOne K (.ref (He.ga K "BadTime")) (.ref (He.ga K "StillError")) = some true := He.exm_ok (T.fact 86 rfl)
theorem Tx.x_BadKey (T : Tx w K mg) : PySem.W.excIn K (He.ga K "BadKey") He.veBase "ValueError.__new__" = true := (He.exc_ok (T.fact 87 rfl)).1
theorem Tx.xb_BadKey (T : Tx w K mg) : PySem.W.subIn K (.ref (He.ga K "BadKey")) (.type "BaseException") = some true := (He.exc_ok (T.fact 87 rfl)).2.2.1
theorem Tx.xt_BadKey (T : Tx w K mg) : PySem.W.typeIn K (.ref (He.ga K "BadKey")) = some (.type "type") := (He.exc_ok (T.fact 87 rfl)).2.2.2
theorem Tx.k_BadKey (T : Tx w K mg) : PySem.W.keepIn K (.ref (He.ga K "BadKey")) = true := He.keep_ok (T.fact 88 rfl)
theorem Tx.xm_BadKey_StillError (T : Tx w K mg) : PySem.W.exmOne K (.ref (He.ga K "BadKey")) (.ref (He.ga K "StillError")) = some true := He.exm_ok (T.fact 89 rfl)
theorem Tx.x_BadHouse (T : Tx w K mg) : PySem.W.excIn K (He.ga K "BadHouse") He.veBase "ValueError.__new__" = true := (He.exc_ok (T.fact 90 rfl)).1
theorem Tx.xb_BadHouse (T : Tx w K mg) : PySem.W.subIn K (.ref (He.ga K "BadHouse")) (.type "BaseException") = some true := (He.exc_ok (T.fact 90 rfl)).2.2.1
theorem Tx.xt_BadHouse (T : Tx w K mg) : PySem.W.typeIn K (.ref (He.ga K "BadHouse")) = some (.type "type") := (He.exc_ok (T.fact 90 rfl)).2.2.2
theorem Tx.k_BadHouse (T : Tx w K mg) : PySem.W.keepIn K (.ref (He.ga K "BadHouse")) = true := He.keep_ok (T.fact 91 rfl)
theorem Tx.xm_BadHouse_StillError (T : Tx w K mg) : PySem.W.exmOne K (.ref (He.ga K "BadHouse")) (.ref (He.ga K "StillError")) = some true := He.exm_ok (T.fact 92 rfl)
theorem Tx.x_NoCopy (T : Tx w K mg) : PySem.W.excIn K (He.ga K "NoCopy") He.veBase "ValueError.__new__" = true := (He.exc_ok (T.fact 93 rfl)).1
theorem Tx.xb_NoCopy (T : Tx w K mg) : PySem.W.subIn K (.ref (He.ga K "NoCopy")) (.type "BaseException") = some true := (He.exc_ok (T.fact 93 rfl)).2.2.1
theorem Tx.xt_NoCopy (T : Tx w K mg) : PySem.W.typeIn K (.ref (He.ga K "NoCopy")) = some (.type "type") := (He.exc_ok (T.fact 93 rfl)).2.2.2
theorem Tx.k_NoCopy (T : Tx w K mg) : PySem.W.keepIn K (.ref (He.ga K "NoCopy")) = true := He.keep_ok (T.fact 94 rfl)
theorem Tx.xm_NoCopy_StillError (T : Tx w K mg) : PySem.W.exmOne K (.ref (He.ga K "NoCopy")) (.ref (He.ga K "StillError")) = some true := He.exm_ok (T.fact 95 rfl)
theorem Tx.k_Behind (T : Tx w K mg) : PySem.W.keepIn K (.ref (He.ga K "Behind")) = true := He.keep_ok (T.fact 96 rfl)
theorem Tx.xm_Behind_StillError (T : Tx w K mg) : PySem.W.exmOne K (.ref (He.ga K "Behind")) (.ref (He.ga K "StillError")) = some true := He.exm_ok (T.fact 97 rfl)
theorem Tx.x_BadBlock (T : Tx w K mg) : PySem.W.excIn K (He.ga K "BadBlock") He.veBase "ValueError.__new__" = true := (He.exc_ok (T.fact 98 rfl)).1
theorem Tx.xb_BadBlock (T : Tx w K mg) : PySem.W.subIn K (.ref (He.ga K "BadBlock")) (.type "BaseException") = some true := (He.exc_ok (T.fact 98 rfl)).2.2.1
theorem Tx.xt_BadBlock (T : Tx w K mg) : PySem.W.typeIn K (.ref (He.ga K "BadBlock")) = some (.type "type") := (He.exc_ok (T.fact 98 rfl)).2.2.2
theorem Tx.k_BadBlock (T : Tx w K mg) : PySem.W.keepIn K (.ref (He.ga K "BadBlock")) = true := He.keep_ok (T.fact 99 rfl)
theorem Tx.xm_BadBlock_StillError (T : Tx w K mg) : PySem.W.exmOne K (.ref (He.ga K "BadBlock")) (.ref (He.ga K "StillError")) = some true := He.exm_ok (T.fact 100 rfl)
theorem Tx.x_BadEntry (T : Tx w K mg) : PySem.W.excIn K (He.ga K "BadEntry") He.veBase "ValueError.__new__" = true := (He.exc_ok (T.fact 101 rfl)).1
theorem Tx.xb_BadEntry (T : Tx w K mg) : PySem.W.subIn K (.ref (He.ga K "BadEntry")) (.type "BaseException") = some true := (He.exc_ok (T.fact 101 rfl)).2.2.1
theorem Tx.xt_BadEntry (T : Tx w K mg) : PySem.W.typeIn K (.ref (He.ga K "BadEntry")) = some (.type "type") := (He.exc_ok (T.fact 101 rfl)).2.2.2
theorem Tx.k_BadEntry (T : Tx w K mg) : PySem.W.keepIn K (.ref (He.ga K "BadEntry")) = true := He.keep_ok (T.fact 102 rfl)
theorem Tx.xm_BadEntry_StillError (T : Tx w K mg) : PySem.W.exmOne K (.ref (He.ga K "BadEntry")) (.ref (He.ga K "StillError")) = some true := He.exm_ok (T.fact 103 rfl)
theorem Tx.k_BadText (T : Tx w K mg) : PySem.W.keepIn K (.ref (He.ga K "BadText")) = true := He.keep_ok (T.fact 104 rfl)
theorem Tx.xm_BadText_StillError (T : Tx w K mg) : PySem.W.exmOne K (.ref (He.ga K "BadText")) (.ref (He.ga K "StillError")) = some true := He.exm_ok (T.fact 105 rfl)
theorem Tx.x_Stopped (T : Tx w K mg) : PySem.W.excIn K (He.ga K "Stopped") He.veBase "ValueError.__new__" = true := (He.exc_ok (T.fact 106 rfl)).1
theorem Tx.xb_Stopped (T : Tx w K mg) : PySem.W.subIn K (.ref (He.ga K "Stopped")) (.type "BaseException") = some true := (He.exc_ok (T.fact 106 rfl)).2.2.1
theorem Tx.xt_Stopped (T : Tx w K mg) : PySem.W.typeIn K (.ref (He.ga K "Stopped")) = some (.type "type") := (He.exc_ok (T.fact 106 rfl)).2.2.2
theorem Tx.k_Stopped (T : Tx w K mg) : PySem.W.keepIn K (.ref (He.ga K "Stopped")) = true := He.keep_ok (T.fact 107 rfl)
theorem Tx.xm_Stopped_StillError (T : Tx w K mg) : PySem.W.exmOne K (.ref (He.ga K "Stopped")) (.ref (He.ga K "StillError")) = some true := He.exm_ok (T.fact 108 rfl)
theorem Tx.c_Table (T : Tx w K mg) : Cls K (He.ga K "Table") := He.cls_ok (T.fact 109 rfl)
theorem Tx.a_Table_rows (T : Tx w K mg) : NoAttr K (He.ga K "Table") "rows" := He.noat_ok (T.fact 110 rfl)
theorem Tx.a_Table_hands (T : Tx w K mg) : NoAttr K (He.ga K "Table") "hands" := He.noat_ok (T.fact 111 rfl)
theorem Tx.a_Table_moment (T : Tx w K mg) : NoAttr K (He.ga K "Table") "moment" := He.noat_ok (T.fact 112 rfl)
theorem Tx.a_Table_number (T : Tx w K mg) : NoAttr K (He.ga K "Table") "number" := He.noat_ok (T.fact 113 rfl)
theorem Tx.m_Table_row_at (T : Tx w K mg) : Meth K (He.ga K "Table") "row_at" (He.fAd K ("Table", some "row_at")) := He.meth_ok (T.fact 114 rfl)
theorem Tx.m_Table_shown (T : Tx w K mg) : Meth K (He.ga K "Table") "shown" (He.fAd K ("Table", some "shown")) := He.meth_ok (T.fact 115 rfl)
theorem Tx.m_Table_content (T : Tx w K mg) : Meth K (He.ga K "Table") "content" (He.fAd K ("Table", some "content")) := He.meth_ok (T.fact 116 rfl)
theorem Tx.m_Table_put_page (T : Tx w K mg) : Meth K (He.ga K "Table") "put_page" (He.fAd K ("Table", some "put_page")) := He.meth_ok (T.fact 117 rfl)
theorem Tx.m_Table_prune (T : Tx w K mg) : Meth K (He.ga K "Table") "prune" (He.fAd K ("Table", some "prune")) := He.meth_ok (T.fact 118 rfl)
theorem Tx.m_Table_change (T : Tx w K mg) : Meth K (He.ga K "Table") "change" (He.fAd K ("Table", some "change")) := He.meth_ok (T.fact 119 rfl)
theorem Tx.m_Table_whole (T : Tx w K mg) : Meth K (He.ga K "Table") "whole" (He.fAd K ("Table", some "whole")) := He.meth_ok (T.fact 120 rfl)
theorem Tx.mk_Table (T : Tx w K mg) : Mk K (He.ga K "Table") (He.fAd K ("Table", some "__init__")) := He.mkr_ok (T.fact 121 rfl)
end
abbrev N__wall : List Str := ["k"]
theorem sc__wall : FnScope N__wall ["k"] (defScope s__wall) := ⟨rfl, rfl, rfl, by decide +kernel, rfl, by decide +kernel, by decide +kernel⟩
abbrev N_BadDeal_init : List Str := ["self", "place"]
theorem sc_BadDeal_init : FnScope N_BadDeal_init ["self", "place"] (defScope s_BadDeal_init) := ⟨rfl, rfl, rfl, by decide +kernel, rfl, by decide +kernel, by decide +kernel⟩
abbrev N_Behind_init : List Str := ["self", "number"]
theorem sc_Behind_init : FnScope N_Behind_init ["self", "number"] (defScope s_Behind_init) := ⟨rfl, rfl, rfl, by decide +kernel, rfl, by decide +kernel, by decide +kernel⟩
abbrev N_BadText_init : List Str := ["self", "row"]
theorem sc_BadText_init : FnScope N_BadText_init ["self", "row"] (defScope s_BadText_init) := ⟨rfl, rfl, rfl, by decide +kernel, rfl, by decide +kernel, by decide +kernel⟩
abbrev N_is_from : List Str := ["number", "least", "most"]
theorem sc_is_from : FnScope N_is_from ["number", "least", "most"] (defScope s_is_from) := ⟨rfl, rfl, rfl, by decide +kernel, rfl, by decide +kernel, by decide +kernel⟩
abbrev N_is_put : List Str := ["deed"]
theorem sc_is_put : FnScope N_is_put ["deed"] (defScope s_is_put) := ⟨rfl, rfl, rfl, by decide +kernel, rfl, by decide +kernel, by decide +kernel⟩
abbrev N_is_if : List Str := ["deed"]
theorem sc_is_if : FnScope N_is_if ["deed"] (defScope s_is_if) := ⟨rfl, rfl, rfl, by decide +kernel, rfl, by decide +kernel, by decide +kernel⟩
abbrev N_is_deed : List Str := ["deed"]
theorem sc_is_deed : FnScope N_is_deed ["deed"] (defScope s_is_deed) := ⟨rfl, rfl, rfl, by decide +kernel, rfl, by decide +kernel, by decide +kernel⟩
abbrev N_need_deal : List Str := ["deeds", "place", "deed"]
theorem sc_need_deal : FnScope N_need_deal ["deeds"] (defScope s_need_deal) := ⟨rfl, rfl, rfl, by decide +kernel, rfl, by decide +kernel, by decide +kernel⟩
abbrev N_need_hand : List Str := ["hand"]
theorem sc_need_hand : FnScope N_need_hand ["hand"] (defScope s_need_hand) := ⟨rfl, rfl, rfl, by decide +kernel, rfl, by decide +kernel, by decide +kernel⟩
abbrev N_need_key : List Str := ["key"]
theorem sc_need_key : FnScope N_need_key ["key"] (defScope s_need_key) := ⟨rfl, rfl, rfl, by decide +kernel, rfl, by decide +kernel, by decide +kernel⟩
abbrev N_shown_row : List Str := ["row", "moment"]
theorem sc_shown_row : FnScope N_shown_row ["row", "moment"] (defScope s_shown_row) := ⟨rfl, rfl, rfl, by decide +kernel, rfl, by decide +kernel, by decide +kernel⟩
abbrev N_row_behind : List Str := ["deed", "row", "moment", "worth"]
theorem sc_row_behind : FnScope N_row_behind ["deed", "row", "moment"] (defScope s_row_behind) := ⟨rfl, rfl, rfl, by decide +kernel, rfl, by decide +kernel, by decide +kernel⟩
abbrev N_effects_of : List Str := ["deeds", "table", "found", "deed", "key", "row"]
theorem sc_effects_of : FnScope N_effects_of ["deeds", "table"] (defScope s_effects_of) := ⟨rfl, rfl, rfl, by decide +kernel, rfl, by decide +kernel, by decide +kernel⟩
abbrev N_page_of : List Str := ["key"]
theorem sc_page_of : FnScope N_page_of ["key"] (defScope s_page_of) := ⟨rfl, rfl, rfl, by decide +kernel, rfl, by decide +kernel, by decide +kernel⟩
abbrev N_pages_of : List Str := ["entry", "row"]
theorem sc_pages_of : FnScope N_pages_of ["entry"] (defScope s_pages_of) := ⟨rfl, rfl, rfl, by decide +kernel, rfl, by decide +kernel, by decide +kernel⟩
abbrev N_Table_init : List Str := ["self", "page"]
theorem sc_Table_init : FnScope N_Table_init ["self"] (defScope s_Table_init) := ⟨rfl, rfl, rfl, by decide +kernel, rfl, by decide +kernel, by decide +kernel⟩
abbrev N_Table_row_at : List Str := ["self", "key"]
theorem sc_Table_row_at : FnScope N_Table_row_at ["self", "key"] (defScope s_Table_row_at) := ⟨rfl, rfl, rfl, by decide +kernel, rfl, by decide +kernel, by decide +kernel⟩
abbrev N_Table_shown : List Str := ["self", "key"]
theorem sc_Table_shown : FnScope N_Table_shown ["self", "key"] (defScope s_Table_shown) := ⟨rfl, rfl, rfl, by decide +kernel, rfl, by decide +kernel, by decide +kernel⟩
abbrev N_Table_content : List Str := ["self", "page", "moment"]
theorem sc_Table_content : FnScope N_Table_content ["self", "page", "moment"] (defScope s_Table_content) := ⟨rfl, rfl, rfl, by decide +kernel, rfl, by decide +kernel, by decide +kernel⟩
abbrev N_Table_put_page : List Str := ["self", "page", "content"]
theorem sc_Table_put_page : FnScope N_Table_put_page ["self", "page", "content"] (defScope s_Table_put_page) := ⟨rfl, rfl, rfl, by decide +kernel, rfl, by decide +kernel, by decide +kernel⟩
abbrev N_Table_prune : List Str := ["self", "page"]
theorem sc_Table_prune : FnScope N_Table_prune ["self", "page"] (defScope s_Table_prune) := ⟨rfl, rfl, rfl, by decide +kernel, rfl, by decide +kernel, by decide +kernel⟩
abbrev N_Table_change : List Str := ["self", "entry", "page", "key", "worth", "end"]
theorem sc_Table_change : FnScope N_Table_change ["self", "entry", "page"] (defScope s_Table_change) := ⟨rfl, rfl, rfl, by decide +kernel, rfl, by decide +kernel, by decide +kernel⟩
abbrev N_Table_whole : List Str := ["self"]
theorem sc_Table_whole : FnScope N_Table_whole ["self"] (defScope s_Table_whole) := ⟨rfl, rfl, rfl, by decide +kernel, rfl, by decide +kernel, by decide +kernel⟩
abbrev N_need_entry : List Str := ["entry", "moment"]
theorem sc_need_entry : FnScope N_need_entry ["entry", "moment"] (defScope s_need_entry) := ⟨rfl, rfl, rfl, by decide +kernel, rfl, by decide +kernel, by decide +kernel⟩
abbrev N_tables_of : List Str := ["entries", "table", "found", "key", "number", "entry", "told", "done", "effects", "page"]
theorem sc_tables_of : FnScope N_tables_of ["entries"] (defScope s_tables_of) := ⟨rfl, rfl, rfl, by decide +kernel, rfl, by decide +kernel, by decide +kernel⟩
abbrev N_judge : List Str := ["entries", "readings", "moment", "entry", "hand", "number", "key", "worth", "tables", "seen", "place"]
theorem sc_judge : FnScope N_judge ["entries", "readings"] (defScope s_judge) := ⟨rfl, rfl, rfl, by decide +kernel, rfl, by decide +kernel, by decide +kernel⟩
abbrev N_begun_ : List Str := ["_law_script", "_law_stirred", "_law_cell"]
theorem sc_begun_ : FnScope N_begun_ ["_law_script"] (defScope s_begun_) := ⟨rfl, rfl, rfl, by decide +kernel, rfl, by decide +kernel, by decide +kernel⟩
abbrev N_take_ : List Str := ["_law_box", "_law_many", "_law_number"]
theorem sc_take_ : FnScope N_take_ ["_law_box", "_law_many"] (defScope s_take_) := ⟨rfl, rfl, rfl, by decide +kernel, rfl, by decide +kernel, by decide +kernel⟩
abbrev N_alike_ : List Str := ["_law_found", "_law_due_here", "_law_k"]
theorem sc_alike_ : FnScope N_alike_ ["_law_found", "_law_due_here"] (defScope s_alike_) := ⟨rfl, rfl, rfl, by decide +kernel, rfl, by decide +kernel, by decide +kernel⟩
abbrev N_class_ : List Str := ["_law_e", "_law_kinds", "_law_words"]
theorem sc_class_ : FnScope N_class_ ["_law_e"] (defScope s_class_) := ⟨rfl, rfl, rfl, by decide +kernel, rfl, by decide +kernel, by decide +kernel⟩
abbrev N_refused_ : List Str := ["_law_work", "_law_e", "_law_word"]
theorem sc_refused_ : FnScope N_refused_ ["_law_work"] (defScope s_refused_) := ⟨rfl, rfl, rfl, by decide +kernel, rfl, by decide +kernel, by decide +kernel⟩
abbrev N_all_ : List Str := ["_law_works", "_law_due_here", "_law_work"]
theorem sc_all_ : FnScope N_all_ ["_law_works", "_law_due_here"] (defScope s_all_) := ⟨rfl, rfl, rfl, by decide +kernel, rfl, by decide +kernel, by decide +kernel⟩
abbrev N_store_ : List Str := []
theorem sc_store_ : FnScope N_store_ [] (defScope s_store_) := ⟨rfl, rfl, rfl, by decide +kernel, rfl, by decide +kernel, by decide +kernel⟩
abbrev N_again_ : List Str := ["_law_store_here", "_law_found"]
theorem sc_again_ : FnScope N_again_ ["_law_store_here"] (defScope s_again_) := ⟨rfl, rfl, rfl, by decide +kernel, rfl, by decide +kernel, by decide +kernel⟩
abbrev N_seen_ : List Str := ["_law_store_here", "_law_key", "_law_row"]
theorem sc_seen_ : FnScope N_seen_ ["_law_store_here", "_law_key"] (defScope s_seen_) := ⟨rfl, rfl, rfl, by decide +kernel, rfl, by decide +kernel, by decide +kernel⟩
abbrev N_tried_ : List Str := ["_law_store_here", "_law_deal_here", "_law_trial", "_law_deed_here", "_law_key", "_law_worth"]
theorem sc_tried_ : FnScope N_tried_ ["_law_store_here", "_law_deal_here"] (defScope s_tried_) := ⟨rfl, rfl, rfl, by decide +kernel, rfl, by decide +kernel, by decide +kernel⟩
abbrev N_deal_ : List Str := ["_law_store_here", "_law_hand", "_law_letter", "_law_deal_here", "_law_rows"]
theorem sc_deal_ : FnScope N_deal_ ["_law_store_here", "_law_hand", "_law_letter", "_law_deal_here"] (defScope s_deal_) := ⟨rfl, rfl, rfl, by decide +kernel, rfl, by decide +kernel, by decide +kernel⟩
abbrev N_whole_ : List Str := ["_law_store_here", "_law_rows", "_law_key", "_law_hand"]
theorem sc_whole_ : FnScope N_whole_ ["_law_store_here"] (defScope s_whole_) := ⟨rfl, rfl, rfl, by decide +kernel, rfl, by decide +kernel, by decide +kernel⟩
abbrev N_deed_ : List Str := ["_law_box", "_law_store_here", "_law_key", "_law_worth", "_law_way", "_law_life"]
theorem sc_deed_ : FnScope N_deed_ ["_law_box", "_law_store_here"] (defScope s_deed_) := ⟨rfl, rfl, rfl, by decide +kernel, rfl, by decide +kernel, by decide +kernel⟩
abbrev N_drawn_ : List Str := ["_law_box", "_law_store_here", "_law_turn"]
theorem sc_drawn_ : FnScope N_drawn_ ["_law_box", "_law_store_here"] (defScope s_drawn_) := ⟨rfl, rfl, rfl, by decide +kernel, rfl, by decide +kernel, by decide +kernel⟩
abbrev N_entries_ : List Str := ["_law_box", "_law_stores", "_law_entries_here", "_law_turn", "_law_store_here", "_law_deal_here", "_law_hand"]
theorem sc_entries_ : FnScope N_entries_ ["_law_box"] (defScope s_entries_) := ⟨rfl, rfl, rfl, by decide +kernel, rfl, by decide +kernel, by decide +kernel⟩
abbrev N_readings_ : List Str := ["_law_box", "_law_stores", "_law_found", "_law_seen_here", "_law_often", "_law_turn", "_law_hand", "_law_number", "_law_key", "_law_worth"]
theorem sc_readings_ : FnScope N_readings_ ["_law_box", "_law_stores"] (defScope s_readings_) := ⟨rfl, rfl, rfl, by decide +kernel, rfl, by decide +kernel, by decide +kernel⟩
abbrev N_due_ : List Str := ["_law_stores", "_law_readings_here", "_law_place", "_law_hand", "_law_number", "_law_key", "_law_worth", "_law_ahead", "_law_reading"]
theorem sc_due_ : FnScope N_due_ ["_law_stores", "_law_readings_here"] (defScope s_due_) := ⟨rfl, rfl, rfl, by decide +kernel, rfl, by decide +kernel, by decide +kernel⟩
abbrev N_odd_ : List Str := ["_law_box", "_law_entries_here", "_law_readings_here", "_law_at", "_law_moment", "_law_entry", "_law_some", "_law_k", "_law_far", "_law_behind", "_law_place", "_law_bad"]
theorem sc_odd_ : FnScope N_odd_ ["_law_box", "_law_entries_here", "_law_readings_here"] (defScope s_odd_) := ⟨rfl, rfl, rfl, by decide +kernel, rfl, by decide +kernel, by decide +kernel⟩
abbrev N_law : List Str := ["_law_script", "_law_box", "_law_entries_here", "_law_stores", "_law_turn", "_law_readings_here", "_law_handed", "_law_again_here", "_law_found", "_law_rows", "_law_others", "_law_due_here"]
theorem sc_law : FnScope N_law ["_law_script"] (defScope s_law) := ⟨rfl, rfl, rfl, by decide +kernel, rfl, by decide +kernel, by decide +kernel⟩
end W

end
section
/-! ### LH: the head's look, with the interpreter's own statics among what is held -/
namespace Cm
open PySem PySem.Spec PyProof.Rows L2
def asY (g : Addr → Option Obj) (n : Nat) : List Addr := He.asD g n ++ [cStatics]
def fragY (g : Addr → Option Obj) (n : Nat) : PySem.W.Frag := He.frT g (asY g n)
def obsY (n : Nat) (fa : List He.Fa) (fn : List He.DefD) (tf : List He.Defn) (ex : PySem.W.Frag → Bool) (g : Addr → Option Obj) : He.AlX := (He.obsT fa fn [] (fragY g n), ex (fragY g n) && He.tabsB g tf (fragY g n))
theorem saysY {n : Nat} {fa : List He.Fa} {fn : List He.DefD} {tf : List He.Defn} {ex : PySem.W.Frag → Bool} {w : World} {h : Heap} (e : obsY n fa fn tf ex h.get? = He.valX fn [] w) : He.SaysX fa fn [] tf ex w h (fragY h.get? n) := by
  have e1 : He.obsT fa fn [] (fragY h.get? n) = He.valT fn [] w := congrArg Prod.fst e
  obtain ⟨h1, h2⟩ := Bool.and_eq_true_iff.mp (show (ex (fragY h.get? n) && He.tabsB h.get? tf (fragY h.get? n)) = true from congrArg Prod.snd e)
  have key : ∀ p ∈ tf, PySem.W.codeHdIn (fragY h.get? n) (He.cT (fragY h.get? n) p).1 (He.cT (fragY h.get? n) p).2 = true ∧ ∃ o, h.get? (He.cT (fragY h.get? n) p).2 = some o ∧ He.emptyTab o = true := by
    intro p hp
    obtain ⟨h3, h4⟩ := Bool.and_eq_true_iff.mp (List.all_eq_true.mp h2 p hp)
    refine ⟨h3, ?_⟩
    split at h4
    · rename_i o q
      exact ⟨o, q, h4⟩
    · cases h4
  refine ⟨e1, h1, fun p hp => (key p hp).1, fun p hp => ?_, fun p hp => ?_⟩
  · obtain ⟨_, o, q, z⟩ := key p hp
    exact He.frT_none q z
  · obtain ⟨_, o, q, z⟩ := key p hp
    rw [q, He.emptyTab_eq z]
def hookY (n : Nat) (fa : List He.Fa) (fn : List He.DefD) (tf : List He.Defn) (ex : PySem.W.Frag → Bool) : PySem.W.Hook where
  α := He.AlX
  obs := fun s => obsY n fa fn tf ex s.heap.get?
  val := fun w => He.valX fn [] w
  says := fun w h => ∃ K : PySem.W.Frag, K.In h ∧ He.SaysX fa fn [] tf ex w h K
  of := fun _ _ e => ⟨_, He.frT_in, saysY e⟩
  keeps := fun _ _ _ ⟨K, hK, c⟩ k => ⟨K, PySem.W.Frag.In.keeps hK k, ⟨c.t, c.more, c.hd, c.out, fun p hp => k _ _ (c.empty p hp)⟩⟩
theorem obsY_eq {n : Nat} {fa : List He.Fa} {fn : List He.DefD} {tf : List He.Defn} {ex : PySem.W.Frag → Bool} {g : Addr → Option Obj} {s : Shared} (h : ∀ a, g a = s.heap.get? a) : obsY n fa fn tf ex g = (hookY n fa fn tf ex).obs s := by
  rw [show g = s.heap.get? from funext h]; rfl
end Cm

end
section
namespace W
open PySem PySem.Spec PyProof.Rows L2 Cm
def loose0 : List Str := ["_wall", "StillError", "BadDeal", "BadHand", "BadLetter", "BadTime", "BadKey", "BadHouse", "NoCopy", "Behind", "BadBlock", "BadEntry", "BadText", "Stopped", "KEYS", "HANDS", "MOST_WORTH", "MOST_LIFE", "MOST_DEEDS", "is_from", "is_put", "is_if", "is_deed", "need_deal", "need_hand"]
def loose1 : List Str := ["need_key", "shown_row", "row_behind", "effects_of", "PER_PAGE", "ROW_PAGES", "HANDS_PAGE", "page_of", "pages_of", "Table", "MOST_MOMENT", "need_entry", "tables_of", "judge", "_law_begun", "_law_take", "_law_alike", "_law_class", "_law_refused", "_law_all", "_law_store", "_law_again", "_law_seen", "_law_tried", "_law_deal"]
def loose2 : List Str := ["_law_whole", "_law_deed", "_law_drawn", "_law_entries", "_law_readings", "_law_due", "_law_odd"]
def loose : List Str := loose0 ++ (loose1 ++ (loose2))
abbrev R : PySem.W.OpenRow := PySem.W.OpenLaw.row PySem.Challenge.rw_stillcopy_k16_readings_judged
abbrev hk : PySem.W.Hook := Cm.hookY 6 fa fn tf exf
def ob (s : PySem.W.SharedT) : He.AlX := Cm.obsY 6 fa fn tf exf (HandSHeadRun.getT s)
theorem ob_eq (s : PySem.W.SharedT) : ob s = hk.obs s.abs := Cm.obsY_eq (HandSHeadRun.getT_eq s)
theorem run (w : World) : HandSHeadRun.RunEq R (PySem.W.view R.prog [62]) hk ob 6000 loose w := by
  intro os
  kernel_rfl
end W

end
section
/-! ### C3: loops and comprehensions -/
namespace Cm
open PySem PySem.Spec PyProof.Rows L2
section
variable {K : PySem.W.Frag} {σ : L2.St} {H : Hp} {Q : VK} {D : Ends} {tl : TE} {ta : TA} {g : TG} {tb : TS} {tt : TT} {te : TE} {vs : List Nat} {p : Addr} {xs : List V}
/-- for over a list that stands still -/
theorem f_lst (hl : tl σ H fun x H1 => x = .ref p ∧ H1 = H) (h : H p = some (.lst xs)) (Pv : Nat → L2.St → Hp → Prop) (h0 : Pv 0 σ H) (hst : ∀ i σ' H', i ≤ xs.length → Pv i σ' H' → H' p = some (.lst xs))
    (hs : ∀ i x σ' H', xs[i]? = some x → Pv i σ' H' → g x σ' H' fun σ2 H2 => tb { D with nx := Pv (i + 1), ct := Pv (i + 1), bk := D.nx } σ2 H2) (hd : ∀ σ' H', Pv xs.length σ' H' → D.nx σ' H')
    (mono : ∀ (Q Q' : VK), (∀ v H, Q v H → Q' v H) → tl σ H Q → tl σ H Q') : tFor (iSeq K tl) g tb D σ H :=
  .inl (mono _ _ (fun v H1 z => by
    obtain ⟨rfl, rfl⟩ := z
    exact ⟨p, rfl, ⟨xs, SqL.of h⟩, for_list (K := K) (a := p) (xs := xs) Pv h0 (fun i σ' H' hi z => SqL.of (hst i σ' H' hi z)) hs hd⟩) hl)
theorem i_list {R : It → Hp → Prop} (q : tl σ H fun x H1 => ∃ a, x = .ref a ∧ (∃ xs, SqL K H1 a xs) ∧ R (Itl K a) H1) : iSeq K tl σ H R := .inl q
theorem i_tup {R : It → Hp → Prop} (q : tl σ H fun x H1 => ∃ a, x = .ref a ∧ (∃ xs, SqT K H1 a xs) ∧ R (Itt K a) H1) : iSeq K tl σ H R := .inr q
theorem s_forL (q : tl σ H fun x H1 => ∃ a, x = .ref a ∧ (∃ xs, SqL K H1 a xs) ∧ ∃ W : Nat → Nat → L2.St → Hp → Prop, (∃ m, W 0 m σ H1) ∧ ∀ i m σ H, W i m σ H →
    ((Itl K a).stop i H ∧ D.nx σ H) ∨ ((Itl K a).go i H ∧ ∃ N : L2.St → Hp → Prop, (∀ σ' H', N σ' H' → ∃ m', m' < m ∧ W (i + 1) m' σ' H') ∧ ∀ x H', (Itl K a).yld i H x H' → g x σ H' fun σ2 H2 => tb { D with nx := N, ct := N, bk := D.nx } σ2 H2)) : tFor (iSeq K tl) g tb D σ H := .inl q
theorem s_forT (q : tl σ H fun x H1 => ∃ a, x = .ref a ∧ (∃ xs, SqT K H1 a xs) ∧ ∃ W : Nat → Nat → L2.St → Hp → Prop, (∃ m, W 0 m σ H1) ∧ ∀ i m σ H, W i m σ H →
    ((Itt K a).stop i H ∧ D.nx σ H) ∨ ((Itt K a).go i H ∧ ∃ N : L2.St → Hp → Prop, (∀ σ' H', N σ' H' → ∃ m', m' < m ∧ W (i + 1) m' σ' H') ∧ ∀ x H', (Itt K a).yld i H x H' → g x σ H' fun σ2 H2 => tb { D with nx := N, ct := N, bk := D.nx } σ2 H2)) : tFor (iSeq K tl) g tb D σ H := .inr q
theorem s_forR (q : ta σ H fun vs H1 => ∃ j : Int, vs = [.int j] ∧ -(2 ^ 62) ≤ j ∧ j < 2 ^ 62 ∧ ∃ W : Nat → Nat → L2.St → Hp → Prop, (∃ m, W 0 m σ H1) ∧ ∀ i m σ H, W i m σ H →
    ((Itr 0 j.toNat).stop i H ∧ D.nx σ H) ∨ ((Itr 0 j.toNat).go i H ∧ ∃ N : L2.St → Hp → Prop, (∀ σ' H', N σ' H' → ∃ m', m' < m ∧ W (i + 1) m' σ' H') ∧ ∀ x H', (Itr 0 j.toNat).yld i H x H' → g x σ H' fun σ2 H2 => tb { D with nx := N, ct := N, bk := D.nx } σ2 H2)) : tFor (iRng1 ta) g tb D σ H := q
theorem s_forZ (q : ta σ H fun vs H1 => ∃ a b xs ys, vs = [.ref a, .ref b] ∧ SqL K H1 a xs ∧ SqL K H1 b ys ∧ ∃ W : Nat → Nat → L2.St → Hp → Prop, (∃ m, W 0 m σ H1) ∧ ∀ i m σ H, W i m σ H →
    ((Itz K a b).stop i H ∧ D.nx σ H) ∨ ((Itz K a b).go i H ∧ ∃ N : L2.St → Hp → Prop, (∀ σ' H', N σ' H' → ∃ m', m' < m ∧ W (i + 1) m' σ' H') ∧ ∀ x H', (Itz K a b).yld i H x H' → g x σ H' fun σ2 H2 => tb { D with nx := N, ct := N, bk := D.nx } σ2 H2)) : tFor (iZip K ta) g tb D σ H := q
/-- the loop's core, over a list, a tuple, a range (behind s_forL .. and the run of what is walked) -/
theorem at_forL {R : Addr → Prop} (h : H p = some (.lst xs)) (q : R p) : ∃ a, V.ref p = V.ref a ∧ (∃ xs, SqL K H a xs) ∧ R a := ⟨p, rfl, ⟨xs, SqL.of h⟩, q⟩
theorem at_forT {R : Addr → Prop} (h : H p = some (.tup xs)) (q : R p) : ∃ a, V.ref p = V.ref a ∧ (∃ xs, SqT K H a xs) ∧ R a := ⟨p, rfl, ⟨xs, SqT.of h⟩, q⟩
theorem at_forR {R : Int → Prop} {j : Int} (h1 : -(2 ^ 62) ≤ j) (h2 : j < 2 ^ 62) (q : R j) : ∃ i : Int, [V.int j] = [V.int i] ∧ -(2 ^ 62) ≤ i ∧ i < 2 ^ 62 ∧ R i := ⟨j, rfl, h1, h2, q⟩
/-- comprehensions: acc is what the new list at Dl holds so far -/
def CI (Pv : Nat → List V → Hp → Prop) (Dl : Addr) (i : Nat) (H' : Hp) : Prop := ∃ acc, acc.length ≤ i ∧ Pv i acc H' ∧ H' Dl = some (.lst acc)
theorem c_put {Pv : Nat → List V → Hp → Prop} {Dl : Addr} {i : Nat} {acc : List V} {y : V} (h : H Dl = some (.lst acc)) (hl : acc.length ≤ i) (hi : i ≤ 100000) (q : Pv (i + 1) (acc ++ [y]) (upd H Dl (.lst (acc ++ [y])))) :
    ∃ acc, H Dl = some (.lst acc) ∧ acc.length < sizeLine ∧ CI Pv Dl (i + 1) (upd H Dl (.lst (acc ++ [y]))) := ⟨acc, h, by rw [sizeLine_eq]; omega, acc ++ [y], by simp; omega, q, upd_same⟩
theorem c_skip {Pv : Nat → List V → Hp → Prop} {Dl : Addr} {i : Nat} {acc : List V} (h : H Dl = some (.lst acc)) (hl : acc.length ≤ i) (q : Pv (i + 1) acc H) : CI Pv Dl (i + 1) H := ⟨acc, by omega, q, h⟩
def CStep (Pv : Nat → List V → Hp → Prop) (Dl : Addr) (σ : L2.St) (vs : List Nat) (g : TG) (tt : TT) (te : TE) (i : Nat) (x : V) (H' : Hp) : Prop :=
  g x (wipe σ vs) H' fun σ2 H2 => wipe σ2 vs = wipe σ vs ∧ tt σ2 H2 fun b H3 => if b = true then te σ2 H3 fun y H4 => ∃ acc, H4 Dl = some (.lst acc) ∧ acc.length < sizeLine ∧ CI Pv Dl (i + 1) (upd H4 Dl (.lst (acc ++ [y]))) else CI Pv Dl (i + 1) H3
/-- behind the run of what is walked -/
theorem lcL (q : tl σ H fun x H1 => ∃ a, x = .ref a ∧ (∃ xs, SqL K H1 a xs) ∧ ∀ D, H1 D = none → ∃ W : Nat → Nat → Hp → Prop, (∃ m, W 0 m (upd H1 D (.lst []))) ∧ ∀ i m H, W i m H →
    ((Itl K a).stop i H ∧ Q (.ref D) H) ∨ ((Itl K a).go i H ∧ ∃ Nx : Hp → Prop, (∀ H', Nx H' → ∃ m', m' < m ∧ W (i + 1) m' H') ∧ ∀ x H', (Itl K a).yld i H x H' → g x (wipe σ vs) H' fun σ2 H2 => wipe σ2 vs = wipe σ vs ∧ tt σ2 H2 fun b H3 =>
    if b = true then te σ2 H3 fun y H4 => ∃ acc, H4 D = some (.lst acc) ∧ acc.length < sizeLine ∧ Nx (upd H4 D (.lst (acc ++ [y]))) else Nx H3)) : tLc (iSeq K tl) g tt te vs σ H Q := .inl q
theorem lcT (q : tl σ H fun x H1 => ∃ a, x = .ref a ∧ (∃ xs, SqT K H1 a xs) ∧ ∀ D, H1 D = none → ∃ W : Nat → Nat → Hp → Prop, (∃ m, W 0 m (upd H1 D (.lst []))) ∧ ∀ i m H, W i m H →
    ((Itt K a).stop i H ∧ Q (.ref D) H) ∨ ((Itt K a).go i H ∧ ∃ Nx : Hp → Prop, (∀ H', Nx H' → ∃ m', m' < m ∧ W (i + 1) m' H') ∧ ∀ x H', (Itt K a).yld i H x H' → g x (wipe σ vs) H' fun σ2 H2 => wipe σ2 vs = wipe σ vs ∧ tt σ2 H2 fun b H3 =>
    if b = true then te σ2 H3 fun y H4 => ∃ acc, H4 D = some (.lst acc) ∧ acc.length < sizeLine ∧ Nx (upd H4 D (.lst (acc ++ [y]))) else Nx H3)) : tLc (iSeq K tl) g tt te vs σ H Q := .inr q
theorem lcR (q : ta σ H fun vs' H1 => ∃ j : Int, vs' = [.int j] ∧ -(2 ^ 62) ≤ j ∧ j < 2 ^ 62 ∧ ∀ D, H1 D = none → ∃ W : Nat → Nat → Hp → Prop, (∃ m, W 0 m (upd H1 D (.lst []))) ∧ ∀ i m H, W i m H →
    ((Itr 0 j.toNat).stop i H ∧ Q (.ref D) H) ∨ ((Itr 0 j.toNat).go i H ∧ ∃ Nx : Hp → Prop, (∀ H', Nx H' → ∃ m', m' < m ∧ W (i + 1) m' H') ∧ ∀ x H', (Itr 0 j.toNat).yld i H x H' → g x (wipe σ vs) H' fun σ2 H2 => wipe σ2 vs = wipe σ vs ∧ tt σ2 H2 fun b H3 =>
    if b = true then te σ2 H3 fun y H4 => ∃ acc, H4 D = some (.lst acc) ∧ acc.length < sizeLine ∧ Nx (upd H4 D (.lst (acc ++ [y]))) else Nx H3)) : tLc (iRng1 ta) g tt te vs σ H Q := q
/-- the core of each, by an invariant over (turn, what is made, heap) -/
theorem coreL {Qd : Hp → Prop} {Dl : Addr} (Pv : Nat → List V → Hp → Prop) (h0 : Pv 0 [] (upd H Dl (.lst []))) (hst : ∀ i acc H', Pv i acc H' → H' p = some (.lst xs))
    (hs : ∀ i x acc H', xs[i]? = some x → i < xs.length → acc.length ≤ i → Pv i acc H' → H' Dl = some (.lst acc) → CStep Pv Dl σ vs g tt te i x H') (hd : ∀ acc H', acc.length ≤ xs.length → Pv xs.length acc H' → H' Dl = some (.lst acc) → Qd H') :
    ∃ W : Nat → Nat → Hp → Prop, (∃ m, W 0 m (upd H Dl (.lst []))) ∧ ∀ i m H, W i m H →
    ((Itl K p).stop i H ∧ Qd H) ∨ ((Itl K p).go i H ∧ ∃ Nx : Hp → Prop, (∀ H', Nx H' → ∃ m', m' < m ∧ W (i + 1) m' H') ∧ ∀ x H', (Itl K p).yld i H x H' → g x (wipe σ vs) H' fun σ2 H2 => wipe σ2 vs = wipe σ vs ∧ tt σ2 H2 fun b H3 =>
    if b = true then te σ2 H3 fun y H4 => ∃ acc, H4 Dl = some (.lst acc) ∧ acc.length < sizeLine ∧ Nx (upd H4 Dl (.lst (acc ++ [y]))) else Nx H3) :=
  lc_list (K := K) (a := p) (xs := xs) (Qd := Qd) (CI Pv Dl) ⟨[], Nat.le_refl _, h0, upd_same⟩ (fun i H' _ ⟨acc, _, z, _⟩ => SqL.of (hst i acc H' z))
    (fun i x H' hx ⟨acc, l, z, e⟩ => hs i x acc H' hx (List.getElem?_eq_some_iff.mp hx).1 l z e) (fun H' ⟨acc, l, z, e⟩ => hd acc H' l z e)
theorem coreT {Qd : Hp → Prop} {Dl : Addr} (Pv : Nat → List V → Hp → Prop) (h0 : Pv 0 [] (upd H Dl (.lst []))) (hst : ∀ i acc H', Pv i acc H' → H' p = some (.tup xs))
    (hs : ∀ i x acc H', xs[i]? = some x → i < xs.length → acc.length ≤ i → Pv i acc H' → H' Dl = some (.lst acc) → CStep Pv Dl σ vs g tt te i x H') (hd : ∀ acc H', acc.length ≤ xs.length → Pv xs.length acc H' → H' Dl = some (.lst acc) → Qd H') :
    ∃ W : Nat → Nat → Hp → Prop, (∃ m, W 0 m (upd H Dl (.lst []))) ∧ ∀ i m H, W i m H →
    ((Itt K p).stop i H ∧ Qd H) ∨ ((Itt K p).go i H ∧ ∃ Nx : Hp → Prop, (∀ H', Nx H' → ∃ m', m' < m ∧ W (i + 1) m' H') ∧ ∀ x H', (Itt K p).yld i H x H' → g x (wipe σ vs) H' fun σ2 H2 => wipe σ2 vs = wipe σ vs ∧ tt σ2 H2 fun b H3 =>
    if b = true then te σ2 H3 fun y H4 => ∃ acc, H4 Dl = some (.lst acc) ∧ acc.length < sizeLine ∧ Nx (upd H4 Dl (.lst (acc ++ [y]))) else Nx H3) :=
  lc_tup (K := K) (a := p) (xs := xs) (Qd := Qd) (CI Pv Dl) ⟨[], Nat.le_refl _, h0, upd_same⟩ (fun i H' _ ⟨acc, _, z, _⟩ => SqT.of (hst i acc H' z))
    (fun i x H' hx ⟨acc, l, z, e⟩ => hs i x acc H' hx (List.getElem?_eq_some_iff.mp hx).1 l z e) (fun H' ⟨acc, l, z, e⟩ => hd acc H' l z e)
theorem coreR {Qd : Hp → Prop} {Dl : Addr} {j : Int} (Pv : Nat → List V → Hp → Prop) (h0 : Pv 0 [] (upd H Dl (.lst [])))
    (hs : ∀ (i : Nat) acc H', (i : Int) < j → acc.length ≤ i → Pv i acc H' → H' Dl = some (.lst acc) → CStep Pv Dl σ vs g tt te i (.int (i : Int)) H') (hd : ∀ acc H', acc.length ≤ j.toNat → Pv j.toNat acc H' → H' Dl = some (.lst acc) → Qd H') :
    ∃ W : Nat → Nat → Hp → Prop, (∃ m, W 0 m (upd H Dl (.lst []))) ∧ ∀ i m H, W i m H →
    ((Itr 0 j.toNat).stop i H ∧ Qd H) ∨ ((Itr 0 j.toNat).go i H ∧ ∃ Nx : Hp → Prop, (∀ H', Nx H' → ∃ m', m' < m ∧ W (i + 1) m' H') ∧ ∀ x H', (Itr 0 j.toNat).yld i H x H' → g x (wipe σ vs) H' fun σ2 H2 => wipe σ2 vs = wipe σ vs ∧ tt σ2 H2 fun b H3 =>
    if b = true then te σ2 H3 fun y H4 => ∃ acc, H4 Dl = some (.lst acc) ∧ acc.length < sizeLine ∧ Nx (upd H4 Dl (.lst (acc ++ [y]))) else Nx H3) :=
  lc_range (lo := 0) (n := j.toNat) (Qd := Qd) (CI Pv Dl) ⟨[], Nat.le_refl _, h0, upd_same⟩
    (fun i H' hi ⟨acc, l, z, e⟩ => by
      have r := hs i acc H' (by omega) l z e
      rw [show ((0 : Int) + (i : Nat)) = (i : Int) by omega]
      exact r) (fun H' ⟨acc, l, z, e⟩ => hd acc H' l z e)
/-- loops over a range -/
theorem forR {nx : L2.St → Hp → Prop} {rt : VK} {j : Int} (Pv : Nat → L2.St → Hp → Prop) (h0 : Pv 0 σ H) (hs : ∀ (i : Nat) σ' H', (i : Int) < j → Pv i σ' H' → g (.int (i : Int)) σ' H' fun σ2 H2 => tb { nx := Pv (i + 1), rt := rt, bk := nx, ct := Pv (i + 1) } σ2 H2) (hd : ∀ σ' H', Pv j.toNat σ' H' → nx σ' H') :
    ∃ W : Nat → Nat → L2.St → Hp → Prop, (∃ m, W 0 m σ H) ∧ ∀ i m σ H, W i m σ H →
    ((Itr 0 j.toNat).stop i H ∧ nx σ H) ∨ ((Itr 0 j.toNat).go i H ∧ ∃ N : L2.St → Hp → Prop, (∀ σ' H', N σ' H' → ∃ m', m' < m ∧ W (i + 1) m' σ' H') ∧ ∀ x H', (Itr 0 j.toNat).yld i H x H' → g x σ H' fun σ2 H2 => tb { nx := N, rt := rt, bk := nx, ct := N } σ2 H2) :=
  for_range (D := { nx := nx, rt := rt }) (lo := 0) (n := j.toNat) Pv h0 (fun i σ' H' hi z => by
    have r := hs i σ' H' (by omega) z
    rw [show ((0 : Int) + (i : Nat)) = (i : Int) by omega]
    exact r) hd
/-- loops over zip of two lists, as far as the shorter goes -/
theorem forZ {nx : L2.St → Hp → Prop} {rt : VK} {a b : Addr} {xs ys : List V} (Pv : Nat → L2.St → Hp → Prop) (h0 : Pv 0 σ H) (hst : ∀ i σ' H', Pv i σ' H' → H' a = some (.lst xs) ∧ H' b = some (.lst ys))
    (hs : ∀ (i : Nat) (x y : V) (T : Addr) σ' H', xs[i]? = some x → ys[i]? = some y → Pv i σ' H' → H' T = none → g (.ref T) σ' (upd H' T (.tup [x, y])) fun σ2 H2 => tb { nx := Pv (i + 1), rt := rt, bk := nx, ct := Pv (i + 1) } σ2 H2)
    (hd : ∀ σ' H', Pv (min xs.length ys.length) σ' H' → nx σ' H') :
    ∃ W : Nat → Nat → L2.St → Hp → Prop, (∃ m, W 0 m σ H) ∧ ∀ i m σ H, W i m σ H →
      ((Itz K a b).stop i H ∧ nx σ H) ∨ ((Itz K a b).go i H ∧ ∃ N : L2.St → Hp → Prop, (∀ σ' H', N σ' H' → ∃ m', m' < m ∧ W (i + 1) m' σ' H') ∧ ∀ v H', (Itz K a b).yld i H v H' → g v σ H' fun σ2 H2 => tb { nx := N, rt := rt, bk := nx, ct := N } σ2 H2) := by
  refine ⟨fun i m σ' H' => m = min xs.length ys.length - i ∧ i ≤ min xs.length ys.length ∧ Pv i σ' H', ⟨_, rfl, Nat.zero_le _, h0⟩, ?_⟩
  rintro i m σ' H' ⟨rfl, hi, z⟩
  obtain ⟨e1, e2⟩ := hst i σ' H' z
  by_cases hlt : i < min xs.length ys.length
  · have h1 : i < xs.length := by omega
    have h2 : i < ys.length := by omega
    refine .inr ⟨⟨xs, ys, xs[i], ys[i], SqL.of e1, SqL.of e2, List.getElem?_eq_getElem h1, List.getElem?_eq_getElem h2⟩, Pv (i + 1), fun σ2 H2 z2 => ⟨min xs.length ys.length - (i + 1), by omega, rfl, by omega, z2⟩, fun v H2 y => ?_⟩
    obtain ⟨T, x, y', rfl, hT, rfl, hx, hy⟩ := y
    exact hs i x y' T σ' H' (hx xs (SqL.of e1)) (hy ys (SqL.of e2)) z hT
  · refine .inl ⟨⟨xs, ys, SqL.of e1, SqL.of e2, by omega⟩, hd σ' H' ?_⟩
    have e : i = min xs.length ys.length := by omega
    rw [← e]; exact z
/-- loops over a list, a tuple -/
theorem forL {nx : L2.St → Hp → Prop} {rt : VK} {a : Addr} {xs : List V} (Pv : Nat → L2.St → Hp → Prop) (h0 : Pv 0 σ H) (hst : ∀ i σ' H', Pv i σ' H' → H' a = some (.lst xs))
    (hs : ∀ i x σ' H', xs[i]? = some x → Pv i σ' H' → g x σ' H' fun σ2 H2 => tb { nx := Pv (i + 1), rt := rt, bk := nx, ct := Pv (i + 1) } σ2 H2) (hd : ∀ σ' H', Pv xs.length σ' H' → nx σ' H') :
    ∃ W : Nat → Nat → L2.St → Hp → Prop, (∃ m, W 0 m σ H) ∧ ∀ i m σ H, W i m σ H →
    ((Itl K a).stop i H ∧ nx σ H) ∨ ((Itl K a).go i H ∧ ∃ N : L2.St → Hp → Prop, (∀ σ' H', N σ' H' → ∃ m', m' < m ∧ W (i + 1) m' σ' H') ∧ ∀ x H', (Itl K a).yld i H x H' → g x σ H' fun σ2 H2 => tb { nx := N, rt := rt, bk := nx, ct := N } σ2 H2) :=
  for_list (D := { nx := nx, rt := rt }) (K := K) (a := a) (xs := xs) Pv h0 (fun i σ' H' _ z => SqL.of (hst i σ' H' z)) hs hd
theorem forLs {nx : L2.St → Hp → Prop} {rt : VK} {a : Addr} {xs : List V} (Pv : Nat → L2.St → Hp → Prop) (h0 : Pv 0 σ H) (hst : ∀ i σ' H', Pv i σ' H' → SqL K H' a xs)
    (hs : ∀ i x σ' H', xs[i]? = some x → Pv i σ' H' → g x σ' H' fun σ2 H2 => tb { nx := Pv (i + 1), rt := rt, bk := nx, ct := Pv (i + 1) } σ2 H2) (hd : ∀ σ' H', Pv xs.length σ' H' → nx σ' H') :
    ∃ W : Nat → Nat → L2.St → Hp → Prop, (∃ m, W 0 m σ H) ∧ ∀ i m σ H, W i m σ H →
    ((Itl K a).stop i H ∧ nx σ H) ∨ ((Itl K a).go i H ∧ ∃ N : L2.St → Hp → Prop, (∀ σ' H', N σ' H' → ∃ m', m' < m ∧ W (i + 1) m' σ' H') ∧ ∀ x H', (Itl K a).yld i H x H' → g x σ H' fun σ2 H2 => tb { nx := N, rt := rt, bk := nx, ct := N } σ2 H2) :=
  for_list (D := { nx := nx, rt := rt }) (K := K) (a := a) (xs := xs) Pv h0 (fun i σ' H' _ z => hst i σ' H' z) hs hd
theorem forT {nx : L2.St → Hp → Prop} {rt : VK} {a : Addr} {xs : List V} (Pv : Nat → L2.St → Hp → Prop) (h0 : Pv 0 σ H) (hst : ∀ i σ' H', Pv i σ' H' → H' a = some (.tup xs))
    (hs : ∀ i x σ' H', xs[i]? = some x → Pv i σ' H' → g x σ' H' fun σ2 H2 => tb { nx := Pv (i + 1), rt := rt, bk := nx, ct := Pv (i + 1) } σ2 H2) (hd : ∀ σ' H', Pv xs.length σ' H' → nx σ' H') :
    ∃ W : Nat → Nat → L2.St → Hp → Prop, (∃ m, W 0 m σ H) ∧ ∀ i m σ H, W i m σ H →
    ((Itt K a).stop i H ∧ nx σ H) ∨ ((Itt K a).go i H ∧ ∃ N : L2.St → Hp → Prop, (∀ σ' H', N σ' H' → ∃ m', m' < m ∧ W (i + 1) m' σ' H') ∧ ∀ x H', (Itt K a).yld i H x H' → g x σ H' fun σ2 H2 => tb { nx := N, rt := rt, bk := nx, ct := N } σ2 H2) :=
  for_tup (D := { nx := nx, rt := rt }) (K := K) (a := a) (xs := xs) Pv h0 (fun i σ' H' _ z => SqT.of (hst i σ' H' z)) hs hd
theorem at_forZ {a b : Addr} {xs ys : List V} {R : Addr → Addr → Prop} (h1 : H a = some (.lst xs)) (h2 : H b = some (.lst ys)) (q : R a b) : ∃ a' b' xs ys, [V.ref a, V.ref b] = [V.ref a', V.ref b'] ∧ SqL K H a' xs ∧ SqL K H b' ys ∧ R a' b' := ⟨a, b, xs, ys, rfl, SqL.of h1, SqL.of h2, q⟩
end
end Cm

end
section
/-! ### d.update([(key, value), ..]) -/
namespace Cm
open PySem PySem.Spec PyProof.Rows L2
section
variable {X : Cx}
theorem pairs_up {pins : List (Addr × Obj)} {σ : L2.St} {H : Hp} {s : Shared} (I : Inv X pins σ H s) : ∀ {ps : List Addr} {kvs : List (Key × V)}, Paired (fun p kv => SqT X.K H p [kV kv.1, kv.2]) ps kvs →
    ∃ (prs : List (Key × Value)) (us : List (Value × Value)), KV kvs prs ∧ prs.length = ps.length ∧ us.length = ps.length ∧ ∀ (j : Nat) (k v : Value), us[j]? = some (k, v) → ∃ (b : Addr) (q : Key), ps[j]? = some b ∧ IsTup s.heap b #[k, v] ∧ prs[j]? = some (q, v) ∧ keyIs q k = true
  | _, _, .nil => ⟨[], [], .nil, rfl, rfl, fun j k v e => by simp at e⟩
  | _, _, .cons (a := p) (b := kv) h t => by
    obtain ⟨prs, us, r, hl, hl2, hp⟩ := pairs_up I t
    obtain ⟨its, rv, ht, _⟩ := I.tuple h
    obtain ⟨u, y, ei, ru, ry⟩ := vals2 rv
    subst ei
    refine ⟨(kv.1, y) :: prs, (u, y) :: us, .cons ⟨rfl, ry⟩ r, by rw [List.length_cons, List.length_cons, hl], by rw [List.length_cons, List.length_cons, hl2], fun j k v e => ?_⟩
    cases j with
    | zero =>
      have e' : (u, y) = (k, v) := Option.some.inj e
      cases e'
      exact ⟨p, kv.1, rfl, ht, rfl, kV_is (P := X.prog) (w := X.w) ru⟩
    | succ j =>
      obtain ⟨b, q, e1, e2, e3, e4⟩ := hp j k v (by simpa using e)
      exact ⟨b, q, by simpa using e1, e2, by simpa using e3, e4⟩
def rUpd (K : PySem.W.Frag) : V → List V → Hp → VK → Prop := fun x xs H Q => ∃ (d a : Addr) (kvs0 kvs : List (Key × V)) (ps : List Addr), x = .ref d ∧ xs = [.ref a] ∧ H d = some (.dK kvs0) ∧ SqL K H a (ps.map V.ref) ∧ Paired (fun p kv => SqT K H p [kV kv.1, kv.2]) ps kvs ∧ kvs0.length + ps.length ≤ sizeLine ∧ Q .non (upd H d (.dK (mergeK kvs0 kvs)))
theorem mt_upd (hcalm : X.calm = true) : MtR X "dict.update" (rUpd X.K) := by
  intro pins s σ H x xs v us Q I rx rxs h
  obtain ⟨d, a, kvs0, kvs, ps, rfl, rfl, hd, ha, hp, hz, q⟩ := h
  obtain rfl : v = Value.ref d := rx
  obtain ⟨u, rfl, ru⟩ := rxs.one
  obtain rfl : u = Value.ref a := ru
  obtain ⟨its, rv, pl, _⟩ := I.list ha
  have ei := refs_at rv
  subst ei
  obtain ⟨prs, ups, rel, hl, hl2, hpr⟩ := pairs_up I hp
  obtain ⟨z, hm, vs, rel0, dd⟩ := dk_of I.hok hd
  have ddt := dd.typeIs
  obtain ⟨od, ho, hoc⟩ := ddt
  refine call_update_pairs (PairArg.list a (ps.map Value.ref).toArray (fun j => ps.getD j 0) ups) (I.ok.hd hcalm) ⟨pl, ?_, fun j k v e => ?_⟩ ?_ ⟨by rw [hl, hl2], fun i k v e => ?_⟩ dd (by rw [← rel0.length, hl2]; exact hz) fun h' tk dd' hk => ?_
  · simp [hl2]
  · obtain ⟨b, q, e1, e2, _, _⟩ := hpr j k v e
    refine ⟨by simp [e1], ?_⟩
    show PairAt s.heap (ps.getD j 0) k v
    rw [List.getD_eq_getElem?_getD, e1]
    obtain ⟨o, x1, x2, n, x3⟩ := e2
    exact .inl ⟨o, x1, x2, n, x3⟩
  · intro hmem
    rcases List.mem_cons.mp hmem with rfl | hmem
    · obtain ⟨o2, n, h1, h2, _⟩ := pl
      rw [ho] at h1
      cases h1
      exact absurd (hoc.symm.trans h2) (by decide)
    · obtain ⟨j, hj, e⟩ := List.mem_map.mp hmem
      have hj : j < ups.length := List.mem_range.mp hj
      obtain ⟨b, q, e1, ⟨o2, h1, h2, _⟩, _⟩ := hpr j _ _ (List.getElem?_eq_getElem hj)
      have e : ps.getD j 0 = d := e
      rw [List.getD_eq_getElem?_getD, e1] at e
      have e : b = d := e
      rw [e, ho] at h1
      cases h1
      exact absurd (hoc.symm.trans h2) (by decide)
  · obtain ⟨b, q, _, _, e3, e4⟩ := hpr i k v e
    exact ⟨q, e3, e4⟩
  · have he : ∃ q, h'.get? d = some q := let ⟨q, _, _, hq, _⟩ := dd'; ⟨q, hq⟩
    have hlen : (mergeK kvs0 kvs).length ≤ sizeLine := by
      refine Nat.le_trans (length_mergeK kvs kvs0) ?_
      have := rel.length
      omega
    exact ⟨.non, upd H d (.dK (mergeK kvs0 kvs)), I.write (e := d) (t' := tk) (by rw [hd]; trivial) (.inl rfl) (fun b u hb hu => hk b u hb (fun z => nomatch z) hu) he (dk_new hlen hm (KV.merge rel rel0) dd'), rfl, q⟩
theorem m_upd4 {K : PySem.W.Frag} {H : Hp} {Q : VK} {d a p1 p2 p3 p4 : Addr} {kvs0 kvs1 : List (Key × V)} {k1 k2 k3 k4 : Str} {v1 v2 v3 v4 : V} (hd : H d = some (.dK kvs0)) (ha : H a = some (.lst [.ref p1, .ref p2, .ref p3, .ref p4])) (h1 : H p1 = some (.tup [.str k1, v1])) (h2 : H p2 = some (.tup [.str k2, v2]))
    (h3 : H p3 = some (.tup [.str k3, v3])) (h4 : H p4 = some (.tup [.str k4, v4])) (hz : kvs0.length ≤ 900) (hm : mergeK kvs0 [(.inr k1, v1), (.inr k2, v2), (.inr k3, v3), (.inr k4, v4)] = kvs1) (q : Q .non (upd H d (.dK kvs1))) : rUpd K (.ref d) [.ref a] H Q :=
  ⟨d, a, kvs0, [(.inr k1, v1), (.inr k2, v2), (.inr k3, v3), (.inr k4, v4)], [p1, p2, p3, p4], rfl, rfl, hd, SqL.of ha, .cons (SqT.of h1) (.cons (SqT.of h2) (.cons (SqT.of h3) (.cons (SqT.of h4) .nil))), by rw [sizeLine_eq]; show _ + 4 ≤ _; omega, by rw [hm]; exact q⟩
end
end Cm

end
section
/-! ### L0: what all laws share: the box of draws -/
namespace Cm
open PySem PySem.Spec PyProof.Rows L2
/-- the box of draws at b, its list at l -/
def BoxAt (H : Hp) (b l : Addr) : Prop := ∃ (ns : List Int) (z : Int), H b = some (.lst [.ref l, .int z]) ∧ H l = some (.lst (ns.map V.int)) ∧ ns.length ≤ 63
/-- the two things of the box -/
abbrev Bx (b l : Addr) : Addr → Prop := fun a => a = b ∨ a = l
theorem BoxAt.ne {H : Hp} {b l : Addr} (h : BoxAt H b l) : b ≠ l := by
  obtain ⟨ns, z, h1, h2, _⟩ := h
  refine ne_of h1 h2 fun e => ?_
  injection e with e
  cases ns with
  | nil => cases e
  | cons n ns => injection e with e _; cases e
theorem BoxAt.keep {T : List (Addr × Str)} {S : Addr → Prop} {H H' : Hp} {b l : Addr} (h : BoxAt H b l) (k : Kp T S H H') (h1 : ¬ S b) (h2 : ¬ S l) : BoxAt H' b l := by
  obtain ⟨ns, z, e1, e2, e3⟩ := h
  exact ⟨ns, z, k.lst e1 h1, k.lst e2 h2, e3⟩
/-- a draw below m -/
def spTake (T : List (Addr × Str)) : Sp := sp2 fun x y H Q _ => ∃ (b l : Addr) (m : Int), x = .ref b ∧ y = .int m ∧ BoxAt H b l ∧ 0 < m ∧ m < 2 ^ 64 ∧
  ∀ (v : Int) (H' : Hp), 0 ≤ v → v < m → BoxAt H' b l → Kp T (Bx b l) H H' → Q (.int v) H'
theorem wdiv {i j : Int} (h : 0 < j) (h2 : j < 2 ^ 64) : CDivW i j := wide_div (b := 64) h (by omega) (by decide) (by decide)
theorem at_pick {xs : List V} {i : Int} (h0 : 0 ≤ i) (h : i < xs.length) : ∃ v, atI xs i = some v ∧ v ∈ xs := by
  have hl : i.toNat < xs.length := by omega
  exact ⟨xs[i.toNat], at_nat h0 (List.getElem?_eq_getElem hl), List.getElem_mem hl⟩
theorem BoxAt.nb {H : Hp} {b l p : Addr} (B : BoxAt H b l) (h : H p = none) : b ≠ p := by
  obtain ⟨_, _, e, _⟩ := B
  exact ne_of_none e h
theorem BoxAt.nl {H : Hp} {b l p : Addr} (B : BoxAt H b l) (h : H p = none) : l ≠ p := by
  obtain ⟨_, _, _, e, _⟩ := B
  exact ne_of_none e h
theorem BoxAt.new {H : Hp} {b l p : Addr} {o : HO} (B : BoxAt H b l) (h : H p = none) : BoxAt (upd H p o) b l := by
  obtain ⟨ns, z, e1, e2, e3⟩ := B
  exact ⟨ns, z, by rw [upd_ne (ne_of_none e1 h)]; exact e1, by rw [upd_ne (ne_of_none e2 h)]; exact e2, e3⟩
theorem BoxAt.upd {H : Hp} {b l p : Addr} {o : HO} (B : BoxAt H b l) (h1 : b ≠ p) (h2 : l ≠ p) : BoxAt (upd H p o) b l := by
  obtain ⟨ns, z, e1, e2, e3⟩ := B
  exact ⟨ns, z, by rw [upd_ne h1]; exact e1, by rw [upd_ne h2]; exact e2, e3⟩
theorem out_bx {b l p : Addr} (h1 : b ≠ p) (h2 : l ≠ p) : ¬ Bx b l p := fun z => z.elim (fun e => h1 e.symm) fun e => h2 e.symm
end Cm

end
section
/-! ### L1: data -/
namespace Cm
open PySem PySem.Spec PyProof.Rows L2
mutual
/-- the value v tells the datum, by the things that are tracked -/
def Dt (H : Hp) (v : V) : PyData → Prop
  | .none => v = .non
  | .bool b => v = .bl b
  | .int i => v = .int i
  | .str s => v = .str s
  | .tuple ds => ∃ a xs, v = .ref a ∧ H a = some (.tup xs) ∧ DtA H xs ds
  | .list ds => ∃ a xs, v = .ref a ∧ H a = some (.lst xs) ∧ DtA H xs ds
  | .dict _ => False
def DtA (H : Hp) (xs : List V) : List PyData → Prop
  | [] => xs = []
  | d :: ds => ∃ v vs, xs = v :: vs ∧ Dt H v d ∧ DtA H vs ds
end
/-- depth at most n, sizes small, tuples alone -/
def Di : Nat → PyData → Prop
  | _, .none => True
  | _, .bool _ => True
  | _, .int _ => True
  | _, .str _ => True
  | n + 1, .tuple ds => ds.length ≤ 100000 ∧ ∀ d ∈ ds, Di n d
  | _, _ => False
/-- .. tuples and lists -/
def Dn : Nat → PyData → Prop
  | _, .none => True
  | _, .bool _ => True
  | _, .int _ => True
  | _, .str _ => True
  | n + 1, .tuple ds => ds.length ≤ 100000 ∧ ∀ d ∈ ds, Dn n d
  | n + 1, .list ds => ds.length ≤ 100000 ∧ ∀ d ∈ ds, Dn n d
  | _, _ => False
theorem Di.up : ∀ {n m : Nat} {d : PyData}, Di n d → n ≤ m → Di m d
  | n, m, .none, _, _ => by cases m <;> trivial
  | n, m, .bool _, _, _ => by cases m <;> trivial
  | n, m, .int _, _, _ => by cases m <;> trivial
  | n, m, .str _, _, _ => by cases m <;> trivial
  | 0, _, .tuple _, h, _ => by cases h
  | n + 1, 0, .tuple _, _, h => absurd h (by omega)
  | n + 1, m + 1, .tuple ds, h, hm => ⟨h.1, fun d hd => Di.up (n := n) (h.2 d hd) (by omega)⟩
  | 0, _, .list _, h, _ => by cases h
  | n + 1, _, .list _, h, _ => by cases h
  | 0, _, .dict _, h, _ => by cases h
  | n + 1, _, .dict _, h, _ => by cases h
theorem Di.dn : ∀ {n : Nat} {d : PyData}, Di n d → Dn n d
  | n, .none, _ => by cases n <;> trivial
  | n, .bool _, _ => by cases n <;> trivial
  | n, .int _, _ => by cases n <;> trivial
  | n, .str _, _ => by cases n <;> trivial
  | 0, .tuple _, h => by cases h
  | n + 1, .tuple ds, h => ⟨h.1, fun d hd => Di.dn (n := n) (h.2 d hd)⟩
  | 0, .list _, h => by cases h
  | n + 1, .list _, h => by cases h
  | 0, .dict _, h => by cases h
  | n + 1, .dict _, h => by cases h
theorem Di.none {n : Nat} : Di n .none := by cases n <;> trivial
theorem Di.bool {n : Nat} {b : Bool} : Di n (.bool b) := by cases n <;> trivial
theorem Di.int {n : Nat} {b : Int} : Di n (.int b) := by cases n <;> trivial
theorem Di.str {n : Nat} {b : Str} : Di n (.str b) := by cases n <;> trivial
theorem Dn.none {n : Nat} : Dn n .none := by cases n <;> trivial
theorem Dn.bool {n : Nat} {b : Bool} : Dn n (.bool b) := by cases n <;> trivial
theorem Dn.int {n : Nat} {b : Int} : Dn n (.int b) := by cases n <;> trivial
theorem Dn.str {n : Nat} {b : Str} : Dn n (.str b) := by cases n <;> trivial
section
variable {T : List (Addr × Str)} {S : Addr → Prop} {H H' : Hp} {v : V} {xs ys : List V} {ds es : List PyData}
theorem DtA.length : ∀ {xs : List V} {ds : List PyData}, DtA H xs ds → xs.length = ds.length
  | _, [], h => by have e : _ = [] := h; subst e; rfl
  | _, _ :: ds, h => by
    obtain ⟨v, vs, rfl, _, h⟩ := h
    simp [DtA.length h]
theorem DtA.mono (f : ∀ d ∈ ds, ∀ v, Dt H v d → Dt H' v d) : DtA H xs ds → DtA H' xs ds := by
  induction ds generalizing xs with
  | nil => exact fun h => h
  | cons d ds ih =>
    rintro ⟨v, vs, rfl, h1, h2⟩
    exact ⟨v, vs, rfl, f d List.mem_cons_self v h1, ih (fun d hd => f d (List.mem_cons_of_mem _ hd)) h2⟩
/-- tuples of tuples stay -/
theorem Dt.keep (k : Kp T S H H') : ∀ {n : Nat} {d : PyData} {v : V}, Di n d → Dt H v d → Dt H' v d
  | _, .none, _, _, h => h
  | _, .bool _, _, _, h => h
  | _, .int _, _, _, h => h
  | _, .str _, _, _, h => h
  | 0, .tuple _, _, h, _ => by cases h
  | n + 1, .tuple ds, v, hd, h => by
    obtain ⟨a, xs, rfl, e, hA⟩ := h
    exact ⟨a, xs, rfl, k.tup e, hA.mono fun d hm v hv => Dt.keep k (n := n) (hd.2 d hm) hv⟩
  | 0, .list _, _, h, _ => by cases h
  | n + 1, .list _, _, h, _ => by cases h
  | 0, .dict _, _, h, _ => by cases h
  | n + 1, .dict _, _, h, _ => by cases h
theorem DtA.keep {n : Nat} (k : Kp T S H H') (hd : ∀ d ∈ ds, Di n d) (h : DtA H xs ds) : DtA H' xs ds := h.mono fun d hm v hv => Dt.keep k (hd d hm) hv
/-- where nothing is changed all data stay -/
theorem Dt.same (k : Kp T No H H') : ∀ {n : Nat} {d : PyData} {v : V}, Dn n d → Dt H v d → Dt H' v d
  | _, .none, _, _, h => h
  | _, .bool _, _, _, h => h
  | _, .int _, _, _, h => h
  | _, .str _, _, _, h => h
  | 0, .tuple _, _, h, _ => by cases h
  | n + 1, .tuple ds, v, hd, h => by
    obtain ⟨a, xs, rfl, e, hA⟩ := h
    exact ⟨a, xs, rfl, k.tup e, hA.mono fun d hm v hv => Dt.same k (n := n) (hd.2 d hm) hv⟩
  | 0, .list _, _, h, _ => by cases h
  | n + 1, .list ds, _, hd, h => by
    obtain ⟨a, xs, rfl, e, hA⟩ := h
    exact ⟨a, xs, rfl, k.lst e (fun z => z), hA.mono fun d hm v hv => Dt.same k (n := n) (hd.2 d hm) hv⟩
  | 0, .dict _, _, h, _ => by cases h
  | n + 1, .dict _, _, h, _ => by cases h
theorem DtA.get (h : DtA H xs ds) {i : Nat} {x : V} (e : xs[i]? = some x) : ∃ d, ds[i]? = some d ∧ Dt H x d := by
  induction ds generalizing xs i with
  | nil => have q : _ = [] := h; subst q; simp at e
  | cons d ds ih =>
    obtain ⟨v, vs, rfl, h1, h2⟩ := h
    cases i with
    | zero => simp at e; subst e; exact ⟨d, rfl, h1⟩
    | succ i => exact ih h2 (by simpa using e)
theorem DtA.at (h : DtA H xs ds) {i : Nat} {d : PyData} (e : ds[i]? = some d) : ∃ x, xs[i]? = some x ∧ Dt H x d := by
  induction ds generalizing xs i with
  | nil => simp at e
  | cons c ds ih =>
    obtain ⟨v, vs, rfl, h1, h2⟩ := h
    cases i with
    | zero => simp at e; subst e; exact ⟨v, rfl, h1⟩
    | succ i =>
      obtain ⟨x, h3, h4⟩ := ih h2 (i := i) (by simpa using e)
      exact ⟨x, by simpa using h3, h4⟩
theorem DtA.nil : DtA H [] [] := rfl
theorem DtA.cons {d : PyData} (h : Dt H v d) (t : DtA H xs ds) : DtA H (v :: xs) (d :: ds) := ⟨v, xs, rfl, h, t⟩
theorem DtA.append : ∀ {ds : List PyData} {xs : List V}, DtA H xs ds → DtA H ys es → DtA H (xs ++ ys) (ds ++ es)
  | [], _, h, t => by have q : _ = [] := h; subst q; exact t
  | d :: ds, _, h, t => by
    obtain ⟨v, vs, rfl, h1, h2⟩ := h
    exact ⟨v, vs ++ ys, rfl, h1, h2.append t⟩
theorem DtA.snoc {d : PyData} (h : DtA H xs ds) (t : Dt H v d) : DtA H (xs ++ [v]) (ds ++ [d]) := h.append (.cons t .nil)
theorem DtA.set : ∀ {ds : List PyData} {xs : List V} {i : Nat} {d : PyData}, DtA H xs ds → Dt H v d → DtA H (xs.set i v) (ds.set i d)
  | [], _, i, d, h, t => by have q : _ = [] := h; subst q; exact rfl
  | e :: ds, _, 0, d, h, t => by
    obtain ⟨v', vs, rfl, h1, h2⟩ := h
    exact ⟨v, vs, rfl, t, h2⟩
  | e :: ds, _, i + 1, d, h, t => by
    obtain ⟨v', vs, rfl, h1, h2⟩ := h
    exact ⟨v', vs.set i v, rfl, h1, h2.set t⟩
theorem DtA.take : ∀ {ds : List PyData} {xs : List V} {i : Nat}, DtA H xs ds → DtA H (xs.take i) (ds.take i)
  | [], _, i, h => by have q : _ = [] := h; subst q; simp; exact rfl
  | e :: ds, _, 0, h => by simp; exact rfl
  | e :: ds, _, i + 1, h => by
    obtain ⟨v', vs, rfl, h1, h2⟩ := h
    exact ⟨v', vs.take i, rfl, h1, h2.take⟩
theorem DtA.drop : ∀ {ds : List PyData} {xs : List V} {i : Nat}, DtA H xs ds → DtA H (xs.drop i) (ds.drop i)
  | [], _, i, h => by have q : _ = [] := h; subst q; simp; exact rfl
  | e :: ds, _, 0, h => h
  | e :: ds, _, i + 1, h => by
    obtain ⟨v', vs, rfl, h1, h2⟩ := h
    exact h2.drop (i := i)
theorem DtA.bools (bs : List Bool) : DtA H (bs.map V.bl) (bs.map PyData.bool) := by
  induction bs with
  | nil => rfl
  | cons b bs ih => exact ⟨.bl b, _, rfl, rfl, ih⟩
theorem DtA.ints (bs : List Int) : DtA H (bs.map V.int) (bs.map PyData.int) := by
  induction bs with
  | nil => rfl
  | cons b bs ih => exact ⟨.int b, _, rfl, rfl, ih⟩
/-! isinstance of data -/
def isT : PyData → String → Bool
  | .none, _ => false
  | .bool _, t => t == "bool" || t == "int"
  | .int _, t => t == "int"
  | .str _, t => t == "str"
  | .tuple _, t => t == "tuple"
  | .list _, t => t == "list"
  | .dict _, t => t == "dict"
theorem r_isi {K : PySem.W.Frag} {Q : VK} {d : PyData} {t : String} (h : Dt H v d) (ht : t = "bool" ∨ t = "int" ∨ t = "str" ∨ t = "tuple" ∨ t = "list") (q : Q (.bl (isT d t)) H) : rIsi K [v, .ty t] H Q := by
  have go : ∀ {s : String} {r : Bool}, TyX K H v (.type s) → kitB s t = some r → isT d t = r → rIsi K [v, .ty t] H Q := fun {s r} ty e1 e2 =>
    ⟨v, .ty t, .type s, .type t, r, rfl, .ty t, ty, kit_ty e1, by rw [← e2]; exact q⟩
  cases d with
  | none =>
    have e : v = .non := h
    subst e
    rcases ht with rfl | rfl | rfl | rfl | rfl <;> first | exact go (r := true) (.base .non) (by decide +kernel) rfl | exact go (r := false) (.base .non) (by decide +kernel) rfl
  | bool b =>
    have e : v = .bl b := h
    subst e
    rcases ht with rfl | rfl | rfl | rfl | rfl <;> first | exact go (r := true) (.base (.bl b)) (by decide +kernel) rfl | exact go (r := false) (.base (.bl b)) (by decide +kernel) rfl
  | int b =>
    have e : v = .int b := h
    subst e
    rcases ht with rfl | rfl | rfl | rfl | rfl <;> first | exact go (r := true) (.base (.int b)) (by decide +kernel) rfl | exact go (r := false) (.base (.int b)) (by decide +kernel) rfl
  | str b =>
    have e : v = .str b := h
    subst e
    rcases ht with rfl | rfl | rfl | rfl | rfl <;> first | exact go (r := true) (.base (.str b)) (by decide +kernel) rfl | exact go (r := false) (.base (.str b)) (by decide +kernel) rfl
  | tuple ds =>
    obtain ⟨a, xs, rfl, e, _⟩ := h
    rcases ht with rfl | rfl | rfl | rfl | rfl <;> first | exact go (r := true) (.base (.tup e)) (by decide +kernel) rfl | exact go (r := false) (.base (.tup e)) (by decide +kernel) rfl
  | list ds =>
    obtain ⟨a, xs, rfl, e, _⟩ := h
    rcases ht with rfl | rfl | rfl | rfl | rfl <;> first | exact go (r := true) (.base (.lst e)) (by decide +kernel) rfl | exact go (r := false) (.base (.lst e)) (by decide +kernel) rfl
  | dict ds => exact h.elim
end
end Cm
namespace Cm
open PySem PySem.Spec PyProof.Rows L2
section
variable {K : PySem.W.Frag} {H : Hp} {Q : VK} {a : Addr} {xs : List V}
theorem isi_non_bool  (q : Q (.bl false) H) : rIsi K [.non, .ty "bool"] H Q := r_isi (d := .none) rfl (.inl rfl) q
theorem isi_non_int  (q : Q (.bl false) H) : rIsi K [.non, .ty "int"] H Q := r_isi (d := .none) rfl (.inr (.inl rfl)) q
theorem isi_non_str  (q : Q (.bl false) H) : rIsi K [.non, .ty "str"] H Q := r_isi (d := .none) rfl (.inr (.inr (.inl rfl))) q
theorem isi_non_tuple  (q : Q (.bl false) H) : rIsi K [.non, .ty "tuple"] H Q := r_isi (d := .none) rfl (.inr (.inr (.inr (.inl rfl)))) q
theorem isi_non_list  (q : Q (.bl false) H) : rIsi K [.non, .ty "list"] H Q := r_isi (d := .none) rfl (.inr (.inr (.inr (.inr rfl)))) q
theorem isi_bl_bool {b : Bool} (q : Q (.bl true) H) : rIsi K [(.bl b), .ty "bool"] H Q := r_isi (d := (.bool b)) rfl (.inl rfl) q
theorem isi_bl_int {b : Bool} (q : Q (.bl true) H) : rIsi K [(.bl b), .ty "int"] H Q := r_isi (d := (.bool b)) rfl (.inr (.inl rfl)) q
theorem isi_bl_str {b : Bool} (q : Q (.bl false) H) : rIsi K [(.bl b), .ty "str"] H Q := r_isi (d := (.bool b)) rfl (.inr (.inr (.inl rfl))) q
theorem isi_bl_tuple {b : Bool} (q : Q (.bl false) H) : rIsi K [(.bl b), .ty "tuple"] H Q := r_isi (d := (.bool b)) rfl (.inr (.inr (.inr (.inl rfl)))) q
theorem isi_bl_list {b : Bool} (q : Q (.bl false) H) : rIsi K [(.bl b), .ty "list"] H Q := r_isi (d := (.bool b)) rfl (.inr (.inr (.inr (.inr rfl)))) q
theorem isi_int_bool {i : Int} (q : Q (.bl false) H) : rIsi K [(.int i), .ty "bool"] H Q := r_isi (d := (.int i)) rfl (.inl rfl) q
theorem isi_int_int {i : Int} (q : Q (.bl true) H) : rIsi K [(.int i), .ty "int"] H Q := r_isi (d := (.int i)) rfl (.inr (.inl rfl)) q
theorem isi_int_str {i : Int} (q : Q (.bl false) H) : rIsi K [(.int i), .ty "str"] H Q := r_isi (d := (.int i)) rfl (.inr (.inr (.inl rfl))) q
theorem isi_int_tuple {i : Int} (q : Q (.bl false) H) : rIsi K [(.int i), .ty "tuple"] H Q := r_isi (d := (.int i)) rfl (.inr (.inr (.inr (.inl rfl)))) q
theorem isi_int_list {i : Int} (q : Q (.bl false) H) : rIsi K [(.int i), .ty "list"] H Q := r_isi (d := (.int i)) rfl (.inr (.inr (.inr (.inr rfl)))) q
theorem isi_str_bool {s : Str} (q : Q (.bl false) H) : rIsi K [(.str s), .ty "bool"] H Q := r_isi (d := (.str s)) rfl (.inl rfl) q
theorem isi_str_int {s : Str} (q : Q (.bl false) H) : rIsi K [(.str s), .ty "int"] H Q := r_isi (d := (.str s)) rfl (.inr (.inl rfl)) q
theorem isi_str_str {s : Str} (q : Q (.bl true) H) : rIsi K [(.str s), .ty "str"] H Q := r_isi (d := (.str s)) rfl (.inr (.inr (.inl rfl))) q
theorem isi_str_tuple {s : Str} (q : Q (.bl false) H) : rIsi K [(.str s), .ty "tuple"] H Q := r_isi (d := (.str s)) rfl (.inr (.inr (.inr (.inl rfl)))) q
theorem isi_str_list {s : Str} (q : Q (.bl false) H) : rIsi K [(.str s), .ty "list"] H Q := r_isi (d := (.str s)) rfl (.inr (.inr (.inr (.inr rfl)))) q
theorem isi_tup_bool (h : H a = some (.tup xs)) (q : Q (.bl false) H) : rIsi K [.ref a, .ty "bool"] H Q := ⟨.ref a, .ty "bool", .type "tuple", .type "bool", false, rfl, .ty "bool", .base (TyOf.tup h), kit_ty (by decide +kernel), q⟩
theorem isi_tup_int (h : H a = some (.tup xs)) (q : Q (.bl false) H) : rIsi K [.ref a, .ty "int"] H Q := ⟨.ref a, .ty "int", .type "tuple", .type "int", false, rfl, .ty "int", .base (TyOf.tup h), kit_ty (by decide +kernel), q⟩
theorem isi_tup_str (h : H a = some (.tup xs)) (q : Q (.bl false) H) : rIsi K [.ref a, .ty "str"] H Q := ⟨.ref a, .ty "str", .type "tuple", .type "str", false, rfl, .ty "str", .base (TyOf.tup h), kit_ty (by decide +kernel), q⟩
theorem isi_tup_tuple (h : H a = some (.tup xs)) (q : Q (.bl true) H) : rIsi K [.ref a, .ty "tuple"] H Q := ⟨.ref a, .ty "tuple", .type "tuple", .type "tuple", true, rfl, .ty "tuple", .base (TyOf.tup h), kit_ty (by decide +kernel), q⟩
theorem isi_tup_list (h : H a = some (.tup xs)) (q : Q (.bl false) H) : rIsi K [.ref a, .ty "list"] H Q := ⟨.ref a, .ty "list", .type "tuple", .type "list", false, rfl, .ty "list", .base (TyOf.tup h), kit_ty (by decide +kernel), q⟩
theorem isi_lst_bool (h : H a = some (.lst xs)) (q : Q (.bl false) H) : rIsi K [.ref a, .ty "bool"] H Q := ⟨.ref a, .ty "bool", .type "list", .type "bool", false, rfl, .ty "bool", .base (TyOf.lst h), kit_ty (by decide +kernel), q⟩
theorem isi_lst_int (h : H a = some (.lst xs)) (q : Q (.bl false) H) : rIsi K [.ref a, .ty "int"] H Q := ⟨.ref a, .ty "int", .type "list", .type "int", false, rfl, .ty "int", .base (TyOf.lst h), kit_ty (by decide +kernel), q⟩
theorem isi_lst_str (h : H a = some (.lst xs)) (q : Q (.bl false) H) : rIsi K [.ref a, .ty "str"] H Q := ⟨.ref a, .ty "str", .type "list", .type "str", false, rfl, .ty "str", .base (TyOf.lst h), kit_ty (by decide +kernel), q⟩
theorem isi_lst_tuple (h : H a = some (.lst xs)) (q : Q (.bl false) H) : rIsi K [.ref a, .ty "tuple"] H Q := ⟨.ref a, .ty "tuple", .type "list", .type "tuple", false, rfl, .ty "tuple", .base (TyOf.lst h), kit_ty (by decide +kernel), q⟩
theorem isi_lst_list (h : H a = some (.lst xs)) (q : Q (.bl true) H) : rIsi K [.ref a, .ty "list"] H Q := ⟨.ref a, .ty "list", .type "list", .type "list", true, rfl, .ty "list", .base (TyOf.lst h), kit_ty (by decide +kernel), q⟩
theorem ite_nt {A B : Prop} (q : B) : if (!true) = true then A else B := iteF q
theorem ite_nf {A B : Prop} (q : A) : if (!false) = true then A else B := iteT q
end
end Cm

end
section
/-! ### enumerate over a tuple -/
namespace Cm
open PySem PySem.Spec PyProof.Rows L2
open AutoSeq1 (wpAny_loadPart')
def tupIt (l : Addr) : Obj := { cls := .type "tuple_iterator", data := .fields #[.ref l, .int 0 0] }
def enuO (i : Addr) : Obj := { cls := .type "enumerate", data := .fields #[.none, .bool false, .ref i, rawInt 0, .none, .none] }
theorem mk_enumT (l : Addr) (zs : Array Value) (n : Nat) (dct : Option Addr) (sl : Array (Option Value)) :
    Meets (Builtin.«enumerate.__new__» ⟨[.type "enumerate", .ref l], []⟩) (fun _ R s => s.heap.get? l = some { cls := .type "tuple", dict := dct, data := .seq zs n, slots := sl } ∧
      R (.ok (.ret (.ref (s.heap.push (tupIt l)).objs.size))) { s with heap := (s.heap.push (tupIt l)).push (enuO s.heap.objs.size) }) :=
  .of_wp fun prog w A R s h => by
    obtain ⟨hp, g, d, tk, os⟩ := s; obtain ⟨hl, h⟩ := h
    have hsub := sub_enumerate
    have hL : Heap.IsTuple (Shared.heap ⟨hp, g, d, tk, os⟩) l zs := ⟨_, hl, rfl, n, rfl⟩
    wp_walk using wpAny_loadPart' hl
    refine wpAny_stack_any fun st => wpAny_pure ?_
    split
    · rename_i c _ _ _ _ _
      cases (c == Value.type "enumerate") <;> (wp_walk using wpAny_loadPart' hl, wpAny_pyIter_tuple hL; exact ⟨_, rfl, h⟩)
    · wp_walk using wpAny_loadPart' hl, wpAny_pyIter_tuple hL
      exact ⟨_, rfl, h⟩
section
variable {prog : Program} {w : World} {A : Around} {E : Value → Shared → Prop} {s : Shared}
theorem call_enumT {l : Addr} {zs : Array Value} {Q : Value → Shared → Prop} (hL : s.heap.IsTuple l zs)
    (h : ∀ h', IsEnum h' (s.heap.objs.size + 1) s.heap.objs.size 0 .none → h'.IsTupleIter s.heap.objs.size l 0 → h'.objs.size = s.heap.objs.size + 2 →
      (∀ b o, s.heap.get? b = some o → h'.get? b = some o) → Q (.ref (s.heap.objs.size + 1)) { s with heap := h' }) :
    wpAny (model prog w) A (call (.type "enumerate") [.ref l]) Q E s := by
  obtain ⟨⟨c, dct, dt, sl⟩, hl, hc, n, hd⟩ := hL
  replace hc : c = .type "tuple" := hc
  replace hd : dt = .seq zs n := hd
  subst hc hd
  refine callType_new F.called_enumerate (by decide) (F.typeCall_enumerate_1 _) (F.newCall_enumerate_1 _) (fun obj => F.args_object_init_2 obj _) F.entry_enumerate_new (mk_enumT l zs n dct sl) ⟨hl, ?_⟩
  have hz : (s.heap.push (tupIt l)).objs.size = s.heap.objs.size + 1 := Heap.size_push ..
  show _ ∧ _
  rw [hz]
  have he : IsEnum ((s.heap.push (tupIt l)).push (enuO s.heap.objs.size)) (s.heap.objs.size + 1) s.heap.objs.size 0 .none := by
    have q := Heap.get?_push_size (s.heap.push (tupIt l)) (o := enuO s.heap.objs.size) rfl
    rw [hz] at q; exact q
  exact ⟨⟨_, he, rfl⟩, h _ he ⟨_, Heap.get?_push_of_some _ (Heap.get?_push_size _ rfl), rfl, rfl⟩ (by rw [Heap.size_push, hz]) fun b o x => Heap.get?_push_of_some _ (Heap.get?_push_of_some _ x)⟩
end
/-- the tuple at a, each item in a new pair -/
def IteT (K : PySem.W.Frag) (a : Addr) : It :=
  ⟨fun i H => ∃ (xs : List V) (x : V), SqT K H a xs ∧ xs[i]? = some x, fun i H v H' => ∃ T x, v = .ref T ∧ H T = none ∧ H' = upd H T (.tup [.int (i : Nat), x]) ∧ ∀ xs, SqT K H a xs → xs[i]? = some x, fun i H => ∃ xs : List V, SqT K H a xs ∧ xs.length ≤ i⟩
theorem turn_enumT {P : Program} {w : World} {K : PySem.W.Frag} {elts : List Expr} {kk : Nat} {tpos : Pos} (a e it : Addr) (us : List Value) :
    Turn P w K (.Tuple elts kk tpos) (IteT K a) [e, it] e (fun i h => (∃ old, IsEnum h e it ((i : Nat) : Int) old) ∧ h.IsTupleIter it a i ∧ e ≠ it ∧ it ≠ a ∧ e ≠ a) where
  mem := by simp
  obj := fun i h st b hb => by
    obtain ⟨⟨old, he⟩, ⟨o, ho, hc, hd⟩, _⟩ := st
    have e' : b = e ∨ b = it := by simpa using hb
    rcases e' with z | z <;> rw [z]
    · exact ⟨_, he, fun v q => nomatch q⟩
    · exact ⟨o, ho, fun v q => by rw [hd] at q; cases q⟩
  keep := fun i h h' st k => let ⟨⟨old, he⟩, hi, hne⟩ := st; ⟨⟨old, k e (by simp) _ he⟩, hi.at fun o q => k it (by simp) o q, hne⟩
  item := by
    intro X hP hw hK hc i pins s σ H E I hf st hg
    subst hP hw hK
    obtain ⟨⟨old, he⟩, hit, hne, hia, hea⟩ := st
    obtain ⟨xs, x, hq, hx⟩ := hg
    obtain ⟨zs, rv, p, hz⟩ := I.tuple hq
    obtain ⟨u, hu, ru⟩ := rv.get hx
    have hel : e < s.heap.objs.size := Heap.lt_size he
    have hil : it < s.heap.objs.size := by obtain ⟨_, q, _⟩ := hit; exact Heap.lt_size q
    have hlt : i < zs.toArray.size := by
      have := (List.getElem?_eq_some_iff.mp hu).1
      simpa using this
    refine wpAny_pyNext_enum_itemD (i := i) (Draws.tuple (A := X.A.in1) (I.ok.hd hc) it a (Ne.symm hia) zs.toArray) he ⟨hit, p⟩ hlt hne (by simp [hne, hea]) fun y h' tk hy ho hst' hT hsz hk => ?_
    have ey : y = u := by
      have q : zs[i]? = some y := by simpa using hy
      rw [hu] at q; exact (Option.some.inj q).symm
    subst ey
    refine ⟨_, rfl, wpAny_letOwnedTupleGo_enum (s := { s with heap := h', toks := tk + 1 }) ho fun h'' he' sb => ?_⟩
    have hT2 : h''.get? s.heap.objs.size = some { cls := .type "tuple", data := .seq #[.int i tk, y] } := (sb.2 _ (Nat.ne_of_gt hel)).trans hT
    have new : ObjOk X.prog X.w (upd H s.heap.objs.size (.tup [.int (i : Nat), x])) h'' s.heap.objs.size (.tup [.int (i : Nat), x]) :=
      ⟨by show 2 ≤ sizeLine; decide, [.int i tk, y], .cons ⟨_, rfl⟩ (.cons ru .nil), ⟨_, hT2, rfl, _, rfl⟩⟩
    have I1 : Inv X pins σ (upd H s.heap.objs.size (.tup [.int (i : Nat), x])) { s with heap := h'', toks := tk + 1 } :=
      I.turnedNew (ch := [e, it]) (fun b ob hb q => (sb.2 b (fun z => hb (by simp [z]))).trans (hk b ob (fun z => hb (by simp [z])) (fun z => hb (by simp [z])) q)) hf (Nat.le_refl _) new
    refine ⟨.ref s.heap.objs.size, _, I1, rfl, ⟨_, x, rfl, I.hok.fresh (Nat.le_refl _), rfl, fun ys hy => by rw [I.tuple_inj hy hq]; exact hx⟩, ⟨⟨y, ?_⟩, hst'.1.at fun o q => (sb.2 it (Ne.symm hne)).trans q, hne, hia, hea⟩, fun b hb => ?_⟩
    · have e1 : ((i + 1 : Nat) : Int) = (i : Int) + 1 := by omega
      rw [e1]; exact he'
    · have hb' : b < s.heap.objs.size := by
        have e' : b = e ∨ b = it := by simpa using hb
        rcases e' with z | z <;> rw [z] <;> assumption
      rw [upd_ne (Nat.ne_of_lt hb')]
      exact (hf b hb).1
  done := by
    intro X hP hw hK hc i pins s σ H E I hf st hg
    subst hP hw hK
    obtain ⟨⟨old, he⟩, hit, hne, hia, hea⟩ := st
    obtain ⟨xs, hq, hx⟩ := hg
    obtain ⟨zs, rv, p, hz⟩ := I.tuple hq
    obtain ⟨f0, f1, f2, f3, f4, f5⟩ := hf it (by simp)
    have hl := rv.length
    have D : Draws X.prog X.w X.A.in1 it [it, a] i (fun _ _ => True) (fun j h => j = i ∧ h.IsTupleIter it a i ∧ h.IsTuple a zs.toArray) :=
      { live := fun _ _ st => let ⟨o, ho, _⟩ := st.2.1; ⟨o, ho⟩
        frame := fun _ _ _ st hk => ⟨st.1, st.2.1.at fun o e => hk it (by simp) o e, st.2.2.at fun o e => hk a (by simp) o e⟩
        item := fun j s Q E hj st _ => absurd st.1 (Nat.ne_of_lt hj)
        done := fun s Q E st hE => wpAny_nextOf_tuple_end (I.ok.hd hc) st.2.1 st.2.2 (by simp; omega) hE }
    exact wpAny_pyNext_enum_endD D he ⟨rfl, hit, p⟩ fun h' eb => ⟨rfl, I.turned (t' := s.toks) (fun b o hb q => eb b o hb q) f0 f1 f3 f4 f5⟩
  self := fun A i s Q E st h => let ⟨⟨_, he⟩, _⟩ := st; wpAny_pyIter_enum he h
/-- enumerate(list or tuple) -/
def iEnumA (K : PySem.W.Frag) (ta : TA) : TI := fun σ H R => ta σ H fun vs H1 => ∃ a, vs = [.ref a] ∧ ((∃ xs, SqL K H1 a xs ∧ R (Ite K a) H1) ∨ ∃ xs, SqT K H1 a xs ∧ R (IteT K a) H1)
theorem pi_enumA {X : Cx} {e : Expr} {ta : TA} {p pos tpos : Pos} {elts : List Expr} {kk : Nat} (hg : Gl X "enumerate") (hm : X.mg "enumerate" = none) (ha : PA X [e] ta) (hs : starEach [e] X.env = [(false, eval e X.env)] := by rfl) :
    PI X (.Tuple elts kk tpos) (.Call (.Name "enumerate" p) [e] [] pos) (iEnumA X.K ta) := by
  refine ⟨fun pins s σ H R I h => ?_⟩
  refine Call_ (ld_blt I hg hm boot_enumerate (PyProof.Rows.callWith_type1 (thn (ha.run pos pins s σ H _ I h) fun us s1 ⟨vs, H1, I1, r1, q1⟩ => ?_) hs rfl))
  obtain ⟨a, rfl, q⟩ := q1
  cases r1 with
  | cons r rr =>
    cases rr
    cases r
    have fin : ∀ b, b = s1.heap.objs.size + 1 ∨ b = s1.heap.objs.size → FpOk X pins H1 b := fun b e' => by
      have hle : s1.heap.objs.size ≤ b := by
        rcases e' with z | z <;> rw [z]
        · exact Nat.le_add_right _ _
        · exact Nat.le_refl _
      exact I1.fpOk hle (I1.hok.fresh hle)
    rcases q with ⟨xs, hq, q⟩ | ⟨xs, hq, q⟩
    · obtain ⟨zs, rv, p', hz⟩ := I1.list hq
      refine call_enumerate_list p'.isList fun h' he hit hsz hk => wpAny_pyIter_enum he ?_
      exact ⟨s1.heap.objs.size + 1, [s1.heap.objs.size + 1, s1.heap.objs.size], _, _, H1, rfl, I1.kept (t' := s1.toks) hk, turn_enum a (s1.heap.objs.size + 1) s1.heap.objs.size, ⟨⟨.none, he⟩, hit, Nat.succ_ne_self _⟩, fun b hb => fin b (by simpa using hb), q⟩
    · obtain ⟨zs, rv, p', hz⟩ := I1.tuple hq
      have hlt : a < s1.heap.objs.size := by obtain ⟨o, ho, _⟩ := p'; exact Heap.lt_size ho
      refine call_enumT p' fun h' he hit hsz hk => wpAny_pyIter_enum he ?_
      exact ⟨s1.heap.objs.size + 1, [s1.heap.objs.size + 1, s1.heap.objs.size], _, _, H1, rfl, I1.kept (t' := s1.toks) hk, turn_enumT a (s1.heap.objs.size + 1) s1.heap.objs.size zs, ⟨⟨.none, he⟩, hit, Nat.succ_ne_self _, Nat.ne_of_gt hlt, Nat.ne_of_gt (Nat.lt_succ_of_lt hlt)⟩, fun b hb => fin b (by simpa using hb), q⟩
end Cm

end
section
/-! ### set(list of ints) -/
namespace Cm
open PySem PySem.Spec PyProof.Rows L2
abbrev nset (w : World) : Obj := { cls := .type "set", dict := none, data := .set #[] 0 (.fresh 0 0 (!w.params.followText "set-order")) }
section
variable {P : Program} {w : World} {A : Around} {E : Value → Shared → Prop} {s : Shared}
set_option maxHeartbeats 3200000 in
theorem set_of_list {l : Addr} {zs : Array Value} (ns : List Int) {Q : Value → Shared → Prop} (hh : A.handled = none) (hl : s.heap.IsList l zs) (hit : IntsAre zs.toList ns) (hb : ns.length + 1 < scanBound)
    (h : ∀ (h' : Heap) (tk c : Nat), SetR w h' s.heap.objs.size (fun j => decide (j ∈ ns)) c → c ≤ ns.length → (∀ b o, s.heap.get? b = some o → h'.get? b = some o) → Q (.ref s.heap.objs.size) { s with heap := h', toks := tk }) :
    wpAny (model P w) A (call (.type "set") [.ref l]) Q E s := by
  have hsize : zs.size = ns.length := (Array.length_toList (xs := zs)).symm.trans (IntsAre.length hit)
  obtain ⟨c, tl, hmro⟩ := F.called_set.mro
  have k1 := F.called_set.made
  have k2 := F.called_set.sub
  refine wpAny_call (codeAny_of_tree (show wpAny _ _ (callAny (.type "set") _) _ _ _ from ?_))
  refine wpAny_pure ⟨Code.quiet_builtin _ (by decide +kernel), codeAny_builtin F.entry_type_call ?_⟩
  rw [Around.under_plain (weight_type_call_type "set" [.ref l] []) rfl]
  have k3 := F.called_set.notType
  have k4 := F.called_set.canCreate
  have k5 := F.typeCall_set_1 (.ref l)
  repeat (any_goals (first | assumption | wp_step))
  refine codeAny_mono (code_set_led1 (.ref l) (E := E) (Q₁ := fun obj t => obj = .ref s.heap.objs.size ∧ t = { s with heap := s.heap.push (nset w) }) ⟨rfl, rfl⟩) fun r t hr => ?_
  cases r with
  | error e => exact hr
  | ok fl =>
    cases fl with
    | ret obj =>
      obtain ⟨rfl, rfl⟩ := hr
      have hS : (s.heap.push (nset w)).get? s.heap.objs.size = some (nset w) := Heap.get?_push_size _ rfl
      have hT : Shared.TypeIs { s with heap := s.heap.push (nset w) } (.ref s.heap.objs.size) "set" := ⟨_, hS, rfl⟩
      have k6 := F.called_set.init.lookup
      have k7 := F.called_set.init.bind (.ref s.heap.objs.size)
      repeat (any_goals (first | assumption | wp_step))
      refine codeAny_mono (codeAny_call_builtin (R := wants (fun r t2 => r = .none ∧ ∃ h' tk c, t2 = { s with heap := h', toks := tk } ∧ SetR w h' s.heap.objs.size (fun j => decide (j ∈ ns)) c ∧ c ≤ ns.length ∧
          (∀ b o, s.heap.get? b = some o → h'.get? b = some o)) E) F.called_set.init.plain F.entry_set_init (check_set_init_1 hT ?_)) fun r2 t2 hr2 => ?_
      · obtain ⟨⟨ocls, odict, odata, oslots⟩, hol, hcl, nl, hdl⟩ := hl
        simp only at hcl hdl
        subst hcl; subst hdl
        have hol' : (s.heap.push (nset w)).get? l = some { cls := .type "list", dict := odict, data := .seq zs nl, slots := oslots } := Heap.get?_push_of_some _ hol
        have k8 := F.sub_list_set
        have k9 := F.sub_list_frozenset
        have ka : (Value.type "list" == Value.type "dict") = false := by decide
        have hl1 : (s.heap.push (nset w)).IsList l zs := ⟨_, hol', rfl, nl, rfl⟩
        unfold Builtin.«set.__init__» noKeywords Builtin.Frozenset.updateFrom
        generalize hPI : pyIter = PI
        wp_walk
        subst hPI
        refine wpAny_pyIter_list hl1 ?_
        refine wpAny_bind (wpAny_runValue ?_)
        have hlS : l < s.heap.objs.size := Heap.lt_size hol
        have hh3 : A.in1.in1.in1.handled = none := by simp [hh]
        have hz1 : (s.heap.push (nset w)).objs.size = s.heap.objs.size + 1 := Heap.size_push ..
        have hneI : l ≠ (s.heap.push (nset w)).objs.size := by rw [hz1]; exact Nat.ne_of_lt (Nat.lt_succ_of_lt hlS)
        have hSf : s.heap.objs.size ∉ [(s.heap.push (nset w)).objs.size, l] := by
          rw [hz1]; simp only [List.mem_cons, List.mem_singleton, List.not_mem_nil, or_false, not_or]
          exact ⟨Nat.ne_of_lt (Nat.lt_succ_self _), Nat.ne_of_gt hlS⟩
        have hval : ∀ (i : Nat) (v : Value), zs[i]? = some v → ∃ k t, ns[i]? = some k ∧ v = .int k t := fun i v hv => by
          have hi : i < ns.length := by rw [← hsize]; exact (Array.getElem?_eq_some_iff.mp hv).1
          obtain ⟨t, e⟩ := PyProof.Rows.IntsAre.int_at hit i v (by rw [Array.getElem?_toList]; exact hv)
          refine ⟨ns[i], t, List.getElem?_eq_getElem hi, ?_⟩
          rw [e, List.getD_eq_getElem?_getD, List.getElem?_eq_getElem hi] <;> rfl
        refine set_update_ints ((Walks.list hh3 _ l hneI zs).toS) s.heap.objs.size hSf ns hsize hb hval (zs.size - 0) 0 _ (by omega) (Nat.zero_le _) ⟨⟨_, Heap.get?_push_size _ rfl, rfl, rfl⟩, (hl1.push _)⟩ ?hS0 ?hR
        case hS0 => exact ⟨0, Nat.le_refl 0, setR_new_at (Heap.get?_push_of_some _ hS)⟩
        case hR =>
          intro s' c' hm hc' hS'
          obtain ⟨h', g2, d', tk', os'⟩ := s'
          obtain rfl : g2 = s.gens := hm.gens
          obtain rfl : d' = s.drawn := hm.drawn
          obtain rfl : os' = s.os := hm.os
          show wpAny _ _ _ _ _ _
          refine wpAny_pure ?_
          show wpAny _ _ (ret Value.none) _ _ _
          rw [hsize] at hc'
          refine wpAny_pure ⟨rfl, h', tk', c', rfl, hS', hc', fun b o e => ?_⟩
          have hb0 : b < s.heap.objs.size := Heap.lt_size e
          have hb2 : b ≠ (s.heap.push (nset w)).objs.size := by rw [hz1]; exact Nat.ne_of_lt (Nat.lt_succ_of_lt hb0)
          exact hm.heap b o (by simp only [List.mem_cons, List.mem_singleton, List.not_mem_nil, or_false, not_or]; exact ⟨Nat.ne_of_lt hb0, hb2⟩) (Heap.get?_push_of_some _ (Heap.get?_push_of_some _ e))
      · cases r2 with
        | error e => exact hr2
        | ok fl2 =>
          cases fl2 with
          | ret r =>
            obtain ⟨rfl, h', tk, c', rfl, hS', hc', hk'⟩ := hr2
            repeat (any_goals (first | assumption | wp_step))
            exact h _ _ _ hS' hc' hk'
          | _ => exact hr2.elim
    | _ => exact hr.elim
end
section
variable {X : Cx}
/-- set(l), l a list of ints -/
def rSetOfL (K : PySem.W.Frag) (w : World) : List V → Hp → VK → Prop := fun xs H Q => ∃ (a : Addr) (ns : List Int), xs = [.ref a] ∧ SqL K H a (ns.map V.int) ∧ ns.length ≤ 1000 ∧ ∀ (c : Nat) (p : Addr), c ≤ ns.length → H p = none → Q (.ref p) (upd H p (SetO w p (fun j => decide (j ∈ ns)) c))
theorem call_setL (hc : X.calm = true) : CallR X (.type "set") (rSetOfL X.K X.w) := by
  intro pins s σ H xs us Q I r h
  obtain ⟨a, ns, rfl, hl, hn, q⟩ := h
  obtain ⟨zs, rv, p, _⟩ := I.list hl
  rw [Vals.ref1 r]
  refine set_of_list (zs := zs.toArray) ns (I.ok.hd hc) p.isList (by rw [List.toList_toArray]; exact ints_vals rv) (by show ns.length + 1 < 4096; omega) fun h' tk c R hle k => ?_
  have hfr : H s.heap.objs.size = none := I.hok.fresh (Nat.le_refl _)
  exact ⟨V.ref s.heap.objs.size, _, I.laid (t' := tk) k (Nat.le_refl _) (setO_new R), rfl, q c _ hle hfr⟩
end
/-- sorted(set(l)) -/
theorem r_setL {K : PySem.W.Frag} {w : World} {H : Hp} {Q : VK} {a : Addr} {ns : List Int} (h : H a = some (.lst (ns.map V.int))) (hn : ns.length ≤ 60) (q : ∀ c p, c ≤ 60 → H p = none → Q (.ref p) (upd H p (SetO w p (fun j => decide (j ∈ ns)) c))) : rSetOfL K w [.ref a] H Q :=
  ⟨a, ns, rfl, SqL.of h, by omega, fun c p hc hp => q c p (by omega) hp⟩
theorem r_sortedSet {w : World} {H : Hp} {Q : VK} {a : Addr} {S : Int → Bool} {c : Nat} (h : H a = some (SetO w a S c)) (hc : c ≤ 60) (q : ∀ (ns : List Int) (p : Addr), ns.Pairwise (· < ·) → (∀ k : Int, k ∈ ns ↔ S k = true) → H p = none → Q (.ref p) (upd H p (.lst (ns.map V.int)))) : rSortedSet w [.ref a] H Q :=
  ⟨a, S, c, rfl, h, by omega, fun ns p h1 h2 _ h3 => q ns p h1 h2 h3⟩
end Cm

end
section
/-! ### LY: dicts, sorts: names of readings, steps -/
namespace Cm
open PySem PySem.Spec PyProof.Rows L2
def rDictP (K : PySem.W.Frag) : List V → Hp → VK → Prop := fun xs H Q => ∃ (a : Addr) (ps : List Addr) (kvs : List (Key × V)), xs = [.ref a] ∧ SqL K H a (ps.map V.ref) ∧ Paired (fun p kv => SqT K H p [kV kv.1, kv.2]) ps kvs ∧ ∀ p, H p = none → Q (.ref p) (upd H p (.dK (mergeK [] kvs)))
def rDictD : List V → Hp → VK → Prop := fun xs H Q => ∃ (a : Addr) (kvs : List (Key × V)), xs = [.ref a] ∧ Rd H a (.dK kvs) ∧ ∀ p, H p = none → Q (.ref p) (upd H p (.dK kvs))
def rSortD : List V → Hp → VK → Prop := fun xs H Q => ∃ (a : Addr) (kvs : List (Key × V)) (ks : List Int), xs = [.ref a] ∧ Rd H a (.dK kvs) ∧ kvs.map (·.1) = ks.map Sum.inl ∧ ks.length < 64 ∧ ∀ (ys : List Int) (p : Addr), ys.Perm ks → ys.Pairwise (· ≤ ·) → H p = none → Q (.ref p) (upd H p (.lst (ys.map V.int)))
def rLenD : List V → Hp → VK → Prop := fun xs H Q => ∃ a kvs, xs = [V.ref a] ∧ H a = some (.dK kvs) ∧ Q (.int kvs.length) H
section
variable {X : Cx}
theorem cl_dictP (h : X.calm = true) : CallR X (.type "dict") (rDictP X.K) := call_dictP h
theorem cl_dictD : CallR X (.type "dict") rDictD := call_dictD
theorem cl_sortD (h : X.calm = true) : CallR X (.builtin "sorted") rSortD := call_sortedDI h
theorem cl_lenD : CallR X (.builtin "len") rLenD := call_lenD
end
section
variable {K : PySem.W.Frag} {σ : L2.St} {H : Hp} {Q : VK} {td ty tx : TE} {a p : Addr} {kvs : List (Key × V)} {k : Int}
theorem e_dget2 (q : td σ H fun x H1 => ∃ a, x = .ref a ∧ IsD H1 a ∧ ty σ H1 fun y H2 => tx σ H2 fun z H3 => ∃ o, DGet H3 a y o ∧ Q (o.getD z) H3) : tDGet2 td ty tx σ H Q := q
theorem e_dpop2 (q : td σ H fun x H1 => ∃ a, x = .ref a ∧ IsD H1 a ∧ ty σ H1 fun y H2 => tx σ H2 fun z H3 => ∃ kvs k, H3 a = some (.dK kvs) ∧ y = kV k ∧ (∀ v, valV kvs k = some v → Q v (upd H3 a (.dK (dropK kvs k)))) ∧ (valV kvs k = none → Q z H3)) : tDPop2 td ty tx σ H Q := q
theorem e_dpop1 (q : td σ H fun x H1 => ∃ a, x = .ref a ∧ IsD H1 a ∧ ty σ H1 fun y H2 => ∃ kvs k v, H2 a = some (.dK kvs) ∧ y = kV k ∧ valV kvs k = some v ∧ Q v (upd H2 a (.dK (dropK kvs k)))) : tDPop1 td ty σ H Q := q
theorem ty_dic (h : H a = some (.dK kvs)) : tyV K "dict" (.ref a) H := .inr (.inr (.inl ⟨rfl, .inl ⟨kvs, h⟩⟩))
theorem r_min2 {i j : Int} (q : Q (.int (if j < i then j else i)) H) : rMin2 [.int i, .int j] H Q := ⟨i, j, rfl, q⟩
theorem isd_at {R : Addr → Prop} (h : H a = some (.dK kvs)) (q : R a) : ∃ a', V.ref a = V.ref a' ∧ IsD H a' ∧ R a' := ⟨a, rfl, .inl ⟨kvs, .inl h⟩, q⟩
theorem get_at {R : Option V → Prop} (h : H a = some (.dK kvs)) (q : R (valV kvs (.inl k))) : ∃ o, DGet H a (.int k) o ∧ R o := ⟨_, .inl ⟨kvs, .inl k, .inl h, rfl, rfl⟩, q⟩
theorem pop2_at {R : List (Key × V) → Key → V → Prop} {R2 : Prop} (h : H a = some (.dK kvs)) (q1 : ∀ v, valV kvs (.inl k) = some v → R kvs (.inl k) v) (q2 : valV kvs (.inl k) = none → R2) :
    ∃ kvs k', H a = some (.dK kvs) ∧ V.int k = kV k' ∧ (∀ v, valV kvs k' = some v → R kvs k' v) ∧ (valV kvs k' = none → R2) := ⟨kvs, .inl k, h, rfl, q1, q2⟩
theorem pop1_at {R : List (Key × V) → Key → V → Prop} {v : V} (h : H a = some (.dK kvs)) (e : valV kvs (.inl k) = some v) (q : R kvs (.inl k) v) : ∃ kvs k' v, H a = some (.dK kvs) ∧ V.int k = kV k' ∧ valV kvs k' = some v ∧ R kvs k' v := ⟨kvs, .inl k, v, h, rfl, e, q⟩
theorem r_dictD (h : H a = some (.dK kvs)) (q : ∀ p, H p = none → Q (.ref p) (upd H p (.dK kvs))) : rDictD [.ref a] H Q := ⟨a, kvs, rfl, .inl h, q⟩
theorem r_lenD (h : H a = some (.dK kvs)) (q : Q (.int kvs.length) H) : rLenD [.ref a] H Q := ⟨a, kvs, rfl, h, q⟩
theorem r_inD {o : Option V} (h : H a = some (.dK kvs)) (e : valV kvs (.inl k) = o) (q : Q (.bl o.isSome) H) : rInA K (.int k) (.ref a) H Q := .inr ⟨a, o, rfl, .inl ⟨kvs, .inl k, .inl h, rfl, e.symm⟩, q⟩
theorem r_notInD {o : Option V} (h : H a = some (.dK kvs)) (e : valV kvs (.inl k) = o) (q : Q (.bl (!o.isSome)) H) : rNotInA K (.int k) (.ref a) H Q := .inr ⟨a, o, rfl, .inl ⟨kvs, .inl k, .inl h, rfl, e.symm⟩, q⟩
theorem r_ixdi {v : V} (h : H p = some (.dK kvs)) (e : valV kvs (.inl k) = some v) (q : Q v H) : rIxA K (.ref p) (.int k) H Q := r_ixDi (.inl h) e q
theorem g_setdi {v : V} {QS : Hp → Prop} (h : H p = some (.dK kvs)) (hz : kvs.length ≤ 100) (q : QS (upd H p (.dK (putK kvs (.inl k) v)))) : rSetA (.ref p) (.int k) v H QS := g_setDi h (by rw [sizeLine_eq]; omega) q
end
/-! a dict with whole numbers from 0 to 31 as keys, as a function -/
structure DR (H : Hp) (kvs : List (Key × V)) (f : Int → Option PyData) : Prop where
  nd : (kvs.map (·.1)).Nodup
  get : ∀ k d, f k = some d → ∃ v, valV kvs (.inl k) = some v ∧ Dt H v d
  non : ∀ k, f k = none → valV kvs (.inl k) = none
  ky : ∀ q ∈ kvs, ∃ k : Int, q.1 = .inl k
  di : ∀ k d, f k = some d → Di 4 d
  dom : ∀ k d, f k = some d → 0 ≤ k ∧ k < 32
theorem keys_put (kvs : List (Key × V)) (k : Key) (v : V) (h : (kvs.map (·.1)).Nodup) : ((putK kvs k v).map (·.1)).Nodup := by
  cases e : valV kvs k with
  | none => exact nd_putK v h e
  | some x =>
    have e2 : (putK kvs k v).map (·.1) = kvs.map (·.1) := by
      unfold putK
      rw [if_pos (by rw [valV_any, e]; rfl), List.map_map]
      refine List.map_congr_left fun q _ => ?_
      show (if q.1 = k then (q.1, v) else q).1 = q.1
      split <;> rfl
    rw [e2]; exact h
theorem mem_put {kvs : List (Key × V)} {k : Key} {v : V} {q : Key × V} (h : q ∈ putK kvs k v) : q.1 = k ∨ q ∈ kvs ∨ ∃ q' ∈ kvs, q.1 = q'.1 := by
  unfold putK at h
  split at h
  · obtain ⟨q', h1, rfl⟩ := List.mem_map.mp h
    by_cases e : q'.1 = k
    · rw [if_pos e]; exact .inl e
    · rw [if_neg e]; exact .inr (.inl h1)
  · rcases List.mem_append.mp h with h | h
    · exact .inr (.inl h)
    · rw [List.mem_singleton.mp h]; exact .inl rfl
theorem valV_drop (k j : Key) : ∀ kvs : List (Key × V), valV (dropK kvs k) j = if j = k then none else valV kvs j
  | [] => by simp [dropK, valV]
  | p :: r => by
    by_cases e : p.1 = k
    · rw [dropK_pos e, valV_drop k j r]
      by_cases h : j = k
      · rw [if_pos h, if_pos h]
      · rw [if_neg h, if_neg h, valV_neg (fun z => h (z.symm.trans e))]
    · rw [dropK_neg e]
      by_cases h : p.1 = j
      · rw [valV_pos h, valV_pos h, if_neg (fun z => e (h.trans z))]
      · rw [valV_neg h, valV_neg h, valV_drop k j r]
theorem DR.nil {H : Hp} : DR H [] (fun _ => none) where
  nd := List.Pairwise.nil
  get := fun _ _ z => by cases z
  non := fun _ _ => rfl
  ky := fun q z => absurd z (by simp)
  di := fun _ _ z => by cases z
  dom := fun _ _ z => by cases z
theorem DR.keep {T : List (Addr × Str)} {S : Addr → Prop} {H H' : Hp} {kvs : List (Key × V)} {f : Int → Option PyData} (h : DR H kvs f) (k : Kp T S H H') : DR H' kvs f :=
  ⟨h.nd, fun j d e => let ⟨v, e1, e2⟩ := h.get j d e; ⟨v, e1, Dt.keep k (h.di j d e) e2⟩, h.non, h.ky, h.di, h.dom⟩
theorem DR.put {H : Hp} {kvs : List (Key × V)} {f : Int → Option PyData} {k : Int} {v : V} {d : PyData} (h : DR H kvs f) (hv : Dt H v d) (hd : Di 4 d) (h0 : 0 ≤ k) (h1 : k < 32) : DR H (putK kvs (.inl k) v) (fun j => if j = k then some d else f j) := by
  refine ⟨keys_put _ _ _ h.nd, fun j d' e => ?_, fun j e => ?_, fun q hq => ?_, fun j d' e => ?_, fun j d' e => ?_⟩
  · rw [valV_put]
    by_cases hj : j = k
    · subst hj
      have e' : some d = some d' := by simpa using e
      cases e'
      exact ⟨v, by simp, hv⟩
    · have e' : f j = some d' := by simpa [hj] using e
      obtain ⟨u, e1, e2⟩ := h.get j d' e'
      refine ⟨u, ?_, e2⟩
      rw [if_neg (fun z => hj (Sum.inl.inj z)), e1]
  · by_cases hj : j = k
    · simp [hj] at e
    · have e' : f j = none := by simpa [hj] using e
      rw [valV_put, if_neg (fun z => hj (Sum.inl.inj z)), h.non j e']
  · rcases mem_put hq with e | e | ⟨q', e1, e2⟩
    · exact ⟨k, e⟩
    · exact h.ky q e
    · obtain ⟨j, e3⟩ := h.ky q' e1
      exact ⟨j, e2.trans e3⟩
  · by_cases hj : j = k
    · have e' : some d = some d' := by simpa [hj] using e
      cases e'; exact hd
    · exact h.di j d' (by simpa [hj] using e)
  · by_cases hj : j = k
    · subst hj; exact ⟨h0, h1⟩
    · exact h.dom j d' (by simpa [hj] using e)
theorem DR.drop {H : Hp} {kvs : List (Key × V)} {f : Int → Option PyData} (h : DR H kvs f) (k : Int) : DR H (dropK kvs (.inl k)) (fun j => if j = k then none else f j) := by
  refine ⟨nd_dropK h.nd, fun j d' e => ?_, fun j e => ?_, fun q hq => h.ky q (dropK_mem hq), fun j d' e => ?_, fun j d' e => ?_⟩
  · by_cases hj : j = k
    · simp [hj] at e
    · obtain ⟨u, e1, e2⟩ := h.get j d' (by simpa [hj] using e)
      exact ⟨u, by rw [valV_drop, if_neg (fun z => hj (Sum.inl.inj z)), e1], e2⟩
  · rw [valV_drop]
    by_cases hj : j = k
    · rw [hj, if_pos rfl]
    · rw [if_neg (fun z => hj (Sum.inl.inj z)), h.non j (by simpa [hj] using e)]
  · by_cases hj : j = k
    · simp [hj] at e
    · exact h.di j d' (by simpa [hj] using e)
  · by_cases hj : j = k
    · simp [hj] at e
    · exact h.dom j d' (by simpa [hj] using e)
theorem DR.congr {H : Hp} {kvs : List (Key × V)} {f g : Int → Option PyData} (h : DR H kvs f) (e : ∀ k, f k = g k) : DR H kvs g := by
  have : f = g := funext e
  rw [← this]; exact h
/-- the keys as whole numbers -/
theorem keys_ints : ∀ {kvs : List (Key × V)}, (∀ q ∈ kvs, ∃ k : Int, q.1 = .inl k) → ∃ ks : List Int, kvs.map (·.1) = ks.map Sum.inl
  | [], _ => ⟨[], rfl⟩
  | q :: kvs, h => by
    obtain ⟨k, e⟩ := h q List.mem_cons_self
    obtain ⟨ks, e2⟩ := keys_ints (kvs := kvs) fun q hq => h q (List.mem_cons_of_mem _ hq)
    exact ⟨k :: ks, by rw [List.map_cons, List.map_cons, e, e2]⟩
theorem few_ints : ∀ (n : Nat) (l : List Int), l.Nodup → (∀ x ∈ l, 0 ≤ x ∧ x < (n : Int)) → l.length ≤ n
  | 0, l, _, h => by
    cases l with
    | nil => exact Nat.le_refl _
    | cons x l => have := h x List.mem_cons_self; omega
  | n + 1, l, hn, h => by
    have h2 := few_ints n (l.filter fun x => decide (x ≠ (n : Int))) (hn.filter _) fun x hx => by
      obtain ⟨h1, h2⟩ := List.mem_filter.mp hx
      have := h x h1
      have := of_decide_eq_true h2
      omega
    have h3 : l.length ≤ (l.filter fun x => decide (x ≠ (n : Int))).length + 1 := by
      clear h h2
      induction l with
      | nil => simp
      | cons x l ih =>
        rw [List.nodup_cons] at hn
        by_cases e : x = (n : Int)
        · have e2 : (l.filter fun x => decide (x ≠ (n : Int))) = l := List.filter_eq_self.mpr fun y hy => decide_eq_true fun z => hn.1 (by rw [e, ← z]; exact hy)
          rw [List.filter_cons_of_neg (by simp [e]), e2, List.length_cons]
          exact Nat.le_refl _
        · rw [List.filter_cons_of_pos (by simp [e])]
          have := ih hn.2
          simp only [List.length_cons]; omega
    omega
theorem nodup_of_map {α β : Type} {f : α → β} : ∀ {l : List α}, (l.map f).Nodup → l.Nodup
  | [], _ => .nil
  | x :: l, h => by
    rw [List.map_cons, List.nodup_cons] at h
    exact List.nodup_cons.mpr ⟨fun z => h.1 (List.mem_map_of_mem z), nodup_of_map h.2⟩
theorem nd_inj {α : Type} : ∀ {l : List α} {i j : Nat} {a : α}, l.Nodup → l[i]? = some a → l[j]? = some a → i = j
  | [], _, _, _, _, h, _ => by simp at h
  | x :: l, 0, 0, _, _, _, _ => rfl
  | x :: l, 0, j + 1, a, hn, h1, h2 => by
    rw [List.nodup_cons] at hn
    have e : x = a := by simpa using h1
    exact absurd (List.mem_of_getElem? (by simpa using h2)) (by rw [← e]; exact hn.1)
  | x :: l, i + 1, 0, a, hn, h1, h2 => by
    rw [List.nodup_cons] at hn
    have e : x = a := by simpa using h2
    exact absurd (List.mem_of_getElem? (by simpa using h1)) (by rw [← e]; exact hn.1)
  | x :: l, i + 1, j + 1, a, hn, h1, h2 => by
    rw [List.nodup_cons] at hn
    exact congrArg (· + 1) (nd_inj hn.2 (a := a) (i := i) (j := j) (by simpa using h1) (by simpa using h2))
theorem DR.keys {H : Hp} {kvs : List (Key × V)} {f : Int → Option PyData} (h : DR H kvs f) : ∃ ks : List Int, kvs.map (·.1) = ks.map Sum.inl ∧ ks.Nodup ∧ (∀ k, k ∈ ks ↔ (f k).isSome = true) ∧ ks.length = kvs.length ∧ ks.length ≤ 32 := by
  obtain ⟨ks, e⟩ := keys_ints h.ky
  have hn : ks.Nodup := nodup_of_map (f := Sum.inl) (β := Key) (by rw [← e]; exact h.nd)
  have hm : ∀ k, k ∈ ks ↔ (f k).isSome = true := fun k => by
    have e1 : k ∈ ks ↔ (Sum.inl k : Key) ∈ kvs.map (·.1) := by
      rw [e]
      exact ⟨fun z => List.mem_map_of_mem z, fun z => by
        obtain ⟨j, h1, h2⟩ := List.mem_map.mp z
        cases h2; exact h1⟩
    rw [e1]
    cases hf : f k with
    | none => exact ⟨fun z => absurd z (valV_not (h.non k hf)), fun z => by cases z⟩
    | some d =>
      obtain ⟨v, e2, _⟩ := h.get k d hf
      exact ⟨fun _ => rfl, fun _ => valV_in e2⟩
  have hl : ks.length = kvs.length := by
    have := congrArg List.length e
    simpa using this.symm
  refine ⟨ks, e, hn, hm, hl, few_ints 32 ks hn fun x hx => ?_⟩
  obtain ⟨d, hd⟩ := Option.isSome_iff_exists.mp ((hm x).mp hx)
  exact h.dom x d hd
theorem DR.len {H : Hp} {kvs : List (Key × V)} {f : Int → Option PyData} (h : DR H kvs f) : kvs.length ≤ 32 := by
  obtain ⟨ks, _, _, _, h1, h2⟩ := h.keys
  omega
/-- 0, 1, .. -/
def rng (n : Nat) : List Int := (List.range n).map fun i : Nat => (i : Int)
theorem mem_rng {n : Nat} {k : Int} : k ∈ rng n ↔ 0 ≤ k ∧ k < n := by
  unfold rng
  rw [List.mem_map]
  exact ⟨fun ⟨i, h1, h2⟩ => by have := List.mem_range.mp h1; omega, fun ⟨h1, h2⟩ => ⟨k.toNat, List.mem_range.mpr (by omega), by omega⟩⟩
theorem rng_up (n : Nat) : (rng n).Pairwise (· < ·) := by
  unfold rng
  refine List.pairwise_map.mpr ?_
  exact List.Pairwise.imp (fun h => by omega) List.pairwise_lt_range
theorem sorted_eq : ∀ {l m : List Int}, l.Pairwise (· < ·) → m.Pairwise (· < ·) → (∀ x, x ∈ l ↔ x ∈ m) → l = m
  | [], [], _, _, _ => rfl
  | [], y :: m, _, _, h => absurd ((h y).mpr List.mem_cons_self) (by simp)
  | x :: l, [], _, _, h => absurd ((h x).mp List.mem_cons_self) (by simp)
  | x :: l, y :: m, hl, hm, h => by
    rw [List.pairwise_cons] at hl hm
    have e : x = y := by
      have h1 := (h x).mp List.mem_cons_self
      have h2 := (h y).mpr List.mem_cons_self
      rcases List.mem_cons.mp h1 with h1 | h1
      · exact h1
      · rcases List.mem_cons.mp h2 with h2 | h2
        · exact h2.symm
        · have := hm.1 x h1; have := hl.1 y h2; omega
    subst e
    rw [sorted_eq hl.2 hm.2 fun z => ?_]
    have := h z
    constructor
    · intro hz
      rcases List.mem_cons.mp (this.mp (List.mem_cons_of_mem _ hz)) with e | e
      · subst e; exact absurd (hl.1 z hz) (by omega)
      · exact e
    · intro hz
      rcases List.mem_cons.mp (this.mpr (List.mem_cons_of_mem _ hz)) with e | e
      · subst e; exact absurd (hm.1 z hz) (by omega)
      · exact e
theorem lt_of_le_nodup {l : List Int} (h : l.Pairwise (· ≤ ·)) (hn : l.Nodup) : l.Pairwise (· < ·) := by
  have := List.Pairwise.and h hn
  exact this.imp fun ⟨h1, h2⟩ => by have : _ ≠ _ := h2; omega
def keysOf (f : Int → Option PyData) (n : Nat) : List Int := (rng n).filter fun k => (f k).isSome
/-- sorted(d) -/
theorem r_sortD {H : Hp} {a : Addr} {kvs : List (Key × V)} {f : Int → Option PyData} {Q : VK} {n : Nat} (h : H a = some (.dK kvs)) (r : DR H kvs f) (hn : ∀ k d, f k = some d → k < n) (q : ∀ p, H p = none → Q (.ref p) (upd H p (.lst ((keysOf f n).map V.int)))) : rSortD [.ref a] H Q := by
  obtain ⟨ks, e, hnd, hm, hl, hb⟩ := r.keys
  refine ⟨a, kvs, ks, rfl, .inl h, e, by omega, fun ys p hp hs hf => ?_⟩
  have e2 : ys = keysOf f n := by
    refine sorted_eq (lt_of_le_nodup hs (hp.nodup_iff.mpr hnd)) ((rng_up n).filter _) fun x => ?_
    rw [hp.mem_iff, hm x]
    unfold keysOf
    rw [List.mem_filter, mem_rng]
    constructor
    · intro z
      obtain ⟨d, hd⟩ := Option.isSome_iff_exists.mp z
      exact ⟨⟨(r.dom x d hd).1, hn x d hd⟩, z⟩
    · exact fun z => z.2
  rw [e2]
  exact q p hf
end Cm

end
section
/-! ### T0: the tables of lambdas, steps -/
namespace W
open PySem PySem.Spec PyProof.Rows L2 Cm
/-- the tables of the defs that make lambdas -/
def tabs (K : PySem.W.Frag) : List (Addr × Str) := tf.map fun p => ((He.cT K p).2, p.1 ++ ".<locals>.<lambda>")
structure Stp (T : List (Addr × Str)) (F F' : Addr → Prop) (H H' : Hp) : Prop where
  kp : Kp T F H H'
  sub : ∀ a, F' a → F a ∨ Nw H a
theorem Stp.refl {T : List (Addr × Str)} {F : Addr → Prop} {H : Hp} : Stp T F F H H := ⟨Kp.refl, fun _ ha => .inl ha⟩
theorem Stp.trans {T : List (Addr × Str)} {F F' F'' : Addr → Prop} {H H' H'' : Hp} (a : Stp T F F' H H') (b : Stp T F' F'' H' H'') : Stp T F F'' H H'' :=
  ⟨a.kp.trans b.kp a.sub, fun x hx => (b.sub x hx).elim (fun z => a.sub x z) fun z => .inr (a.kp.dom x z)⟩
theorem Stp.pre {T : List (Addr × Str)} {F F' : Addr → Prop} {H H' H'' : Hp} (a : Kp T No H H') (b : Stp T F F' H' H'') : Stp T F F' H H'' :=
  ⟨(a.mono fun _ z => z.elim).trans b.kp fun _ z => .inl z, fun x hx => (b.sub x hx).elim .inl fun z => .inr (a.dom x z)⟩
theorem Stp.post {T : List (Addr × Str)} {F F' : Addr → Prop} {H H' H'' : Hp} (a : Stp T F F' H H') (b : Kp T No H' H'') : Stp T F F' H H'' :=
  ⟨a.kp.trans b fun _ z => z.elim, a.sub⟩
def lv : Option Int → V
  | none => .non
  | some i => .int i
def oD : Option Int → PyData
  | none => .none
  | some i => .int i
theorem dt_oD {H : Hp} {v : V} {o : Option Int} : Dt H v (oD o) ↔ v = lv o := by cases o <;> exact Iff.rfl
theorem Di.oD {n : Nat} {o : Option Int} : Di n (oD o) := by cases o; exact Di.none; exact Di.int
section
variable {H : Hp} {v : V} {d1 d2 d3 d4 d5 d6 : PyData}
theorem dt1 : Dt H v (.tuple [d1]) ↔ ∃ a v1, v = .ref a ∧ H a = some (.tup [v1]) ∧ Dt H v1 d1 :=
  ⟨fun ⟨a, xs, e, h, v1, _, e1, h1, e2⟩ => by
    have e2 : _ = [] := e2
    subst e1 e2; exact ⟨a, v1, e, h, h1⟩, fun ⟨a, v1, e, h, h1⟩ => ⟨a, _, e, h, .cons h1 .nil⟩⟩
theorem dt2 : Dt H v (.tuple [d1, d2]) ↔ ∃ a v1 v2, v = .ref a ∧ H a = some (.tup [v1, v2]) ∧ Dt H v1 d1 ∧ Dt H v2 d2 :=
  ⟨fun ⟨a, xs, e, h, v1, _, e1, h1, v2, _, e2, h2, e3⟩ => by
    have e3 : _ = [] := e3
    subst e1 e2 e3; exact ⟨a, v1, v2, e, h, h1, h2⟩, fun ⟨a, v1, v2, e, h, h1, h2⟩ => ⟨a, _, e, h, .cons h1 (.cons h2 .nil)⟩⟩
theorem dt3 : Dt H v (.tuple [d1, d2, d3]) ↔ ∃ a v1 v2 v3, v = .ref a ∧ H a = some (.tup [v1, v2, v3]) ∧ Dt H v1 d1 ∧ Dt H v2 d2 ∧ Dt H v3 d3 :=
  ⟨fun ⟨a, xs, e, h, v1, _, e1, h1, v2, _, e2, h2, v3, _, e3, h3, e4⟩ => by
    have e4 : _ = [] := e4
    subst e1 e2 e3 e4; exact ⟨a, v1, v2, v3, e, h, h1, h2, h3⟩, fun ⟨a, v1, v2, v3, e, h, h1, h2, h3⟩ => ⟨a, _, e, h, .cons h1 (.cons h2 (.cons h3 .nil))⟩⟩
theorem dt4 : Dt H v (.tuple [d1, d2, d3, d4]) ↔ ∃ a v1 v2 v3 v4, v = .ref a ∧ H a = some (.tup [v1, v2, v3, v4]) ∧ Dt H v1 d1 ∧ Dt H v2 d2 ∧ Dt H v3 d3 ∧ Dt H v4 d4 :=
  ⟨fun ⟨a, xs, e, h, v1, _, e1, h1, v2, _, e2, h2, v3, _, e3, h3, v4, _, e4, h4, e5⟩ => by
    have e5 : _ = [] := e5
    subst e1 e2 e3 e4 e5; exact ⟨a, v1, v2, v3, v4, e, h, h1, h2, h3, h4⟩, fun ⟨a, v1, v2, v3, v4, e, h, h1, h2, h3, h4⟩ => ⟨a, _, e, h, .cons h1 (.cons h2 (.cons h3 (.cons h4 .nil)))⟩⟩
theorem dt6 : Dt H v (.tuple [d1, d2, d3, d4, d5, d6]) ↔ ∃ a v1 v2 v3 v4 v5 v6, v = .ref a ∧ H a = some (.tup [v1, v2, v3, v4, v5, v6]) ∧ Dt H v1 d1 ∧ Dt H v2 d2 ∧ Dt H v3 d3 ∧ Dt H v4 d4 ∧ Dt H v5 d5 ∧ Dt H v6 d6 :=
  ⟨fun ⟨a, xs, e, h, v1, _, e1, h1, v2, _, e2, h2, v3, _, e3, h3, v4, _, e4, h4, v5, _, e5, h5, v6, _, e6, h6, e7⟩ => by
    have e7 : _ = [] := e7
    subst e1 e2 e3 e4 e5 e6 e7; exact ⟨a, v1, v2, v3, v4, v5, v6, e, h, h1, h2, h3, h4, h5, h6⟩, fun ⟨a, v1, v2, v3, v4, v5, v6, e, h, h1, h2, h3, h4, h5, h6⟩ => ⟨a, _, e, h, .cons h1 (.cons h2 (.cons h3 (.cons h4 (.cons h5 (.cons h6 .nil)))))⟩⟩
theorem dtI {i : Int} : Dt H v (.int i) ↔ v = .int i := Iff.rfl
theorem dtS {i : Str} : Dt H v (.str i) ↔ v = .str i := Iff.rfl
theorem dtB {i : Bool} : Dt H v (.bool i) ↔ v = .bl i := Iff.rfl
theorem dtN : Dt H v .none ↔ v = .non := Iff.rfl
end
theorem di_tup {n : Nat} {ds : List PyData} (h : ds.length ≤ 100000) (h2 : ∀ d ∈ ds, Di n d) : Di (n + 1) (.tuple ds) := ⟨h, h2⟩
section
variable {K : PySem.W.Frag} {H : Hp} {Q : VK} {a b : Option Int}
theorem lv_eq : (lv a = lv b) ↔ a = b := by
  cases a <;> cases b <;> simp [lv]
theorem r_eq_lv (q : Q (.bl (decide (a = b))) H) : rEqA K (lv a) (lv b) H Q := by
  refine r_eqS (by cases a <;> cases b <;> rfl) ?_
  have e : decide (lv a = lv b) = decide (a = b) := by simp [lv_eq]
  rw [e]; exact q
theorem r_ne_lv (q : Q (.bl (!decide (a = b))) H) : rNeA K (lv a) (lv b) H Q := by
  refine r_neS (by cases a <;> cases b <;> rfl) ?_
  have e : decide (lv a = lv b) = decide (a = b) := by simp [lv_eq]
  rw [e]; exact q
theorem r_isNo_lv (q : Q (.bl (decide (a = none))) H) : rIsNo (lv a) .non H Q := by
  refine r_isNo ?_
  have e : decide (lv a = .non) = decide (a = none) := by cases a <;> simp [lv]
  rw [e]; exact q
theorem r_notNo_lv (q : Q (.bl (!decide (a = none))) H) : rNotNo (lv a) .non H Q := by
  refine r_notNo ?_
  have e : decide (lv a = .non) = decide (a = none) := by cases a <;> simp [lv]
  rw [e]; exact q
end
theorem map_get {α β : Type} {f : α → β} {l : List α} {i : Nat} {d : β} (h : (l.map f)[i]? = some d) : ∃ q, l[i]? = some q ∧ d = f q := by
  rw [List.getElem?_map] at h
  cases e : l[i]? with
  | none => rw [e] at h; cases h
  | some q => rw [e] at h; exact ⟨q, rfl, (Option.some.inj h).symm⟩
theorem take_succ {α : Type} {l : List α} {i : Nat} {q : α} (h : l[i]? = some q) : l.take (i + 1) = l.take i ++ [q] := by
  rw [List.take_add_one, h]; rfl
end W

end
section
/-! ### deals and tables: mirrors -/
namespace W
open PySem PySem.Spec PyProof.Rows L2 Cm
abbrev PRow := Option Int × Int
abbrev Rows := Int → Option (Int × Int)
abbrev Hands := Int → Option (Int × Int × Bool)
def prD (r : PRow) : PyData := .tuple [oD r.1, .int r.2]
def rowD (r : Int × Int) : PyData := .tuple [.int r.1, .int r.2]
def handD (h : Int × Int × Bool) : PyData := .tuple [.int h.1, .int h.2.1, .bool h.2.2]
def toP (r : Int × Int) : PRow := (some r.1, r.2)
theorem prD_toP {r : Int × Int} : prD (toP r) = rowD r := rfl
inductive Deed where
  | put (k w l : Int)
  | drop (k : Int)
  | add (k m : Int)
  | iff (k : Int) (w : Option Int)
def Deed.d : Deed → PyData
  | .put k w l => .tuple [.str "put", .int k, .int w, .int l]
  | .drop k => .tuple [.str "drop", .int k]
  | .add k m => .tuple [.str "add", .int k, .int m]
  | .iff k w => .tuple [.str "if", .int k, oD w]
def Deed.key : Deed → Int
  | .put k _ _ => k
  | .drop k => k
  | .add k _ => k
  | .iff k _ => k
def Deed.isIf : Deed → Bool
  | .iff _ _ => true
  | _ => false
def Deed.Ok : Deed → Prop
  | .put k w l => (0 ≤ k ∧ k < 32) ∧ (0 ≤ w ∧ w ≤ 999) ∧ 0 ≤ l ∧ l ≤ 1000
  | .drop k => 0 ≤ k ∧ k < 32
  | .add k m => (0 ≤ k ∧ k < 32) ∧ -999 ≤ m ∧ m ≤ 999
  | .iff k w => (0 ≤ k ∧ k < 32) ∧ ∀ i, w = some i → 0 ≤ i ∧ i ≤ 999
theorem Deed.Ok.key {d : Deed} (h : d.Ok) : 0 ≤ d.key ∧ d.key < 32 := by
  cases d with
  | put => exact h.1
  | drop => exact h
  | add => exact h.1
  | iff => exact h.1
def rowOk (r : Int × Int) : Prop := 0 ≤ r.1 ∧ r.1 ≤ 999
def prOk (r : PRow) : Prop := ∀ w, r.1 = some w → 0 ≤ w ∧ w ≤ 999
/-- what a row shows -/
def psh (m : Int) : Option PRow → Option Int
  | some (some w, e) => if e = 0 ∨ e > m then some w else none
  | _ => none
theorem psh_some {m w e : Int} : psh m (some (some w, e)) = if e = 0 ∨ e > m then some w else none := rfl
/-- the row behind a deed -/
def rb (d : Deed) (r : Option PRow) (m : Int) : Option PRow :=
  match d with
  | .put _ w l => some (some w, if l > 0 then m + l else 0)
  | .drop _ => some (none, 0)
  | .iff _ w => if psh m r = w then some (r.getD (none, 0)) else none
  | .add _ x => match psh m r with
    | none => none
    | some w => if 0 ≤ w + x ∧ w + x ≤ 999 then some (some (w + x), (r.getD (none, 0)).2) else none
abbrev Ov := Int → Option PRow
def upf {α : Type} (f : Int → Option α) (k : Int) (v : Option α) : Int → Option α := fun j => if j = k then v else f j
def Ov.row (ov : Ov) (f : Rows) (k : Int) : Option PRow := match ov k with
  | some r => some r
  | none => (f k).map toP
def eff1 (f : Rows) (m : Int) (ov : Ov) (d : Deed) : Option Ov := match rb d (ov.row f d.key) m with
  | none => none
  | some r => if d.isIf then some ov else some (upf ov d.key (some r))
def effL (f : Rows) (m : Int) : Ov → List Deed → Option Ov
  | ov, [] => some ov
  | ov, d :: ds => match eff1 f m ov d with
    | none => none
    | some ov => effL f m ov ds
abbrev Eff := Int × PRow
def effs (ov : Ov) : List Eff := (rng 32).filterMap fun k => (ov k).map fun r => (k, r)
def effD (q : Eff) : PyData := .tuple [.int q.1, oD q.2.1, .int q.2.2]
/-- (done, effects) -/
def effR (f : Rows) (m : Int) (ds : List Deed) : Bool × List Eff := match effL f m (fun _ => none) ds with
  | none => (false, [])
  | some ov => (true, effs ov)
inductive Ent where
  | tick (n m : Int)
  | deal (n h l : Int) (done : Bool) (es : List Eff)
def Ent.d : Ent → PyData
  | .tick n m => .tuple [.str "tick", .int n, .int m]
  | .deal n h l dn es => .tuple [.str "deal", .int n, .int h, .int l, .bool dn, .tuple (es.map effD)]
def Ent.Ok : Ent → Prop
  | .tick _ _ => True
  | .deal _ h _ _ es => (0 ≤ h ∧ h < 4) ∧ es.length ≤ 32 ∧ ∀ q ∈ es, (0 ≤ q.1 ∧ q.1 < 32) ∧ prOk q.2
def pagesOf : Ent → List Int
  | .tick _ _ => [8]
  | .deal _ _ _ _ es => ((rng 8).filter fun p => es.any fun q => decide (q.1 / 4 = p)) ++ [8]
structure TB where
  rows : Rows
  hands : Hands
  moment : Int
  number : Int
def ts0 : TB := ⟨fun _ => none, fun _ => none, 0, 0⟩
structure TB.Ok (T : TB) : Prop where
  rw : ∀ k r, T.rows k = some r → (0 ≤ k ∧ k < 32) ∧ rowOk r
  hd : ∀ k h, T.hands k = some h → 0 ≤ k ∧ k < 4
theorem ts0_ok : ts0.Ok := ⟨fun _ _ z => (nomatch z), fun _ _ z => (nomatch z)⟩
def put1 (f : Rows) (q : Eff) : Rows := upf f q.1 (q.2.1.map fun w => (w, q.2.2))
def chgR (p : Int) (f : Rows) (es : List Eff) : Rows := es.foldl (fun g q => if q.1 / 4 = p then put1 g q else g) f
def TB.chg (T : TB) (e : Ent) (p : Int) : TB :=
  if p = 8 then (match e with
    | .tick _ m => { T with moment := m }
    | .deal n h l dn _ => { T with hands := upf T.hands h (some (l, n, dn)) })
  else (match e with
    | .tick _ _ => T
    | .deal _ _ _ _ es => { T with rows := chgR p T.rows es })
def TB.shown (T : TB) (k : Int) : Option Int := psh T.moment ((T.rows k).map toP)
/-! the table in memory -/
def tF (r h : Addr) (m n : Int) : List (Str × V) := [("rows", .ref r), ("hands", .ref h), ("moment", .int m), ("number", .int n)]
def pgf (f : Rows) (i : Nat) : Int → Option PyData := fun k => if k / 4 = (i : Int) then (f k).map rowD else none
def hdf (f : Hands) : Int → Option PyData := fun k => (f k).map handD
def TableAt (K : PySem.W.Frag) (H : Hp) (p : Addr) (T : TB) (F : Addr → Prop) : Prop := ∃ (dx rl ha : Addr) (ra : List Addr) (hk : List (Key × V)),
  H p = some (.ins (He.ga K "Table") dx (tF rl ha T.moment T.number)) ∧ H rl = some (.lst (ra.map V.ref)) ∧ ra.length = 8 ∧ (∀ i a, ra[i]? = some a → ∃ kvs, H a = some (.dK kvs) ∧ DR H kvs (pgf T.rows i)) ∧
  H ha = some (.dK hk) ∧ DR H hk (hdf T.hands) ∧ (ha :: ra).Nodup ∧ T.Ok ∧ ∀ a, F a ↔ (a = p ∨ a = rl ∨ a ∈ ha :: ra)
theorem TableAt.ok {K : PySem.W.Frag} {H : Hp} {p : Addr} {S : TB} {F : Addr → Prop} (h : TableAt K H p S F) : S.Ok := by
  obtain ⟨_, _, _, _, _, _, _, _, _, _, _, _, o, _⟩ := h
  exact o
theorem TableAt.dom {K : PySem.W.Frag} {H : Hp} {p : Addr} {S : TB} {F : Addr → Prop} (h : TableAt K H p S F) {a : Addr} (ha : F a) : ¬ Nw H a := by
  obtain ⟨dx, rl, hA, ra, hk, h1, h2, h3, h4, h5, h6, h7, h8, f⟩ := h
  rcases (f a).mp ha with rfl | rfl | hm
  · exact fun z => nw_no z h1 (fun _ z => nomatch z)
  · exact fun z => nw_no z h2 (fun _ z => nomatch z)
  · rcases List.mem_cons.mp hm with rfl | hm
    · exact fun z => nw_no z h5 (fun _ z => nomatch z)
    · obtain ⟨i, hi⟩ := List.getElem?_of_mem hm
      obtain ⟨kvs, e, _⟩ := h4 i a hi
      exact fun z => nw_no z e (fun _ z => nomatch z)
theorem TableAt.keep {K : PySem.W.Frag} {T : List (Addr × Str)} {G : Addr → Prop} {H H' : Hp} {p : Addr} {S : TB} {F : Addr → Prop} (h : TableAt K H p S F) (k : Kp T G H H') (d : ∀ a, F a → ¬ G a) : TableAt K H' p S F := by
  obtain ⟨dx, rl, hA, ra, hk, h1, h2, h3, h4, h5, h6, h7, h8, f⟩ := h
  refine ⟨dx, rl, hA, ra, hk, k.ins h1 (d p ((f p).mpr (.inl rfl))), k.lst h2 (d rl ((f rl).mpr (.inr (.inl rfl)))), h3, fun i a e => ?_, k.dK h5 (d hA ((f hA).mpr (.inr (.inr List.mem_cons_self)))), h6.keep k, h7, h8, f⟩
  obtain ⟨kvs, e1, e2⟩ := h4 i a e
  exact ⟨kvs, k.dK e1 (d a ((f a).mpr (.inr (.inr (List.mem_cons_of_mem _ (List.mem_of_getElem? e)))))), e2.keep k⟩
/-! the law's own table -/
def oS (r h : Addr) (m n : Int) : List (Key × V) := [(.inr "rows", .ref r), (.inr "hands", .ref h), (.inr "moment", .int m), (.inr "number", .int n)]
def rwf (f : Rows) : Int → Option PyData := fun k => (f k).map rowD
def OwnAt (H : Hp) (s : Addr) (S : TB) (F : Addr → Prop) : Prop := ∃ (r h : Addr) (rk hk : List (Key × V)), H s = some (.dK (oS r h S.moment S.number)) ∧ H r = some (.dK rk) ∧ DR H rk (rwf S.rows) ∧ H h = some (.dK hk) ∧ DR H hk (hdf S.hands) ∧ (s ≠ r ∧ s ≠ h ∧ r ≠ h) ∧ S.Ok ∧ ∀ a, F a ↔ (a = s ∨ a = r ∨ a = h)
theorem OwnAt.ok {H : Hp} {p : Addr} {S : TB} {F : Addr → Prop} (h : OwnAt H p S F) : S.Ok := by
  obtain ⟨_, _, _, _, _, _, _, _, _, _, o, _⟩ := h
  exact o
theorem OwnAt.dom {H : Hp} {p : Addr} {S : TB} {F : Addr → Prop} (h : OwnAt H p S F) {a : Addr} (ha : F a) : ¬ Nw H a := by
  obtain ⟨r, hA, rk, hk, h1, h2, h3, h4, h5, h6, h7, f⟩ := h
  rcases (f a).mp ha with rfl | rfl | rfl
  · exact fun z => nw_no z h1 (fun _ z => nomatch z)
  · exact fun z => nw_no z h2 (fun _ z => nomatch z)
  · exact fun z => nw_no z h4 (fun _ z => nomatch z)
theorem OwnAt.keep {T : List (Addr × Str)} {G : Addr → Prop} {H H' : Hp} {p : Addr} {S : TB} {F : Addr → Prop} (h : OwnAt H p S F) (k : Kp T G H H') (d : ∀ a, F a → ¬ G a) : OwnAt H' p S F := by
  obtain ⟨r, hA, rk, hk, h1, h2, h3, h4, h5, h6, h7, f⟩ := h
  exact ⟨r, hA, rk, hk, k.dK h1 (d p ((f p).mpr (.inl rfl))), k.dK h2 (d r ((f r).mpr (.inr (.inl rfl)))), h3.keep k, k.dK h4 (d hA ((f hA).mpr (.inr (.inr rfl)))), h5.keep k, h6, h7, f⟩
/-- the rows behind a deed, by own going -/
def own1 (m : Int) (f : Rows) (d : Deed) : Option Rows := match d with
  | .put k w l => some (upf f k (some (w, if l = 0 then 0 else m + l)))
  | .drop k => some (upf f k none)
  | .iff k w => if psh m ((f k).map toP) = w then some f else none
  | .add k x => match psh m ((f k).map toP) with
    | none => none
    | some w => if 0 ≤ w + x ∧ w + x ≤ 999 then some (upf f k (some (w + x, ((f k).getD (0, 0)).2))) else none
def ownL (m : Int) : Rows → List Deed → Option Rows
  | f, [] => some f
  | f, d :: ds => match own1 m f d with
    | none => none
    | some f => ownL m f ds
def TB.deal (S : TB) (h l : Int) (ds : List Deed) : TB := if ((S.hands h).map (·.1)).getD 0 = l then S else
  match ownL S.moment S.rows ds with
  | none => { S with number := S.number + 1, hands := upf S.hands h (some (l, S.number + 1, false)) }
  | some f => { S with rows := f, number := S.number + 1, hands := upf S.hands h (some (l, S.number + 1, true)) }
end W

end
section
/-! ### what the defs of deals and of the table promise -/
namespace W
open PySem PySem.Spec PyProof.Rows L2 Cm
/-- a row, or none -/
def RowV (H : Hp) (v : V) : Option PRow → Prop
  | none => v = .non
  | some r => Dt H v (prD r)
def S_BadDeal_init (K : PySem.W.Frag) : Sp := spXI K (He.ga K "BadDeal") "place"
def S_is_from (K : PySem.W.Frag) : Sp := sp3 fun a b c H Q _ => ∃ i j k : Int, a = .int i ∧ b = .int j ∧ c = .int k ∧ Q (.bl (decide (j ≤ i ∧ i ≤ k))) H
def PutB (ds : List PyData) (b : Bool) : Prop := (ds.length ≠ 4 ∧ b = false) ∨ ∃ d0 d1 w l, ds = [d0, d1, .int w, .int l] ∧ b = decide ((0 ≤ w ∧ w ≤ 999) ∧ 0 ≤ l ∧ l ≤ 1000)
def IfB (ds : List PyData) (b : Bool) : Prop := (ds.length ≠ 3 ∧ b = false) ∨ ∃ d0 d1, (ds = [d0, d1, .none] ∧ b = true) ∨ ∃ w, ds = [d0, d1, .int w] ∧ b = decide (0 ≤ w ∧ w ≤ 999)
def AddB (ds : List PyData) (b : Bool) : Prop := (ds.length ≠ 3 ∧ b = false) ∨ ∃ d0 d1 w, ds = [d0, d1, .int w] ∧ b = decide (-999 ≤ w ∧ w ≤ 999)
def deedWords : List Str := ["put", "drop", "add", "if"]
def DeedB (ds : List PyData) (b : Bool) : Prop := (ds.length < 2 ∧ b = false) ∨ ∃ w k rest, ds = .str w :: .int k :: rest ∧ rest.length ≤ 100 ∧
  (((w ∉ deedWords ∨ ¬ (0 ≤ k ∧ k ≤ 31)) ∧ b = false) ∨ ((0 ≤ k ∧ k ≤ 31) ∧ (w = "put" ∧ PutB ds b ∨ w = "if" ∧ IfB ds b ∨ w = "drop" ∧ b = decide (ds.length = 2) ∨ w = "add" ∧ AddB ds b)))
theorem Deed.Ok.b {d : Deed} (h : d.Ok) : ∃ es, d.d = .tuple es ∧ DeedB es true := by
  cases d with
  | put k w l => exact ⟨_, rfl, .inr ⟨_, _, _, rfl, Nat.le_of_ble_eq_true rfl, .inr ⟨⟨h.1.1, by have := h.1.2; omega⟩, .inl ⟨rfl, .inr ⟨_, _, _, _, rfl, (decide_eq_true h.2).symm⟩⟩⟩⟩⟩
  | drop k => exact ⟨_, rfl, .inr ⟨_, _, _, rfl, Nat.le_of_ble_eq_true rfl, .inr ⟨⟨h.1, by have := h.2; omega⟩, .inr (.inr (.inl ⟨rfl, rfl⟩))⟩⟩⟩
  | add k m => exact ⟨_, rfl, .inr ⟨_, _, _, rfl, Nat.le_of_ble_eq_true rfl, .inr ⟨⟨h.1.1, by have := h.1.2; omega⟩, .inr (.inr (.inr ⟨rfl, .inr ⟨_, _, _, rfl, (decide_eq_true h.2).symm⟩⟩))⟩⟩⟩
  | iff k w =>
    refine ⟨_, rfl, .inr ⟨_, _, _, rfl, Nat.le_of_ble_eq_true rfl, .inr ⟨⟨h.1.1, by have := h.1.2; omega⟩, .inr (.inl ⟨rfl, .inr ⟨.str "if", .int k, ?_⟩⟩)⟩⟩⟩
    cases w with
    | none => exact .inl ⟨rfl, rfl⟩
    | some i => exact .inr ⟨i, rfl, (decide_eq_true (h.2 i rfl)).symm⟩
def S_is_put (K : PySem.W.Frag) : Sp := sp1 fun x H Q _ => ∃ ds b, Dt H x (.tuple ds) ∧ PutB ds b ∧ Q (.bl b) H
def S_is_if (K : PySem.W.Frag) : Sp := sp1 fun x H Q _ => ∃ ds b, Dt H x (.tuple ds) ∧ IfB ds b ∧ Q (.bl b) H
def S_is_deed (K : PySem.W.Frag) : Sp := sp1 fun x H Q _ => ∃ ds b, Dt H x (.tuple ds) ∧ DeedB ds b ∧ Di 5 (.tuple ds) ∧ ∀ H', Kp (tabs K) No H H' → Q (.bl b) H'
def good (d : PyData) : Prop := ∃ es, d = .tuple es ∧ DeedB es true
/-- none: a deal; else the place -/
def NeedD (ds : List PyData) : Option Nat → Prop
  | none => 0 < ds.length ∧ ds.length ≤ 4 ∧ ∀ d ∈ ds, good d
  | some p => (ds = [] ∧ p = 0) ∨ ∃ d, ds[p]? = some d ∧ (∀ i, i < p → i < 4 ∧ ∃ e, ds[i]? = some e ∧ good e) ∧ (4 ≤ p ∨ ∃ es, d = .tuple es ∧ DeedB es false)
def XD (K : PySem.W.Frag) (C f : Str) (i : Int) (H : Hp) (E : XK) : Prop := ∀ H' d, Kp (tabs K) No H H' → H' d = some (.xd [(f, .int i)]) → Nw H d → E (.ref (He.ga K C)) (some d) H'
def S_need_deal (K : PySem.W.Frag) : Sp := sp1 fun x H Q E => ∃ ds r, Dt H x (.tuple ds) ∧ Di 5 (.tuple ds) ∧ NeedD ds r ∧ (r = none → ∀ H', Kp (tabs K) No H H' → Q .non H') ∧ ∀ p, r = some p → XD K "BadDeal" "place" p H E
def S_need_hand (K : PySem.W.Frag) : Sp := sp1 fun x H Q E => ∃ i, x = .int i ∧ (0 ≤ i ∧ i < 4 → Q .non H) ∧ (¬ (0 ≤ i ∧ i < 4) → E (.ref (He.ga K "BadHand")) none H)
def S_need_key (K : PySem.W.Frag) : Sp := sp1 fun x H Q E => ∃ i, x = .int i ∧ (0 ≤ i ∧ i < 32 → Q .non H) ∧ (¬ (0 ≤ i ∧ i < 32) → E (.ref (He.ga K "BadKey")) none H)
def S_shown_row (K : PySem.W.Frag) : Sp := sp2 fun x y H Q _ => ∃ r m, RowV H x r ∧ y = .int m ∧ Q (lv (psh m r)) H
def S_row_behind (K : PySem.W.Frag) : Sp := sp3 fun x y z H Q _ => ∃ d r m, Dt H x (Deed.d d) ∧ RowV H y r ∧ z = .int m ∧ ∀ v H', Kp (tabs K) No H H' → RowV H' v (rb d r m) → Q v H'
def dealD (ds : List Deed) : PyData := .tuple (ds.map Deed.d)
def S_effects_of (K : PySem.W.Frag) : Sp := sp2 fun x y H Q _ => ∃ ds p T F, Dt H x (dealD ds) ∧ (∀ d ∈ ds, Deed.Ok d) ∧ ds.length ≤ 4 ∧ y = .ref p ∧ TableAt K H p T F ∧
  ∀ v H', Kp (tabs K) No H H' → Dt H' v (.tuple [.bool (effR T.rows T.moment ds).1, .tuple ((effR T.rows T.moment ds).2.map effD)]) → Q v H'
def S_page_of (K : PySem.W.Frag) : Sp := sp1 fun x H Q _ => ∃ i : Int, x = .int i ∧ Q (.int (i / 4)) H
def S_pages_of (K : PySem.W.Frag) : Sp := sp1 fun x H Q _ => ∃ e, Dt H x (Ent.d e) ∧ e.Ok ∧ ∀ l H', Nw H l → H' l = some (.lst ((pagesOf e).map V.int)) → Kp (tabs K) No H H' → Q (.ref l) H'
def S_Table_init (K : PySem.W.Frag) : Sp := sp1 fun s H Q _ => ∃ p dx, s = .ref p ∧ H p = some (.ins (He.ga K "Table") dx []) ∧ ∀ H' F', TableAt K H' p ts0 F' → Stp (tabs K) (fun a => a = p) F' H H' → Q .non H'
def S_Table_row_at (K : PySem.W.Frag) : Sp := sp2 fun s x H Q _ => ∃ p T F k, s = .ref p ∧ TableAt K H p T F ∧ x = .int k ∧ (0 ≤ k ∧ k < 32) ∧ ∀ v, RowV H v ((T.rows k).map toP) → Q v H
def S_Table_shown (K : PySem.W.Frag) : Sp := sp2 fun s x H Q _ => ∃ p T F k, s = .ref p ∧ TableAt K H p T F ∧ x = .int k ∧ (0 ≤ k ∧ k < 32) ∧ Q (lv (T.shown k)) H
def S_Table_change (K : PySem.W.Frag) : Sp := sp3 fun s x y H Q _ => ∃ p T F e i, s = .ref p ∧ TableAt K H p T F ∧ Dt H x (Ent.d e) ∧ e.Ok ∧ y = .int i ∧ (0 ≤ i ∧ i ≤ 8) ∧ (i = 8 ∨ ∃ n h l dn es, e = .deal n h l dn es) ∧
  ∀ H' F', TableAt K H' p (T.chg e i) F' → Stp (tabs K) F F' H H' → Q .non H'
end W

end
section
/-! ### C4: loops by enumerate -/
namespace Cm
open PySem PySem.Spec PyProof.Rows L2
section
variable {K : PySem.W.Frag} {σ : L2.St} {H : Hp} {Q : VK} {D : Ends} {ta : TA} {g : TG} {tb : TS}
theorem s_forE (q : ta σ H fun vs H1 => ∃ a, vs = [.ref a] ∧ ((∃ xs, SqL K H1 a xs ∧ ∃ W : Nat → Nat → L2.St → Hp → Prop, (∃ m, W 0 m σ H1) ∧ ∀ i m σ H, W i m σ H →
    ((Ite K a).stop i H ∧ D.nx σ H) ∨ ((Ite K a).go i H ∧ ∃ N : L2.St → Hp → Prop, (∀ σ' H', N σ' H' → ∃ m', m' < m ∧ W (i + 1) m' σ' H') ∧ ∀ x H', (Ite K a).yld i H x H' → g x σ H' fun σ2 H2 => tb { D with nx := N, ct := N, bk := D.nx } σ2 H2)) ∨
    ∃ xs, SqT K H1 a xs ∧ ∃ W : Nat → Nat → L2.St → Hp → Prop, (∃ m, W 0 m σ H1) ∧ ∀ i m σ H, W i m σ H →
    ((IteT K a).stop i H ∧ D.nx σ H) ∨ ((IteT K a).go i H ∧ ∃ N : L2.St → Hp → Prop, (∀ σ' H', N σ' H' → ∃ m', m' < m ∧ W (i + 1) m' σ' H') ∧ ∀ x H', (IteT K a).yld i H x H' → g x σ H' fun σ2 H2 => tb { D with nx := N, ct := N, bk := D.nx } σ2 H2))) : tFor (iEnumA K ta) g tb D σ H := q
/-- over a tuple -/
theorem forE {nx : L2.St → Hp → Prop} {rt : VK} {a : Addr} {xs : List V} (Pv : Nat → L2.St → Hp → Prop) (h0 : Pv 0 σ H) (hst : ∀ i σ' H', Pv i σ' H' → H' a = some (.tup xs))
    (hs : ∀ (i : Nat) (x : V) (T : Addr) σ' H', xs[i]? = some x → Pv i σ' H' → H' T = none → g (.ref T) σ' (upd H' T (.tup [.int (i : Nat), x])) fun σ2 H2 => tb { nx := Pv (i + 1), rt := rt, bk := nx, ct := Pv (i + 1) } σ2 H2)
    (hd : ∀ σ' H', Pv xs.length σ' H' → nx σ' H') :
    ∃ W : Nat → Nat → L2.St → Hp → Prop, (∃ m, W 0 m σ H) ∧ ∀ i m σ H, W i m σ H →
      ((IteT K a).stop i H ∧ nx σ H) ∨ ((IteT K a).go i H ∧ ∃ N : L2.St → Hp → Prop, (∀ σ' H', N σ' H' → ∃ m', m' < m ∧ W (i + 1) m' σ' H') ∧ ∀ v H', (IteT K a).yld i H v H' → g v σ H' fun σ2 H2 => tb { nx := N, rt := rt, bk := nx, ct := N } σ2 H2) := by
  refine ⟨fun i m σ' H' => m = xs.length - i ∧ i ≤ xs.length ∧ Pv i σ' H', ⟨_, rfl, Nat.zero_le _, h0⟩, ?_⟩
  rintro i m σ' H' ⟨rfl, hi, z⟩
  have e1 := hst i σ' H' z
  by_cases hlt : i < xs.length
  · refine .inr ⟨⟨xs, xs[i], SqT.of e1, List.getElem?_eq_getElem hlt⟩, Pv (i + 1), fun σ2 H2 z2 => ⟨xs.length - (i + 1), by omega, rfl, by omega, z2⟩, fun v H2 y => ?_⟩
    obtain ⟨T, x, rfl, hT, rfl, hx⟩ := y
    exact hs i x T σ' H' (hx xs (SqT.of e1)) z hT
  · refine .inl ⟨⟨xs, SqT.of e1, by omega⟩, hd σ' H' ?_⟩
    have e : i = xs.length := by omega
    rw [← e]; exact z
/-- over a list -/
theorem forEL {nx : L2.St → Hp → Prop} {rt : VK} {a : Addr} {xs : List V} (Pv : Nat → L2.St → Hp → Prop) (h0 : Pv 0 σ H) (hst : ∀ i σ' H', Pv i σ' H' → H' a = some (.lst xs))
    (hs : ∀ (i : Nat) (x : V) (T : Addr) σ' H', xs[i]? = some x → Pv i σ' H' → H' T = none → g (.ref T) σ' (upd H' T (.tup [.int (i : Nat), x])) fun σ2 H2 => tb { nx := Pv (i + 1), rt := rt, bk := nx, ct := Pv (i + 1) } σ2 H2)
    (hd : ∀ σ' H', Pv xs.length σ' H' → nx σ' H') :
    ∃ W : Nat → Nat → L2.St → Hp → Prop, (∃ m, W 0 m σ H) ∧ ∀ i m σ H, W i m σ H →
      ((Ite K a).stop i H ∧ nx σ H) ∨ ((Ite K a).go i H ∧ ∃ N : L2.St → Hp → Prop, (∀ σ' H', N σ' H' → ∃ m', m' < m ∧ W (i + 1) m' σ' H') ∧ ∀ v H', (Ite K a).yld i H v H' → g v σ H' fun σ2 H2 => tb { nx := N, rt := rt, bk := nx, ct := N } σ2 H2) := by
  refine ⟨fun i m σ' H' => m = xs.length - i ∧ i ≤ xs.length ∧ Pv i σ' H', ⟨_, rfl, Nat.zero_le _, h0⟩, ?_⟩
  rintro i m σ' H' ⟨rfl, hi, z⟩
  have e1 := hst i σ' H' z
  by_cases hlt : i < xs.length
  · refine .inr ⟨⟨xs, xs[i], SqL.of e1, List.getElem?_eq_getElem hlt⟩, Pv (i + 1), fun σ2 H2 z2 => ⟨xs.length - (i + 1), by omega, rfl, by omega, z2⟩, fun v H2 y => ?_⟩
    obtain ⟨T, x, rfl, hT, rfl, hx⟩ := y
    exact hs i x T σ' H' (hx xs (SqL.of e1)) z hT
  · refine .inl ⟨⟨xs, SqL.of e1, by omega⟩, hd σ' H' ?_⟩
    have e : i = xs.length := by omega
    rw [← e]; exact z
end
end Cm

end
section
namespace W
open PySem PySem.Spec PyProof.Rows L2 Cm
/-! BadDeal.__init__ -/
def t_BadDeal_init (K : PySem.W.Frag) (E : XK) : TS := (tSeq (tDrop (tVeI K (tCons (tVar 0) (tCons (tC (.str "no deal")) tNil)))) (tOst K "place" (tVar 0) (tVar 1)))
/-! is_from -/
def t_is_from (K : PySem.W.Frag) (E : XK) : TS := (tRet (tChain (rI0 fun i j => .bl (decide (i ≤ j))) (rI0 fun i j => .bl (decide (i ≤ j))) (tVar 1) (tVar 0) (tVar 2)))
/-! is_put -/
def t_is_put (K : PySem.W.Frag) (E : XK) : TS := (tRet (tAndV (tOp (rEqA K) (tCB (rLenA K) (tCons (tVar 0) tNil)) (tC (.int 4))) (tAndV (tCall (S_is_from K) [] E (tCons (tOp (rIxA K) (tVar 0) (tC (.int 2))) (tCons (tC (.int 0)) (tCons (tC (.int 999)) tNil)))) (tCall (S_is_from K) [] E (tCons (tOp (rIxA K) (tVar 0) (tC (.int 3))) (tCons (tC (.int 0)) (tCons (tC (.int 1000)) tNil)))))))
/-! is_if -/
def t_is_if (K : PySem.W.Frag) (E : XK) : TS := (tRet (tAndV (tOp (rEqA K) (tCB (rLenA K) (tCons (tVar 0) tNil)) (tC (.int 3))) (tOrV (tOp rIsNo (tOp (rIxA K) (tVar 0) (tC (.int 2))) (tC .non)) (tCall (S_is_from K) [] E (tCons (tOp (rIxA K) (tVar 0) (tC (.int 2))) (tCons (tC (.int 0)) (tCons (tC (.int 999)) tNil)))))))
/-! is_deed -/
def t_is_deed (K : PySem.W.Frag) (E : XK) : TS := (tSeq (tIfS (tOr (tTest (tOp (rI0 fun i j => .bl (decide (i < j))) (tCB (rLenA K) (tCons (tVar 0) tNil)) (tC (.int 2)))) (tOr (tTest (tOp (rNotInA K) (tOp (rIxA K) (tVar 0) (tC (.int 0))) (tTup (tCons (tC (.str "put")) (tCons (tC (.str "drop")) (tCons (tC (.str "add")) (tCons (tC (.str "if")) tNil))))))) (tNot (tTr K (tCall (S_is_from K) [] E (tCons (tOp (rIxA K) (tVar 0) (tC (.int 1))) (tCons (tC (.int 0)) (tCons (tOp (rI0 fun i j => .int (i - j)) (tC (.int 32)) (tC (.int 1))) tNil)))))))) (tRet (tC (.bl false))) tNext) (tSeq (tIfS (tTest (tOp (rEqA K) (tOp (rIxA K) (tVar 0) (tC (.int 0))) (tC (.str "put")))) (tRet (tCall (S_is_put K) [] E (tCons (tVar 0) tNil))) tNext) (tSeq (tIfS (tTest (tOp (rEqA K) (tOp (rIxA K) (tVar 0) (tC (.int 0))) (tC (.str "if")))) (tRet (tCall (S_is_if K) [] E (tCons (tVar 0) tNil))) tNext) (tSeq (tIfS (tTest (tOp (rEqA K) (tOp (rIxA K) (tVar 0) (tC (.int 0))) (tC (.str "drop")))) (tRet (tOp (rEqA K) (tCB (rLenA K) (tCons (tVar 0) tNil)) (tC (.int 2)))) tNext) (tRet (tAndV (tOp (rEqA K) (tCB (rLenA K) (tCons (tVar 0) tNil)) (tC (.int 3))) (tCall (S_is_from K) [] E (tCons (tOp (rIxA K) (tVar 0) (tC (.int 2))) (tCons (tOp (rI0 fun i j => .int (i - j)) (tC (.int 0)) (tC (.int 999))) (tCons (tC (.int 999)) tNil))))))))))
/-! need_deal -/
def t_need_deal (K : PySem.W.Frag) (E : XK) : TS := (tSeq (tFor (iEnumA K (tCons (tVar 0) tNil)) (gTup K 2 (gCons (gName 1) (gCons (gName 2) gNil))) (tIfS (tOr (tTest (tOp (rI0 fun i j => .bl (decide (j ≤ i))) (tVar 1) (tC (.int 4)))) (tNot (tTr K (tCall (S_is_deed K) [] E (tCons (tVar 2) tNil))))) (tRx K E (He.ga K "BadDeal") "place" (tVar 1)) tNext)) (tIfS (tTest (tOp (rEqA K) (tCB (rLenA K) (tCons (tVar 0) tNil)) (tC (.int 0)))) (tRx K E (He.ga K "BadDeal") "place" (tC (.int 0))) tNext))
/-! need_hand -/
def t_need_hand (K : PySem.W.Frag) (E : XK) : TS := (tIfS (tNot (tTr K (tCall (S_is_from K) [] E (tCons (tVar 0) (tCons (tC (.int 0)) (tCons (tOp (rI0 fun i j => .int (i - j)) (tC (.int 4)) (tC (.int 1))) tNil)))))) (tRs E (He.ga K "BadHand")) tNext)
/-! need_key -/
def t_need_key (K : PySem.W.Frag) (E : XK) : TS := (tIfS (tNot (tTr K (tCall (S_is_from K) [] E (tCons (tVar 0) (tCons (tC (.int 0)) (tCons (tOp (rI0 fun i j => .int (i - j)) (tC (.int 32)) (tC (.int 1))) tNil)))))) (tRs E (He.ga K "BadKey")) tNext)
/-! shown_row -/
def t_shown_row (K : PySem.W.Frag) (E : XK) : TS := (tSeq (tIfS (tOr (tTest (tOp rIsNo (tVar 0) (tC .non))) (tTest (tOp rIsNo (tOp (rIxA K) (tVar 0) (tC (.int 0))) (tC .non)))) (tRet (tC .non)) tNext) (tRet (tIf (tOr (tTest (tOp (rEqA K) (tOp (rIxA K) (tVar 0) (tC (.int 1))) (tC (.int 0)))) (tTest (tOp (rI0 fun i j => .bl (decide (j < i))) (tOp (rIxA K) (tVar 0) (tC (.int 1))) (tVar 1)))) (tOp (rIxA K) (tVar 0) (tC (.int 0))) (tC .non))))
/-! row_behind -/
def t_row_behind (K : PySem.W.Frag) (E : XK) : TS := (tSeq (tAsg (tCall (S_shown_row K) [] E (tCons (tVar 1) (tCons (tVar 2) tNil))) (gName 3)) (tSeq (tIfS (tTest (tOp (rEqA K) (tOp (rIxA K) (tVar 0) (tC (.int 0))) (tC (.str "put")))) (tRet (tTup (tCons (tOp (rIxA K) (tVar 0) (tC (.int 2))) (tCons (tIf (tTest (tOp (rI0 fun i j => .bl (decide (j < i))) (tOp (rIxA K) (tVar 0) (tC (.int 3))) (tC (.int 0)))) (tOp (rAddA K) (tVar 2) (tOp (rIxA K) (tVar 0) (tC (.int 3)))) (tC (.int 0))) tNil)))) tNext) (tSeq (tIfS (tTest (tOp (rEqA K) (tOp (rIxA K) (tVar 0) (tC (.int 0))) (tC (.str "drop")))) (tRet (tTup (tCons (tC .non) (tCons (tC (.int 0)) tNil)))) tNext) (tSeq (tIfS (tTest (tOp (rEqA K) (tOp (rIxA K) (tVar 0) (tC (.int 0))) (tC (.str "if")))) (tRet (tIf (tTest (tOp (rEqA K) (tVar 3) (tOp (rIxA K) (tVar 0) (tC (.int 2))))) (tIf (tTest (tOp rNotNo (tVar 1) (tC .non))) (tVar 1) (tTup (tCons (tC .non) (tCons (tC (.int 0)) tNil)))) (tC .non))) tNext) (tSeq (tIfS (tOr (tTest (tOp rIsNo (tVar 3) (tC .non))) (tNot (tTr K (tCall (S_is_from K) [] E (tCons (tOp (rAddA K) (tVar 3) (tOp (rIxA K) (tVar 0) (tC (.int 2)))) (tCons (tC (.int 0)) (tCons (tC (.int 999)) tNil))))))) (tRet (tC .non)) tNext) (tRet (tTup (tCons (tOp (rAddA K) (tVar 3) (tOp (rIxA K) (tVar 0) (tC (.int 2)))) (tCons (tOp (rIxA K) (tVar 1) (tC (.int 1))) tNil)))))))))
/-! page_of -/
def t_page_of (K : PySem.W.Frag) (E : XK) : TS := (tRet (tOp (rI CDivW fun i j => .int (i / j)) (tVar 0) (tC (.int 4))))
/-! pages_of -/
def t_pages_of (K : PySem.W.Frag) (w : World) (E : XK) : TS := (tSeq (tIfS (tTest (tOp (rEqA K) (tOp (rIxA K) (tVar 0) (tC (.int 0))) (tC (.str "tick")))) (tRet (tLst (tCons (tC (.int 8)) tNil))) tNext) (tRet (tOp (rAddA K) (tCB (rSortedSet w) (tCons (tCB (rSetOfL K w) (tCons (tLc (iSeq K (tOp (rIxA K) (tVar 0) (tC (.int 5)))) (gName 1) tYes (tCall (S_page_of K) [] E0 (tCons (tOp (rIxA K) (tVar 1) (tC (.int 0))) tNil)) [1]) tNil)) tNil)) (tLst (tCons (tC (.int 8)) tNil)))))
/-! Table.__init__ -/
def t_Table_init (K : PySem.W.Frag) (E : XK) : TS := (tSeq (sFld K (tVar 0) (tLc (iRng1 (tCons (tC (.int 8)) tNil)) (gName 1) tYes tDNewK [1]) "rows") (tSeq (sFld K (tVar 0) tDNewK "hands") (tSeq (sFld K (tVar 0) (tC (.int 0)) "moment") (sFld K (tVar 0) (tC (.int 0)) "number"))))
/-! Table.row_at -/
def t_Table_row_at (K : PySem.W.Frag) (E : XK) : TS := (tRet (tDGet2 (tOp (rIxA K) (tFld K (tVar 0) "rows") (tCall (S_page_of K) [] E (tCons (tVar 1) tNil))) (tVar 1) (tC .non)))
/-! effects_of -/
def t_effects_of (K : PySem.W.Frag) (E : XK) : TS := (tSeq (tAsg tDNewK (gName 2)) (tSeq (tFor (iSeq K (tVar 0)) (gName 3) (tSeq (tAsg (tOp (rIxA K) (tVar 3) (tC (.int 1))) (gName 4)) (tSeq (tAsg (tCall (S_row_behind K) [] E (tCons (tVar 3) (tCons (tIf (tTest (tOp (rInA K) (tVar 4) (tVar 2))) (tOp (rIxA K) (tVar 2) (tVar 4)) (tMeth (He.ga K "Table") "row_at" (S_Table_row_at K) [] E (tVar 1) (tCons (tVar 4) tNil))) (tCons (tFld K (tVar 1) "moment") tNil)))) (gName 5)) (tSeq (tIfS (tTest (tOp rIsNo (tVar 5) (tC .non))) (tRet (tTup (tCons (tC (.bl false)) (tCons (tTup tNil) tNil)))) tNext) (tIfS (tTest (tOp (rNeA K) (tOp (rIxA K) (tVar 3) (tC (.int 0))) (tC (.str "if")))) (tAsg (tVar 5) (gSub (tVar 2) (tVar 4) rSetA)) tNext))))) (tRet (tTup (tCons (tC (.bl true)) (tCons (tCB (rTupleA K) (tCons (tLc (iSeq K (tCB rSortD (tCons (tVar 2) tNil))) (gName 4) tYes (tOp (rAddA K) (tTup (tCons (tVar 4) tNil)) (tOp (rIxA K) (tVar 2) (tVar 4))) [4]) tNil)) tNil))))))
/-! Table.shown -/
def t_Table_shown (K : PySem.W.Frag) (E : XK) : TS := (tRet (tCall (S_shown_row K) [] E (tCons (tMeth (He.ga K "Table") "row_at" (S_Table_row_at K) [] E (tVar 0) (tCons (tVar 1) tNil)) (tCons (tFld K (tVar 0) "moment") tNil))))
/-! Table.change -/
def t_Table_change (K : PySem.W.Frag) (E : XK) : TS := (tIfS (tTest (tOp (rNeA K) (tVar 2) (tC (.int 8)))) (tFor (iSeq K (tOp (rIxA K) (tVar 1) (tC (.int 5)))) (gTup K 3 (gCons (gName 3) (gCons (gName 4) (gCons (gName 5) gNil)))) (tIfS (tTest (tOp (rEqA K) (tCall (S_page_of K) [] E (tCons (tVar 3) tNil)) (tVar 2))) (tSeq (tAsg (tTup (tCons (tVar 4) (tCons (tVar 5) tNil))) (gSub (tOp (rIxA K) (tFld K (tVar 0) "rows") (tVar 2)) (tVar 3) rSetA)) (tIfS (tTest (tOp rIsNo (tVar 4) (tC .non))) (tDrop (tDPop1 (tOp (rIxA K) (tFld K (tVar 0) "rows") (tVar 2)) (tVar 3))) tNext)) tNext)) (tIfS (tTest (tOp (rEqA K) (tOp (rIxA K) (tVar 1) (tC (.int 0))) (tC (.str "tick")))) (sFld K (tVar 0) (tOp (rIxA K) (tVar 1) (tC (.int 2))) "moment") (tAsg (tTup (tCons (tOp (rIxA K) (tVar 1) (tC (.int 3))) (tCons (tOp (rIxA K) (tVar 1) (tC (.int 1))) (tCons (tOp (rIxA K) (tVar 1) (tC (.int 4))) tNil)))) (gSub (tFld K (tVar 0) "hands") (tOp (rIxA K) (tVar 1) (tC (.int 2))) rSetA))))
end W

end
section
/-! ### M0: words for walking through a reading (local) -/
local macro_rules | `(tactic| walk_at "st") => `(tactic| first
  | (with_reducible refine Cm.s_seq ?_) | (with_reducible refine Cm.s_asg ?_) | (with_reducible refine Cm.s_drop ?_) | (with_reducible refine Cm.s_ret ?_) | (with_reducible refine Cm.s_if ?_) | (with_reducible refine Cm.s_next ?_) | (with_reducible refine Cm.s_retN ?_) | (with_reducible refine Cm.s_rs ?_) | (with_reducible refine Cm.s_fld0 ?_)
  | ((with_reducible refine' Cm.e_var ?hv ?_); (case hv => exact rfl))
  | (with_reducible refine Cm.e_c ?_) | (with_reducible refine Cm.e_op ?_) | (with_reducible refine Cm.e_un ?_) | (with_reducible refine Cm.e_nil ?_) | (with_reducible refine Cm.e_cons ?_) | (with_reducible refine Cm.e_tup ?_) | (with_reducible refine Cm.e_lst ?_) | (with_reducible refine Cm.e_cb ?_) | (with_reducible refine Cm.e_call ?_) | (with_reducible refine Cm.e_if ?_)
  | (with_reducible refine Cm.e_andV ?_) | (with_reducible refine Cm.e_orV ?_) | (with_reducible refine Cm.e_notV ?_) | (with_reducible refine Cm.e_fld0 ?_) | (with_reducible refine Cm.e_meth0 ?_) | (with_reducible refine Cm.e_bm0 ?_) | (with_reducible refine Cm.e_bm ?_) | (with_reducible refine Cm.e_sl ?_) | (with_reducible refine Cm.o_none ?_) | (with_reducible refine Cm.o_some ?_) | (with_reducible refine Cm.e_dnew ?_)
  | (with_reducible refine Cm.e_test ?_) | (with_reducible refine Cm.e_tr ?_) | (with_reducible refine Cm.e_and ?_) | (with_reducible refine Cm.e_or ?_) | (with_reducible refine Cm.e_not ?_) | (with_reducible refine Cm.e_yes ?_) | (with_reducible refine Cm.e_chain ?_)
  | (with_reducible refine Cm.r_i0 ?_) | (with_reducible refine Cm.r_u ?_) | (with_reducible refine Cm.r_isNo ?_) | (with_reducible refine Cm.r_notNo ?_) | (with_reducible refine Cm.r_addI ?_) | (with_reducible refine Cm.r_int1b ?_) | (with_reducible refine Cm.r_max2 ?_)
  | ((with_reducible refine Cm.r_i ?hc ?_); (case hc => walk_at "num"))
  | ((with_reducible refine Cm.r_mulI ?hc ?_); (case hc => walk_at "num"))
  | ((with_reducible refine Cm.r_eqS ?hc ?_); (case hc => exact rfl))
  | ((with_reducible refine Cm.r_neS ?hc ?_); (case hc => exact rfl))
  | ((with_reducible refine' Cm.r_ixl ?h1 ?h2 ?_); (case h1 => walk_at "look"); (case h2 => walk_at "at"))
  | ((with_reducible refine' Cm.r_ixt ?h1 ?h2 ?_); (case h1 => walk_at "look"); (case h2 => walk_at "at"))
  | ((with_reducible refine' Cm.r_ixT ?h1 ?h2 ?_); (case h1 => walk_at "lookT"); (case h2 => walk_at "at"))
  | ((with_reducible refine' Cm.r_ixds ?h1 ?h2 ?_); (case h1 => walk_at "look"); (case h2 => walk_at "key"))
  | ((with_reducible refine' Cm.r_eqe ?h1 ?h2 ?_); (case h1 => walk_at "look"); (case h2 => walk_at "look"))
  | ((with_reducible refine' Cm.r_nee ?h1 ?h2 ?_); (case h1 => walk_at "look"); (case h2 => walk_at "look"))
  | ((with_reducible refine' Cm.r_lenl ?h1 ?_); (case h1 => walk_at "look"))
  | ((with_reducible refine' Cm.r_lent ?h1 ?_); (case h1 => walk_at "look"))
  | ((with_reducible refine' Cm.r_lenT ?h1 ?_); (case h1 => walk_at "lookT"))
  | ((with_reducible refine' Cm.r_listl ?h1 ?_); (case h1 => walk_at "look"); (intro _ _))
  | ((with_reducible refine' Cm.r_tupl ?h1 ?_); (case h1 => walk_at "look"); (intro _ _))
  | ((with_reducible refine' Cm.r_addL ?h1 ?h2 ?h3 ?_); (case h1 => walk_at "look"); (case h2 => walk_at "look"); (case h3 => walk_at "size"); (intro _ _))
  | ((with_reducible refine' Cm.m_append ?h1 ?h2 ?_); (case h1 => walk_at "look"); (case h2 => walk_at "size"))
  | ((with_reducible refine' Cm.m_clear ?h1 ?_); (case h1 => walk_at "look"))
  | ((with_reducible refine' Cm.g_setL ?h1 ?h2 ?_); (case h1 => walk_at "look"); (case h2 => walk_at "ix"))
  | ((with_reducible refine' Cm.g_setDs ?h1 ?h2 ?h3 ?_); (case h1 => walk_at "look"); (case h2 => walk_at "size"); (case h3 => walk_at "put"))
  | ((with_reducible refine' Cm.fld_at ?h1 ?h2 ?h3 ?h4 ?_); (case h1 => walk_at "look"); (case h2 => assumption); (case h3 => assumption); (case h4 => walk_at "key"))
  | ((with_reducible refine' Cm.fldset_at ?h1 ?h2 ?h3 ?h4 ?h5 ?_); (case h1 => walk_at "look"); (case h2 => assumption); (case h3 => assumption); (case h4 => walk_at "size"); (case h5 => walk_at "put"))
  | (with_reducible refine Cm.s_fldaug0 ?_)
  | ((with_reducible refine' Cm.aug_at ?h1 ?h2 ?h3 ?h4 ?_); (case h1 => walk_at "look"); (case h2 => assumption); (case h3 => assumption); (case h4 => walk_at "key"))
  | ((with_reducible refine' Cm.augset_at ?h1 ?h4 ?h5 ?_); (case h1 => walk_at "look"); (case h4 => walk_at "size"); (case h5 => walk_at "put"))
  | (with_reducible refine Cm.in_sub_at ?_) | (with_reducible refine Cm.in_add_at ?_)
  | ((with_reducible refine' Cm.meth_at ?h1 ?h2 ?_); (case h1 => walk_at "look"); (case h2 => walk_at "key"))
  | ((with_reducible refine Cm.new_at ?h1 ?_); (case h1 => walk_at "size"); (intro _ _))
  | ((with_reducible refine Cm.and_at (A := L2.tyV _ "list" _ _) ?h1 ?_); (case h1 => exact Cm.ty_lst (by walk_at "look")))
  | ((with_reducible refine' Cm.g_tupt ?h1 ?h2 ?_); (case h1 => walk_at "look"); (case h2 => exact rfl))
  | ((with_reducible refine' Cm.g_tup ?h1 ?h2 ?_); (case h1 => walk_at "lookT"); (case h2 => exact rfl))
  | (with_reducible refine Cm.g_name ?_) | (with_reducible refine Cm.g_sub ?_) | (with_reducible refine Cm.g_cons ?_) | (with_reducible refine Cm.g_nil ?_)
  | (with_reducible refine Cm.int_at ?_) | (with_reducible refine Cm.bl_at ?_) | (with_reducible refine Cm.tr_bl ?_) | (with_reducible refine Cm.tr_non ?_)
  | ((with_reducible refine' Cm.m_pop0 ?h1 ?_); (case h1 => walk_at "look"))
  | ((with_reducible refine' Cm.r_slTo ?h1 ?h2 ?_); (case h1 => walk_at "look"); (case h2 => walk_at "num2"); (intro _ _))
  | ((with_reducible refine' Cm.r_slFrom ?h1 ?h2 ?_); (case h1 => walk_at "look"); (case h2 => walk_at "num2"); (intro _ _))
  | ((with_reducible refine' Cm.at_forL ?h1 ?_); (case h1 => walk_at "look"))
  | ((with_reducible refine' Cm.at_forT ?h1 ?_); (case h1 => walk_at "look"))
  | ((with_reducible refine' Cm.at_forR ?h1 ?h2 ?_); (case h1 => walk_at "num2"); (case h2 => walk_at "num2"))
  | ((with_reducible refine' Cm.at_forZ ?h1 ?h2 ?_); (case h1 => walk_at "look"); (case h2 => walk_at "look"))
  | (with_reducible refine Cm.s_forZ ?_) | (with_reducible refine Cm.s_forR ?_)
  | ((with_reducible refine Cm.and_at (A := _ = _) ?h1 ?_); (case h1 => exact rfl))
  | ((with_reducible show L2.rIsi _ _ _ _); walk_at "isi")
  | (with_reducible refine Cm.ite_nt ?_) | (with_reducible refine Cm.ite_nf ?_)
  | (with_reducible refine L2.iteT ?_) | (with_reducible refine L2.iteF ?_)
  | dsimp only
  | fail)
local macro_rules | `(tactic| walk_at "run") => `(tactic| repeat (walk_at "st"))
local macro_rules | `(tactic| walk_at "num") => `(tactic| first
  | exact Or.inr ⟨by decide, by decide⟩ | exact Or.inl ⟨by decide, by decide⟩
  | exact Cm.wdiv (by first | decide | omega) (by first | decide | omega)
  | (show (0 : Int) < _; first | decide | omega)
  | exact ⟨by decide, by decide, by decide⟩
  | fail)
local macro_rules | `(tactic| walk_at "put") => `(tactic| exact rfl)
local macro_rules | `(tactic| walk_at "fl") => `(tactic| first | exact Cm.fl0 | (refine' Cm.flS ?hz; (case hz => walk_at "fl")) | fail)
local macro_rules | `(tactic| walk_at "size") => `(tactic| first | exact Cm.sz_lit rfl | exact Cm.sz_lt rfl | exact Cm.fs_lt rfl | decide | (refine' Nat.lt_of_le_of_lt ?ha ?hb; (case ha => walk_at "fl"); (case hb => decide)) | (simp only [List.length_cons, List.length_nil, List.length_append, List.length_map, List.length_set, List.length_replicate, PySem.sizeLine_eq]; omega) | (simp only [List.length_cons, List.length_nil, List.length_append, List.length_map, List.length_set, List.length_replicate, PySem.sizeLine_eq] at *; omega) | fail)
local macro_rules | `(tactic| walk_at "at") => `(tactic| first | assumption | (with_reducible exact Cm.at0) | (with_reducible exact Cm.at1) | (with_reducible exact Cm.at2) | (with_reducible exact Cm.at3) | (with_reducible exact Cm.at4) | (with_reducible exact Cm.at5) | (with_reducible exact Cm.at6) | (with_reducible exact Cm.at7) | (with_reducible exact Cm.at8) | (with_reducible exact Cm.at0s) | (with_reducible exact Cm.at1s) | (with_reducible exact Cm.at01s) | (with_reducible exact Cm.at10s) | fail)
local macro_rules | `(tactic| walk_at "ix") => `(tactic| first | exact Cm.ix0 (by walk_at "size") | exact Cm.ix1 (by walk_at "size") | assumption | fail)
local macro_rules | `(tactic| walk_at "key") => `(tactic| first | assumption | fail)
local macro_rules | `(tactic| walk_at "ne") => `(tactic| first
  | assumption
  | (refine Ne.symm ?_; assumption)
  | (refine' L2.ne_of_none ?h1 ?h2; (case h2 => assumption); (case h1 => walk_at "look"))
  | (refine' Ne.symm (L2.ne_of_none ?h1 ?h2); (case h2 => assumption); (case h1 => walk_at "look"))
  | fail)
local macro_rules | `(tactic| walk_at "lookT") => `(tactic| first
  | assumption
  | exact L2.SqT.of (by walk_at "look")
  | fail)
local macro_rules | `(tactic| walk_at "look") => `(tactic| first
  | assumption
  | exact L2.upd_same
  | ((fail_if_success (with_reducible refine Eq.trans L2.upd_same ?_)); (refine' Eq.trans (L2.upd_ne ?h1) ?h2); (case h1 => walk_at "ne"); (case h2 => walk_at "look"))
  | (refine' Cm.kp_look ?h1 ?h2 ?h3 ?h4; (case h1 => assumption); (case h2 => walk_at "look"); (case h3 => intro _ z; cases z); (case h4 => first | exact Or.inl rfl | exact Or.inr (by walk_at "out")))
  | fail)
local macro_rules | `(tactic| walk_at "out") => `(tactic| first
  | assumption
  | exact fun z => z
  | exact fun z => z.elim (fun e => absurd e (by walk_at "ne")) (fun e => absurd e (by walk_at "ne"))
  | exact fun e => absurd e (by walk_at "ne")
  | fail)
local macro_rules | `(tactic| walk_at "dom") => `(tactic| first
  | exact Cm.dm_refl
  | (refine Cm.dm_upd ?_; walk_at "dom")
  | (refine' Cm.dm_kp ?h1 ?h2; (case h2 => assumption); (case h1 => walk_at "dom"))
  | fail)
local macro_rules | `(tactic| walk_at "free") => `(tactic| first
  | assumption
  | exact Cm.nw_of (by assumption)
  | (refine' Cm.dm_use ?h1 ?h2; (case h2 => assumption); (case h1 => walk_at "dom"))
  | (refine' Cm.dm_use2 ?h1 ?h2; (case h2 => assumption); (case h1 => walk_at "dom"))
  | fail)
local macro_rules | `(tactic| walk_at "in") => `(tactic| first
  | exact Or.inl rfl | exact Or.inl (Or.inl rfl) | exact Or.inl (Or.inr rfl) | exact Or.inl (Or.inr (Or.inl rfl)) | exact Or.inl (Or.inr (Or.inr rfl))
  | exact Or.inl (by assumption)
  | exact Or.inr (by walk_at "free")
  | fail)
local macro_rules | `(tactic| walk_at "kp") => `(tactic| first
  | assumption
  | exact Cm.Kp.refl
  | (refine' Cm.Kp.new' ?h1 ?h2; (case h2 => assumption); (case h1 => walk_at "kp"))
  | (refine' Cm.Kp.setX' ?h1 ?h2 ?h4 ?h5 ?h3; (case h2 => walk_at "look"); (case h4 => exact rfl); (case h5 => intro _ z; cases z); (case h3 => walk_at "in"); (case h1 => walk_at "kp"))
  | (refine' Cm.kp_step ?h1 ?h2 ?h3; (case h2 => assumption); (case h3 => walk_at "sub"); (case h1 => walk_at "kp"))
  | fail)
local macro_rules | `(tactic| walk_at "sub") => `(tactic| first
  | exact fun _ z => z.elim
  | exact fun _ z => Or.inl z
  | (intro a z; rcases z with rfl | rfl <;> walk_at "in")
  | (intro a z; subst z; walk_at "in")
  | fail)
local macro_rules | `(tactic| walk_at "num2") => `(tactic| first | decide | omega | fail)

local macro_rules | `(tactic| walk_at "isi") => `(tactic| first | (with_reducible refine Cm.isi_non_bool ?_) | (with_reducible refine Cm.isi_non_int ?_) | (with_reducible refine Cm.isi_non_str ?_) | (with_reducible refine Cm.isi_non_tuple ?_) | (with_reducible refine Cm.isi_non_list ?_) | (with_reducible refine Cm.isi_bl_bool ?_) | (with_reducible refine Cm.isi_bl_int ?_) | (with_reducible refine Cm.isi_bl_str ?_) | (with_reducible refine Cm.isi_bl_tuple ?_) | (with_reducible refine Cm.isi_bl_list ?_) | (with_reducible refine Cm.isi_int_bool ?_) | (with_reducible refine Cm.isi_int_int ?_) | (with_reducible refine Cm.isi_int_str ?_) | (with_reducible refine Cm.isi_int_tuple ?_) | (with_reducible refine Cm.isi_int_list ?_) | (with_reducible refine Cm.isi_str_bool ?_) | (with_reducible refine Cm.isi_str_int ?_) | (with_reducible refine Cm.isi_str_str ?_) | (with_reducible refine Cm.isi_str_tuple ?_) | (with_reducible refine Cm.isi_str_list ?_) | ((with_reducible refine' Cm.isi_tup_bool ?h1 ?_); (case h1 => walk_at "look")) | ((with_reducible refine' Cm.isi_tup_int ?h1 ?_); (case h1 => walk_at "look")) | ((with_reducible refine' Cm.isi_tup_str ?h1 ?_); (case h1 => walk_at "look")) | ((with_reducible refine' Cm.isi_tup_tuple ?h1 ?_); (case h1 => walk_at "look")) | ((with_reducible refine' Cm.isi_tup_list ?h1 ?_); (case h1 => walk_at "look")) | ((with_reducible refine' Cm.isi_lst_bool ?h1 ?_); (case h1 => walk_at "look")) | ((with_reducible refine' Cm.isi_lst_int ?h1 ?_); (case h1 => walk_at "look")) | ((with_reducible refine' Cm.isi_lst_str ?h1 ?_); (case h1 => walk_at "look")) | ((with_reducible refine' Cm.isi_lst_tuple ?h1 ?_); (case h1 => walk_at "look")) | ((with_reducible refine' Cm.isi_lst_list ?h1 ?_); (case h1 => walk_at "look")) | fail)

/-! ### M1: more words -/
local macro_rules | `(tactic| walk_at "st") => `(tactic| first
  | ((with_reducible refine Cm.and_at (A := L2.tyV _ "dict" _ _) ?h1 ?_); (case h1 => exact Cm.ty_dic (by walk_at "look")))
  | (with_reducible refine Cm.e_dget2 ?_) | (with_reducible refine Cm.e_dpop2 ?_) | (with_reducible refine Cm.e_dpop1 ?_) | (with_reducible refine Cm.s_rx ?_)
  | ((with_reducible refine' Cm.isd_at ?h1 ?_); (case h1 => walk_at "look"))
  | ((with_reducible refine' Cm.get_at ?h1 ?_); (case h1 => walk_at "look"))
  | ((with_reducible refine' Cm.pop1_at ?h1 ?h2 ?_); (case h1 => walk_at "look"); (case h2 => assumption))
  | ((with_reducible refine' Cm.r_dictD ?h1 ?_); (case h1 => walk_at "look"); (intro _ _))
  | ((with_reducible refine' Cm.r_lenD ?h1 ?_); (case h1 => walk_at "look"))
  | ((with_reducible refine' Cm.r_ixdi ?h1 ?h2 ?_); (case h1 => walk_at "look"); (case h2 => assumption))
  | ((with_reducible refine' Cm.g_setdi ?h1 ?h2 ?_); (case h1 => walk_at "look"); (case h2 => first | assumption | omega))
  | (with_reducible refine Cm.r_min2 ?_)
  | (with_reducible refine W.r_eq_lv ?_) | (with_reducible refine W.r_ne_lv ?_) | (with_reducible refine W.r_isNo_lv ?_) | (with_reducible refine W.r_notNo_lv ?_)
  | fail)

namespace W
open PySem PySem.Spec PyProof.Rows L2 Cm
section
variable {w : World} {K : PySem.W.Frag} {mg : Str → Option Value}
theorem pure_BadDeal_init (T : Tx w K mg) (vs : List V) (H : Hp) (Q : VK) (E : XK) (h : S_BadDeal_init K vs H Q E) : t_BadDeal_init K E { nx := fun _ H' => Q .non H', rt := Q } (start N_BadDeal_init vs) H := by
  obtain ⟨_, y, rfl, a, rfl, ha, k⟩ := h
  unfold t_BadDeal_init
  walk_at "run"
  refine ⟨_, rfl, a, _, [.str "no deal"], rfl, by show 1 ≤ 1000; decide, T.x_BadDeal.ox, ha, ?_⟩
  walk_at "run"
  refine ⟨_, rfl, _, rfl, a, _, rfl, T.x_BadDeal.ox, T.x_BadDeal.no, .inl ⟨ha, fun dx h1 h2 => k dx h1 h2⟩⟩
theorem pure_is_from (vs : List V) (H : Hp) (Q : VK) (E : XK) (h : S_is_from K vs H Q E) : t_is_from K E { nx := fun _ H' => Q .non H', rt := Q } (start N_is_from vs) H := by
  obtain ⟨_, _, _, rfl, i, j, k, rfl, rfl, rfl, q⟩ := h
  unfold t_is_from
  walk_at "run"
  refine if_d (fun h1 => ?_) (fun h1 => ?_)
  · walk_at "run"
    have e : decide (i ≤ k) = decide (j ≤ i ∧ i ≤ k) := by
      by_cases h2 : i ≤ k
      · rw [decide_eq_true h2, decide_eq_true ⟨h1, h2⟩]
      · rw [decide_eq_false h2, decide_eq_false fun z => h2 z.2]
    rw [e]; exact q
  · rw [decide_eq_false fun z => h1 z.1] at q
    exact q
theorem pure_page_of (vs : List V) (H : Hp) (Q : VK) (E : XK) (h : S_page_of K vs H Q E) : t_page_of K E { nx := fun _ H' => Q .non H', rt := Q } (start N_page_of vs) H := by
  obtain ⟨_, rfl, i, rfl, q⟩ := h
  unfold t_page_of
  walk_at "run"
  exact q
theorem pure_need_hand (vs : List V) (H : Hp) (Q : VK) (E : XK) (h : S_need_hand K vs H Q E) : t_need_hand K E { nx := fun _ H' => Q .non H', rt := Q } (start N_need_hand vs) H := by
  obtain ⟨_, rfl, i, rfl, k1, k2⟩ := h
  unfold t_need_hand
  walk_at "run"
  refine ⟨_, _, _, rfl, i, _, _, rfl, rfl, rfl, ?_⟩
  walk_at "run"
  refine if_nd (fun h => ?_) (fun h => ?_)
  · walk_at "run"
    exact k2 (by omega)
  · walk_at "run"
    exact k1 (by omega)
theorem pure_need_key (vs : List V) (H : Hp) (Q : VK) (E : XK) (h : S_need_key K vs H Q E) : t_need_key K E { nx := fun _ H' => Q .non H', rt := Q } (start N_need_key vs) H := by
  obtain ⟨_, rfl, i, rfl, k1, k2⟩ := h
  unfold t_need_key
  walk_at "run"
  refine ⟨_, _, _, rfl, i, _, _, rfl, rfl, rfl, ?_⟩
  walk_at "run"
  refine if_nd (fun h => ?_) (fun h => ?_)
  · walk_at "run"
    exact k2 (by omega)
  · walk_at "run"
    exact k1 (by omega)
theorem pure_is_put (vs : List V) (H : Hp) (Q : VK) (E : XK) (h : S_is_put K vs H Q E) : t_is_put K E { nx := fun _ H' => Q .non H', rt := Q } (start N_is_put vs) H := by
  obtain ⟨_, rfl, ds, b, hx, hb, q⟩ := h
  unfold t_is_put
  rcases hb with ⟨hl, rfl⟩ | ⟨d0, d1, w, l, rfl, rfl⟩
  · obtain ⟨a, xs, rfl, ha, hA⟩ := hx
    have e := hA.length
    walk_at "run"
    refine if_dF (fun z => hl (by injection z; omega)) ?_
    exact q
  · obtain ⟨a, v0, v1, v2, v3, rfl, ha, h0, h1, rfl, rfl⟩ := dt4.mp hx
    walk_at "run"
    refine if_dT rfl ?_
    walk_at "run"
    refine ⟨_, _, _, rfl, _, _, _, rfl, rfl, rfl, ?_⟩
    walk_at "run"
    refine if_d (fun h2 => ?_) (fun h2 => ?_)
    · walk_at "run"
      refine ⟨_, _, _, rfl, _, _, _, rfl, rfl, rfl, ?_⟩
      have e : decide (0 ≤ l ∧ l ≤ 1000) = decide ((0 ≤ w ∧ w ≤ 999) ∧ 0 ≤ l ∧ l ≤ 1000) := by simp [h2]
      rw [e]; exact q
    · rw [decide_eq_false fun z => h2 z.1] at q
      exact q
theorem pure_is_if (vs : List V) (H : Hp) (Q : VK) (E : XK) (h : S_is_if K vs H Q E) : t_is_if K E { nx := fun _ H' => Q .non H', rt := Q } (start N_is_if vs) H := by
  obtain ⟨_, rfl, ds, b, hx, hb, q⟩ := h
  unfold t_is_if
  rcases hb with ⟨hl, rfl⟩ | ⟨d0, d1, ⟨rfl, rfl⟩ | ⟨w, rfl, rfl⟩⟩
  · obtain ⟨a, xs, rfl, ha, hA⟩ := hx
    have e := hA.length
    walk_at "run"
    refine if_dF (fun z => hl (by injection z; omega)) ?_
    exact q
  · obtain ⟨a, v0, v1, v2, rfl, ha, h0, h1, rfl⟩ := dt3.mp hx
    walk_at "run"
    refine if_dT rfl ?_
    walk_at "run"
    refine if_dT rfl ?_
    exact q
  · obtain ⟨a, v0, v1, v2, rfl, ha, h0, h1, rfl⟩ := dt3.mp hx
    walk_at "run"
    refine if_dT rfl ?_
    walk_at "run"
    refine if_dF (fun z => nomatch z) ?_
    walk_at "run"
    refine ⟨_, _, _, rfl, _, _, _, rfl, rfl, rfl, ?_⟩
    exact q
theorem pure_shown_row (vs : List V) (H : Hp) (Q : VK) (E : XK) (h : S_shown_row K vs H Q E) : t_shown_row K E { nx := fun _ H' => Q .non H', rt := Q } (start N_shown_row vs) H := by
  obtain ⟨_, _, rfl, r, m, hx, rfl, q⟩ := h
  unfold t_shown_row
  cases r with
  | none =>
    obtain rfl : _ = V.non := hx
    walk_at "run"
    refine if_dT rfl ?_
    walk_at "run"
    exact q
  | some r =>
    obtain ⟨a, v0, v1, rfl, ha, h0, rfl⟩ := dt2.mp hx
    obtain rfl := dt_oD.mp h0
    obtain ⟨w, e⟩ := r
    cases w with
    | none =>
      walk_at "run"
      refine if_dF (fun z => nomatch z) ?_
      dsimp only [lv] at ha
      walk_at "run"
      refine if_dT rfl ?_
      walk_at "run"
      exact q
    | some w =>
      dsimp only [lv] at ha
      walk_at "run"
      refine if_dF (fun z => nomatch z) ?_
      walk_at "run"
      refine if_dF (fun z => nomatch z) ?_
      walk_at "run"
      rw [psh_some] at q
      refine if_d (fun h => ?_) (fun h => ?_)
      · walk_at "run"
        have h : e = 0 := by injection h
        rw [if_pos (.inl h)] at q
        exact q
      · have h' : e ≠ 0 := fun z => h (by rw [z])
        walk_at "run"
        refine if_d (fun h2 => ?_) (fun h2 => ?_)
        · walk_at "run"
          rw [if_pos (.inr h2)] at q
          exact q
        · walk_at "run"
          rw [if_neg (fun z => z.elim h' h2)] at q
          exact q
end
end W

end
section
/-! ### M0: words for walking through a reading (local) -/
local macro_rules | `(tactic| walk_at "st") => `(tactic| first
  | (with_reducible refine Cm.s_seq ?_) | (with_reducible refine Cm.s_asg ?_) | (with_reducible refine Cm.s_drop ?_) | (with_reducible refine Cm.s_ret ?_) | (with_reducible refine Cm.s_if ?_) | (with_reducible refine Cm.s_next ?_) | (with_reducible refine Cm.s_retN ?_) | (with_reducible refine Cm.s_rs ?_) | (with_reducible refine Cm.s_fld0 ?_)
  | ((with_reducible refine' Cm.e_var ?hv ?_); (case hv => exact rfl))
  | (with_reducible refine Cm.e_c ?_) | (with_reducible refine Cm.e_op ?_) | (with_reducible refine Cm.e_un ?_) | (with_reducible refine Cm.e_nil ?_) | (with_reducible refine Cm.e_cons ?_) | (with_reducible refine Cm.e_tup ?_) | (with_reducible refine Cm.e_lst ?_) | (with_reducible refine Cm.e_cb ?_) | (with_reducible refine Cm.e_call ?_) | (with_reducible refine Cm.e_if ?_)
  | (with_reducible refine Cm.e_andV ?_) | (with_reducible refine Cm.e_orV ?_) | (with_reducible refine Cm.e_notV ?_) | (with_reducible refine Cm.e_fld0 ?_) | (with_reducible refine Cm.e_meth0 ?_) | (with_reducible refine Cm.e_bm0 ?_) | (with_reducible refine Cm.e_bm ?_) | (with_reducible refine Cm.e_sl ?_) | (with_reducible refine Cm.o_none ?_) | (with_reducible refine Cm.o_some ?_) | (with_reducible refine Cm.e_dnew ?_)
  | (with_reducible refine Cm.e_test ?_) | (with_reducible refine Cm.e_tr ?_) | (with_reducible refine Cm.e_and ?_) | (with_reducible refine Cm.e_or ?_) | (with_reducible refine Cm.e_not ?_) | (with_reducible refine Cm.e_yes ?_) | (with_reducible refine Cm.e_chain ?_)
  | (with_reducible refine Cm.r_i0 ?_) | (with_reducible refine Cm.r_u ?_) | (with_reducible refine Cm.r_isNo ?_) | (with_reducible refine Cm.r_notNo ?_) | (with_reducible refine Cm.r_addI ?_) | (with_reducible refine Cm.r_int1b ?_) | (with_reducible refine Cm.r_max2 ?_)
  | ((with_reducible refine Cm.r_i ?hc ?_); (case hc => walk_at "num"))
  | ((with_reducible refine Cm.r_mulI ?hc ?_); (case hc => walk_at "num"))
  | ((with_reducible refine Cm.r_eqS ?hc ?_); (case hc => exact rfl))
  | ((with_reducible refine Cm.r_neS ?hc ?_); (case hc => exact rfl))
  | ((with_reducible refine' Cm.r_ixl ?h1 ?h2 ?_); (case h1 => walk_at "look"); (case h2 => walk_at "at"))
  | ((with_reducible refine' Cm.r_ixt ?h1 ?h2 ?_); (case h1 => walk_at "look"); (case h2 => walk_at "at"))
  | ((with_reducible refine' Cm.r_ixT ?h1 ?h2 ?_); (case h1 => walk_at "lookT"); (case h2 => walk_at "at"))
  | ((with_reducible refine' Cm.r_ixds ?h1 ?h2 ?_); (case h1 => walk_at "look"); (case h2 => walk_at "key"))
  | ((with_reducible refine' Cm.r_eqe ?h1 ?h2 ?_); (case h1 => walk_at "look"); (case h2 => walk_at "look"))
  | ((with_reducible refine' Cm.r_nee ?h1 ?h2 ?_); (case h1 => walk_at "look"); (case h2 => walk_at "look"))
  | ((with_reducible refine' Cm.r_lenl ?h1 ?_); (case h1 => walk_at "look"))
  | ((with_reducible refine' Cm.r_lent ?h1 ?_); (case h1 => walk_at "look"))
  | ((with_reducible refine' Cm.r_lenT ?h1 ?_); (case h1 => walk_at "lookT"))
  | ((with_reducible refine' Cm.r_listl ?h1 ?_); (case h1 => walk_at "look"); (intro _ _))
  | ((with_reducible refine' Cm.r_tupl ?h1 ?_); (case h1 => walk_at "look"); (intro _ _))
  | ((with_reducible refine' Cm.r_addL ?h1 ?h2 ?h3 ?_); (case h1 => walk_at "look"); (case h2 => walk_at "look"); (case h3 => walk_at "size"); (intro _ _))
  | ((with_reducible refine' Cm.m_append ?h1 ?h2 ?_); (case h1 => walk_at "look"); (case h2 => walk_at "size"))
  | ((with_reducible refine' Cm.m_clear ?h1 ?_); (case h1 => walk_at "look"))
  | ((with_reducible refine' Cm.g_setL ?h1 ?h2 ?_); (case h1 => walk_at "look"); (case h2 => walk_at "ix"))
  | ((with_reducible refine' Cm.g_setDs ?h1 ?h2 ?h3 ?_); (case h1 => walk_at "look"); (case h2 => walk_at "size"); (case h3 => walk_at "put"))
  | ((with_reducible refine' Cm.fld_at ?h1 ?h2 ?h3 ?h4 ?_); (case h1 => walk_at "look"); (case h2 => assumption); (case h3 => assumption); (case h4 => walk_at "key"))
  | ((with_reducible refine' Cm.fldset_at ?h1 ?h2 ?h3 ?h4 ?h5 ?_); (case h1 => walk_at "look"); (case h2 => assumption); (case h3 => assumption); (case h4 => walk_at "size"); (case h5 => walk_at "put"))
  | (with_reducible refine Cm.s_fldaug0 ?_)
  | ((with_reducible refine' Cm.aug_at ?h1 ?h2 ?h3 ?h4 ?_); (case h1 => walk_at "look"); (case h2 => assumption); (case h3 => assumption); (case h4 => walk_at "key"))
  | ((with_reducible refine' Cm.augset_at ?h1 ?h4 ?h5 ?_); (case h1 => walk_at "look"); (case h4 => walk_at "size"); (case h5 => walk_at "put"))
  | (with_reducible refine Cm.in_sub_at ?_) | (with_reducible refine Cm.in_add_at ?_)
  | ((with_reducible refine' Cm.meth_at ?h1 ?h2 ?_); (case h1 => walk_at "look"); (case h2 => walk_at "key"))
  | ((with_reducible refine Cm.new_at ?h1 ?_); (case h1 => walk_at "size"); (intro _ _))
  | ((with_reducible refine Cm.and_at (A := L2.tyV _ "list" _ _) ?h1 ?_); (case h1 => exact Cm.ty_lst (by walk_at "look")))
  | ((with_reducible refine' Cm.g_tupt ?h1 ?h2 ?_); (case h1 => walk_at "look"); (case h2 => exact rfl))
  | ((with_reducible refine' Cm.g_tup ?h1 ?h2 ?_); (case h1 => walk_at "lookT"); (case h2 => exact rfl))
  | (with_reducible refine Cm.g_name ?_) | (with_reducible refine Cm.g_sub ?_) | (with_reducible refine Cm.g_cons ?_) | (with_reducible refine Cm.g_nil ?_)
  | (with_reducible refine Cm.int_at ?_) | (with_reducible refine Cm.bl_at ?_) | (with_reducible refine Cm.tr_bl ?_) | (with_reducible refine Cm.tr_non ?_)
  | ((with_reducible refine' Cm.m_pop0 ?h1 ?_); (case h1 => walk_at "look"))
  | ((with_reducible refine' Cm.r_slTo ?h1 ?h2 ?_); (case h1 => walk_at "look"); (case h2 => walk_at "num2"); (intro _ _))
  | ((with_reducible refine' Cm.r_slFrom ?h1 ?h2 ?_); (case h1 => walk_at "look"); (case h2 => walk_at "num2"); (intro _ _))
  | ((with_reducible refine' Cm.at_forL ?h1 ?_); (case h1 => walk_at "look"))
  | ((with_reducible refine' Cm.at_forT ?h1 ?_); (case h1 => walk_at "look"))
  | ((with_reducible refine' Cm.at_forR ?h1 ?h2 ?_); (case h1 => walk_at "num2"); (case h2 => walk_at "num2"))
  | ((with_reducible refine' Cm.at_forZ ?h1 ?h2 ?_); (case h1 => walk_at "look"); (case h2 => walk_at "look"))
  | (with_reducible refine Cm.s_forZ ?_) | (with_reducible refine Cm.s_forR ?_)
  | ((with_reducible refine Cm.and_at (A := _ = _) ?h1 ?_); (case h1 => exact rfl))
  | ((with_reducible show L2.rIsi _ _ _ _); walk_at "isi")
  | (with_reducible refine Cm.ite_nt ?_) | (with_reducible refine Cm.ite_nf ?_)
  | (with_reducible refine L2.iteT ?_) | (with_reducible refine L2.iteF ?_)
  | dsimp only
  | fail)
local macro_rules | `(tactic| walk_at "run") => `(tactic| repeat (walk_at "st"))
local macro_rules | `(tactic| walk_at "num") => `(tactic| first
  | exact Or.inr ⟨by decide, by decide⟩ | exact Or.inl ⟨by decide, by decide⟩
  | exact Cm.wdiv (by first | decide | omega) (by first | decide | omega)
  | (show (0 : Int) < _; first | decide | omega)
  | exact ⟨by decide, by decide, by decide⟩
  | fail)
local macro_rules | `(tactic| walk_at "put") => `(tactic| exact rfl)
local macro_rules | `(tactic| walk_at "fl") => `(tactic| first | exact Cm.fl0 | (refine' Cm.flS ?hz; (case hz => walk_at "fl")) | fail)
local macro_rules | `(tactic| walk_at "size") => `(tactic| first | exact Cm.sz_lit rfl | exact Cm.sz_lt rfl | exact Cm.fs_lt rfl | decide | (refine' Nat.lt_of_le_of_lt ?ha ?hb; (case ha => walk_at "fl"); (case hb => decide)) | (simp only [List.length_cons, List.length_nil, List.length_append, List.length_map, List.length_set, List.length_replicate, PySem.sizeLine_eq]; omega) | (simp only [List.length_cons, List.length_nil, List.length_append, List.length_map, List.length_set, List.length_replicate, PySem.sizeLine_eq] at *; omega) | fail)
local macro_rules | `(tactic| walk_at "at") => `(tactic| first | assumption | (with_reducible exact Cm.at0) | (with_reducible exact Cm.at1) | (with_reducible exact Cm.at2) | (with_reducible exact Cm.at3) | (with_reducible exact Cm.at4) | (with_reducible exact Cm.at5) | (with_reducible exact Cm.at6) | (with_reducible exact Cm.at7) | (with_reducible exact Cm.at8) | (with_reducible exact Cm.at0s) | (with_reducible exact Cm.at1s) | (with_reducible exact Cm.at01s) | (with_reducible exact Cm.at10s) | fail)
local macro_rules | `(tactic| walk_at "ix") => `(tactic| first | exact Cm.ix0 (by walk_at "size") | exact Cm.ix1 (by walk_at "size") | assumption | fail)
local macro_rules | `(tactic| walk_at "key") => `(tactic| first | assumption | fail)
local macro_rules | `(tactic| walk_at "ne") => `(tactic| first
  | assumption
  | (refine Ne.symm ?_; assumption)
  | (refine' L2.ne_of_none ?h1 ?h2; (case h2 => assumption); (case h1 => walk_at "look"))
  | (refine' Ne.symm (L2.ne_of_none ?h1 ?h2); (case h2 => assumption); (case h1 => walk_at "look"))
  | fail)
local macro_rules | `(tactic| walk_at "lookT") => `(tactic| first
  | assumption
  | exact L2.SqT.of (by walk_at "look")
  | fail)
local macro_rules | `(tactic| walk_at "look") => `(tactic| first
  | assumption
  | exact L2.upd_same
  | ((fail_if_success (with_reducible refine Eq.trans L2.upd_same ?_)); (refine' Eq.trans (L2.upd_ne ?h1) ?h2); (case h1 => walk_at "ne"); (case h2 => walk_at "look"))
  | (refine' Cm.kp_look ?h1 ?h2 ?h3 ?h4; (case h1 => assumption); (case h2 => walk_at "look"); (case h3 => intro _ z; cases z); (case h4 => first | exact Or.inl rfl | exact Or.inr (by walk_at "out")))
  | fail)
local macro_rules | `(tactic| walk_at "out") => `(tactic| first
  | assumption
  | exact fun z => z
  | exact fun z => z.elim (fun e => absurd e (by walk_at "ne")) (fun e => absurd e (by walk_at "ne"))
  | exact fun e => absurd e (by walk_at "ne")
  | fail)
local macro_rules | `(tactic| walk_at "dom") => `(tactic| first
  | exact Cm.dm_refl
  | (refine Cm.dm_upd ?_; walk_at "dom")
  | (refine' Cm.dm_kp ?h1 ?h2; (case h2 => assumption); (case h1 => walk_at "dom"))
  | fail)
local macro_rules | `(tactic| walk_at "free") => `(tactic| first
  | assumption
  | exact Cm.nw_of (by assumption)
  | (refine' Cm.dm_use ?h1 ?h2; (case h2 => assumption); (case h1 => walk_at "dom"))
  | (refine' Cm.dm_use2 ?h1 ?h2; (case h2 => assumption); (case h1 => walk_at "dom"))
  | fail)
local macro_rules | `(tactic| walk_at "in") => `(tactic| first
  | exact Or.inl rfl | exact Or.inl (Or.inl rfl) | exact Or.inl (Or.inr rfl) | exact Or.inl (Or.inr (Or.inl rfl)) | exact Or.inl (Or.inr (Or.inr rfl))
  | exact Or.inl (by assumption)
  | exact Or.inr (by walk_at "free")
  | fail)
local macro_rules | `(tactic| walk_at "kp") => `(tactic| first
  | assumption
  | exact Cm.Kp.refl
  | (refine' Cm.Kp.new' ?h1 ?h2; (case h2 => assumption); (case h1 => walk_at "kp"))
  | (refine' Cm.Kp.setX' ?h1 ?h2 ?h4 ?h5 ?h3; (case h2 => walk_at "look"); (case h4 => exact rfl); (case h5 => intro _ z; cases z); (case h3 => walk_at "in"); (case h1 => walk_at "kp"))
  | (refine' Cm.kp_step ?h1 ?h2 ?h3; (case h2 => assumption); (case h3 => walk_at "sub"); (case h1 => walk_at "kp"))
  | fail)
local macro_rules | `(tactic| walk_at "sub") => `(tactic| first
  | exact fun _ z => z.elim
  | exact fun _ z => Or.inl z
  | (intro a z; rcases z with rfl | rfl <;> walk_at "in")
  | (intro a z; subst z; walk_at "in")
  | fail)
local macro_rules | `(tactic| walk_at "num2") => `(tactic| first | decide | omega | fail)

local macro_rules | `(tactic| walk_at "isi") => `(tactic| first | (with_reducible refine Cm.isi_non_bool ?_) | (with_reducible refine Cm.isi_non_int ?_) | (with_reducible refine Cm.isi_non_str ?_) | (with_reducible refine Cm.isi_non_tuple ?_) | (with_reducible refine Cm.isi_non_list ?_) | (with_reducible refine Cm.isi_bl_bool ?_) | (with_reducible refine Cm.isi_bl_int ?_) | (with_reducible refine Cm.isi_bl_str ?_) | (with_reducible refine Cm.isi_bl_tuple ?_) | (with_reducible refine Cm.isi_bl_list ?_) | (with_reducible refine Cm.isi_int_bool ?_) | (with_reducible refine Cm.isi_int_int ?_) | (with_reducible refine Cm.isi_int_str ?_) | (with_reducible refine Cm.isi_int_tuple ?_) | (with_reducible refine Cm.isi_int_list ?_) | (with_reducible refine Cm.isi_str_bool ?_) | (with_reducible refine Cm.isi_str_int ?_) | (with_reducible refine Cm.isi_str_str ?_) | (with_reducible refine Cm.isi_str_tuple ?_) | (with_reducible refine Cm.isi_str_list ?_) | ((with_reducible refine' Cm.isi_tup_bool ?h1 ?_); (case h1 => walk_at "look")) | ((with_reducible refine' Cm.isi_tup_int ?h1 ?_); (case h1 => walk_at "look")) | ((with_reducible refine' Cm.isi_tup_str ?h1 ?_); (case h1 => walk_at "look")) | ((with_reducible refine' Cm.isi_tup_tuple ?h1 ?_); (case h1 => walk_at "look")) | ((with_reducible refine' Cm.isi_tup_list ?h1 ?_); (case h1 => walk_at "look")) | ((with_reducible refine' Cm.isi_lst_bool ?h1 ?_); (case h1 => walk_at "look")) | ((with_reducible refine' Cm.isi_lst_int ?h1 ?_); (case h1 => walk_at "look")) | ((with_reducible refine' Cm.isi_lst_str ?h1 ?_); (case h1 => walk_at "look")) | ((with_reducible refine' Cm.isi_lst_tuple ?h1 ?_); (case h1 => walk_at "look")) | ((with_reducible refine' Cm.isi_lst_list ?h1 ?_); (case h1 => walk_at "look")) | fail)

/-! ### M1: more words -/
local macro_rules | `(tactic| walk_at "st") => `(tactic| first
  | ((with_reducible refine Cm.and_at (A := L2.tyV _ "dict" _ _) ?h1 ?_); (case h1 => exact Cm.ty_dic (by walk_at "look")))
  | (with_reducible refine Cm.e_dget2 ?_) | (with_reducible refine Cm.e_dpop2 ?_) | (with_reducible refine Cm.e_dpop1 ?_) | (with_reducible refine Cm.s_rx ?_)
  | ((with_reducible refine' Cm.isd_at ?h1 ?_); (case h1 => walk_at "look"))
  | ((with_reducible refine' Cm.get_at ?h1 ?_); (case h1 => walk_at "look"))
  | ((with_reducible refine' Cm.pop1_at ?h1 ?h2 ?_); (case h1 => walk_at "look"); (case h2 => assumption))
  | ((with_reducible refine' Cm.r_dictD ?h1 ?_); (case h1 => walk_at "look"); (intro _ _))
  | ((with_reducible refine' Cm.r_lenD ?h1 ?_); (case h1 => walk_at "look"))
  | ((with_reducible refine' Cm.r_ixdi ?h1 ?h2 ?_); (case h1 => walk_at "look"); (case h2 => assumption))
  | ((with_reducible refine' Cm.g_setdi ?h1 ?h2 ?_); (case h1 => walk_at "look"); (case h2 => first | assumption | omega))
  | (with_reducible refine Cm.r_min2 ?_)
  | (with_reducible refine W.r_eq_lv ?_) | (with_reducible refine W.r_ne_lv ?_) | (with_reducible refine W.r_isNo_lv ?_) | (with_reducible refine W.r_notNo_lv ?_)
  | fail)

namespace W
open PySem PySem.Spec PyProof.Rows L2 Cm
section
variable {w : World} {K : PySem.W.Frag} {mg : Str → Option Value}
theorem r_notInW {H : Hp} {Q : VK} {t : Addr} {w : Str} (h : H t = some (.tup [.str "put", .str "drop", .str "add", .str "if"])) (q : Q (.bl (decide (w ∉ deedWords))) H) : rNotInA K (.str w) (.ref t) H Q := by
  refine .inl ⟨t, _, rfl, .inr (SqT.of h), rfl, rfl, ?_⟩
  have e : (if true = true then !inV (.str w) [.str "put", .str "drop", .str "add", .str "if"] else inV (.str w) [.str "put", .str "drop", .str "add", .str "if"]) = decide (w ∉ deedWords) := by
    have b : ∀ a : Str, (a == w) = decide (w = a) := fun a => by
      by_cases h : w = a
      · rw [h]; simp
      · rw [decide_eq_false h, beq_eq_false_iff_ne]
        exact fun z => h z.symm
    simp [inV, eqV, deedWords, b]
  rw [e]; exact q
theorem pure_is_deed (vs : List V) (H : Hp) (Q : VK) (E : XK) (h : S_is_deed K vs H Q E) : t_is_deed K E { nx := fun _ H' => Q .non H', rt := Q } (start N_is_deed vs) H := by
  obtain ⟨_, rfl, ds, b, hx, hb, hd, q⟩ := h
  unfold t_is_deed
  rcases hb with ⟨hl, rfl⟩ | ⟨w, k, rest, rfl, hl, hb⟩
  · obtain ⟨a, xs, rfl, ha, hA⟩ := hx
    have e := hA.length
    walk_at "run"
    refine if_dT (by omega) ?_
    walk_at "run"
    exact q H Kp.refl
  · obtain ⟨a, xs, rfl, ha, v0, _, rfl, rfl, v1, vs, rfl, rfl, hR⟩ := id hx
    walk_at "run"
    refine if_dF (by simp only [List.length_cons]; omega) ?_
    walk_at "run"
    rename_i t ht
    refine r_notInW (by walk_at "look") ?_
    walk_at "run"
    have kt : Kp (tabs K) No H (upd H t (.tup [.str "put", .str "drop", .str "add", .str "if"])) := by walk_at "kp"
    have hx2 := Dt.keep kt hd hx
    refine if_d (fun h1 => ?_) (fun h1 => ?_)
    · walk_at "run"
      rcases hb with ⟨_, rfl⟩ | ⟨_, hb⟩
      · exact q _ kt
      · refine (h1 ?_).elim
        rcases hb with ⟨rfl, _⟩ | ⟨rfl, _⟩ | ⟨rfl, _⟩ | ⟨rfl, _⟩ <;> decide
    · have h1 : w ∈ deedWords := Classical.not_not.mp h1
      walk_at "run"
      refine ⟨_, _, _, rfl, _, _, _, rfl, rfl, rfl, ?_⟩
      walk_at "run"
      refine if_nd (fun h2 => ?_) (fun h2 => ?_)
      · walk_at "run"
        rcases hb with ⟨_, rfl⟩ | ⟨h3, _⟩
        · exact q _ kt
        · exact (h2 (by omega)).elim
      · have hb : (w = "put" ∧ PutB (.str w :: .int k :: rest) b ∨ w = "if" ∧ IfB (.str w :: .int k :: rest) b ∨ w = "drop" ∧ b = decide ((PyData.str w :: .int k :: rest).length = 2) ∨ w = "add" ∧ AddB (.str w :: .int k :: rest) b) := by
          rcases hb with ⟨h3, _⟩ | ⟨_, hb⟩
          · exact (h3.elim (fun z => z h1) (fun z => z (by omega))).elim
          · exact hb
        walk_at "run"
        rcases hb with ⟨rfl, hb⟩ | ⟨rfl, hb⟩ | ⟨rfl, hb⟩ | ⟨rfl, hb⟩
        · refine if_dT rfl ?_
          walk_at "run"
          exact ⟨_, rfl, _, _, hx2, hb, q _ kt⟩
        · refine if_dF (by decide) ?_
          walk_at "run"
          refine if_dT rfl ?_
          walk_at "run"
          exact ⟨_, rfl, _, _, hx2, hb, q _ kt⟩
        · refine if_dF (by decide) ?_
          walk_at "run"
          refine if_dF (by decide) ?_
          walk_at "run"
          refine if_dT rfl ?_
          walk_at "run"
          have e := hR.length
          have e2 : decide (V.int ((V.str "drop" :: V.int k :: vs).length : Int) = V.int 2) = b := by
            rw [hb]
            simp only [List.length_cons, V.int.injEq, decide_eq_decide]
            omega
          rw [e2]
          exact q _ kt
        · refine if_dF (by decide) ?_
          walk_at "run"
          refine if_dF (by decide) ?_
          walk_at "run"
          refine if_dF (by decide) ?_
          have e := hR.length
          rcases hb with ⟨h4, rfl⟩ | ⟨d0, d1, m, e4, rfl⟩
          · walk_at "run"
            refine if_dF (fun z => h4 (by injection z with z; simp only [List.length_cons] at z ⊢; omega)) ?_
            exact q _ kt
          · injection e4 with e5 e6
            injection e6 with e6 e7
            subst e7
            obtain ⟨v2, _, rfl, rfl, e8⟩ := hR
            have e8 : _ = [] := e8
            subst e8
            walk_at "run"
            refine if_dT rfl ?_
            walk_at "run"
            refine ⟨_, _, _, rfl, _, _, _, rfl, rfl, rfl, ?_⟩
            exact q _ kt
theorem pure_row_behind (vs : List V) (H : Hp) (Q : VK) (E : XK) (h : S_row_behind K vs H Q E) : t_row_behind K E { nx := fun _ H' => Q .non H', rt := Q } (start N_row_behind vs) H := by
  obtain ⟨_, y, _, rfl, d, r, m, hx, hy, rfl, k⟩ := h
  unfold t_row_behind
  walk_at "run"
  refine ⟨_, _, rfl, r, m, hy, rfl, ?_⟩
  cases d with
  | put key wo l =>
    obtain ⟨a, v0, v1, v2, v3, rfl, ha, rfl, rfl, rfl, rfl⟩ := dt4.mp hx
    walk_at "run"
    refine if_dT rfl ?_
    walk_at "run"
    refine if_d (fun h1 => ?_) (fun h1 => ?_)
    · walk_at "run"
      rename_i p hp
      refine k _ _ (by walk_at "kp") ?_
      show RowV _ _ (some (some wo, if l > 0 then m + l else 0))
      rw [if_pos h1]
      exact dt2.mpr ⟨p, _, _, rfl, by walk_at "look", rfl, rfl⟩
    · walk_at "run"
      rename_i p hp
      refine k _ _ (by walk_at "kp") ?_
      show RowV _ _ (some (some wo, if l > 0 then m + l else 0))
      rw [if_neg h1]
      exact dt2.mpr ⟨p, _, _, rfl, by walk_at "look", rfl, rfl⟩
  | drop key =>
    obtain ⟨a, v0, v1, rfl, ha, rfl, rfl⟩ := dt2.mp hx
    walk_at "run"
    refine if_dF (by decide) ?_
    walk_at "run"
    refine if_dT rfl ?_
    walk_at "run"
    rename_i p hp
    exact k _ _ (by walk_at "kp") (dt2.mpr ⟨p, _, _, rfl, by walk_at "look", rfl, rfl⟩)
  | iff key wo =>
    obtain ⟨a, v0, v1, v2, rfl, ha, rfl, rfl, h3⟩ := dt3.mp hx
    obtain rfl := dt_oD.mp h3
    walk_at "run"
    refine if_dF (by decide) ?_
    walk_at "run"
    refine if_dF (by decide) ?_
    walk_at "run"
    refine if_dT rfl ?_
    walk_at "run"
    refine if_d (fun h1 => ?_) (fun h1 => ?_)
    · have e : rb (.iff key wo) r m = some (r.getD (none, 0)) := by
        show (if psh m r = wo then _ else _) = _
        rw [if_pos h1]
      rw [e] at k
      cases r with
      | none =>
        obtain rfl : y = V.non := hy
        walk_at "run"
        refine if_ndF rfl ?_
        walk_at "run"
        rename_i p hp
        exact k _ _ (by walk_at "kp") (dt2.mpr ⟨p, _, _, rfl, by walk_at "look", rfl, rfl⟩)
      | some r =>
        obtain ⟨p, _, rfl, _⟩ := id hy
        walk_at "run"
        refine if_ndT (fun z => nomatch z) ?_
        walk_at "run"
        exact k _ _ Kp.refl hy
    · have e : rb (.iff key wo) r m = none := by
        show (if psh m r = wo then _ else _) = _
        rw [if_neg h1]
      rw [e] at k
      walk_at "run"
      exact k _ _ Kp.refl rfl
  | add key x =>
    obtain ⟨a, v0, v1, v2, rfl, ha, rfl, rfl, rfl⟩ := dt3.mp hx
    walk_at "run"
    refine if_dF (by decide) ?_
    walk_at "run"
    refine if_dF (by decide) ?_
    walk_at "run"
    refine if_dF (by decide) ?_
    walk_at "run"
    cases hp : psh m r with
    | none =>
      refine if_dT rfl ?_
      walk_at "run"
      refine k _ _ Kp.refl ?_
      have e : rb (.add key x) r m = none := by
        show (match psh m r with | none => none | some w => _) = _
        rw [hp]
      rw [e]; rfl
    | some wo =>
      refine if_dF (fun z => nomatch z) ?_
      dsimp only [lv]
      walk_at "run"
      refine ⟨_, _, _, rfl, _, _, _, rfl, rfl, rfl, ?_⟩
      walk_at "run"
      have e : rb (.add key x) r m = if 0 ≤ wo + x ∧ wo + x ≤ 999 then some (some (wo + x), (r.getD (none, 0)).2) else none := by
        show (match psh m r with | none => none | some w => _) = _
        rw [hp]
      refine if_nd (fun h1 => ?_) (fun h1 => ?_)
      · rw [if_neg h1] at e
        walk_at "run"
        refine k _ _ Kp.refl ?_
        rw [e]; rfl
      · rw [if_pos h1] at e
        cases r with
        | none => cases hp
        | some r =>
          obtain ⟨p, u0, u1, rfl, hp', h0, rfl⟩ := dt2.mp hy
          walk_at "run"
          rename_i t ht
          refine k _ _ (by walk_at "kp") ?_
          rw [e]
          exact dt2.mpr ⟨t, _, _, rfl, by walk_at "look", rfl, rfl⟩
end
end W

end
section
/-! ### M0: words for walking through a reading (local) -/
local macro_rules | `(tactic| walk_at "st") => `(tactic| first
  | (with_reducible refine Cm.s_seq ?_) | (with_reducible refine Cm.s_asg ?_) | (with_reducible refine Cm.s_drop ?_) | (with_reducible refine Cm.s_ret ?_) | (with_reducible refine Cm.s_if ?_) | (with_reducible refine Cm.s_next ?_) | (with_reducible refine Cm.s_retN ?_) | (with_reducible refine Cm.s_rs ?_) | (with_reducible refine Cm.s_fld0 ?_)
  | ((with_reducible refine' Cm.e_var ?hv ?_); (case hv => exact rfl))
  | (with_reducible refine Cm.e_c ?_) | (with_reducible refine Cm.e_op ?_) | (with_reducible refine Cm.e_un ?_) | (with_reducible refine Cm.e_nil ?_) | (with_reducible refine Cm.e_cons ?_) | (with_reducible refine Cm.e_tup ?_) | (with_reducible refine Cm.e_lst ?_) | (with_reducible refine Cm.e_cb ?_) | (with_reducible refine Cm.e_call ?_) | (with_reducible refine Cm.e_if ?_)
  | (with_reducible refine Cm.e_andV ?_) | (with_reducible refine Cm.e_orV ?_) | (with_reducible refine Cm.e_notV ?_) | (with_reducible refine Cm.e_fld0 ?_) | (with_reducible refine Cm.e_meth0 ?_) | (with_reducible refine Cm.e_bm0 ?_) | (with_reducible refine Cm.e_bm ?_) | (with_reducible refine Cm.e_sl ?_) | (with_reducible refine Cm.o_none ?_) | (with_reducible refine Cm.o_some ?_) | (with_reducible refine Cm.e_dnew ?_)
  | (with_reducible refine Cm.e_test ?_) | (with_reducible refine Cm.e_tr ?_) | (with_reducible refine Cm.e_and ?_) | (with_reducible refine Cm.e_or ?_) | (with_reducible refine Cm.e_not ?_) | (with_reducible refine Cm.e_yes ?_) | (with_reducible refine Cm.e_chain ?_)
  | (with_reducible refine Cm.r_i0 ?_) | (with_reducible refine Cm.r_u ?_) | (with_reducible refine Cm.r_isNo ?_) | (with_reducible refine Cm.r_notNo ?_) | (with_reducible refine Cm.r_addI ?_) | (with_reducible refine Cm.r_int1b ?_) | (with_reducible refine Cm.r_max2 ?_)
  | ((with_reducible refine Cm.r_i ?hc ?_); (case hc => walk_at "num"))
  | ((with_reducible refine Cm.r_mulI ?hc ?_); (case hc => walk_at "num"))
  | ((with_reducible refine Cm.r_eqS ?hc ?_); (case hc => exact rfl))
  | ((with_reducible refine Cm.r_neS ?hc ?_); (case hc => exact rfl))
  | ((with_reducible refine' Cm.r_ixl ?h1 ?h2 ?_); (case h1 => walk_at "look"); (case h2 => walk_at "at"))
  | ((with_reducible refine' Cm.r_ixt ?h1 ?h2 ?_); (case h1 => walk_at "look"); (case h2 => walk_at "at"))
  | ((with_reducible refine' Cm.r_ixT ?h1 ?h2 ?_); (case h1 => walk_at "lookT"); (case h2 => walk_at "at"))
  | ((with_reducible refine' Cm.r_ixds ?h1 ?h2 ?_); (case h1 => walk_at "look"); (case h2 => walk_at "key"))
  | ((with_reducible refine' Cm.r_eqe ?h1 ?h2 ?_); (case h1 => walk_at "look"); (case h2 => walk_at "look"))
  | ((with_reducible refine' Cm.r_nee ?h1 ?h2 ?_); (case h1 => walk_at "look"); (case h2 => walk_at "look"))
  | ((with_reducible refine' Cm.r_lenl ?h1 ?_); (case h1 => walk_at "look"))
  | ((with_reducible refine' Cm.r_lent ?h1 ?_); (case h1 => walk_at "look"))
  | ((with_reducible refine' Cm.r_lenT ?h1 ?_); (case h1 => walk_at "lookT"))
  | ((with_reducible refine' Cm.r_listl ?h1 ?_); (case h1 => walk_at "look"); (intro _ _))
  | ((with_reducible refine' Cm.r_tupl ?h1 ?_); (case h1 => walk_at "look"); (intro _ _))
  | ((with_reducible refine' Cm.r_addL ?h1 ?h2 ?h3 ?_); (case h1 => walk_at "look"); (case h2 => walk_at "look"); (case h3 => walk_at "size"); (intro _ _))
  | ((with_reducible refine' Cm.m_append ?h1 ?h2 ?_); (case h1 => walk_at "look"); (case h2 => walk_at "size"))
  | ((with_reducible refine' Cm.m_clear ?h1 ?_); (case h1 => walk_at "look"))
  | ((with_reducible refine' Cm.g_setL ?h1 ?h2 ?_); (case h1 => walk_at "look"); (case h2 => walk_at "ix"))
  | ((with_reducible refine' Cm.g_setDs ?h1 ?h2 ?h3 ?_); (case h1 => walk_at "look"); (case h2 => walk_at "size"); (case h3 => walk_at "put"))
  | ((with_reducible refine' Cm.fld_at ?h1 ?h2 ?h3 ?h4 ?_); (case h1 => walk_at "look"); (case h2 => assumption); (case h3 => assumption); (case h4 => walk_at "key"))
  | ((with_reducible refine' Cm.fldset_at ?h1 ?h2 ?h3 ?h4 ?h5 ?_); (case h1 => walk_at "look"); (case h2 => assumption); (case h3 => assumption); (case h4 => walk_at "size"); (case h5 => walk_at "put"))
  | (with_reducible refine Cm.s_fldaug0 ?_)
  | ((with_reducible refine' Cm.aug_at ?h1 ?h2 ?h3 ?h4 ?_); (case h1 => walk_at "look"); (case h2 => assumption); (case h3 => assumption); (case h4 => walk_at "key"))
  | ((with_reducible refine' Cm.augset_at ?h1 ?h4 ?h5 ?_); (case h1 => walk_at "look"); (case h4 => walk_at "size"); (case h5 => walk_at "put"))
  | (with_reducible refine Cm.in_sub_at ?_) | (with_reducible refine Cm.in_add_at ?_)
  | ((with_reducible refine' Cm.meth_at ?h1 ?h2 ?_); (case h1 => walk_at "look"); (case h2 => walk_at "key"))
  | ((with_reducible refine Cm.new_at ?h1 ?_); (case h1 => walk_at "size"); (intro _ _))
  | ((with_reducible refine Cm.and_at (A := L2.tyV _ "list" _ _) ?h1 ?_); (case h1 => exact Cm.ty_lst (by walk_at "look")))
  | ((with_reducible refine' Cm.g_tupt ?h1 ?h2 ?_); (case h1 => walk_at "look"); (case h2 => exact rfl))
  | ((with_reducible refine' Cm.g_tup ?h1 ?h2 ?_); (case h1 => walk_at "lookT"); (case h2 => exact rfl))
  | (with_reducible refine Cm.g_name ?_) | (with_reducible refine Cm.g_sub ?_) | (with_reducible refine Cm.g_cons ?_) | (with_reducible refine Cm.g_nil ?_)
  | (with_reducible refine Cm.int_at ?_) | (with_reducible refine Cm.bl_at ?_) | (with_reducible refine Cm.tr_bl ?_) | (with_reducible refine Cm.tr_non ?_)
  | ((with_reducible refine' Cm.m_pop0 ?h1 ?_); (case h1 => walk_at "look"))
  | ((with_reducible refine' Cm.r_slTo ?h1 ?h2 ?_); (case h1 => walk_at "look"); (case h2 => walk_at "num2"); (intro _ _))
  | ((with_reducible refine' Cm.r_slFrom ?h1 ?h2 ?_); (case h1 => walk_at "look"); (case h2 => walk_at "num2"); (intro _ _))
  | ((with_reducible refine' Cm.at_forL ?h1 ?_); (case h1 => walk_at "look"))
  | ((with_reducible refine' Cm.at_forT ?h1 ?_); (case h1 => walk_at "look"))
  | ((with_reducible refine' Cm.at_forR ?h1 ?h2 ?_); (case h1 => walk_at "num2"); (case h2 => walk_at "num2"))
  | ((with_reducible refine' Cm.at_forZ ?h1 ?h2 ?_); (case h1 => walk_at "look"); (case h2 => walk_at "look"))
  | (with_reducible refine Cm.s_forZ ?_) | (with_reducible refine Cm.s_forR ?_)
  | ((with_reducible refine Cm.and_at (A := _ = _) ?h1 ?_); (case h1 => exact rfl))
  | ((with_reducible show L2.rIsi _ _ _ _); walk_at "isi")
  | (with_reducible refine Cm.ite_nt ?_) | (with_reducible refine Cm.ite_nf ?_)
  | (with_reducible refine L2.iteT ?_) | (with_reducible refine L2.iteF ?_)
  | dsimp only
  | fail)
local macro_rules | `(tactic| walk_at "run") => `(tactic| repeat (walk_at "st"))
local macro_rules | `(tactic| walk_at "num") => `(tactic| first
  | exact Or.inr ⟨by decide, by decide⟩ | exact Or.inl ⟨by decide, by decide⟩
  | exact Cm.wdiv (by first | decide | omega) (by first | decide | omega)
  | (show (0 : Int) < _; first | decide | omega)
  | exact ⟨by decide, by decide, by decide⟩
  | fail)
local macro_rules | `(tactic| walk_at "put") => `(tactic| exact rfl)
local macro_rules | `(tactic| walk_at "fl") => `(tactic| first | exact Cm.fl0 | (refine' Cm.flS ?hz; (case hz => walk_at "fl")) | fail)
local macro_rules | `(tactic| walk_at "size") => `(tactic| first | exact Cm.sz_lit rfl | exact Cm.sz_lt rfl | exact Cm.fs_lt rfl | decide | (refine' Nat.lt_of_le_of_lt ?ha ?hb; (case ha => walk_at "fl"); (case hb => decide)) | (simp only [List.length_cons, List.length_nil, List.length_append, List.length_map, List.length_set, List.length_replicate, PySem.sizeLine_eq]; omega) | (simp only [List.length_cons, List.length_nil, List.length_append, List.length_map, List.length_set, List.length_replicate, PySem.sizeLine_eq] at *; omega) | fail)
local macro_rules | `(tactic| walk_at "at") => `(tactic| first | assumption | (with_reducible exact Cm.at0) | (with_reducible exact Cm.at1) | (with_reducible exact Cm.at2) | (with_reducible exact Cm.at3) | (with_reducible exact Cm.at4) | (with_reducible exact Cm.at5) | (with_reducible exact Cm.at6) | (with_reducible exact Cm.at7) | (with_reducible exact Cm.at8) | (with_reducible exact Cm.at0s) | (with_reducible exact Cm.at1s) | (with_reducible exact Cm.at01s) | (with_reducible exact Cm.at10s) | fail)
local macro_rules | `(tactic| walk_at "ix") => `(tactic| first | exact Cm.ix0 (by walk_at "size") | exact Cm.ix1 (by walk_at "size") | assumption | fail)
local macro_rules | `(tactic| walk_at "key") => `(tactic| first | assumption | fail)
local macro_rules | `(tactic| walk_at "ne") => `(tactic| first
  | assumption
  | (refine Ne.symm ?_; assumption)
  | (refine' L2.ne_of_none ?h1 ?h2; (case h2 => assumption); (case h1 => walk_at "look"))
  | (refine' Ne.symm (L2.ne_of_none ?h1 ?h2); (case h2 => assumption); (case h1 => walk_at "look"))
  | fail)
local macro_rules | `(tactic| walk_at "lookT") => `(tactic| first
  | assumption
  | exact L2.SqT.of (by walk_at "look")
  | fail)
local macro_rules | `(tactic| walk_at "look") => `(tactic| first
  | assumption
  | exact L2.upd_same
  | ((fail_if_success (with_reducible refine Eq.trans L2.upd_same ?_)); (refine' Eq.trans (L2.upd_ne ?h1) ?h2); (case h1 => walk_at "ne"); (case h2 => walk_at "look"))
  | (refine' Cm.kp_look ?h1 ?h2 ?h3 ?h4; (case h1 => assumption); (case h2 => walk_at "look"); (case h3 => intro _ z; cases z); (case h4 => first | exact Or.inl rfl | exact Or.inr (by walk_at "out")))
  | fail)
local macro_rules | `(tactic| walk_at "out") => `(tactic| first
  | assumption
  | exact fun z => z
  | exact fun z => z.elim (fun e => absurd e (by walk_at "ne")) (fun e => absurd e (by walk_at "ne"))
  | exact fun e => absurd e (by walk_at "ne")
  | fail)
local macro_rules | `(tactic| walk_at "dom") => `(tactic| first
  | exact Cm.dm_refl
  | (refine Cm.dm_upd ?_; walk_at "dom")
  | (refine' Cm.dm_kp ?h1 ?h2; (case h2 => assumption); (case h1 => walk_at "dom"))
  | fail)
local macro_rules | `(tactic| walk_at "free") => `(tactic| first
  | assumption
  | exact Cm.nw_of (by assumption)
  | (refine' Cm.dm_use ?h1 ?h2; (case h2 => assumption); (case h1 => walk_at "dom"))
  | (refine' Cm.dm_use2 ?h1 ?h2; (case h2 => assumption); (case h1 => walk_at "dom"))
  | fail)
local macro_rules | `(tactic| walk_at "in") => `(tactic| first
  | exact Or.inl rfl | exact Or.inl (Or.inl rfl) | exact Or.inl (Or.inr rfl) | exact Or.inl (Or.inr (Or.inl rfl)) | exact Or.inl (Or.inr (Or.inr rfl))
  | exact Or.inl (by assumption)
  | exact Or.inr (by walk_at "free")
  | fail)
local macro_rules | `(tactic| walk_at "kp") => `(tactic| first
  | assumption
  | exact Cm.Kp.refl
  | (refine' Cm.Kp.new' ?h1 ?h2; (case h2 => assumption); (case h1 => walk_at "kp"))
  | (refine' Cm.Kp.setX' ?h1 ?h2 ?h4 ?h5 ?h3; (case h2 => walk_at "look"); (case h4 => exact rfl); (case h5 => intro _ z; cases z); (case h3 => walk_at "in"); (case h1 => walk_at "kp"))
  | (refine' Cm.kp_step ?h1 ?h2 ?h3; (case h2 => assumption); (case h3 => walk_at "sub"); (case h1 => walk_at "kp"))
  | fail)
local macro_rules | `(tactic| walk_at "sub") => `(tactic| first
  | exact fun _ z => z.elim
  | exact fun _ z => Or.inl z
  | (intro a z; rcases z with rfl | rfl <;> walk_at "in")
  | (intro a z; subst z; walk_at "in")
  | fail)
local macro_rules | `(tactic| walk_at "num2") => `(tactic| first | decide | omega | fail)

local macro_rules | `(tactic| walk_at "isi") => `(tactic| first | (with_reducible refine Cm.isi_non_bool ?_) | (with_reducible refine Cm.isi_non_int ?_) | (with_reducible refine Cm.isi_non_str ?_) | (with_reducible refine Cm.isi_non_tuple ?_) | (with_reducible refine Cm.isi_non_list ?_) | (with_reducible refine Cm.isi_bl_bool ?_) | (with_reducible refine Cm.isi_bl_int ?_) | (with_reducible refine Cm.isi_bl_str ?_) | (with_reducible refine Cm.isi_bl_tuple ?_) | (with_reducible refine Cm.isi_bl_list ?_) | (with_reducible refine Cm.isi_int_bool ?_) | (with_reducible refine Cm.isi_int_int ?_) | (with_reducible refine Cm.isi_int_str ?_) | (with_reducible refine Cm.isi_int_tuple ?_) | (with_reducible refine Cm.isi_int_list ?_) | (with_reducible refine Cm.isi_str_bool ?_) | (with_reducible refine Cm.isi_str_int ?_) | (with_reducible refine Cm.isi_str_str ?_) | (with_reducible refine Cm.isi_str_tuple ?_) | (with_reducible refine Cm.isi_str_list ?_) | ((with_reducible refine' Cm.isi_tup_bool ?h1 ?_); (case h1 => walk_at "look")) | ((with_reducible refine' Cm.isi_tup_int ?h1 ?_); (case h1 => walk_at "look")) | ((with_reducible refine' Cm.isi_tup_str ?h1 ?_); (case h1 => walk_at "look")) | ((with_reducible refine' Cm.isi_tup_tuple ?h1 ?_); (case h1 => walk_at "look")) | ((with_reducible refine' Cm.isi_tup_list ?h1 ?_); (case h1 => walk_at "look")) | ((with_reducible refine' Cm.isi_lst_bool ?h1 ?_); (case h1 => walk_at "look")) | ((with_reducible refine' Cm.isi_lst_int ?h1 ?_); (case h1 => walk_at "look")) | ((with_reducible refine' Cm.isi_lst_str ?h1 ?_); (case h1 => walk_at "look")) | ((with_reducible refine' Cm.isi_lst_tuple ?h1 ?_); (case h1 => walk_at "look")) | ((with_reducible refine' Cm.isi_lst_list ?h1 ?_); (case h1 => walk_at "look")) | fail)

/-! ### M1: more words -/
local macro_rules | `(tactic| walk_at "st") => `(tactic| first
  | ((with_reducible refine Cm.and_at (A := L2.tyV _ "dict" _ _) ?h1 ?_); (case h1 => exact Cm.ty_dic (by walk_at "look")))
  | (with_reducible refine Cm.e_dget2 ?_) | (with_reducible refine Cm.e_dpop2 ?_) | (with_reducible refine Cm.e_dpop1 ?_) | (with_reducible refine Cm.s_rx ?_)
  | ((with_reducible refine' Cm.isd_at ?h1 ?_); (case h1 => walk_at "look"))
  | ((with_reducible refine' Cm.get_at ?h1 ?_); (case h1 => walk_at "look"))
  | ((with_reducible refine' Cm.pop1_at ?h1 ?h2 ?_); (case h1 => walk_at "look"); (case h2 => assumption))
  | ((with_reducible refine' Cm.r_dictD ?h1 ?_); (case h1 => walk_at "look"); (intro _ _))
  | ((with_reducible refine' Cm.r_lenD ?h1 ?_); (case h1 => walk_at "look"))
  | ((with_reducible refine' Cm.r_ixdi ?h1 ?h2 ?_); (case h1 => walk_at "look"); (case h2 => assumption))
  | ((with_reducible refine' Cm.g_setdi ?h1 ?h2 ?_); (case h1 => walk_at "look"); (case h2 => first | assumption | omega))
  | (with_reducible refine Cm.r_min2 ?_)
  | (with_reducible refine W.r_eq_lv ?_) | (with_reducible refine W.r_ne_lv ?_) | (with_reducible refine W.r_isNo_lv ?_) | (with_reducible refine W.r_notNo_lv ?_)
  | fail)

namespace W
open PySem PySem.Spec PyProof.Rows L2 Cm
section
variable {w : World} {K : PySem.W.Frag} {mg : Str → Option Value}
theorem pure_need_deal (vs : List V) (H : Hp) (Q : VK) (E : XK) (h : S_need_deal K vs H Q E) : t_need_deal K E { nx := fun _ H' => Q .non H', rt := Q } (start N_need_deal vs) H := by
  obtain ⟨_, rfl, ds, r, hx, hd, hn, k1, k2⟩ := h
  obtain ⟨a, xs, rfl, ha, hA⟩ := hx
  have hlen := hA.length
  have hrp : ∀ p, r = some p → p ≤ ds.length := fun p e => by
    subst e
    rcases hn with ⟨rfl, rfl⟩ | ⟨d, h1, _⟩
    · exact Nat.zero_le _
    · have := (List.getElem?_eq_some_iff.mp h1).1; omega
  unfold t_need_deal
  walk_at "run"
  refine s_forE ?_
  walk_at "run"
  refine ⟨a, rfl, .inr ⟨xs, SqT.of ha, ?_⟩⟩
  refine forE (xs := xs) (fun i σ' H' => ∃ v1 v2, σ' = [some (.ref a), v1, v2] ∧ Kp (tabs K) No H H' ∧ (∀ p, r = some p → ds ≠ [] → i ≤ p)) ⟨none, none, rfl, Kp.refl, fun p _ _ => Nat.zero_le _⟩ (fun i σ' H' ⟨_, _, _, z, _⟩ => z.tup ha) ?_ ?_
  · rintro i x t σ' H' hx ⟨v1, v2, rfl, kp, hi⟩ ht
    obtain ⟨d, hd1, hd2⟩ := hA.get hx
    have hne : ds ≠ [] := fun z => by rw [z] at hd1; simp at hd1
    have hdi := hd.2 d (List.mem_of_getElem? hd1)
    walk_at "run"
    have kt : Kp (tabs K) No H (upd H' t (.tup [.int (i : Nat), x])) := by walk_at "kp"
    refine if_d (fun h1 => ?_) (fun h1 => ?_)
    · walk_at "run"
      refine rx_at fun dd hdd => ?_
      cases r with
      | none => have h2 := hn.2.1; have := (List.getElem?_eq_some_iff.mp hd1).1; omega
      | some p =>
        have h3 := hi p rfl hne
        rcases hn with ⟨h4, _⟩ | ⟨d', h4, h5, h6⟩
        · exact (hne h4).elim
        · have h7 : p = i := by
            rcases Nat.lt_or_ge i p with z | z
            · have := (h5 i z).1; omega
            · omega
          subst h7
          exact k2 p rfl _ dd (by walk_at "kp") upd_same (by walk_at "free")
    · walk_at "run"
      have hgood : (r = none → good d) ∧ (∀ p, r = some p → i < p → good d) := by
        constructor
        · rintro rfl
          exact hn.2.2 d (List.mem_of_getElem? hd1)
        · rintro p rfl hip
          rcases hn with ⟨h4, _⟩ | ⟨d', h4, h5, h6⟩
          · exact (hne h4).elim
          · obtain ⟨_, e, h8, h9⟩ := h5 i hip
            rw [hd1] at h8; cases h8; exact h9
      by_cases hg : r = none ∨ ∃ p, r = some p ∧ i < p
      · have hg2 : good d := by
          rcases hg with z | ⟨p, z1, z2⟩
          · exact hgood.1 z
          · exact hgood.2 p z1 z2
        obtain ⟨es, rfl, hb⟩ := hg2
        refine ⟨_, rfl, es, true, Dt.keep kt hdi hd2, hb, hdi.up (by decide), fun H2 k2 => ?_⟩
        walk_at "run"
        refine ⟨_, _, rfl, by walk_at "kp", fun p e hp => ?_⟩
        rcases hg with z | ⟨p', z1, z2⟩
        · rw [z] at e; cases e
        · rw [z1] at e; cases e; exact z2
      · cases r with
        | none => exact (hg (.inl rfl)).elim
        | some p =>
          have h3 := hi p rfl hne
          have h7 : p = i := by
            rcases Nat.lt_or_ge i p with z | z
            · exact (hg (.inr ⟨p, rfl, z⟩)).elim
            · omega
          subst h7
          rcases hn with ⟨h4, _⟩ | ⟨d', h4, h5, h6⟩
          · exact (hne h4).elim
          · rw [hd1] at h4; cases h4
            rcases h6 with h6 | ⟨es, rfl, hb⟩
            · omega
            · refine ⟨_, rfl, es, false, Dt.keep kt hdi hd2, hb, hdi.up (by decide), fun H2 k3 => ?_⟩
              walk_at "run"
              refine rx_at fun dd hdd => ?_
              exact k2 p rfl _ dd (by walk_at "kp") upd_same (by walk_at "free")
  · rintro σ' H' ⟨v1, v2, rfl, kp, hi⟩
    have ha2 := kp.tup ha
    walk_at "run"
    refine if_d (fun h1 => ?_) (fun h1 => ?_)
    · have h2 : ds = [] := by
        injection h1 with h1
        cases ds with
        | nil => rfl
        | cons d ds => simp only [List.length_cons] at hlen; omega
      walk_at "run"
      refine rx_at fun dd hdd => ?_
      cases r with
      | none => have := hn.1; rw [h2] at this; exact absurd this (by decide)
      | some p =>
        have e : p = 0 := by have := hrp p rfl; rw [h2] at this; simpa using this
        subst e
        exact k2 0 rfl _ dd (by walk_at "kp") upd_same (by walk_at "free")
    · walk_at "run"
      cases r with
      | none => exact k1 rfl H' kp
      | some p =>
        have hne : ds ≠ [] := fun z => h1 (by rw [z] at hlen; simp only [List.length_nil] at hlen; rw [hlen]; rfl)
        have h3 := hi p rfl hne
        rcases hn with ⟨h4, _⟩ | ⟨d', h4, _⟩
        · exact (hne h4).elim
        · have := (List.getElem?_eq_some_iff.mp h4).1; omega
end
end W

end
section
/-! ### the table: what is lent and given back -/
namespace W
open PySem PySem.Spec PyProof.Rows L2 Cm
section
variable {K : PySem.W.Frag} {H : Hp} {p : Addr} {T : TB} {F : Addr → Prop}
theorem pgf_di {f : Rows} {i : Nat} {k : Int} {d : PyData} (e : pgf f i k = some d) : Di 4 d := by
  unfold pgf at e
  split at e
  · cases hf : f k with
    | none => rw [hf] at e; cases e
    | some r =>
      rw [hf] at e; cases e
      exact di_tup (Nat.le_of_ble_eq_true rfl) fun d hd => by
        rcases List.mem_cons.mp hd with rfl | hd
        · exact Di.int
        · rw [List.mem_singleton.mp hd]; exact Di.int
  · cases e
theorem TableAt.page (h : TableAt K H p T F) {i : Nat} (hi : i < 8) : ∃ (dx rl ha a : Addr) (ra : List Addr) (kvs : List (Key × V)),
    H p = some (.ins (He.ga K "Table") dx (tF rl ha T.moment T.number)) ∧ H rl = some (.lst (ra.map V.ref)) ∧ ra[i]? = some a ∧ H a = some (.dK kvs) ∧ DR H kvs (pgf T.rows i) ∧ F a ∧
    ∀ (Tt : List (Addr × Str)) (H' : Hp) (kvs' : List (Key × V)) (f' : Rows), Kp Tt (fun b => b = a) H H' → H' a = some (.dK kvs') → DR H' kvs' (pgf f' i) → (∀ k, k / 4 ≠ (i : Int) → f' k = T.rows k) → ({ T with rows := f' } : TB).Ok → TableAt K H' p { T with rows := f' } F := by
  obtain ⟨dx, rl, hA, ra, hk, h1, h2, h3, h4, h5, h6, h7, h8, f⟩ := h
  obtain ⟨a, ea⟩ : ∃ a, ra[i]? = some a := ⟨_, List.getElem?_eq_getElem (by omega)⟩
  obtain ⟨kvs, e1, e2⟩ := h4 i a ea
  have hm : a ∈ ra := List.mem_of_getElem? ea
  refine ⟨dx, rl, hA, a, ra, kvs, h1, h2, ea, e1, e2, (f a).mpr (.inr (.inr (List.mem_cons_of_mem _ hm))), fun Tt H' kvs' f' k g1 g2 g3 g4 => ?_⟩
  rw [List.nodup_cons] at h7
  refine ⟨dx, rl, hA, ra, hk, k.ins h1 (fun z => by rw [z, e1] at h1; cases h1), k.lst h2 (fun z => by rw [z, e1] at h2; cases h2), h3, fun j b ej => ?_, k.dK h5 (fun z => h7.1 (by rw [z]; exact hm)), h6.keep k, List.nodup_cons.mpr h7, g4, f⟩
  by_cases hj : j = i
  · subst hj
    rw [ea] at ej; cases ej
    exact ⟨kvs', g1, g2⟩
  · obtain ⟨kv, c1, c2⟩ := h4 j b ej
    have hb : b ≠ a := fun z => hj (nd_inj h7.2 ej (by rw [z]; exact ea))
    refine ⟨kv, k.dK c1 hb, (c2.keep k).congr fun q => ?_⟩
    show pgf T.rows j q = pgf f' j q
    unfold pgf
    by_cases hq : q / 4 = (j : Int)
    · rw [if_pos hq, if_pos hq, g3 q (by omega)]
    · rw [if_neg hq, if_neg hq]
theorem TableAt.hd (h : TableAt K H p T F) : ∃ (dx rl ha : Addr) (hk : List (Key × V)),
    H p = some (.ins (He.ga K "Table") dx (tF rl ha T.moment T.number)) ∧ H ha = some (.dK hk) ∧ DR H hk (hdf T.hands) ∧ F ha ∧
    ∀ (Tt : List (Addr × Str)) (H' : Hp) (kvs' : List (Key × V)) (f' : Hands), Kp Tt (fun b => b = ha) H H' → H' ha = some (.dK kvs') → DR H' kvs' (hdf f') → ({ T with hands := f' } : TB).Ok → TableAt K H' p { T with hands := f' } F := by
  obtain ⟨dx, rl, hA, ra, hk, h1, h2, h3, h4, h5, h6, h7, h8, f⟩ := h
  refine ⟨dx, rl, hA, hk, h1, h5, h6, (f hA).mpr (.inr (.inr List.mem_cons_self)), fun Tt H' kvs' f' k g1 g2 g4 => ?_⟩
  rw [List.nodup_cons] at h7
  refine ⟨dx, rl, hA, ra, kvs', k.ins h1 (fun z => by rw [z, h5] at h1; cases h1), k.lst h2 (fun z => by rw [z, h5] at h2; cases h2), h3, fun j b ej => ?_, g1, g2, List.nodup_cons.mpr h7, g4, f⟩
  obtain ⟨kv, c1, c2⟩ := h4 j b ej
  exact ⟨kv, k.dK c1 (fun z => h7.1 (by rw [← z]; exact List.mem_of_getElem? ej)), c2.keep k⟩
theorem TableAt.ins (h : TableAt K H p T F) : ∃ (dx rl ha : Addr),
    H p = some (.ins (He.ga K "Table") dx (tF rl ha T.moment T.number)) ∧ F p ∧
    ∀ (Tt : List (Addr × Str)) (H' : Hp) (m n : Int), Kp Tt (fun b => b = p) H H' → H' p = some (.ins (He.ga K "Table") dx (tF rl ha m n)) → TableAt K H' p { T with moment := m, number := n } F := by
  obtain ⟨dx, rl, hA, ra, hk, h1, h2, h3, h4, h5, h6, h7, h8, f⟩ := h
  refine ⟨dx, rl, hA, h1, (f p).mpr (.inl rfl), fun Tt H' m n k g1 => ?_⟩
  refine ⟨dx, rl, hA, ra, hk, g1, k.lst h2 (fun z => by rw [z, h1] at h2; cases h2), h3, fun j b ej => ?_, k.dK h5 (fun z => by rw [z, h1] at h5; cases h5), h6.keep k, h7, ⟨h8.rw, h8.hd⟩, f⟩
  obtain ⟨kv, c1, c2⟩ := h4 j b ej
  exact ⟨kv, k.dK c1 (fun z => by rw [z, h1] at c1; cases c1), c2.keep k⟩
theorem at_page {ra : List Addr} {k : Int} {i : Nat} {a : Addr} (e : ra[i]? = some a) (hk : k = (i : Int)) : atI (ra.map V.ref) k = some (.ref a) := by
  rw [hk]
  refine atI_nat ?_
  rw [List.getElem?_map, e]; rfl
/-- a row of the table, as a value -/
theorem row_get {kvs : List (Key × V)} {i : Nat} {k : Int} (r : DR H kvs (pgf T.rows i)) (hk : k / 4 = (i : Int)) : RowV H ((valV kvs (.inl k)).getD .non) ((T.rows k).map toP) := by
  cases hf : T.rows k with
  | none =>
    rw [r.non k (by unfold pgf; rw [if_pos hk, hf]; rfl)]
    rfl
  | some q =>
    obtain ⟨v, e1, e2⟩ := r.get k (rowD q) (by unfold pgf; rw [if_pos hk, hf]; rfl)
    rw [e1]
    exact e2
end
end W

end
section
namespace W
open PySem PySem.Spec PyProof.Rows L2 Cm
theorem tF_g_rows {r : Addr} {h : Addr} {m : Int} {n : Int} : List.lookup (("rows" : Str)) (tF (r) (h) (m) (n)) = some (.ref r) := by kernel_rfl
theorem tF_p_rows {r : Addr} {h : Addr} {m : Int} {n : Int} {z : Addr} : putF "rows" (.ref z) (tF (r) (h) (m) (n)) = (tF (z) (h) (m) (n)) := by kernel_rfl
theorem tF_g_hands {r : Addr} {h : Addr} {m : Int} {n : Int} : List.lookup (("hands" : Str)) (tF (r) (h) (m) (n)) = some (.ref h) := by kernel_rfl
theorem tF_p_hands {r : Addr} {h : Addr} {m : Int} {n : Int} {z : Addr} : putF "hands" (.ref z) (tF (r) (h) (m) (n)) = (tF (r) (z) (m) (n)) := by kernel_rfl
theorem tF_g_moment {r : Addr} {h : Addr} {m : Int} {n : Int} : List.lookup (("moment" : Str)) (tF (r) (h) (m) (n)) = some (.int m) := by kernel_rfl
theorem tF_p_moment {r : Addr} {h : Addr} {m : Int} {n : Int} {z : Int} : putF "moment" (.int z) (tF (r) (h) (m) (n)) = (tF (r) (h) (z) (n)) := by kernel_rfl
theorem tF_g_number {r : Addr} {h : Addr} {m : Int} {n : Int} : List.lookup (("number" : Str)) (tF (r) (h) (m) (n)) = some (.int n) := by kernel_rfl
theorem tF_p_number {r : Addr} {h : Addr} {m : Int} {n : Int} {z : Int} : putF "number" (.int z) (tF (r) (h) (m) (n)) = (tF (r) (h) (m) (z)) := by kernel_rfl
theorem tF_n_row_at {r : Addr} {h : Addr} {m : Int} {n : Int} : List.lookup (("row_at" : Str)) (tF (r) (h) (m) (n)) = none := by kernel_rfl
theorem tF_n_shown {r : Addr} {h : Addr} {m : Int} {n : Int} : List.lookup (("shown" : Str)) (tF (r) (h) (m) (n)) = none := by kernel_rfl
theorem tF_n_content {r : Addr} {h : Addr} {m : Int} {n : Int} : List.lookup (("content" : Str)) (tF (r) (h) (m) (n)) = none := by kernel_rfl
theorem tF_n_put_page {r : Addr} {h : Addr} {m : Int} {n : Int} : List.lookup (("put_page" : Str)) (tF (r) (h) (m) (n)) = none := by kernel_rfl
theorem tF_n_prune {r : Addr} {h : Addr} {m : Int} {n : Int} : List.lookup (("prune" : Str)) (tF (r) (h) (m) (n)) = none := by kernel_rfl
theorem tF_n_change {r : Addr} {h : Addr} {m : Int} {n : Int} : List.lookup (("change" : Str)) (tF (r) (h) (m) (n)) = none := by kernel_rfl
theorem tF_n_whole {r : Addr} {h : Addr} {m : Int} {n : Int} : List.lookup (("whole" : Str)) (tF (r) (h) (m) (n)) = none := by kernel_rfl
theorem tF_len {r : Addr} {h : Addr} {m : Int} {n : Int} : (tF (r) (h) (m) (n)).length = 4 := rfl
end W

namespace W
open PySem PySem.Spec PyProof.Rows L2 Cm
theorem oS_g_rows {r : Addr} {h : Addr} {m : Int} {n : Int} : valV (oS (r) (h) (m) (n)) (.inr "rows") = some (.ref r) := by kernel_rfl
theorem oS_p_rows {r : Addr} {h : Addr} {m : Int} {n : Int} {z : Addr} : putK (oS (r) (h) (m) (n)) (.inr "rows") (.ref z) = (oS (z) (h) (m) (n)) := by kernel_rfl
theorem oS_g_hands {r : Addr} {h : Addr} {m : Int} {n : Int} : valV (oS (r) (h) (m) (n)) (.inr "hands") = some (.ref h) := by kernel_rfl
theorem oS_p_hands {r : Addr} {h : Addr} {m : Int} {n : Int} {z : Addr} : putK (oS (r) (h) (m) (n)) (.inr "hands") (.ref z) = (oS (r) (z) (m) (n)) := by kernel_rfl
theorem oS_g_moment {r : Addr} {h : Addr} {m : Int} {n : Int} : valV (oS (r) (h) (m) (n)) (.inr "moment") = some (.int m) := by kernel_rfl
theorem oS_p_moment {r : Addr} {h : Addr} {m : Int} {n : Int} {z : Int} : putK (oS (r) (h) (m) (n)) (.inr "moment") (.int z) = (oS (r) (h) (z) (n)) := by kernel_rfl
theorem oS_g_number {r : Addr} {h : Addr} {m : Int} {n : Int} : valV (oS (r) (h) (m) (n)) (.inr "number") = some (.int n) := by kernel_rfl
theorem oS_p_number {r : Addr} {h : Addr} {m : Int} {n : Int} {z : Int} : putK (oS (r) (h) (m) (n)) (.inr "number") (.int z) = (oS (r) (h) (m) (z)) := by kernel_rfl
theorem oS_len {r : Addr} {h : Addr} {m : Int} {n : Int} : (oS (r) (h) (m) (n)).length = 4 := rfl
end W

end
section
/-! ### M0: words for walking through a reading (local) -/
local macro_rules | `(tactic| walk_at "st") => `(tactic| first
  | (with_reducible refine Cm.s_seq ?_) | (with_reducible refine Cm.s_asg ?_) | (with_reducible refine Cm.s_drop ?_) | (with_reducible refine Cm.s_ret ?_) | (with_reducible refine Cm.s_if ?_) | (with_reducible refine Cm.s_next ?_) | (with_reducible refine Cm.s_retN ?_) | (with_reducible refine Cm.s_rs ?_) | (with_reducible refine Cm.s_fld0 ?_)
  | ((with_reducible refine' Cm.e_var ?hv ?_); (case hv => exact rfl))
  | (with_reducible refine Cm.e_c ?_) | (with_reducible refine Cm.e_op ?_) | (with_reducible refine Cm.e_un ?_) | (with_reducible refine Cm.e_nil ?_) | (with_reducible refine Cm.e_cons ?_) | (with_reducible refine Cm.e_tup ?_) | (with_reducible refine Cm.e_lst ?_) | (with_reducible refine Cm.e_cb ?_) | (with_reducible refine Cm.e_call ?_) | (with_reducible refine Cm.e_if ?_)
  | (with_reducible refine Cm.e_andV ?_) | (with_reducible refine Cm.e_orV ?_) | (with_reducible refine Cm.e_notV ?_) | (with_reducible refine Cm.e_fld0 ?_) | (with_reducible refine Cm.e_meth0 ?_) | (with_reducible refine Cm.e_bm0 ?_) | (with_reducible refine Cm.e_bm ?_) | (with_reducible refine Cm.e_sl ?_) | (with_reducible refine Cm.o_none ?_) | (with_reducible refine Cm.o_some ?_) | (with_reducible refine Cm.e_dnew ?_)
  | (with_reducible refine Cm.e_test ?_) | (with_reducible refine Cm.e_tr ?_) | (with_reducible refine Cm.e_and ?_) | (with_reducible refine Cm.e_or ?_) | (with_reducible refine Cm.e_not ?_) | (with_reducible refine Cm.e_yes ?_) | (with_reducible refine Cm.e_chain ?_)
  | (with_reducible refine Cm.r_i0 ?_) | (with_reducible refine Cm.r_u ?_) | (with_reducible refine Cm.r_isNo ?_) | (with_reducible refine Cm.r_notNo ?_) | (with_reducible refine Cm.r_addI ?_) | (with_reducible refine Cm.r_int1b ?_) | (with_reducible refine Cm.r_max2 ?_)
  | ((with_reducible refine Cm.r_i ?hc ?_); (case hc => walk_at "num"))
  | ((with_reducible refine Cm.r_mulI ?hc ?_); (case hc => walk_at "num"))
  | ((with_reducible refine Cm.r_eqS ?hc ?_); (case hc => exact rfl))
  | ((with_reducible refine Cm.r_neS ?hc ?_); (case hc => exact rfl))
  | ((with_reducible refine' Cm.r_ixl ?h1 ?h2 ?_); (case h1 => walk_at "look"); (case h2 => walk_at "at"))
  | ((with_reducible refine' Cm.r_ixt ?h1 ?h2 ?_); (case h1 => walk_at "look"); (case h2 => walk_at "at"))
  | ((with_reducible refine' Cm.r_ixT ?h1 ?h2 ?_); (case h1 => walk_at "lookT"); (case h2 => walk_at "at"))
  | ((with_reducible refine' Cm.r_ixds ?h1 ?h2 ?_); (case h1 => walk_at "look"); (case h2 => walk_at "key"))
  | ((with_reducible refine' Cm.r_eqe ?h1 ?h2 ?_); (case h1 => walk_at "look"); (case h2 => walk_at "look"))
  | ((with_reducible refine' Cm.r_nee ?h1 ?h2 ?_); (case h1 => walk_at "look"); (case h2 => walk_at "look"))
  | ((with_reducible refine' Cm.r_lenl ?h1 ?_); (case h1 => walk_at "look"))
  | ((with_reducible refine' Cm.r_lent ?h1 ?_); (case h1 => walk_at "look"))
  | ((with_reducible refine' Cm.r_lenT ?h1 ?_); (case h1 => walk_at "lookT"))
  | ((with_reducible refine' Cm.r_listl ?h1 ?_); (case h1 => walk_at "look"); (intro _ _))
  | ((with_reducible refine' Cm.r_tupl ?h1 ?_); (case h1 => walk_at "look"); (intro _ _))
  | ((with_reducible refine' Cm.r_addL ?h1 ?h2 ?h3 ?_); (case h1 => walk_at "look"); (case h2 => walk_at "look"); (case h3 => walk_at "size"); (intro _ _))
  | ((with_reducible refine' Cm.m_append ?h1 ?h2 ?_); (case h1 => walk_at "look"); (case h2 => walk_at "size"))
  | ((with_reducible refine' Cm.m_clear ?h1 ?_); (case h1 => walk_at "look"))
  | ((with_reducible refine' Cm.g_setL ?h1 ?h2 ?_); (case h1 => walk_at "look"); (case h2 => walk_at "ix"))
  | ((with_reducible refine' Cm.g_setDs ?h1 ?h2 ?h3 ?_); (case h1 => walk_at "look"); (case h2 => walk_at "size"); (case h3 => walk_at "put"))
  | ((with_reducible refine' Cm.fld_at ?h1 ?h2 ?h3 ?h4 ?_); (case h1 => walk_at "look"); (case h2 => assumption); (case h3 => assumption); (case h4 => walk_at "key"))
  | ((with_reducible refine' Cm.fldset_at ?h1 ?h2 ?h3 ?h4 ?h5 ?_); (case h1 => walk_at "look"); (case h2 => assumption); (case h3 => assumption); (case h4 => walk_at "size"); (case h5 => walk_at "put"))
  | (with_reducible refine Cm.s_fldaug0 ?_)
  | ((with_reducible refine' Cm.aug_at ?h1 ?h2 ?h3 ?h4 ?_); (case h1 => walk_at "look"); (case h2 => assumption); (case h3 => assumption); (case h4 => walk_at "key"))
  | ((with_reducible refine' Cm.augset_at ?h1 ?h4 ?h5 ?_); (case h1 => walk_at "look"); (case h4 => walk_at "size"); (case h5 => walk_at "put"))
  | (with_reducible refine Cm.in_sub_at ?_) | (with_reducible refine Cm.in_add_at ?_)
  | ((with_reducible refine' Cm.meth_at ?h1 ?h2 ?_); (case h1 => walk_at "look"); (case h2 => walk_at "key"))
  | ((with_reducible refine Cm.new_at ?h1 ?_); (case h1 => walk_at "size"); (intro _ _))
  | ((with_reducible refine Cm.and_at (A := L2.tyV _ "list" _ _) ?h1 ?_); (case h1 => exact Cm.ty_lst (by walk_at "look")))
  | ((with_reducible refine' Cm.g_tupt ?h1 ?h2 ?_); (case h1 => walk_at "look"); (case h2 => exact rfl))
  | ((with_reducible refine' Cm.g_tup ?h1 ?h2 ?_); (case h1 => walk_at "lookT"); (case h2 => exact rfl))
  | (with_reducible refine Cm.g_name ?_) | (with_reducible refine Cm.g_sub ?_) | (with_reducible refine Cm.g_cons ?_) | (with_reducible refine Cm.g_nil ?_)
  | (with_reducible refine Cm.int_at ?_) | (with_reducible refine Cm.bl_at ?_) | (with_reducible refine Cm.tr_bl ?_) | (with_reducible refine Cm.tr_non ?_)
  | ((with_reducible refine' Cm.m_pop0 ?h1 ?_); (case h1 => walk_at "look"))
  | ((with_reducible refine' Cm.r_slTo ?h1 ?h2 ?_); (case h1 => walk_at "look"); (case h2 => walk_at "num2"); (intro _ _))
  | ((with_reducible refine' Cm.r_slFrom ?h1 ?h2 ?_); (case h1 => walk_at "look"); (case h2 => walk_at "num2"); (intro _ _))
  | ((with_reducible refine' Cm.at_forL ?h1 ?_); (case h1 => walk_at "look"))
  | ((with_reducible refine' Cm.at_forT ?h1 ?_); (case h1 => walk_at "look"))
  | ((with_reducible refine' Cm.at_forR ?h1 ?h2 ?_); (case h1 => walk_at "num2"); (case h2 => walk_at "num2"))
  | ((with_reducible refine' Cm.at_forZ ?h1 ?h2 ?_); (case h1 => walk_at "look"); (case h2 => walk_at "look"))
  | (with_reducible refine Cm.s_forZ ?_) | (with_reducible refine Cm.s_forR ?_)
  | ((with_reducible refine Cm.and_at (A := _ = _) ?h1 ?_); (case h1 => exact rfl))
  | ((with_reducible show L2.rIsi _ _ _ _); walk_at "isi")
  | (with_reducible refine Cm.ite_nt ?_) | (with_reducible refine Cm.ite_nf ?_)
  | (with_reducible refine L2.iteT ?_) | (with_reducible refine L2.iteF ?_)
  | dsimp only
  | fail)
local macro_rules | `(tactic| walk_at "run") => `(tactic| repeat (walk_at "st"))
local macro_rules | `(tactic| walk_at "num") => `(tactic| first
  | exact Or.inr ⟨by decide, by decide⟩ | exact Or.inl ⟨by decide, by decide⟩
  | exact Cm.wdiv (by first | decide | omega) (by first | decide | omega)
  | (show (0 : Int) < _; first | decide | omega)
  | exact ⟨by decide, by decide, by decide⟩
  | fail)
local macro_rules | `(tactic| walk_at "put") => `(tactic| exact rfl)
local macro_rules | `(tactic| walk_at "fl") => `(tactic| first | exact Cm.fl0 | (refine' Cm.flS ?hz; (case hz => walk_at "fl")) | fail)
local macro_rules | `(tactic| walk_at "size") => `(tactic| first | exact Cm.sz_lit rfl | exact Cm.sz_lt rfl | exact Cm.fs_lt rfl | decide | (refine' Nat.lt_of_le_of_lt ?ha ?hb; (case ha => walk_at "fl"); (case hb => decide)) | (simp only [List.length_cons, List.length_nil, List.length_append, List.length_map, List.length_set, List.length_replicate, PySem.sizeLine_eq]; omega) | (simp only [List.length_cons, List.length_nil, List.length_append, List.length_map, List.length_set, List.length_replicate, PySem.sizeLine_eq] at *; omega) | fail)
local macro_rules | `(tactic| walk_at "at") => `(tactic| first | assumption | (with_reducible exact Cm.at0) | (with_reducible exact Cm.at1) | (with_reducible exact Cm.at2) | (with_reducible exact Cm.at3) | (with_reducible exact Cm.at4) | (with_reducible exact Cm.at5) | (with_reducible exact Cm.at6) | (with_reducible exact Cm.at7) | (with_reducible exact Cm.at8) | (with_reducible exact Cm.at0s) | (with_reducible exact Cm.at1s) | (with_reducible exact Cm.at01s) | (with_reducible exact Cm.at10s) | fail)
local macro_rules | `(tactic| walk_at "ix") => `(tactic| first | exact Cm.ix0 (by walk_at "size") | exact Cm.ix1 (by walk_at "size") | assumption | fail)
local macro_rules | `(tactic| walk_at "key") => `(tactic| first | assumption | fail)
local macro_rules | `(tactic| walk_at "ne") => `(tactic| first
  | assumption
  | (refine Ne.symm ?_; assumption)
  | (refine' L2.ne_of_none ?h1 ?h2; (case h2 => assumption); (case h1 => walk_at "look"))
  | (refine' Ne.symm (L2.ne_of_none ?h1 ?h2); (case h2 => assumption); (case h1 => walk_at "look"))
  | fail)
local macro_rules | `(tactic| walk_at "lookT") => `(tactic| first
  | assumption
  | exact L2.SqT.of (by walk_at "look")
  | fail)
local macro_rules | `(tactic| walk_at "look") => `(tactic| first
  | assumption
  | exact L2.upd_same
  | ((fail_if_success (with_reducible refine Eq.trans L2.upd_same ?_)); (refine' Eq.trans (L2.upd_ne ?h1) ?h2); (case h1 => walk_at "ne"); (case h2 => walk_at "look"))
  | (refine' Cm.kp_look ?h1 ?h2 ?h3 ?h4; (case h1 => assumption); (case h2 => walk_at "look"); (case h3 => intro _ z; cases z); (case h4 => first | exact Or.inl rfl | exact Or.inr (by walk_at "out")))
  | fail)
local macro_rules | `(tactic| walk_at "out") => `(tactic| first
  | assumption
  | exact fun z => z
  | exact fun z => z.elim (fun e => absurd e (by walk_at "ne")) (fun e => absurd e (by walk_at "ne"))
  | exact fun e => absurd e (by walk_at "ne")
  | fail)
local macro_rules | `(tactic| walk_at "dom") => `(tactic| first
  | exact Cm.dm_refl
  | (refine Cm.dm_upd ?_; walk_at "dom")
  | (refine' Cm.dm_kp ?h1 ?h2; (case h2 => assumption); (case h1 => walk_at "dom"))
  | fail)
local macro_rules | `(tactic| walk_at "free") => `(tactic| first
  | assumption
  | exact Cm.nw_of (by assumption)
  | (refine' Cm.dm_use ?h1 ?h2; (case h2 => assumption); (case h1 => walk_at "dom"))
  | (refine' Cm.dm_use2 ?h1 ?h2; (case h2 => assumption); (case h1 => walk_at "dom"))
  | fail)
local macro_rules | `(tactic| walk_at "in") => `(tactic| first
  | exact Or.inl rfl | exact Or.inl (Or.inl rfl) | exact Or.inl (Or.inr rfl) | exact Or.inl (Or.inr (Or.inl rfl)) | exact Or.inl (Or.inr (Or.inr rfl))
  | exact Or.inl (by assumption)
  | exact Or.inr (by walk_at "free")
  | fail)
local macro_rules | `(tactic| walk_at "kp") => `(tactic| first
  | assumption
  | exact Cm.Kp.refl
  | (refine' Cm.Kp.new' ?h1 ?h2; (case h2 => assumption); (case h1 => walk_at "kp"))
  | (refine' Cm.Kp.setX' ?h1 ?h2 ?h4 ?h5 ?h3; (case h2 => walk_at "look"); (case h4 => exact rfl); (case h5 => intro _ z; cases z); (case h3 => walk_at "in"); (case h1 => walk_at "kp"))
  | (refine' Cm.kp_step ?h1 ?h2 ?h3; (case h2 => assumption); (case h3 => walk_at "sub"); (case h1 => walk_at "kp"))
  | fail)
local macro_rules | `(tactic| walk_at "sub") => `(tactic| first
  | exact fun _ z => z.elim
  | exact fun _ z => Or.inl z
  | (intro a z; rcases z with rfl | rfl <;> walk_at "in")
  | (intro a z; subst z; walk_at "in")
  | fail)
local macro_rules | `(tactic| walk_at "num2") => `(tactic| first | decide | omega | fail)

local macro_rules | `(tactic| walk_at "isi") => `(tactic| first | (with_reducible refine Cm.isi_non_bool ?_) | (with_reducible refine Cm.isi_non_int ?_) | (with_reducible refine Cm.isi_non_str ?_) | (with_reducible refine Cm.isi_non_tuple ?_) | (with_reducible refine Cm.isi_non_list ?_) | (with_reducible refine Cm.isi_bl_bool ?_) | (with_reducible refine Cm.isi_bl_int ?_) | (with_reducible refine Cm.isi_bl_str ?_) | (with_reducible refine Cm.isi_bl_tuple ?_) | (with_reducible refine Cm.isi_bl_list ?_) | (with_reducible refine Cm.isi_int_bool ?_) | (with_reducible refine Cm.isi_int_int ?_) | (with_reducible refine Cm.isi_int_str ?_) | (with_reducible refine Cm.isi_int_tuple ?_) | (with_reducible refine Cm.isi_int_list ?_) | (with_reducible refine Cm.isi_str_bool ?_) | (with_reducible refine Cm.isi_str_int ?_) | (with_reducible refine Cm.isi_str_str ?_) | (with_reducible refine Cm.isi_str_tuple ?_) | (with_reducible refine Cm.isi_str_list ?_) | ((with_reducible refine' Cm.isi_tup_bool ?h1 ?_); (case h1 => walk_at "look")) | ((with_reducible refine' Cm.isi_tup_int ?h1 ?_); (case h1 => walk_at "look")) | ((with_reducible refine' Cm.isi_tup_str ?h1 ?_); (case h1 => walk_at "look")) | ((with_reducible refine' Cm.isi_tup_tuple ?h1 ?_); (case h1 => walk_at "look")) | ((with_reducible refine' Cm.isi_tup_list ?h1 ?_); (case h1 => walk_at "look")) | ((with_reducible refine' Cm.isi_lst_bool ?h1 ?_); (case h1 => walk_at "look")) | ((with_reducible refine' Cm.isi_lst_int ?h1 ?_); (case h1 => walk_at "look")) | ((with_reducible refine' Cm.isi_lst_str ?h1 ?_); (case h1 => walk_at "look")) | ((with_reducible refine' Cm.isi_lst_tuple ?h1 ?_); (case h1 => walk_at "look")) | ((with_reducible refine' Cm.isi_lst_list ?h1 ?_); (case h1 => walk_at "look")) | fail)

/-! ### M1: more words -/
local macro_rules | `(tactic| walk_at "st") => `(tactic| first
  | ((with_reducible refine Cm.and_at (A := L2.tyV _ "dict" _ _) ?h1 ?_); (case h1 => exact Cm.ty_dic (by walk_at "look")))
  | (with_reducible refine Cm.e_dget2 ?_) | (with_reducible refine Cm.e_dpop2 ?_) | (with_reducible refine Cm.e_dpop1 ?_) | (with_reducible refine Cm.s_rx ?_)
  | ((with_reducible refine' Cm.isd_at ?h1 ?_); (case h1 => walk_at "look"))
  | ((with_reducible refine' Cm.get_at ?h1 ?_); (case h1 => walk_at "look"))
  | ((with_reducible refine' Cm.pop1_at ?h1 ?h2 ?_); (case h1 => walk_at "look"); (case h2 => assumption))
  | ((with_reducible refine' Cm.r_dictD ?h1 ?_); (case h1 => walk_at "look"); (intro _ _))
  | ((with_reducible refine' Cm.r_lenD ?h1 ?_); (case h1 => walk_at "look"))
  | ((with_reducible refine' Cm.r_ixdi ?h1 ?h2 ?_); (case h1 => walk_at "look"); (case h2 => assumption))
  | ((with_reducible refine' Cm.g_setdi ?h1 ?h2 ?_); (case h1 => walk_at "look"); (case h2 => first | assumption | omega))
  | (with_reducible refine Cm.r_min2 ?_)
  | (with_reducible refine W.r_eq_lv ?_) | (with_reducible refine W.r_ne_lv ?_) | (with_reducible refine W.r_isNo_lv ?_) | (with_reducible refine W.r_notNo_lv ?_)
  | fail)

local macro_rules | `(tactic| walk_at "key") => `(tactic| first | exact W.tF_g_rows | exact W.tF_g_hands | exact W.tF_g_moment | exact W.tF_g_number | exact W.tF_n_row_at | exact W.tF_n_shown | exact W.tF_n_content | exact W.tF_n_put_page | exact W.tF_n_prune | exact W.tF_n_change | exact W.tF_n_whole)
local macro_rules | `(tactic| walk_at "put") => `(tactic| first | exact W.tF_p_rows | exact W.tF_p_hands | exact W.tF_p_moment | exact W.tF_p_number)
local macro_rules | `(tactic| walk_at "size") => `(tactic| (rw [W.tF_len]; decide))

local macro_rules | `(tactic| walk_at "key") => `(tactic| first | exact W.oS_g_rows | exact W.oS_g_hands | exact W.oS_g_moment | exact W.oS_g_number)
local macro_rules | `(tactic| walk_at "put") => `(tactic| first | exact W.oS_p_rows | exact W.oS_p_hands | exact W.oS_p_moment | exact W.oS_p_number)
local macro_rules | `(tactic| walk_at "size") => `(tactic| (rw [W.oS_len]; decide))

namespace W
open PySem PySem.Spec PyProof.Rows L2 Cm
section
variable {w : World} {K : PySem.W.Frag} {mg : Str → Option Value}
theorem pure_Table_row_at (T : Tx w K mg) (vs : List V) (H : Hp) (Q : VK) (E : XK) (h : S_Table_row_at K vs H Q E) : t_Table_row_at K E { nx := fun _ H' => Q .non H', rt := Q } (start N_Table_row_at vs) H := by
  obtain ⟨_, _, rfl, p, S, F, k, rfl, hT, rfl, ⟨k0, k1⟩, q⟩ := h
  obtain ⟨dx, rl, ha, a, ra, kvs, h1, h2, h3, h4, h5, _, _⟩ := hT.page (i := (k / 4).toNat) (by omega)
  have c := T.c_Table
  have a1 := T.a_Table_rows
  unfold t_Table_row_at
  walk_at "run"
  refine ⟨_, rfl, k, rfl, ?_⟩
  have e := at_page h3 (k := k / 4) (by omega)
  walk_at "run"
  exact q _ (row_get h5 (by omega))
theorem pure_Table_shown (T : Tx w K mg) (vs : List V) (H : Hp) (Q : VK) (E : XK) (h : S_Table_shown K vs H Q E) : t_Table_shown K E { nx := fun _ H' => Q .non H', rt := Q } (start N_Table_shown vs) H := by
  obtain ⟨_, _, rfl, p, S, F, k, rfl, hT, rfl, hk, q⟩ := h
  obtain ⟨dx, rl, ha, h1, _, _⟩ := id hT.ins
  have c := T.c_Table
  have a1 := T.a_Table_moment
  unfold t_Table_shown
  walk_at "run"
  refine ⟨_, _, rfl, p, S, F, k, rfl, hT, rfl, hk, fun v hv => ?_⟩
  walk_at "run"
  exact ⟨_, _, rfl, _, _, hv, rfl, q⟩
theorem tF_init {r h : Addr} {m n : Int} : putF "number" (.int n) (putF "moment" (.int m) (putF "hands" (.ref h) (putF "rows" (.ref r) []))) = tF r h m n := by kernel_rfl
theorem pure_Table_init (T : Tx w K mg) (vs : List V) (H : Hp) (Q : VK) (E : XK) (h : S_Table_init K vs H Q E) : t_Table_init K E { nx := fun _ H' => Q .non H', rt := Q } (start N_Table_init vs) H := by
  obtain ⟨_, rfl, p, dx, rfl, hp, k⟩ := h
  have c := T.c_Table
  have a1 := T.a_Table_rows
  have a2 := T.a_Table_hands
  have a3 := T.a_Table_moment
  have a4 := T.a_Table_number
  unfold t_Table_init
  walk_at "run"
  refine lcR ?_
  walk_at "run"
  intro Dl hD
  have npD : p ≠ Dl := ne_of_none hp hD
  refine coreR (fun i acc H' => ∃ as : List Addr, acc = as.map V.ref ∧ as.length = i ∧ as.Nodup ∧ (∀ a ∈ as, H' a = some (.dK []) ∧ Nw H a) ∧ Dl ∉ as ∧ Kp (tabs K) No H H') ⟨[], rfl, rfl, .nil, fun _ z => (nomatch z), (fun z => nomatch z), Kp.new hD⟩ (fun i acc H' hi hl z e => ?_) (fun acc H' hl z e => ?_)
  · obtain ⟨as, rfl, hlen, hnd, has, hDn, kp⟩ := z
    unfold CStep
    walk_at "run"
    intro d hd
    have hdD : Dl ≠ d := by walk_at "ne"
    have hda : d ∉ as := fun z => by have := (has d z).1; rw [hd] at this; cases this
    refine c_put (by walk_at "look") hl (by omega) ⟨as ++ [d], by simp, by simp [hlen], ?_, fun a ha => ?_, ?_, by walk_at "kp"⟩
    · refine List.nodup_append.mpr ⟨hnd, by simp, fun a h1 b h2 => ?_⟩
      rw [List.mem_singleton.mp h2]
      exact fun z => hda (by rw [← z]; exact h1)
    · rcases List.mem_append.mp ha with h1 | h1
      · have h2 : a ≠ d := fun z => hda (by rw [← z]; exact h1)
        have h3 : a ≠ Dl := fun z => hDn (by rw [← z]; exact h1)
        have h4 := (has a h1).1
        exact ⟨by rw [upd_ne h3, upd_ne h2]; exact h4, (has a h1).2⟩
      · rw [List.mem_singleton.mp h1]
        exact ⟨by walk_at "look", by walk_at "free"⟩
    · intro z
      rcases List.mem_append.mp z with z | z
      · exact hDn z
      · exact hdD (List.mem_singleton.mp z)
  · obtain ⟨as, rfl, hlen, hnd, has, hDn, kp⟩ := z
    have hp' := kp.ins hp (fun z => z)
    have nas : ∀ a ∈ as, a ≠ p := fun a ha z => by have := (has a ha).1; rw [z, hp'] at this; cases this
    walk_at "run"
    intro ha hha
    walk_at "run"
    rw [tF_init]
    have e1 : p ≠ ha := by walk_at "ne"
    have e3 : Dl ≠ ha := by walk_at "ne"
    have naha : ∀ a ∈ as, a ≠ ha := fun a h z => by
      have h1 := (has a h).1
      rw [z] at h1
      rw [upd_ne (Ne.symm e1)] at hha
      rw [h1] at hha; cases hha
    refine k _ (fun a => a = p ∨ a = Dl ∨ a ∈ ha :: as) ⟨dx, Dl, ha, as, [], by walk_at "look", by walk_at "look", by omega, fun i a ei => ⟨[], ?_, DR.nil.congr fun k => ?_⟩, by walk_at "look", DR.nil.congr fun k => rfl, List.nodup_cons.mpr ⟨fun z => naha ha z rfl, hnd⟩, ts0_ok, fun a => Iff.rfl⟩ ⟨by walk_at "kp", fun a hm => ?_⟩
    · have hm := List.mem_of_getElem? ei
      have h1 := (has a hm).1
      have h2 := nas a hm
      have h3 := naha a hm
      walk_at "look"
    · unfold pgf; split <;> rfl
    · rcases hm with rfl | rfl | hm
      · exact .inl rfl
      · exact .inr (.inl hD)
      · rcases List.mem_cons.mp hm with rfl | hm
        · exact .inr (by walk_at "free")
        · exact .inr (has a hm).2
end
end W

end
section
/-! ### M0: words for walking through a reading (local) -/
local macro_rules | `(tactic| walk_at "st") => `(tactic| first
  | (with_reducible refine Cm.s_seq ?_) | (with_reducible refine Cm.s_asg ?_) | (with_reducible refine Cm.s_drop ?_) | (with_reducible refine Cm.s_ret ?_) | (with_reducible refine Cm.s_if ?_) | (with_reducible refine Cm.s_next ?_) | (with_reducible refine Cm.s_retN ?_) | (with_reducible refine Cm.s_rs ?_) | (with_reducible refine Cm.s_fld0 ?_)
  | ((with_reducible refine' Cm.e_var ?hv ?_); (case hv => exact rfl))
  | (with_reducible refine Cm.e_c ?_) | (with_reducible refine Cm.e_op ?_) | (with_reducible refine Cm.e_un ?_) | (with_reducible refine Cm.e_nil ?_) | (with_reducible refine Cm.e_cons ?_) | (with_reducible refine Cm.e_tup ?_) | (with_reducible refine Cm.e_lst ?_) | (with_reducible refine Cm.e_cb ?_) | (with_reducible refine Cm.e_call ?_) | (with_reducible refine Cm.e_if ?_)
  | (with_reducible refine Cm.e_andV ?_) | (with_reducible refine Cm.e_orV ?_) | (with_reducible refine Cm.e_notV ?_) | (with_reducible refine Cm.e_fld0 ?_) | (with_reducible refine Cm.e_meth0 ?_) | (with_reducible refine Cm.e_bm0 ?_) | (with_reducible refine Cm.e_bm ?_) | (with_reducible refine Cm.e_sl ?_) | (with_reducible refine Cm.o_none ?_) | (with_reducible refine Cm.o_some ?_) | (with_reducible refine Cm.e_dnew ?_)
  | (with_reducible refine Cm.e_test ?_) | (with_reducible refine Cm.e_tr ?_) | (with_reducible refine Cm.e_and ?_) | (with_reducible refine Cm.e_or ?_) | (with_reducible refine Cm.e_not ?_) | (with_reducible refine Cm.e_yes ?_) | (with_reducible refine Cm.e_chain ?_)
  | (with_reducible refine Cm.r_i0 ?_) | (with_reducible refine Cm.r_u ?_) | (with_reducible refine Cm.r_isNo ?_) | (with_reducible refine Cm.r_notNo ?_) | (with_reducible refine Cm.r_addI ?_) | (with_reducible refine Cm.r_int1b ?_) | (with_reducible refine Cm.r_max2 ?_)
  | ((with_reducible refine Cm.r_i ?hc ?_); (case hc => walk_at "num"))
  | ((with_reducible refine Cm.r_mulI ?hc ?_); (case hc => walk_at "num"))
  | ((with_reducible refine Cm.r_eqS ?hc ?_); (case hc => exact rfl))
  | ((with_reducible refine Cm.r_neS ?hc ?_); (case hc => exact rfl))
  | ((with_reducible refine' Cm.r_ixl ?h1 ?h2 ?_); (case h1 => walk_at "look"); (case h2 => walk_at "at"))
  | ((with_reducible refine' Cm.r_ixt ?h1 ?h2 ?_); (case h1 => walk_at "look"); (case h2 => walk_at "at"))
  | ((with_reducible refine' Cm.r_ixT ?h1 ?h2 ?_); (case h1 => walk_at "lookT"); (case h2 => walk_at "at"))
  | ((with_reducible refine' Cm.r_ixds ?h1 ?h2 ?_); (case h1 => walk_at "look"); (case h2 => walk_at "key"))
  | ((with_reducible refine' Cm.r_eqe ?h1 ?h2 ?_); (case h1 => walk_at "look"); (case h2 => walk_at "look"))
  | ((with_reducible refine' Cm.r_nee ?h1 ?h2 ?_); (case h1 => walk_at "look"); (case h2 => walk_at "look"))
  | ((with_reducible refine' Cm.r_lenl ?h1 ?_); (case h1 => walk_at "look"))
  | ((with_reducible refine' Cm.r_lent ?h1 ?_); (case h1 => walk_at "look"))
  | ((with_reducible refine' Cm.r_lenT ?h1 ?_); (case h1 => walk_at "lookT"))
  | ((with_reducible refine' Cm.r_listl ?h1 ?_); (case h1 => walk_at "look"); (intro _ _))
  | ((with_reducible refine' Cm.r_tupl ?h1 ?_); (case h1 => walk_at "look"); (intro _ _))
  | ((with_reducible refine' Cm.r_addL ?h1 ?h2 ?h3 ?_); (case h1 => walk_at "look"); (case h2 => walk_at "look"); (case h3 => walk_at "size"); (intro _ _))
  | ((with_reducible refine' Cm.m_append ?h1 ?h2 ?_); (case h1 => walk_at "look"); (case h2 => walk_at "size"))
  | ((with_reducible refine' Cm.m_clear ?h1 ?_); (case h1 => walk_at "look"))
  | ((with_reducible refine' Cm.g_setL ?h1 ?h2 ?_); (case h1 => walk_at "look"); (case h2 => walk_at "ix"))
  | ((with_reducible refine' Cm.g_setDs ?h1 ?h2 ?h3 ?_); (case h1 => walk_at "look"); (case h2 => walk_at "size"); (case h3 => walk_at "put"))
  | ((with_reducible refine' Cm.fld_at ?h1 ?h2 ?h3 ?h4 ?_); (case h1 => walk_at "look"); (case h2 => assumption); (case h3 => assumption); (case h4 => walk_at "key"))
  | ((with_reducible refine' Cm.fldset_at ?h1 ?h2 ?h3 ?h4 ?h5 ?_); (case h1 => walk_at "look"); (case h2 => assumption); (case h3 => assumption); (case h4 => walk_at "size"); (case h5 => walk_at "put"))
  | (with_reducible refine Cm.s_fldaug0 ?_)
  | ((with_reducible refine' Cm.aug_at ?h1 ?h2 ?h3 ?h4 ?_); (case h1 => walk_at "look"); (case h2 => assumption); (case h3 => assumption); (case h4 => walk_at "key"))
  | ((with_reducible refine' Cm.augset_at ?h1 ?h4 ?h5 ?_); (case h1 => walk_at "look"); (case h4 => walk_at "size"); (case h5 => walk_at "put"))
  | (with_reducible refine Cm.in_sub_at ?_) | (with_reducible refine Cm.in_add_at ?_)
  | ((with_reducible refine' Cm.meth_at ?h1 ?h2 ?_); (case h1 => walk_at "look"); (case h2 => walk_at "key"))
  | ((with_reducible refine Cm.new_at ?h1 ?_); (case h1 => walk_at "size"); (intro _ _))
  | ((with_reducible refine Cm.and_at (A := L2.tyV _ "list" _ _) ?h1 ?_); (case h1 => exact Cm.ty_lst (by walk_at "look")))
  | ((with_reducible refine' Cm.g_tupt ?h1 ?h2 ?_); (case h1 => walk_at "look"); (case h2 => exact rfl))
  | ((with_reducible refine' Cm.g_tup ?h1 ?h2 ?_); (case h1 => walk_at "lookT"); (case h2 => exact rfl))
  | (with_reducible refine Cm.g_name ?_) | (with_reducible refine Cm.g_sub ?_) | (with_reducible refine Cm.g_cons ?_) | (with_reducible refine Cm.g_nil ?_)
  | (with_reducible refine Cm.int_at ?_) | (with_reducible refine Cm.bl_at ?_) | (with_reducible refine Cm.tr_bl ?_) | (with_reducible refine Cm.tr_non ?_)
  | ((with_reducible refine' Cm.m_pop0 ?h1 ?_); (case h1 => walk_at "look"))
  | ((with_reducible refine' Cm.r_slTo ?h1 ?h2 ?_); (case h1 => walk_at "look"); (case h2 => walk_at "num2"); (intro _ _))
  | ((with_reducible refine' Cm.r_slFrom ?h1 ?h2 ?_); (case h1 => walk_at "look"); (case h2 => walk_at "num2"); (intro _ _))
  | ((with_reducible refine' Cm.at_forL ?h1 ?_); (case h1 => walk_at "look"))
  | ((with_reducible refine' Cm.at_forT ?h1 ?_); (case h1 => walk_at "look"))
  | ((with_reducible refine' Cm.at_forR ?h1 ?h2 ?_); (case h1 => walk_at "num2"); (case h2 => walk_at "num2"))
  | ((with_reducible refine' Cm.at_forZ ?h1 ?h2 ?_); (case h1 => walk_at "look"); (case h2 => walk_at "look"))
  | (with_reducible refine Cm.s_forZ ?_) | (with_reducible refine Cm.s_forR ?_)
  | ((with_reducible refine Cm.and_at (A := _ = _) ?h1 ?_); (case h1 => exact rfl))
  | ((with_reducible show L2.rIsi _ _ _ _); walk_at "isi")
  | (with_reducible refine Cm.ite_nt ?_) | (with_reducible refine Cm.ite_nf ?_)
  | (with_reducible refine L2.iteT ?_) | (with_reducible refine L2.iteF ?_)
  | dsimp only
  | fail)
local macro_rules | `(tactic| walk_at "run") => `(tactic| repeat (walk_at "st"))
local macro_rules | `(tactic| walk_at "num") => `(tactic| first
  | exact Or.inr ⟨by decide, by decide⟩ | exact Or.inl ⟨by decide, by decide⟩
  | exact Cm.wdiv (by first | decide | omega) (by first | decide | omega)
  | (show (0 : Int) < _; first | decide | omega)
  | exact ⟨by decide, by decide, by decide⟩
  | fail)
local macro_rules | `(tactic| walk_at "put") => `(tactic| exact rfl)
local macro_rules | `(tactic| walk_at "fl") => `(tactic| first | exact Cm.fl0 | (refine' Cm.flS ?hz; (case hz => walk_at "fl")) | fail)
local macro_rules | `(tactic| walk_at "size") => `(tactic| first | exact Cm.sz_lit rfl | exact Cm.sz_lt rfl | exact Cm.fs_lt rfl | decide | (refine' Nat.lt_of_le_of_lt ?ha ?hb; (case ha => walk_at "fl"); (case hb => decide)) | (simp only [List.length_cons, List.length_nil, List.length_append, List.length_map, List.length_set, List.length_replicate, PySem.sizeLine_eq]; omega) | (simp only [List.length_cons, List.length_nil, List.length_append, List.length_map, List.length_set, List.length_replicate, PySem.sizeLine_eq] at *; omega) | fail)
local macro_rules | `(tactic| walk_at "at") => `(tactic| first | assumption | (with_reducible exact Cm.at0) | (with_reducible exact Cm.at1) | (with_reducible exact Cm.at2) | (with_reducible exact Cm.at3) | (with_reducible exact Cm.at4) | (with_reducible exact Cm.at5) | (with_reducible exact Cm.at6) | (with_reducible exact Cm.at7) | (with_reducible exact Cm.at8) | (with_reducible exact Cm.at0s) | (with_reducible exact Cm.at1s) | (with_reducible exact Cm.at01s) | (with_reducible exact Cm.at10s) | fail)
local macro_rules | `(tactic| walk_at "ix") => `(tactic| first | exact Cm.ix0 (by walk_at "size") | exact Cm.ix1 (by walk_at "size") | assumption | fail)
local macro_rules | `(tactic| walk_at "key") => `(tactic| first | assumption | fail)
local macro_rules | `(tactic| walk_at "ne") => `(tactic| first
  | assumption
  | (refine Ne.symm ?_; assumption)
  | (refine' L2.ne_of_none ?h1 ?h2; (case h2 => assumption); (case h1 => walk_at "look"))
  | (refine' Ne.symm (L2.ne_of_none ?h1 ?h2); (case h2 => assumption); (case h1 => walk_at "look"))
  | fail)
local macro_rules | `(tactic| walk_at "lookT") => `(tactic| first
  | assumption
  | exact L2.SqT.of (by walk_at "look")
  | fail)
local macro_rules | `(tactic| walk_at "look") => `(tactic| first
  | assumption
  | exact L2.upd_same
  | ((fail_if_success (with_reducible refine Eq.trans L2.upd_same ?_)); (refine' Eq.trans (L2.upd_ne ?h1) ?h2); (case h1 => walk_at "ne"); (case h2 => walk_at "look"))
  | (refine' Cm.kp_look ?h1 ?h2 ?h3 ?h4; (case h1 => assumption); (case h2 => walk_at "look"); (case h3 => intro _ z; cases z); (case h4 => first | exact Or.inl rfl | exact Or.inr (by walk_at "out")))
  | fail)
local macro_rules | `(tactic| walk_at "out") => `(tactic| first
  | assumption
  | exact fun z => z
  | exact fun z => z.elim (fun e => absurd e (by walk_at "ne")) (fun e => absurd e (by walk_at "ne"))
  | exact fun e => absurd e (by walk_at "ne")
  | fail)
local macro_rules | `(tactic| walk_at "dom") => `(tactic| first
  | exact Cm.dm_refl
  | (refine Cm.dm_upd ?_; walk_at "dom")
  | (refine' Cm.dm_kp ?h1 ?h2; (case h2 => assumption); (case h1 => walk_at "dom"))
  | fail)
local macro_rules | `(tactic| walk_at "free") => `(tactic| first
  | assumption
  | exact Cm.nw_of (by assumption)
  | (refine' Cm.dm_use ?h1 ?h2; (case h2 => assumption); (case h1 => walk_at "dom"))
  | (refine' Cm.dm_use2 ?h1 ?h2; (case h2 => assumption); (case h1 => walk_at "dom"))
  | fail)
local macro_rules | `(tactic| walk_at "in") => `(tactic| first
  | exact Or.inl rfl | exact Or.inl (Or.inl rfl) | exact Or.inl (Or.inr rfl) | exact Or.inl (Or.inr (Or.inl rfl)) | exact Or.inl (Or.inr (Or.inr rfl))
  | exact Or.inl (by assumption)
  | exact Or.inr (by walk_at "free")
  | fail)
local macro_rules | `(tactic| walk_at "kp") => `(tactic| first
  | assumption
  | exact Cm.Kp.refl
  | (refine' Cm.Kp.new' ?h1 ?h2; (case h2 => assumption); (case h1 => walk_at "kp"))
  | (refine' Cm.Kp.setX' ?h1 ?h2 ?h4 ?h5 ?h3; (case h2 => walk_at "look"); (case h4 => exact rfl); (case h5 => intro _ z; cases z); (case h3 => walk_at "in"); (case h1 => walk_at "kp"))
  | (refine' Cm.kp_step ?h1 ?h2 ?h3; (case h2 => assumption); (case h3 => walk_at "sub"); (case h1 => walk_at "kp"))
  | fail)
local macro_rules | `(tactic| walk_at "sub") => `(tactic| first
  | exact fun _ z => z.elim
  | exact fun _ z => Or.inl z
  | (intro a z; rcases z with rfl | rfl <;> walk_at "in")
  | (intro a z; subst z; walk_at "in")
  | fail)
local macro_rules | `(tactic| walk_at "num2") => `(tactic| first | decide | omega | fail)

local macro_rules | `(tactic| walk_at "isi") => `(tactic| first | (with_reducible refine Cm.isi_non_bool ?_) | (with_reducible refine Cm.isi_non_int ?_) | (with_reducible refine Cm.isi_non_str ?_) | (with_reducible refine Cm.isi_non_tuple ?_) | (with_reducible refine Cm.isi_non_list ?_) | (with_reducible refine Cm.isi_bl_bool ?_) | (with_reducible refine Cm.isi_bl_int ?_) | (with_reducible refine Cm.isi_bl_str ?_) | (with_reducible refine Cm.isi_bl_tuple ?_) | (with_reducible refine Cm.isi_bl_list ?_) | (with_reducible refine Cm.isi_int_bool ?_) | (with_reducible refine Cm.isi_int_int ?_) | (with_reducible refine Cm.isi_int_str ?_) | (with_reducible refine Cm.isi_int_tuple ?_) | (with_reducible refine Cm.isi_int_list ?_) | (with_reducible refine Cm.isi_str_bool ?_) | (with_reducible refine Cm.isi_str_int ?_) | (with_reducible refine Cm.isi_str_str ?_) | (with_reducible refine Cm.isi_str_tuple ?_) | (with_reducible refine Cm.isi_str_list ?_) | ((with_reducible refine' Cm.isi_tup_bool ?h1 ?_); (case h1 => walk_at "look")) | ((with_reducible refine' Cm.isi_tup_int ?h1 ?_); (case h1 => walk_at "look")) | ((with_reducible refine' Cm.isi_tup_str ?h1 ?_); (case h1 => walk_at "look")) | ((with_reducible refine' Cm.isi_tup_tuple ?h1 ?_); (case h1 => walk_at "look")) | ((with_reducible refine' Cm.isi_tup_list ?h1 ?_); (case h1 => walk_at "look")) | ((with_reducible refine' Cm.isi_lst_bool ?h1 ?_); (case h1 => walk_at "look")) | ((with_reducible refine' Cm.isi_lst_int ?h1 ?_); (case h1 => walk_at "look")) | ((with_reducible refine' Cm.isi_lst_str ?h1 ?_); (case h1 => walk_at "look")) | ((with_reducible refine' Cm.isi_lst_tuple ?h1 ?_); (case h1 => walk_at "look")) | ((with_reducible refine' Cm.isi_lst_list ?h1 ?_); (case h1 => walk_at "look")) | fail)

/-! ### M1: more words -/
local macro_rules | `(tactic| walk_at "st") => `(tactic| first
  | ((with_reducible refine Cm.and_at (A := L2.tyV _ "dict" _ _) ?h1 ?_); (case h1 => exact Cm.ty_dic (by walk_at "look")))
  | (with_reducible refine Cm.e_dget2 ?_) | (with_reducible refine Cm.e_dpop2 ?_) | (with_reducible refine Cm.e_dpop1 ?_) | (with_reducible refine Cm.s_rx ?_)
  | ((with_reducible refine' Cm.isd_at ?h1 ?_); (case h1 => walk_at "look"))
  | ((with_reducible refine' Cm.get_at ?h1 ?_); (case h1 => walk_at "look"))
  | ((with_reducible refine' Cm.pop1_at ?h1 ?h2 ?_); (case h1 => walk_at "look"); (case h2 => assumption))
  | ((with_reducible refine' Cm.r_dictD ?h1 ?_); (case h1 => walk_at "look"); (intro _ _))
  | ((with_reducible refine' Cm.r_lenD ?h1 ?_); (case h1 => walk_at "look"))
  | ((with_reducible refine' Cm.r_ixdi ?h1 ?h2 ?_); (case h1 => walk_at "look"); (case h2 => assumption))
  | ((with_reducible refine' Cm.g_setdi ?h1 ?h2 ?_); (case h1 => walk_at "look"); (case h2 => first | assumption | omega))
  | (with_reducible refine Cm.r_min2 ?_)
  | (with_reducible refine W.r_eq_lv ?_) | (with_reducible refine W.r_ne_lv ?_) | (with_reducible refine W.r_isNo_lv ?_) | (with_reducible refine W.r_notNo_lv ?_)
  | fail)

local macro_rules | `(tactic| walk_at "key") => `(tactic| first | exact W.tF_g_rows | exact W.tF_g_hands | exact W.tF_g_moment | exact W.tF_g_number | exact W.tF_n_row_at | exact W.tF_n_shown | exact W.tF_n_content | exact W.tF_n_put_page | exact W.tF_n_prune | exact W.tF_n_change | exact W.tF_n_whole)
local macro_rules | `(tactic| walk_at "put") => `(tactic| first | exact W.tF_p_rows | exact W.tF_p_hands | exact W.tF_p_moment | exact W.tF_p_number)
local macro_rules | `(tactic| walk_at "size") => `(tactic| (rw [W.tF_len]; decide))

local macro_rules | `(tactic| walk_at "key") => `(tactic| first | exact W.oS_g_rows | exact W.oS_g_hands | exact W.oS_g_moment | exact W.oS_g_number)
local macro_rules | `(tactic| walk_at "put") => `(tactic| first | exact W.oS_p_rows | exact W.oS_p_hands | exact W.oS_p_moment | exact W.oS_p_number)
local macro_rules | `(tactic| walk_at "size") => `(tactic| (rw [W.oS_len]; decide))

namespace W
open PySem PySem.Spec PyProof.Rows L2 Cm
section
variable {w : World} {K : PySem.W.Frag} {mg : Str → Option Value}
theorem pure_pages_of (vs : List V) (H : Hp) (Q : VK) (E : XK) (h : S_pages_of K vs H Q E) : t_pages_of K w E { nx := fun _ H' => Q .non H', rt := Q } (start N_pages_of vs) H := by
  obtain ⟨_, rfl, e, hx, ho, k⟩ := h
  unfold t_pages_of
  cases e with
  | tick n m =>
    obtain ⟨a, v0, v1, v2, rfl, ha, rfl, rfl, rfl⟩ := dt3.mp hx
    walk_at "run"
    refine if_dT rfl ?_
    walk_at "run"
    rename_i l hl
    exact k l _ (.inl hl) upd_same (by walk_at "kp")
  | deal n hn l dn es =>
    obtain ⟨a, v0, v1, v2, v3, v4, v5, rfl, ha, rfl, rfl, rfl, rfl, rfl, h5⟩ := dt6.mp hx
    obtain ⟨a5, ys, rfl, ha5, hE⟩ := h5
    have hlen := hE.length
    rw [List.length_map] at hlen
    have hel : es.length ≤ 32 := ho.2.1
    walk_at "run"
    refine if_dF (by decide) ?_
    walk_at "run"
    refine lcT ?_
    walk_at "run"
    intro Dl hD
    refine coreT (xs := ys) (fun i acc H' => Kp (tabs K) No H H' ∧ acc = ((es.take i).map fun q => q.1 / 4).map V.int) ⟨Kp.new hD, rfl⟩ (fun i acc H' z => z.1.tup ha5) (fun i x acc H' hx hi hl z e => ?_) (fun acc H' hl z e => ?_)
    · obtain ⟨kp, rfl⟩ := z
      obtain ⟨d, hd1, hd2⟩ := hE.get hx
      obtain ⟨q, hq, rfl⟩ := map_get hd1
      obtain ⟨t, u0, u1, u2, rfl, ht, rfl, _, _⟩ := dt3.mp hd2
      have ht2 := kp.tup ht
      unfold CStep
      walk_at "run"
      refine ⟨_, rfl, q.1, rfl, ?_⟩
      refine c_put e hl (by omega) ⟨by walk_at "kp", ?_⟩
      rw [take_succ hq, List.map_append, List.map_append]; rfl
    · obtain ⟨kp, rfl⟩ := z
      rw [hlen, List.take_length] at e
      walk_at "run"
      refine r_setL e (by simp; omega) fun c p hc hp => ?_
      walk_at "run"
      refine r_sortedSet upd_same hc fun ns q hs hm hq => ?_
      have e2 : ns = (rng 8).filter fun p => es.any fun q => decide (q.1 / 4 = p) := by
        refine sorted_eq hs ((rng_up 8).filter _) fun x => ?_
        rw [hm x, decide_eq_true_eq, List.mem_map, List.mem_filter, mem_rng, List.any_eq_true]
        constructor
        · rintro ⟨y, h1, rfl⟩
          have := (ho.2.2 y h1).1
          exact ⟨⟨by omega, by omega⟩, y, h1, decide_eq_true rfl⟩
        · rintro ⟨_, y, h1, h2⟩
          exact ⟨y, h1, of_decide_eq_true h2⟩
      have hnl : ns.length ≤ 8 := by
        rw [e2]
        exact Nat.le_trans (List.length_filter_le _ _) (by decide)
      walk_at "run"
      rename_i u hu r hr
      refine k r _ (by walk_at "free") ?_ (by walk_at "kp")
      rw [upd_same, e2]
      show _ = some (HO.lst ((_ ++ [8] : List Int).map V.int))
      rw [List.map_append]; rfl
theorem put1_ok {S : TB} {q : Eff} (o : S.Ok) (hk : 0 ≤ q.1 ∧ q.1 < 32) (hq : prOk q.2) : ({ S with rows := put1 S.rows q } : TB).Ok := by
  refine ⟨fun k r e => ?_, o.hd⟩
  have e : (if k = q.1 then q.2.1.map (fun w => (w, q.2.2)) else S.rows k) = some r := e
  by_cases h : k = q.1
  · rw [if_pos h] at e
    obtain ⟨kk, w, en⟩ := q
    cases w with
    | none => cases e
    | some w =>
      have e : some (w, en) = some r := e
      cases e
      subst h
      exact ⟨hk, hq w rfl⟩
  · rw [if_neg h] at e
    exact o.rw k r e
theorem pure_Table_change (T : Tx w K mg) (vs : List V) (H : Hp) (Q : VK) (E : XK) (h : S_Table_change K vs H Q E) : t_Table_change K E { nx := fun _ H' => Q .non H', rt := Q } (start N_Table_change vs) H := by
  obtain ⟨_, _, _, rfl, p, S, F, e, i, rfl, hT, hx, ho, rfl, ⟨i0, i8⟩, hi, k⟩ := h
  have c := T.c_Table
  have a1 := T.a_Table_rows
  have a2 := T.a_Table_hands
  have a3 := T.a_Table_moment
  unfold t_Table_change
  by_cases h8 : i = 8
  · subst h8
    cases e with
    | tick n m =>
      obtain ⟨a, v0, v1, v2, rfl, ha, rfl, rfl, rfl⟩ := dt3.mp hx
      obtain ⟨dx, rl, hA, h1, hF, close⟩ := hT.ins
      walk_at "run"
      refine if_ndF rfl ?_
      walk_at "run"
      refine if_dT rfl ?_
      walk_at "run"
      have kb : Kp (tabs K) (fun b => b = p) H (upd H p (.ins (He.ga K "Table") dx (tF rl hA m S.number))) := Kp.setI h1 rfl
      exact k _ F (close (tabs K) _ m S.number kb upd_same) ⟨kb.mono fun a z => by rw [z]; exact hF, fun a z => .inl z⟩
    | deal n hn l dn es =>
      obtain ⟨a, v0, v1, v2, v3, v4, v5, rfl, ha, rfl, rfl, rfl, rfl, rfl, h5⟩ := dt6.mp hx
      obtain ⟨dx, rl, hA, hk, h1, h2, h3, hF, close⟩ := hT.hd
      have hz := h3.len
      walk_at "run"
      refine if_ndF rfl ?_
      walk_at "run"
      refine if_dF (by decide) ?_
      walk_at "run"
      rename_i t ht
      have kb : Kp (tabs K) (fun b => b = hA) H (upd (upd H t (.tup [.int l, .int n, .bl dn])) hA (.dK (putK hk (.inl hn) (.ref t)))) := by walk_at "kp"
      refine k _ F (close (tabs K) _ _ (upf S.hands hn (some (l, n, dn))) kb upd_same ?_ ?_) ⟨kb.mono fun a z => by rw [z]; exact hF, fun a z => .inl z⟩
      · refine ((h3.keep kb).put (d := handD (l, n, dn)) (dt3.mpr ⟨t, _, _, _, rfl, by walk_at "look", rfl, rfl, rfl⟩) ?_ ho.1.1 (by have := ho.1.2; omega)).congr fun j => ?_
        · exact di_tup (Nat.le_of_ble_eq_true rfl) fun d hd => by
            simp only [List.mem_cons, List.not_mem_nil, or_false] at hd
            rcases hd with rfl | rfl | rfl
            · exact Di.int
            · exact Di.int
            · exact Di.bool
        · show _ = (upf S.hands hn (some (l, n, dn)) j).map handD
          unfold upf
          split <;> rfl
      · refine ⟨hT.ok.rw, fun j h e => ?_⟩
        have e : upf S.hands hn (some (l, n, dn)) j = some h := e
        unfold upf at e
        split at e
        · rename_i hj
          rw [hj]; exact ho.1
        · exact hT.ok.hd j h e
  · obtain ⟨n, hn, l, dn, es, rfl⟩ : ∃ n h l dn es, e = .deal n h l dn es := hi.resolve_left h8
    obtain ⟨a, v0, v1, v2, v3, v4, v5, rfl, ha, rfl, rfl, rfl, rfl, rfl, h5⟩ := dt6.mp hx
    obtain ⟨a5, ys, rfl, ha5, hE⟩ := h5
    have hlen := hE.length
    rw [List.length_map] at hlen
    walk_at "run"
    refine if_ndT (fun z => h8 (by injection z)) ?_
    walk_at "run"
    refine s_forT ?_
    walk_at "run"
    refine forT (xs := ys) (fun j σ' H' => ∃ v3 v4 v5, σ' = [some (.ref p), some (.ref a), some (.int i), v3, v4, v5] ∧ Kp (tabs K) F H H' ∧ TableAt K H' p { S with rows := chgR i S.rows (es.take j) } F) ⟨none, none, none, rfl, Kp.refl, hT⟩ (fun j σ' H' ⟨_, _, _, _, z, _⟩ => z.tup ha5) ?_ ?_
    · rintro j x σ' H' hx ⟨v3, v4, v5, rfl, kp, hT'⟩
      obtain ⟨d, hd1, hd2⟩ := hE.get hx
      obtain ⟨q, hq, rfl⟩ := map_get hd1
      obtain ⟨kk, wo, en⟩ := q
      obtain ⟨t, u0, u1, u2, rfl, ht, rfl, hu1, rfl⟩ := dt3.mp hd2
      obtain rfl := dt_oD.mp hu1
      have ht2 := kp.tup ht
      have hok := ho.2.2 _ (List.mem_of_getElem? hq)
      have hch : chgR i S.rows (es.take (j + 1)) = if kk / 4 = i then put1 (chgR i S.rows (es.take j)) (kk, wo, en) else chgR i S.rows (es.take j) := by
        unfold chgR
        rw [take_succ hq, List.foldl_append]; rfl
      walk_at "run"
      refine ⟨_, rfl, kk, rfl, ?_⟩
      walk_at "run"
      refine if_d (fun h1 => ?_) (fun h1 => ?_)
      · have h1 : kk / 4 = i := by injection h1
        rw [if_pos h1] at hch
        obtain ⟨dx, rl, hA, da, ra, kvs, g1, g2, g3, g4, g5, gF, close⟩ := hT'.page (i := i.toNat) (by omega)
        have eat := at_page g3 (k := i) (by omega)
        have hz : kvs.length ≤ 100 := by have := g5.len; omega
        have np : p ≠ da := ne_of g1 g4 (fun z => nomatch z)
        have nr : rl ≠ da := ne_of g2 g4 (fun z => nomatch z)
        walk_at "run"
        rename_i u hu
        have eput : valV (putK kvs (.inl kk) (.ref u)) (.inl kk) = some (.ref u) := by rw [valV_put, if_pos rfl]
        cases wo with
        | none =>
          refine if_dT rfl ?_
          walk_at "run"
          have kb : Kp (tabs K) (fun b => b = da) H' (upd (upd (upd H' u (.tup [lv none, .int en])) da (.dK (putK kvs (.inl kk) (.ref u)))) da (.dK (dropK (putK kvs (.inl kk) (.ref u)) (.inl kk)))) := by walk_at "kp"
          refine ⟨_, _, _, rfl, kp.trans kb fun a z => .inl (by rw [z]; exact gF), ?_⟩
          rw [hch]
          refine close (tabs K) _ _ (put1 (chgR i S.rows (es.take j)) (kk, none, en)) kb upd_same ?_ (fun k' hk' => ?_) (put1_ok hT'.ok hok.1 hok.2)
          · refine (((g5.keep kb).put (k := kk) (v := .ref u) (d := prD (none, en)) (dt2.mpr ⟨u, _, _, rfl, by walk_at "look", rfl, rfl⟩) ?_ hok.1.1 hok.1.2).drop kk).congr fun j' => ?_
            · exact di_tup (Nat.le_of_ble_eq_true rfl) fun d hd => by
                simp only [List.mem_cons, List.not_mem_nil, or_false] at hd
                rcases hd with rfl | rfl
                · exact Di.none
                · exact Di.int
            · by_cases hj : j' = kk
              · simp [pgf, put1, upf, hj]
              · simp [pgf, put1, upf, hj]
          · show put1 _ _ k' = _
            unfold put1 upf
            rw [if_neg]
            intro z
            subst z
            exact hk' (by show k' / 4 = _; omega)
        | some wo =>
          refine if_dF (fun z => nomatch z) ?_
          walk_at "run"
          have kb : Kp (tabs K) (fun b => b = da) H' (upd (upd H' u (.tup [lv (some wo), .int en])) da (.dK (putK kvs (.inl kk) (.ref u)))) := by walk_at "kp"
          refine ⟨_, _, _, rfl, kp.trans kb fun a z => .inl (by rw [z]; exact gF), ?_⟩
          rw [hch]
          refine close (tabs K) _ _ (put1 (chgR i S.rows (es.take j)) (kk, some wo, en)) kb upd_same ?_ (fun k' hk' => ?_) (put1_ok hT'.ok hok.1 hok.2)
          · refine ((g5.keep kb).put (k := kk) (v := .ref u) (d := rowD (wo, en)) (dt2.mpr ⟨u, _, _, rfl, by walk_at "look", rfl, rfl⟩) ?_ hok.1.1 hok.1.2).congr fun j' => ?_
            · exact di_tup (Nat.le_of_ble_eq_true rfl) fun d hd => by
                simp only [List.mem_cons, List.not_mem_nil, or_false] at hd
                rcases hd with rfl | rfl
                · exact Di.int
                · exact Di.int
            · by_cases hj : j' = kk
              · have h2 : kk / 4 = (i.toNat : Int) := by omega
                simp [pgf, put1, upf, hj, h2]
              · simp [pgf, put1, upf, hj]
          · show put1 _ _ k' = _
            unfold put1 upf
            rw [if_neg]
            intro z
            subst z
            exact hk' (by show k' / 4 = _; omega)
      · have h1 : kk / 4 ≠ i := fun z => h1 (by rw [z])
        rw [if_neg h1] at hch
        walk_at "run"
        refine ⟨_, _, _, rfl, kp, ?_⟩
        rw [hch]; exact hT'
    · rintro σ' H' ⟨v3, v4, v5, rfl, kp, hT'⟩
      rw [hlen, List.take_length] at hT'
      walk_at "run"
      refine k H' F ?_ ⟨kp, fun a z => .inl z⟩
      have e : S.chg (.deal n hn l dn es) i = { S with rows := chgR i S.rows es } := by
        unfold TB.chg
        rw [if_neg h8]
      rw [e]; exact hT'
end
end W

end
section
/-! ### M0: words for walking through a reading (local) -/
local macro_rules | `(tactic| walk_at "st") => `(tactic| first
  | (with_reducible refine Cm.s_seq ?_) | (with_reducible refine Cm.s_asg ?_) | (with_reducible refine Cm.s_drop ?_) | (with_reducible refine Cm.s_ret ?_) | (with_reducible refine Cm.s_if ?_) | (with_reducible refine Cm.s_next ?_) | (with_reducible refine Cm.s_retN ?_) | (with_reducible refine Cm.s_rs ?_) | (with_reducible refine Cm.s_fld0 ?_)
  | ((with_reducible refine' Cm.e_var ?hv ?_); (case hv => exact rfl))
  | (with_reducible refine Cm.e_c ?_) | (with_reducible refine Cm.e_op ?_) | (with_reducible refine Cm.e_un ?_) | (with_reducible refine Cm.e_nil ?_) | (with_reducible refine Cm.e_cons ?_) | (with_reducible refine Cm.e_tup ?_) | (with_reducible refine Cm.e_lst ?_) | (with_reducible refine Cm.e_cb ?_) | (with_reducible refine Cm.e_call ?_) | (with_reducible refine Cm.e_if ?_)
  | (with_reducible refine Cm.e_andV ?_) | (with_reducible refine Cm.e_orV ?_) | (with_reducible refine Cm.e_notV ?_) | (with_reducible refine Cm.e_fld0 ?_) | (with_reducible refine Cm.e_meth0 ?_) | (with_reducible refine Cm.e_bm0 ?_) | (with_reducible refine Cm.e_bm ?_) | (with_reducible refine Cm.e_sl ?_) | (with_reducible refine Cm.o_none ?_) | (with_reducible refine Cm.o_some ?_) | (with_reducible refine Cm.e_dnew ?_)
  | (with_reducible refine Cm.e_test ?_) | (with_reducible refine Cm.e_tr ?_) | (with_reducible refine Cm.e_and ?_) | (with_reducible refine Cm.e_or ?_) | (with_reducible refine Cm.e_not ?_) | (with_reducible refine Cm.e_yes ?_) | (with_reducible refine Cm.e_chain ?_)
  | (with_reducible refine Cm.r_i0 ?_) | (with_reducible refine Cm.r_u ?_) | (with_reducible refine Cm.r_isNo ?_) | (with_reducible refine Cm.r_notNo ?_) | (with_reducible refine Cm.r_addI ?_) | (with_reducible refine Cm.r_int1b ?_) | (with_reducible refine Cm.r_max2 ?_)
  | ((with_reducible refine Cm.r_i ?hc ?_); (case hc => walk_at "num"))
  | ((with_reducible refine Cm.r_mulI ?hc ?_); (case hc => walk_at "num"))
  | ((with_reducible refine Cm.r_eqS ?hc ?_); (case hc => exact rfl))
  | ((with_reducible refine Cm.r_neS ?hc ?_); (case hc => exact rfl))
  | ((with_reducible refine' Cm.r_ixl ?h1 ?h2 ?_); (case h1 => walk_at "look"); (case h2 => walk_at "at"))
  | ((with_reducible refine' Cm.r_ixt ?h1 ?h2 ?_); (case h1 => walk_at "look"); (case h2 => walk_at "at"))
  | ((with_reducible refine' Cm.r_ixT ?h1 ?h2 ?_); (case h1 => walk_at "lookT"); (case h2 => walk_at "at"))
  | ((with_reducible refine' Cm.r_ixds ?h1 ?h2 ?_); (case h1 => walk_at "look"); (case h2 => walk_at "key"))
  | ((with_reducible refine' Cm.r_eqe ?h1 ?h2 ?_); (case h1 => walk_at "look"); (case h2 => walk_at "look"))
  | ((with_reducible refine' Cm.r_nee ?h1 ?h2 ?_); (case h1 => walk_at "look"); (case h2 => walk_at "look"))
  | ((with_reducible refine' Cm.r_lenl ?h1 ?_); (case h1 => walk_at "look"))
  | ((with_reducible refine' Cm.r_lent ?h1 ?_); (case h1 => walk_at "look"))
  | ((with_reducible refine' Cm.r_lenT ?h1 ?_); (case h1 => walk_at "lookT"))
  | ((with_reducible refine' Cm.r_listl ?h1 ?_); (case h1 => walk_at "look"); (intro _ _))
  | ((with_reducible refine' Cm.r_tupl ?h1 ?_); (case h1 => walk_at "look"); (intro _ _))
  | ((with_reducible refine' Cm.r_addL ?h1 ?h2 ?h3 ?_); (case h1 => walk_at "look"); (case h2 => walk_at "look"); (case h3 => walk_at "size"); (intro _ _))
  | ((with_reducible refine' Cm.m_append ?h1 ?h2 ?_); (case h1 => walk_at "look"); (case h2 => walk_at "size"))
  | ((with_reducible refine' Cm.m_clear ?h1 ?_); (case h1 => walk_at "look"))
  | ((with_reducible refine' Cm.g_setL ?h1 ?h2 ?_); (case h1 => walk_at "look"); (case h2 => walk_at "ix"))
  | ((with_reducible refine' Cm.g_setDs ?h1 ?h2 ?h3 ?_); (case h1 => walk_at "look"); (case h2 => walk_at "size"); (case h3 => walk_at "put"))
  | ((with_reducible refine' Cm.fld_at ?h1 ?h2 ?h3 ?h4 ?_); (case h1 => walk_at "look"); (case h2 => assumption); (case h3 => assumption); (case h4 => walk_at "key"))
  | ((with_reducible refine' Cm.fldset_at ?h1 ?h2 ?h3 ?h4 ?h5 ?_); (case h1 => walk_at "look"); (case h2 => assumption); (case h3 => assumption); (case h4 => walk_at "size"); (case h5 => walk_at "put"))
  | (with_reducible refine Cm.s_fldaug0 ?_)
  | ((with_reducible refine' Cm.aug_at ?h1 ?h2 ?h3 ?h4 ?_); (case h1 => walk_at "look"); (case h2 => assumption); (case h3 => assumption); (case h4 => walk_at "key"))
  | ((with_reducible refine' Cm.augset_at ?h1 ?h4 ?h5 ?_); (case h1 => walk_at "look"); (case h4 => walk_at "size"); (case h5 => walk_at "put"))
  | (with_reducible refine Cm.in_sub_at ?_) | (with_reducible refine Cm.in_add_at ?_)
  | ((with_reducible refine' Cm.meth_at ?h1 ?h2 ?_); (case h1 => walk_at "look"); (case h2 => walk_at "key"))
  | ((with_reducible refine Cm.new_at ?h1 ?_); (case h1 => walk_at "size"); (intro _ _))
  | ((with_reducible refine Cm.and_at (A := L2.tyV _ "list" _ _) ?h1 ?_); (case h1 => exact Cm.ty_lst (by walk_at "look")))
  | ((with_reducible refine' Cm.g_tupt ?h1 ?h2 ?_); (case h1 => walk_at "look"); (case h2 => exact rfl))
  | ((with_reducible refine' Cm.g_tup ?h1 ?h2 ?_); (case h1 => walk_at "lookT"); (case h2 => exact rfl))
  | (with_reducible refine Cm.g_name ?_) | (with_reducible refine Cm.g_sub ?_) | (with_reducible refine Cm.g_cons ?_) | (with_reducible refine Cm.g_nil ?_)
  | (with_reducible refine Cm.int_at ?_) | (with_reducible refine Cm.bl_at ?_) | (with_reducible refine Cm.tr_bl ?_) | (with_reducible refine Cm.tr_non ?_)
  | ((with_reducible refine' Cm.m_pop0 ?h1 ?_); (case h1 => walk_at "look"))
  | ((with_reducible refine' Cm.r_slTo ?h1 ?h2 ?_); (case h1 => walk_at "look"); (case h2 => walk_at "num2"); (intro _ _))
  | ((with_reducible refine' Cm.r_slFrom ?h1 ?h2 ?_); (case h1 => walk_at "look"); (case h2 => walk_at "num2"); (intro _ _))
  | ((with_reducible refine' Cm.at_forL ?h1 ?_); (case h1 => walk_at "look"))
  | ((with_reducible refine' Cm.at_forT ?h1 ?_); (case h1 => walk_at "look"))
  | ((with_reducible refine' Cm.at_forR ?h1 ?h2 ?_); (case h1 => walk_at "num2"); (case h2 => walk_at "num2"))
  | ((with_reducible refine' Cm.at_forZ ?h1 ?h2 ?_); (case h1 => walk_at "look"); (case h2 => walk_at "look"))
  | (with_reducible refine Cm.s_forZ ?_) | (with_reducible refine Cm.s_forR ?_)
  | ((with_reducible refine Cm.and_at (A := _ = _) ?h1 ?_); (case h1 => exact rfl))
  | ((with_reducible show L2.rIsi _ _ _ _); walk_at "isi")
  | (with_reducible refine Cm.ite_nt ?_) | (with_reducible refine Cm.ite_nf ?_)
  | (with_reducible refine L2.iteT ?_) | (with_reducible refine L2.iteF ?_)
  | dsimp only
  | fail)
local macro_rules | `(tactic| walk_at "run") => `(tactic| repeat (walk_at "st"))
local macro_rules | `(tactic| walk_at "num") => `(tactic| first
  | exact Or.inr ⟨by decide, by decide⟩ | exact Or.inl ⟨by decide, by decide⟩
  | exact Cm.wdiv (by first | decide | omega) (by first | decide | omega)
  | (show (0 : Int) < _; first | decide | omega)
  | exact ⟨by decide, by decide, by decide⟩
  | fail)
local macro_rules | `(tactic| walk_at "put") => `(tactic| exact rfl)
local macro_rules | `(tactic| walk_at "fl") => `(tactic| first | exact Cm.fl0 | (refine' Cm.flS ?hz; (case hz => walk_at "fl")) | fail)
local macro_rules | `(tactic| walk_at "size") => `(tactic| first | exact Cm.sz_lit rfl | exact Cm.sz_lt rfl | exact Cm.fs_lt rfl | decide | (refine' Nat.lt_of_le_of_lt ?ha ?hb; (case ha => walk_at "fl"); (case hb => decide)) | (simp only [List.length_cons, List.length_nil, List.length_append, List.length_map, List.length_set, List.length_replicate, PySem.sizeLine_eq]; omega) | (simp only [List.length_cons, List.length_nil, List.length_append, List.length_map, List.length_set, List.length_replicate, PySem.sizeLine_eq] at *; omega) | fail)
local macro_rules | `(tactic| walk_at "at") => `(tactic| first | assumption | (with_reducible exact Cm.at0) | (with_reducible exact Cm.at1) | (with_reducible exact Cm.at2) | (with_reducible exact Cm.at3) | (with_reducible exact Cm.at4) | (with_reducible exact Cm.at5) | (with_reducible exact Cm.at6) | (with_reducible exact Cm.at7) | (with_reducible exact Cm.at8) | (with_reducible exact Cm.at0s) | (with_reducible exact Cm.at1s) | (with_reducible exact Cm.at01s) | (with_reducible exact Cm.at10s) | fail)
local macro_rules | `(tactic| walk_at "ix") => `(tactic| first | exact Cm.ix0 (by walk_at "size") | exact Cm.ix1 (by walk_at "size") | assumption | fail)
local macro_rules | `(tactic| walk_at "key") => `(tactic| first | assumption | fail)
local macro_rules | `(tactic| walk_at "ne") => `(tactic| first
  | assumption
  | (refine Ne.symm ?_; assumption)
  | (refine' L2.ne_of_none ?h1 ?h2; (case h2 => assumption); (case h1 => walk_at "look"))
  | (refine' Ne.symm (L2.ne_of_none ?h1 ?h2); (case h2 => assumption); (case h1 => walk_at "look"))
  | fail)
local macro_rules | `(tactic| walk_at "lookT") => `(tactic| first
  | assumption
  | exact L2.SqT.of (by walk_at "look")
  | fail)
local macro_rules | `(tactic| walk_at "look") => `(tactic| first
  | assumption
  | exact L2.upd_same
  | ((fail_if_success (with_reducible refine Eq.trans L2.upd_same ?_)); (refine' Eq.trans (L2.upd_ne ?h1) ?h2); (case h1 => walk_at "ne"); (case h2 => walk_at "look"))
  | (refine' Cm.kp_look ?h1 ?h2 ?h3 ?h4; (case h1 => assumption); (case h2 => walk_at "look"); (case h3 => intro _ z; cases z); (case h4 => first | exact Or.inl rfl | exact Or.inr (by walk_at "out")))
  | fail)
local macro_rules | `(tactic| walk_at "out") => `(tactic| first
  | assumption
  | exact fun z => z
  | exact fun z => z.elim (fun e => absurd e (by walk_at "ne")) (fun e => absurd e (by walk_at "ne"))
  | exact fun e => absurd e (by walk_at "ne")
  | fail)
local macro_rules | `(tactic| walk_at "dom") => `(tactic| first
  | exact Cm.dm_refl
  | (refine Cm.dm_upd ?_; walk_at "dom")
  | (refine' Cm.dm_kp ?h1 ?h2; (case h2 => assumption); (case h1 => walk_at "dom"))
  | fail)
local macro_rules | `(tactic| walk_at "free") => `(tactic| first
  | assumption
  | exact Cm.nw_of (by assumption)
  | (refine' Cm.dm_use ?h1 ?h2; (case h2 => assumption); (case h1 => walk_at "dom"))
  | (refine' Cm.dm_use2 ?h1 ?h2; (case h2 => assumption); (case h1 => walk_at "dom"))
  | fail)
local macro_rules | `(tactic| walk_at "in") => `(tactic| first
  | exact Or.inl rfl | exact Or.inl (Or.inl rfl) | exact Or.inl (Or.inr rfl) | exact Or.inl (Or.inr (Or.inl rfl)) | exact Or.inl (Or.inr (Or.inr rfl))
  | exact Or.inl (by assumption)
  | exact Or.inr (by walk_at "free")
  | fail)
local macro_rules | `(tactic| walk_at "kp") => `(tactic| first
  | assumption
  | exact Cm.Kp.refl
  | (refine' Cm.Kp.new' ?h1 ?h2; (case h2 => assumption); (case h1 => walk_at "kp"))
  | (refine' Cm.Kp.setX' ?h1 ?h2 ?h4 ?h5 ?h3; (case h2 => walk_at "look"); (case h4 => exact rfl); (case h5 => intro _ z; cases z); (case h3 => walk_at "in"); (case h1 => walk_at "kp"))
  | (refine' Cm.kp_step ?h1 ?h2 ?h3; (case h2 => assumption); (case h3 => walk_at "sub"); (case h1 => walk_at "kp"))
  | fail)
local macro_rules | `(tactic| walk_at "sub") => `(tactic| first
  | exact fun _ z => z.elim
  | exact fun _ z => Or.inl z
  | (intro a z; rcases z with rfl | rfl <;> walk_at "in")
  | (intro a z; subst z; walk_at "in")
  | fail)
local macro_rules | `(tactic| walk_at "num2") => `(tactic| first | decide | omega | fail)

local macro_rules | `(tactic| walk_at "isi") => `(tactic| first | (with_reducible refine Cm.isi_non_bool ?_) | (with_reducible refine Cm.isi_non_int ?_) | (with_reducible refine Cm.isi_non_str ?_) | (with_reducible refine Cm.isi_non_tuple ?_) | (with_reducible refine Cm.isi_non_list ?_) | (with_reducible refine Cm.isi_bl_bool ?_) | (with_reducible refine Cm.isi_bl_int ?_) | (with_reducible refine Cm.isi_bl_str ?_) | (with_reducible refine Cm.isi_bl_tuple ?_) | (with_reducible refine Cm.isi_bl_list ?_) | (with_reducible refine Cm.isi_int_bool ?_) | (with_reducible refine Cm.isi_int_int ?_) | (with_reducible refine Cm.isi_int_str ?_) | (with_reducible refine Cm.isi_int_tuple ?_) | (with_reducible refine Cm.isi_int_list ?_) | (with_reducible refine Cm.isi_str_bool ?_) | (with_reducible refine Cm.isi_str_int ?_) | (with_reducible refine Cm.isi_str_str ?_) | (with_reducible refine Cm.isi_str_tuple ?_) | (with_reducible refine Cm.isi_str_list ?_) | ((with_reducible refine' Cm.isi_tup_bool ?h1 ?_); (case h1 => walk_at "look")) | ((with_reducible refine' Cm.isi_tup_int ?h1 ?_); (case h1 => walk_at "look")) | ((with_reducible refine' Cm.isi_tup_str ?h1 ?_); (case h1 => walk_at "look")) | ((with_reducible refine' Cm.isi_tup_tuple ?h1 ?_); (case h1 => walk_at "look")) | ((with_reducible refine' Cm.isi_tup_list ?h1 ?_); (case h1 => walk_at "look")) | ((with_reducible refine' Cm.isi_lst_bool ?h1 ?_); (case h1 => walk_at "look")) | ((with_reducible refine' Cm.isi_lst_int ?h1 ?_); (case h1 => walk_at "look")) | ((with_reducible refine' Cm.isi_lst_str ?h1 ?_); (case h1 => walk_at "look")) | ((with_reducible refine' Cm.isi_lst_tuple ?h1 ?_); (case h1 => walk_at "look")) | ((with_reducible refine' Cm.isi_lst_list ?h1 ?_); (case h1 => walk_at "look")) | fail)

/-! ### M1: more words -/
local macro_rules | `(tactic| walk_at "st") => `(tactic| first
  | ((with_reducible refine Cm.and_at (A := L2.tyV _ "dict" _ _) ?h1 ?_); (case h1 => exact Cm.ty_dic (by walk_at "look")))
  | (with_reducible refine Cm.e_dget2 ?_) | (with_reducible refine Cm.e_dpop2 ?_) | (with_reducible refine Cm.e_dpop1 ?_) | (with_reducible refine Cm.s_rx ?_)
  | ((with_reducible refine' Cm.isd_at ?h1 ?_); (case h1 => walk_at "look"))
  | ((with_reducible refine' Cm.get_at ?h1 ?_); (case h1 => walk_at "look"))
  | ((with_reducible refine' Cm.pop1_at ?h1 ?h2 ?_); (case h1 => walk_at "look"); (case h2 => assumption))
  | ((with_reducible refine' Cm.r_dictD ?h1 ?_); (case h1 => walk_at "look"); (intro _ _))
  | ((with_reducible refine' Cm.r_lenD ?h1 ?_); (case h1 => walk_at "look"))
  | ((with_reducible refine' Cm.r_ixdi ?h1 ?h2 ?_); (case h1 => walk_at "look"); (case h2 => assumption))
  | ((with_reducible refine' Cm.g_setdi ?h1 ?h2 ?_); (case h1 => walk_at "look"); (case h2 => first | assumption | omega))
  | (with_reducible refine Cm.r_min2 ?_)
  | (with_reducible refine W.r_eq_lv ?_) | (with_reducible refine W.r_ne_lv ?_) | (with_reducible refine W.r_isNo_lv ?_) | (with_reducible refine W.r_notNo_lv ?_)
  | fail)

local macro_rules | `(tactic| walk_at "key") => `(tactic| first | exact W.tF_g_rows | exact W.tF_g_hands | exact W.tF_g_moment | exact W.tF_g_number | exact W.tF_n_row_at | exact W.tF_n_shown | exact W.tF_n_content | exact W.tF_n_put_page | exact W.tF_n_prune | exact W.tF_n_change | exact W.tF_n_whole)
local macro_rules | `(tactic| walk_at "put") => `(tactic| first | exact W.tF_p_rows | exact W.tF_p_hands | exact W.tF_p_moment | exact W.tF_p_number)
local macro_rules | `(tactic| walk_at "size") => `(tactic| (rw [W.tF_len]; decide))

local macro_rules | `(tactic| walk_at "key") => `(tactic| first | exact W.oS_g_rows | exact W.oS_g_hands | exact W.oS_g_moment | exact W.oS_g_number)
local macro_rules | `(tactic| walk_at "put") => `(tactic| first | exact W.oS_p_rows | exact W.oS_p_hands | exact W.oS_p_moment | exact W.oS_p_number)
local macro_rules | `(tactic| walk_at "size") => `(tactic| (rw [W.oS_len]; decide))

namespace W
open PySem PySem.Spec PyProof.Rows L2 Cm
section
variable {w : World} {K : PySem.W.Frag} {mg : Str → Option Value}
theorem di_prD {n : Nat} {r : PRow} : Di (n + 1) (prD r) := di_tup (Nat.le_of_ble_eq_true rfl) fun d hd => by
  simp only [List.mem_cons, List.not_mem_nil, or_false] at hd
  rcases hd with rfl | rfl
  · exact Di.oD
  · exact Di.int
theorem di_deed {n : Nat} {d : Deed} : Di (n + 1) d.d := by
  cases d <;> (refine di_tup (Nat.le_of_ble_eq_true rfl) fun d hd => ?_) <;> simp only [List.mem_cons, List.not_mem_nil, or_false] at hd
  · rcases hd with rfl | rfl | rfl | rfl
    · exact Di.str
    · exact Di.int
    · exact Di.int
    · exact Di.int
  · rcases hd with rfl | rfl
    · exact Di.str
    · exact Di.int
  · rcases hd with rfl | rfl | rfl
    · exact Di.str
    · exact Di.int
    · exact Di.int
  · rcases hd with rfl | rfl | rfl
    · exact Di.str
    · exact Di.int
    · exact Di.oD
theorem Deed.at1 {H : Hp} {v : V} {d : Deed} (h : Dt H v d.d) : ∃ a w rest, v = .ref a ∧ H a = some (.tup (.str w :: .int d.key :: rest)) ∧ (w = "if" ↔ d.isIf = true) := by
  cases d with
  | put k w l =>
    obtain ⟨a, v0, v1, v2, v3, rfl, ha, rfl, rfl, rfl, rfl⟩ := dt4.mp h
    exact ⟨a, _, _, rfl, ha, fun z => absurd z (by decide), fun z => (nomatch z)⟩
  | drop k =>
    obtain ⟨a, v0, v1, rfl, ha, rfl, rfl⟩ := dt2.mp h
    exact ⟨a, _, _, rfl, ha, fun z => absurd z (by decide), fun z => (nomatch z)⟩
  | add k m =>
    obtain ⟨a, v0, v1, v2, rfl, ha, rfl, rfl, rfl⟩ := dt3.mp h
    exact ⟨a, _, _, rfl, ha, fun z => absurd z (by decide), fun z => (nomatch z)⟩
  | iff k w =>
    obtain ⟨a, v0, v1, v2, rfl, ha, rfl, rfl, _⟩ := dt3.mp h
    exact ⟨a, _, _, rfl, ha, fun _ => rfl, fun _ => rfl⟩
def ovf (ov : Ov) : Int → Option PyData := fun k => (ov k).map prD
theorem effL_take {f : Rows} {m : Int} : ∀ (ds : List Deed) (ov : Ov) (i : Nat) (d : Deed), ds[i]? = some d → effL f m ov (ds.take (i + 1)) = (effL f m ov (ds.take i)).bind fun o => eff1 f m o d
  | [], _, _, _, h => by simp at h
  | e :: ds, ov, 0, d, h => by
    have h : e = d := by simpa using h
    subst h
    show (match eff1 f m ov e with | none => none | some ov => effL f m ov []) = eff1 f m ov e
    cases eff1 f m ov e <;> rfl
  | e :: ds, ov, i + 1, d, h => by
    show (match eff1 f m ov e with | none => none | some ov => effL f m ov (ds.take (i + 1))) = Option.bind (match eff1 f m ov e with | none => none | some ov => effL f m ov (ds.take i)) _
    cases eff1 f m ov e with
    | none => rfl
    | some o => exact effL_take ds o i d (by simpa using h)
theorem effL_none {f : Rows} {m : Int} : ∀ (ds : List Deed) (ov : Ov) (i : Nat), effL f m ov (ds.take i) = none → effL f m ov ds = none
  | [], ov, i, h => by simpa using h
  | d :: ds, ov, 0, h => by cases h
  | d :: ds, ov, i + 1, h => by
    show (match eff1 f m ov d with | none => none | some ov => effL f m ov ds) = none
    have h : (match eff1 f m ov d with | none => none | some ov => effL f m ov (ds.take i)) = none := h
    cases e : eff1 f m ov d with
    | none => rfl
    | some o => rw [e] at h; exact effL_none ds o i h
theorem effs_keys {ov : Ov} : effs ov = (keysOf (ovf ov) 32).filterMap fun k => (ov k).map fun r => (k, r) := by
  unfold effs keysOf
  rw [List.filterMap_filter]
  congr 1
  funext k
  unfold ovf
  cases ov k <;> rfl
theorem keysOf_get {ov : Ov} {i : Nat} {k : Int} (h : (keysOf (ovf ov) 32)[i]? = some k) : ∃ r, ov k = some r := by
  have := (List.mem_filter.mp (List.mem_of_getElem? h)).2
  unfold ovf at this
  cases e : ov k with
  | none => rw [e] at this; cases this
  | some r => exact ⟨r, rfl⟩
theorem pure_effects_of (T : Tx w K mg) (vs : List V) (H : Hp) (Q : VK) (E : XK) (h : S_effects_of K vs H Q E) : t_effects_of K E { nx := fun _ H' => Q .non H', rt := Q } (start N_effects_of vs) H := by
  obtain ⟨_, _, rfl, ds, p, S, F, hx, hok, hl4, rfl, hT, k⟩ := h
  obtain ⟨a, xs, rfl, ha, hA⟩ := hx
  have hlen := hA.length
  rw [List.length_map] at hlen
  have c := T.c_Table
  have a3 := T.a_Table_moment
  unfold t_effects_of
  walk_at "run"
  intro fa hfa
  walk_at "run"
  refine s_forT ?_
  walk_at "run"
  refine forT (xs := xs) (fun i σ' H' => ∃ v3 v4 v5 kvs ov, σ' = [some (.ref a), some (.ref p), some (.ref fa), v3, v4, v5] ∧ Kp (tabs K) No H H' ∧ H' fa = some (.dK kvs) ∧ effL S.rows S.moment (fun _ => none) (ds.take i) = some ov ∧ DR H' kvs (ovf ov))
    ⟨none, none, none, [], fun _ => none, rfl, Kp.new hfa, upd_same, rfl, DR.nil⟩ (fun j σ' H' ⟨_, _, _, _, _, _, z, _⟩ => z.tup ha) ?_ ?_
  · rintro i x σ' H' hx ⟨v3, v4, v5, kvs, ov, rfl, kp, hf, hov, hD⟩
    obtain ⟨_, hd1, hd2⟩ := hA.get hx
    obtain ⟨d, hd, rfl⟩ := map_get hd1
    have hd2 := Dt.keep kp (n := 3) di_deed hd2
    obtain ⟨t, wd, rest, rfl, ht, hif⟩ := Deed.at1 hd2
    have hkey := (hok d (List.mem_of_getElem? hd)).key
    have hT' := hT.keep kp (fun _ _ z => z)
    obtain ⟨dx, rl, hA', h1, _, _⟩ := id hT'.ins
    have hz := hD.len
    have hz' : kvs.length ≤ 100 := by omega
    -- what follows behind the row is known
    have go : ∀ y, RowV H' y (ov.row S.rows d.key) → S_row_behind K [.ref t, y, .int S.moment] H' (fun v H2 => gName 5 v [some (.ref a), some (.ref p), some (.ref fa), some (.ref t), some (.int d.key), v5] H2 (tSeq (tIfS (tTest (tOp rIsNo (tVar 5) (tC .non))) (tRet (tTup (tCons (tC (.bl false)) (tCons (tTup tNil) tNil)))) tNext) (tIfS (tTest (tOp (rNeA K) (tOp (rIxA K) (tVar 3) (tC (.int 0))) (tC (.str "if")))) (tAsg (tVar 5) (gSub (tVar 2) (tVar 4) rSetA)) tNext) { nx := fun σ' H' => ∃ v3 v4 v5 kvs ov, σ' = [some (.ref a), some (.ref p), some (.ref fa), v3, v4, v5] ∧ Kp (tabs K) No H H' ∧ H' fa = some (.dK kvs) ∧ effL S.rows S.moment (fun _ => none) (ds.take (i + 1)) = some ov ∧ DR H' kvs (ovf ov), rt := Q })) E := by
      intro y hy
      refine ⟨_, _, _, rfl, d, ov.row S.rows d.key, S.moment, hd2, hy, rfl, fun v H2 k2 hv => ?_⟩
      have hov1 := effL_take (f := S.rows) (m := S.moment) ds (fun _ => none) i d hd
      rw [hov] at hov1
      have hov1 : _ = eff1 S.rows S.moment ov d := hov1
      have hf2 := k2.dK hf (fun z => z)
      have kk : Kp (tabs K) No H H2 := by walk_at "kp"
      unfold eff1 at hov1
      cases hrb : rb d (ov.row S.rows d.key) S.moment with
      | none =>
        rw [hrb] at hov1 hv
        obtain rfl : v = .non := hv
        walk_at "run"
        refine if_dT rfl ?_
        walk_at "run"
        rename_i t2 ht2 t3 ht3
        refine k _ _ (by walk_at "kp") ?_
        have e : effR S.rows S.moment ds = (false, []) := by
          unfold effR
          rw [effL_none ds _ (i + 1) hov1]
        rw [e]
        exact dt2.mpr ⟨t3, _, _, rfl, by walk_at "look", rfl, ⟨t2, [], rfl, by walk_at "look", rfl⟩⟩
      | some r =>
        rw [hrb] at hov1 hv
        obtain ⟨u, _, rfl, hu, _⟩ := id hv
        have ht2 := k2.tup ht
        walk_at "run"
        refine if_dF (fun z => nomatch z) ?_
        walk_at "run"
        refine if_nd (fun h2 => ?_) (fun h2 => ?_)
        · have h3 : d.isIf = false := by
            cases e : d.isIf with
            | false => rfl
            | true => exact (h2 (by rw [hif.mpr e])).elim
          rw [h3] at hov1
          walk_at "run"
          have kb : Kp (tabs K) No H (upd H2 fa (.dK (putK kvs (.inl d.key) (.ref u)))) := by walk_at "kp"
          have kc : Kp (tabs K) (fun b => b = fa) H2 (upd H2 fa (.dK (putK kvs (.inl d.key) (.ref u)))) := Kp.setD hf2 rfl
          refine ⟨_, _, _, _, _, rfl, kb, upd_same, hov1, ?_⟩
          refine (((hD.keep k2).keep kc).put (k := d.key) (d := prD r) (Dt.keep kc (n := 3) di_prD hv) di_prD hkey.1 hkey.2).congr fun j => ?_
          show _ = (upf ov d.key (some r) j).map prD
          unfold upf ovf
          split <;> rfl
        · have h3 : d.isIf = true := hif.mp (by injection h2)
          rw [h3] at hov1
          walk_at "run"
          exact ⟨_, _, _, _, _, rfl, kk, hf2, hov1, hD.keep k2⟩
    walk_at "run"
    refine r_inD hf rfl ?_
    walk_at "run"
    cases hr : ov d.key with
    | none =>
      have e1 : valV kvs (.inl d.key) = none := hD.non _ (by unfold ovf; rw [hr]; rfl)
      rw [e1]
      refine iteF ?_
      walk_at "run"
      refine ⟨_, _, rfl, p, S, F, d.key, rfl, hT', rfl, hkey, fun v hv => ?_⟩
      walk_at "run"
      refine go v ?_
      unfold Ov.row
      rw [hr]; exact hv
    | some r =>
      obtain ⟨v, e1, e2⟩ := hD.get d.key (prD r) (by unfold ovf; rw [hr]; rfl)
      rw [e1]
      refine iteT ?_
      walk_at "run"
      refine go v ?_
      unfold Ov.row
      rw [hr]; exact e2
  · rintro σ' H' ⟨v3, v4, v5, kvs, ov, rfl, kp, hf, hov, hD⟩
    rw [hlen, List.take_length] at hov
    have e0 : effR S.rows S.moment ds = (true, effs ov) := by unfold effR; rw [hov]
    rw [e0] at k
    walk_at "run"
    refine lcL ?_
    walk_at "run"
    refine r_sortD hf hD (n := 32) (fun k d e => (hD.dom k d e).2) fun l hl => ?_
    walk_at "run"
    intro Dl hDl
    have hlD : l ≠ Dl := by walk_at "ne"
    refine coreL (xs := (keysOf (ovf ov) 32).map V.int) (fun i acc H2 => Kp (tabs K) No H H2 ∧ H2 l = some (.lst ((keysOf (ovf ov) 32).map V.int)) ∧ H2 fa = some (.dK kvs) ∧ DR H2 kvs (ovf ov) ∧
      DtA H2 acc ((((keysOf (ovf ov) 32).take i).filterMap fun k => (ov k).map fun r => (k, r)).map effD)) ?_ (fun i acc H2 z => z.2.1) (fun i x acc H2 hx hi hl z e => ?_) (fun acc H2 hl z e => ?_)
    · have kb : Kp (tabs K) No H' (upd (upd H' l (.lst ((keysOf (ovf ov) 32).map V.int))) Dl (.lst [])) := by walk_at "kp"
      exact ⟨by walk_at "kp", by walk_at "look", by walk_at "look", hD.keep kb, rfl⟩
    · obtain ⟨kp2, g1, g2, g3, g4⟩ := z
      obtain ⟨key, hkey, rfl⟩ := map_get hx
      obtain ⟨r, hr⟩ := keysOf_get hkey
      obtain ⟨v, e1, e2⟩ := g3.get key (prD r) (by unfold ovf; rw [hr]; rfl)
      obtain ⟨u, u0, u1, rfl, hu, hu0, rfl⟩ := dt2.mp e2
      obtain rfl := dt_oD.mp hu0
      have hlD2 : l ≠ Dl := hlD
      have hfD : fa ≠ Dl := fun z => by rw [z, e] at g2; cases g2
      unfold CStep
      walk_at "run"
      rename_i t ht
      refine r_catT (xs := [.int key]) (ys := [lv r.1, .int r.2]) upd_same (by walk_at "look") (by rw [sizeLine_eq]; simp) (fun z => nomatch z) (fun _ z => nomatch z) fun _ _ t2 ht2 => ?_
      have ht2D : Dl ≠ t2 := by walk_at "ne"
      have htD : Dl ≠ t := by walk_at "ne"
      have kb : Kp (tabs K) (fun b => b = Dl) H2 (upd (upd (upd H2 t (.tup [.int key])) t2 (.tup ([.int key] ++ [lv r.1, .int r.2]))) Dl (.lst (acc ++ [.ref t2]))) := by walk_at "kp"
      refine c_put (by walk_at "look") hl (by have : ((keysOf (ovf ov) 32).map V.int).length ≤ 32 := by
                                                rw [List.length_map]; exact Nat.le_trans (List.length_filter_le _ _) (by decide)
                                              omega) ⟨by walk_at "kp", by walk_at "look", by walk_at "look", g3.keep kb, ?_⟩
      rw [take_succ hkey, List.filterMap_append, List.map_append]
      refine (g4.keep kb (n := 3) fun d hd => ?_).append ?_
      · obtain ⟨q, _, rfl⟩ := List.mem_map.mp hd
        exact di_tup (Nat.le_of_ble_eq_true rfl) fun d hd => by
          simp only [List.mem_cons, List.not_mem_nil, or_false] at hd
          rcases hd with rfl | rfl | rfl
          · exact Di.int
          · exact Di.oD
          · exact Di.int
      · simp only [List.filterMap_cons, hr, Option.map_some, List.filterMap_nil, List.map_cons, List.map_nil]
        exact .cons (dt3.mpr ⟨t2, _, _, _, rfl, by walk_at "look", rfl, dt_oD.mpr rfl, rfl⟩) .nil
    · obtain ⟨kp2, g1, g2, g3, g4⟩ := z
      rw [List.length_map, List.take_length, ← effs_keys] at g4
      walk_at "run"
      rename_i t ht t2 ht2
      have kb : Kp (tabs K) No H2 (upd (upd H2 t (.tup acc)) t2 (.tup [.bl true, .ref t])) := by walk_at "kp"
      refine k _ _ (by walk_at "kp") ?_
      refine dt2.mpr ⟨t2, _, _, rfl, by walk_at "look", rfl, ⟨t, acc, rfl, by walk_at "look", g4.keep kb (n := 3) fun d hd => ?_⟩⟩
      obtain ⟨q, _, rfl⟩ := List.mem_map.mp hd
      exact di_tup (Nat.le_of_ble_eq_true rfl) fun d hd => by
        simp only [List.mem_cons, List.not_mem_nil, or_false] at hd
        rcases hd with rfl | rfl | rfl
        · exact Di.int
        · exact Di.oD
        · exact Di.int
end
end W

end
section
/-! ### what the law's own tables promise -/
namespace W
open PySem PySem.Spec PyProof.Rows L2 Cm
def S_take_ (K : PySem.W.Frag) : Sp := spTake (tabs K)
def S_begun_ (K : PySem.W.Frag) : Sp := sp1 fun x H Q _ => ∃ (a : Addr) (ns : List Int), x = .ref a ∧ SqL K H a (ns.map V.int) ∧ ns.length ≤ 63 ∧ ∀ b l H', BoxAt H' b l → Nw H b → Nw H l → Kp (tabs K) No H H' → Q (.ref b) H'
def S_store_ (K : PySem.W.Frag) : Sp := sp0 fun H Q _ => ∀ s H' F', OwnAt H' s ts0 F' → Kp (tabs K) No H H' → (∀ a, F' a → Nw H a) → Q (.ref s) H'
def S_again_ (K : PySem.W.Frag) : Sp := sp1 fun x H Q _ => ∃ s S F, x = .ref s ∧ OwnAt H s S F ∧ ∀ s' H' F', OwnAt H' s' S F' → Kp (tabs K) No H H' → (∀ a, F' a → Nw H a) → Q (.ref s') H'
def S_seen_ (K : PySem.W.Frag) : Sp := sp2 fun x y H Q _ => ∃ s S F k, x = .ref s ∧ OwnAt H s S F ∧ y = .int k ∧ ∀ H', Kp (tabs K) No H H' → Q (lv (S.shown k)) H'
def S_tried_ (K : PySem.W.Frag) : Sp := sp2 fun x y H Q _ => ∃ s S F ds, x = .ref s ∧ OwnAt H s S F ∧ Dt H y (dealD ds) ∧ (∀ d ∈ ds, Deed.Ok d) ∧ ds.length ≤ 4 ∧ (ownL S.moment S.rows ds = none → ∀ H', Kp (tabs K) No H H' → Q .non H') ∧
  ∀ f, ownL S.moment S.rows ds = some f → ∀ r kvs H', Nw H r → H' r = some (.dK kvs) → DR H' kvs (rwf f) → Kp (tabs K) No H H' → Q (.ref r) H'
def S_deal_ (K : PySem.W.Frag) : Sp := sp4 fun x y z u H Q _ => ∃ s S F h l ds, x = .ref s ∧ OwnAt H s S F ∧ y = .int h ∧ (0 ≤ h ∧ h < 4) ∧ z = .int l ∧ 1 ≤ l ∧ Dt H u (dealD ds) ∧ (∀ d ∈ ds, Deed.Ok d) ∧ ds.length ≤ 4 ∧
  ∀ v q H' F', (S.deal h l ds).hands h = some q → Dt H' v (.tuple [.int q.2.1, .bool q.2.2]) → OwnAt H' s (S.deal h l ds) F' → Stp (tabs K) F F' H H' → Q v H'
def S_deed_ (K : PySem.W.Frag) : Sp := sp2 fun x y H Q _ => ∃ b l s S F, x = .ref b ∧ y = .ref s ∧ BoxAt H b l ∧ OwnAt H s S F ∧ ¬ F b ∧ ¬ F l ∧ ∀ v d H', Dt H' v (Deed.d d) → d.Ok → BoxAt H' b l → Kp (tabs K) (Bx b l) H H' → Q v H'
def S_drawn_ (K : PySem.W.Frag) : Sp := sp2 fun x y H Q _ => ∃ b l s S F, x = .ref b ∧ y = .ref s ∧ BoxAt H b l ∧ OwnAt H s S F ∧ ¬ F b ∧ ¬ F l ∧ ∀ v ds H', Dt H' v (dealD ds) → (∀ d ∈ ds, Deed.Ok d) → 0 < ds.length → ds.length ≤ 4 → BoxAt H' b l → Kp (tabs K) (Bx b l) H H' → Q v H'
theorem r_slT1 {K : PySem.W.Frag} {H : Hp} {Q : VK} {p : Addr} {x y : V} {xs : List V} (h : H p = some (.tup (x :: y :: xs))) (q : ∀ l, H l = none → Q (.ref l) (upd H l (.tup (y :: xs)))) : rSlAny K (.ref p) (some 1) none H Q := by
  refine .inr ⟨p, _, rfl, SqT.of h, fun z => ?_, fun _ l hl => ?_⟩
  · have e := z.1
    rw [show (1 : Int) = ((1 : Nat) : Int) from rfl, HT.sIx_nat] at e
    simp only [List.length_cons] at e
    omega
  · have e : cutV (x :: y :: xs) (some 1) none = y :: xs := by
      rw [cut_from (by decide)]; rfl
    rw [e]; exact q l hl
theorem m_upd2 {K : PySem.W.Frag} {H : Hp} {Q : VK} {d a p1 p2 : Addr} {kvs0 kvs1 : List (Key × V)} {k1 k2 : Str} {v1 v2 : V} (hd : H d = some (.dK kvs0)) (ha : H a = some (.lst [.ref p1, .ref p2])) (h1 : H p1 = some (.tup [.str k1, v1])) (h2 : H p2 = some (.tup [.str k2, v2]))
    (hz : kvs0.length ≤ 900) (hm : mergeK kvs0 [(.inr k1, v1), (.inr k2, v2)] = kvs1) (q : Q .non (upd H d (.dK kvs1))) : rUpd K (.ref d) [.ref a] H Q :=
  ⟨d, a, kvs0, [(.inr k1, v1), (.inr k2, v2)], [p1, p2], rfl, rfl, hd, SqL.of ha, .cons (SqT.of h1) (.cons (SqT.of h2) .nil), by rw [sizeLine_eq]; show _ + 2 ≤ _; omega, by rw [hm]; exact q⟩
end W

end
section
namespace W
open PySem PySem.Spec PyProof.Rows L2 Cm
/-! _law_begun -/
def t_begun_ (K : PySem.W.Frag) (E : XK) : TS := (tSeq (tAsg (tC (.int 0)) (gName 1)) (tSeq (tFor (iSeq K (tVar 0)) (gName 2) (tAsg (tOp (rI (fun _ j => 0 < j) fun i j => .int (i % j)) (tOp (rAddA K) (tOp (rAddA K) (tOp rMulA (tVar 1) (tC (.int 48271))) (tOp rMulA (tVar 2) (tC (.int 69621)))) (tC (.int 11))) (tC (.int 2147483647))) (gName 1))) (tRet (tLst (tCons (tCB (rListA K) (tCons (tVar 0) tNil)) (tCons (tOp rMulA (tVar 1) (tCB rInt1 (tCons (tOp (rI0 fun i j => .bl (decide (j < i))) (tCB (rLenA K) (tCons (tVar 0) tNil)) (tC (.int 2))) tNil))) tNil))))))
/-! _law_take -/
def t_take_ (K : PySem.W.Frag) (E : XK) : TS := (tSeq (tIfS (tTest (tOp (rEqA K) (tOp (rIxA K) (tVar 0) (tC (.int 0))) (tLst tNil))) (tSeq (tAsg (tOp (rI (fun _ j => 0 < j) fun i j => .int (i % j)) (tOp rMulA (tOp (rIxA K) (tVar 0) (tC (.int 1))) (tC (.int 48271))) (tC (.int 2147483647))) (gSub (tVar 0) (tC (.int 1)) rSetA)) (tRet (tOp (rI (fun _ j => 0 < j) fun i j => .int (i % j)) (tOp (rI CDivW fun i j => .int (i / j)) (tOp (rIxA K) (tVar 0) (tC (.int 1))) (tC (.int 7))) (tVar 1)))) tNext) (tSeq (tAsg (tOp (rIxA K) (tOp (rIxA K) (tVar 0) (tC (.int 0))) (tC (.int 0))) (gName 2)) (tSeq (tAsg (tOp (rI CDivW fun i j => .int (i / j)) (tVar 2) (tVar 1)) (gSub (tOp (rIxA K) (tVar 0) (tC (.int 0))) (tC (.int 0)) rSetA)) (tSeq (tIfS (tOr (tTest (tOp (rEqA K) (tOp (rIxA K) (tOp (rIxA K) (tVar 0) (tC (.int 0))) (tC (.int 0))) (tC (.int 0)))) (tTest (tOp (rEqA K) (tOp (rIxA K) (tOp (rIxA K) (tVar 0) (tC (.int 0))) (tC (.int 0))) (tUn (rU fun i => .int (-i)) (tC (.int 1)))))) (tDrop (tBM K "list" rPopAt (tOp (rIxA K) (tVar 0) (tC (.int 0))) (tCons (tC (.int 0)) tNil))) tNext) (tRet (tOp (rI (fun _ j => 0 < j) fun i j => .int (i % j)) (tVar 2) (tVar 1)))))))
/-! _law_store -/
def t_store_ (K : PySem.W.Frag) (E : XK) : TS := (tRet (tDisp [((tC (.str "rows")), tDNewK), ((tC (.str "hands")), tDNewK), ((tC (.str "moment")), (tC (.int 0))), ((tC (.str "number")), (tC (.int 0)))]))
/-! _law_again -/
def t_again_ (K : PySem.W.Frag) (E : XK) : TS := (tSeq (tAsg (tDisp [((tC (.str "rows")), (tCB rDictD (tCons (tOp (rIxA K) (tVar 0) (tC (.str "rows"))) tNil))), ((tC (.str "hands")), (tCB rDictD (tCons (tOp (rIxA K) (tVar 0) (tC (.str "hands"))) tNil)))]) (gName 1)) (tSeq (tDrop (tBM K "dict" (rUpd K) (tVar 1) (tCons (tLst (tCons (tTup (tCons (tC (.str "moment")) (tCons (tOp (rIxA K) (tVar 0) (tC (.str "moment"))) tNil))) (tCons (tTup (tCons (tC (.str "number")) (tCons (tOp (rIxA K) (tVar 0) (tC (.str "number"))) tNil))) tNil))) tNil))) (tRet (tVar 1))))
/-! _law_seen -/
def t_seen_ (K : PySem.W.Frag) (E : XK) : TS := (tSeq (tAsg (tDGet2 (tOp (rIxA K) (tVar 0) (tC (.str "rows"))) (tVar 1) (tTup (tCons (tC .non) (tCons (tC (.int 0)) tNil)))) (gName 2)) (tRet (tIf (tOr (tTest (tOp (rEqA K) (tOp (rIxA K) (tVar 2) (tC (.int 1))) (tC (.int 0)))) (tTest (tOp (rI0 fun i j => .bl (decide (j < i))) (tOp (rIxA K) (tVar 2) (tC (.int 1))) (tOp (rIxA K) (tVar 0) (tC (.str "moment")))))) (tOp (rIxA K) (tVar 2) (tC (.int 0))) (tC .non))))
/-! _law_tried -/
def t_tried_ (K : PySem.W.Frag) (E : XK) : TS := (tSeq (tAsg (tCall (S_again_ K) [] E (tCons (tVar 0) tNil)) (gName 2)) (tSeq (tFor (iSeq K (tVar 1)) (gName 3) (tSeq (tAsg (tOp (rIxA K) (tVar 3) (tC (.int 1))) (gName 4)) (tSeq (tAsg (tCall (S_seen_ K) [] E (tCons (tVar 2) (tCons (tVar 4) tNil))) (gName 5)) (tIfS (tTest (tOp (rEqA K) (tOp (rIxA K) (tVar 3) (tC (.int 0))) (tC (.str "put")))) (tAsg (tTup (tCons (tOp (rIxA K) (tVar 3) (tC (.int 2))) (tCons (tIf (tTest (tOp (rEqA K) (tOp (rIxA K) (tVar 3) (tC (.int 3))) (tC (.int 0)))) (tC (.int 0)) (tOp (rAddA K) (tOp (rIxA K) (tVar 0) (tC (.str "moment"))) (tOp (rIxA K) (tVar 3) (tC (.int 3))))) tNil))) (gSub (tOp (rIxA K) (tVar 2) (tC (.str "rows"))) (tVar 4) rSetA)) (tIfS (tTest (tOp (rEqA K) (tOp (rIxA K) (tVar 3) (tC (.int 0))) (tC (.str "drop")))) (tDrop (tDPop2 (tOp (rIxA K) (tVar 2) (tC (.str "rows"))) (tVar 4) (tC .non))) (tIfS (tTest (tOp (rEqA K) (tOp (rIxA K) (tVar 3) (tC (.int 0))) (tC (.str "if")))) (tIfS (tTest (tOp (rNeA K) (tVar 5) (tOp (rIxA K) (tVar 3) (tC (.int 2))))) (tRet (tC .non)) tNext) (tIfS (tOr (tTest (tOp rIsNo (tVar 5) (tC .non))) (tNot (tTest (tChain (rI0 fun i j => .bl (decide (i ≤ j))) (rI0 fun i j => .bl (decide (i ≤ j))) (tC (.int 0)) (tOp (rAddA K) (tVar 5) (tOp (rIxA K) (tVar 3) (tC (.int 2)))) (tC (.int 999)))))) (tRet (tC .non)) (tAsg (tTup (tCons (tOp (rAddA K) (tVar 5) (tOp (rIxA K) (tVar 3) (tC (.int 2)))) (tCons (tOp (rIxA K) (tOp (rIxA K) (tOp (rIxA K) (tVar 2) (tC (.str "rows"))) (tVar 4)) (tC (.int 1))) tNil))) (gSub (tOp (rIxA K) (tVar 2) (tC (.str "rows"))) (tVar 4) rSetA))))))))) (tRet (tOp (rIxA K) (tVar 2) (tC (.str "rows"))))))
/-! _law_deal -/
def t_deal_ (K : PySem.W.Frag) (E : XK) : TS := (tSeq (tIfS (tTest (tOp (rNeA K) (tOp (rIxA K) (tDGet2 (tOp (rIxA K) (tVar 0) (tC (.str "hands"))) (tVar 1) (tTup (tCons (tC (.int 0)) tNil))) (tC (.int 0))) (tVar 2))) (tSeq (tAsg (tCall (S_tried_ K) [] E (tCons (tVar 0) (tCons (tVar 3) tNil))) (gName 4)) (tSeq (tAsg (tOp (rAddA K) (tOp (rIxA K) (tVar 0) (tC (.str "number"))) (tC (.int 1))) (gSub (tVar 0) (tC (.str "number")) rSetA)) (tSeq (tIfS (tTest (tOp rNotNo (tVar 4) (tC .non))) (tAsg (tVar 4) (gSub (tVar 0) (tC (.str "rows")) rSetA)) tNext) (tAsg (tTup (tCons (tVar 2) (tCons (tOp (rIxA K) (tVar 0) (tC (.str "number"))) (tCons (tOp rNotNo (tVar 4) (tC .non)) tNil)))) (gSub (tOp (rIxA K) (tVar 0) (tC (.str "hands"))) (tVar 1) rSetA))))) tNext) (tRet (tSl (rSlAny K) (tOp (rIxA K) (tOp (rIxA K) (tVar 0) (tC (.str "hands"))) (tVar 1)) (tPart (tC (.int 1))) tNoPart)))
/-! _law_deed -/
def t_deed_ (K : PySem.W.Frag) (E : XK) : TS := (tSeq (tAsg (tCall (S_take_ K) [] E (tCons (tVar 0) (tCons (tOp (rIxA K) (tLst (tCons (tC (.int 2)) (tCons (tC (.int 6)) (tCons (tC (.int 32)) tNil)))) (tCall (S_take_ K) [] E (tCons (tVar 0) (tCons (tC (.int 3)) tNil)))) tNil))) (gName 2)) (tSeq (tAsg (tCall (S_seen_ K) [] E (tCons (tVar 1) (tCons (tVar 2) tNil))) (gName 3)) (tSeq (tAsg (tCall (S_take_ K) [] E (tCons (tVar 0) (tCons (tC (.int 10)) tNil))) (gName 4)) (tSeq (tIfS (tTest (tOp (rI0 fun i j => .bl (decide (i < j))) (tVar 4) (tC (.int 5)))) (tSeq (tAsg (tOp (rIxA K) (tLst (tCons (tC (.int 0)) (tCons (tOp (rAddA K) (tC (.int 1)) (tCall (S_take_ K) [] E (tCons (tVar 0) (tCons (tC (.int 9)) tNil)))) (tCons (tOp (rAddA K) (tC (.int 1)) (tCall (S_take_ K) [] E (tCons (tVar 0) (tCons (tC (.int 1000)) tNil)))) tNil)))) (tCall (S_take_ K) [] E (tCons (tVar 0) (tCons (tC (.int 3)) tNil)))) (gName 5)) (tRet (tTup (tCons (tC (.str "put")) (tCons (tVar 2) (tCons (tOp (rIxA K) (tLst (tCons (tCall (S_take_ K) [] E (tCons (tVar 0) (tCons (tC (.int 1000)) tNil))) (tCons (tC (.int 999)) (tCons (tC (.int 0)) tNil)))) (tCall (S_take_ K) [] E (tCons (tVar 0) (tCons (tC (.int 3)) tNil)))) (tCons (tVar 5) tNil))))))) tNext) (tSeq (tIfS (tTest (tOp (rEqA K) (tVar 4) (tC (.int 5)))) (tRet (tTup (tCons (tC (.str "drop")) (tCons (tVar 2) tNil)))) tNext) (tSeq (tIfS (tTest (tOp (rI0 fun i j => .bl (decide (i < j))) (tVar 4) (tC (.int 8)))) (tRet (tTup (tCons (tC (.str "add")) (tCons (tVar 2) (tCons (tOp (rIxA K) (tLst (tCons (tOp (rI0 fun i j => .int (i - j)) (tCall (S_take_ K) [] E (tCons (tVar 0) (tCons (tC (.int 9)) tNil))) (tC (.int 4))) (tCons (tOp (rI0 fun i j => .int (i - j)) (tCall (S_take_ K) [] E (tCons (tVar 0) (tCons (tC (.int 1999)) tNil))) (tC (.int 999))) tNil))) (tCall (S_take_ K) [] E (tCons (tVar 0) (tCons (tC (.int 2)) tNil)))) tNil))))) tNext) (tRet (tTup (tCons (tC (.str "if")) (tCons (tVar 2) (tCons (tOp (rIxA K) (tLst (tCons (tVar 3) (tCons (tVar 3) (tCons (tVar 3) (tCons (tC .non) (tCons (tCall (S_take_ K) [] E (tCons (tVar 0) (tCons (tC (.int 1000)) tNil))) tNil)))))) (tCall (S_take_ K) [] E (tCons (tVar 0) (tCons (tC (.int 5)) tNil)))) tNil)))))))))))
/-! _law_drawn -/
def t_drawn_ (K : PySem.W.Frag) (E : XK) : TS := (tRet (tCB (rTupleA K) (tCons (tLc (iRng1 (tCons (tOp (rAddA K) (tC (.int 1)) (tCall (S_take_ K) [] E (tCons (tVar 0) (tCons (tOp (rIxA K) (tLst (tCons (tC (.int 1)) (tCons (tC (.int 2)) (tCons (tC (.int 4)) tNil)))) (tCall (S_take_ K) [] E (tCons (tVar 0) (tCons (tC (.int 3)) tNil)))) tNil)))) tNil)) (gName 2) tYes (tCall (S_deed_ K) [] E0 (tCons (tVar 0) (tCons (tVar 1) tNil))) [2]) tNil)))
end W

end
section
/-! ### M0: words for walking through a reading (local) -/
local macro_rules | `(tactic| walk_at "st") => `(tactic| first
  | (with_reducible refine Cm.s_seq ?_) | (with_reducible refine Cm.s_asg ?_) | (with_reducible refine Cm.s_drop ?_) | (with_reducible refine Cm.s_ret ?_) | (with_reducible refine Cm.s_if ?_) | (with_reducible refine Cm.s_next ?_) | (with_reducible refine Cm.s_retN ?_) | (with_reducible refine Cm.s_rs ?_) | (with_reducible refine Cm.s_fld0 ?_)
  | ((with_reducible refine' Cm.e_var ?hv ?_); (case hv => exact rfl))
  | (with_reducible refine Cm.e_c ?_) | (with_reducible refine Cm.e_op ?_) | (with_reducible refine Cm.e_un ?_) | (with_reducible refine Cm.e_nil ?_) | (with_reducible refine Cm.e_cons ?_) | (with_reducible refine Cm.e_tup ?_) | (with_reducible refine Cm.e_lst ?_) | (with_reducible refine Cm.e_cb ?_) | (with_reducible refine Cm.e_call ?_) | (with_reducible refine Cm.e_if ?_)
  | (with_reducible refine Cm.e_andV ?_) | (with_reducible refine Cm.e_orV ?_) | (with_reducible refine Cm.e_notV ?_) | (with_reducible refine Cm.e_fld0 ?_) | (with_reducible refine Cm.e_meth0 ?_) | (with_reducible refine Cm.e_bm0 ?_) | (with_reducible refine Cm.e_bm ?_) | (with_reducible refine Cm.e_sl ?_) | (with_reducible refine Cm.o_none ?_) | (with_reducible refine Cm.o_some ?_) | (with_reducible refine Cm.e_dnew ?_)
  | (with_reducible refine Cm.e_test ?_) | (with_reducible refine Cm.e_tr ?_) | (with_reducible refine Cm.e_and ?_) | (with_reducible refine Cm.e_or ?_) | (with_reducible refine Cm.e_not ?_) | (with_reducible refine Cm.e_yes ?_) | (with_reducible refine Cm.e_chain ?_)
  | (with_reducible refine Cm.r_i0 ?_) | (with_reducible refine Cm.r_u ?_) | (with_reducible refine Cm.r_isNo ?_) | (with_reducible refine Cm.r_notNo ?_) | (with_reducible refine Cm.r_addI ?_) | (with_reducible refine Cm.r_int1b ?_) | (with_reducible refine Cm.r_max2 ?_)
  | ((with_reducible refine Cm.r_i ?hc ?_); (case hc => walk_at "num"))
  | ((with_reducible refine Cm.r_mulI ?hc ?_); (case hc => walk_at "num"))
  | ((with_reducible refine Cm.r_eqS ?hc ?_); (case hc => exact rfl))
  | ((with_reducible refine Cm.r_neS ?hc ?_); (case hc => exact rfl))
  | ((with_reducible refine' Cm.r_ixl ?h1 ?h2 ?_); (case h1 => walk_at "look"); (case h2 => walk_at "at"))
  | ((with_reducible refine' Cm.r_ixt ?h1 ?h2 ?_); (case h1 => walk_at "look"); (case h2 => walk_at "at"))
  | ((with_reducible refine' Cm.r_ixT ?h1 ?h2 ?_); (case h1 => walk_at "lookT"); (case h2 => walk_at "at"))
  | ((with_reducible refine' Cm.r_ixds ?h1 ?h2 ?_); (case h1 => walk_at "look"); (case h2 => walk_at "key"))
  | ((with_reducible refine' Cm.r_eqe ?h1 ?h2 ?_); (case h1 => walk_at "look"); (case h2 => walk_at "look"))
  | ((with_reducible refine' Cm.r_nee ?h1 ?h2 ?_); (case h1 => walk_at "look"); (case h2 => walk_at "look"))
  | ((with_reducible refine' Cm.r_lenl ?h1 ?_); (case h1 => walk_at "look"))
  | ((with_reducible refine' Cm.r_lent ?h1 ?_); (case h1 => walk_at "look"))
  | ((with_reducible refine' Cm.r_lenT ?h1 ?_); (case h1 => walk_at "lookT"))
  | ((with_reducible refine' Cm.r_listl ?h1 ?_); (case h1 => walk_at "look"); (intro _ _))
  | ((with_reducible refine' Cm.r_tupl ?h1 ?_); (case h1 => walk_at "look"); (intro _ _))
  | ((with_reducible refine' Cm.r_addL ?h1 ?h2 ?h3 ?_); (case h1 => walk_at "look"); (case h2 => walk_at "look"); (case h3 => walk_at "size"); (intro _ _))
  | ((with_reducible refine' Cm.m_append ?h1 ?h2 ?_); (case h1 => walk_at "look"); (case h2 => walk_at "size"))
  | ((with_reducible refine' Cm.m_clear ?h1 ?_); (case h1 => walk_at "look"))
  | ((with_reducible refine' Cm.g_setL ?h1 ?h2 ?_); (case h1 => walk_at "look"); (case h2 => walk_at "ix"))
  | ((with_reducible refine' Cm.g_setDs ?h1 ?h2 ?h3 ?_); (case h1 => walk_at "look"); (case h2 => walk_at "size"); (case h3 => walk_at "put"))
  | ((with_reducible refine' Cm.fld_at ?h1 ?h2 ?h3 ?h4 ?_); (case h1 => walk_at "look"); (case h2 => assumption); (case h3 => assumption); (case h4 => walk_at "key"))
  | ((with_reducible refine' Cm.fldset_at ?h1 ?h2 ?h3 ?h4 ?h5 ?_); (case h1 => walk_at "look"); (case h2 => assumption); (case h3 => assumption); (case h4 => walk_at "size"); (case h5 => walk_at "put"))
  | (with_reducible refine Cm.s_fldaug0 ?_)
  | ((with_reducible refine' Cm.aug_at ?h1 ?h2 ?h3 ?h4 ?_); (case h1 => walk_at "look"); (case h2 => assumption); (case h3 => assumption); (case h4 => walk_at "key"))
  | ((with_reducible refine' Cm.augset_at ?h1 ?h4 ?h5 ?_); (case h1 => walk_at "look"); (case h4 => walk_at "size"); (case h5 => walk_at "put"))
  | (with_reducible refine Cm.in_sub_at ?_) | (with_reducible refine Cm.in_add_at ?_)
  | ((with_reducible refine' Cm.meth_at ?h1 ?h2 ?_); (case h1 => walk_at "look"); (case h2 => walk_at "key"))
  | ((with_reducible refine Cm.new_at ?h1 ?_); (case h1 => walk_at "size"); (intro _ _))
  | ((with_reducible refine Cm.and_at (A := L2.tyV _ "list" _ _) ?h1 ?_); (case h1 => exact Cm.ty_lst (by walk_at "look")))
  | ((with_reducible refine' Cm.g_tupt ?h1 ?h2 ?_); (case h1 => walk_at "look"); (case h2 => exact rfl))
  | ((with_reducible refine' Cm.g_tup ?h1 ?h2 ?_); (case h1 => walk_at "lookT"); (case h2 => exact rfl))
  | (with_reducible refine Cm.g_name ?_) | (with_reducible refine Cm.g_sub ?_) | (with_reducible refine Cm.g_cons ?_) | (with_reducible refine Cm.g_nil ?_)
  | (with_reducible refine Cm.int_at ?_) | (with_reducible refine Cm.bl_at ?_) | (with_reducible refine Cm.tr_bl ?_) | (with_reducible refine Cm.tr_non ?_)
  | ((with_reducible refine' Cm.m_pop0 ?h1 ?_); (case h1 => walk_at "look"))
  | ((with_reducible refine' Cm.r_slTo ?h1 ?h2 ?_); (case h1 => walk_at "look"); (case h2 => walk_at "num2"); (intro _ _))
  | ((with_reducible refine' Cm.r_slFrom ?h1 ?h2 ?_); (case h1 => walk_at "look"); (case h2 => walk_at "num2"); (intro _ _))
  | ((with_reducible refine' Cm.at_forL ?h1 ?_); (case h1 => walk_at "look"))
  | ((with_reducible refine' Cm.at_forT ?h1 ?_); (case h1 => walk_at "look"))
  | ((with_reducible refine' Cm.at_forR ?h1 ?h2 ?_); (case h1 => walk_at "num2"); (case h2 => walk_at "num2"))
  | ((with_reducible refine' Cm.at_forZ ?h1 ?h2 ?_); (case h1 => walk_at "look"); (case h2 => walk_at "look"))
  | (with_reducible refine Cm.s_forZ ?_) | (with_reducible refine Cm.s_forR ?_)
  | ((with_reducible refine Cm.and_at (A := _ = _) ?h1 ?_); (case h1 => exact rfl))
  | ((with_reducible show L2.rIsi _ _ _ _); walk_at "isi")
  | (with_reducible refine Cm.ite_nt ?_) | (with_reducible refine Cm.ite_nf ?_)
  | (with_reducible refine L2.iteT ?_) | (with_reducible refine L2.iteF ?_)
  | dsimp only
  | fail)
local macro_rules | `(tactic| walk_at "run") => `(tactic| repeat (walk_at "st"))
local macro_rules | `(tactic| walk_at "num") => `(tactic| first
  | exact Or.inr ⟨by decide, by decide⟩ | exact Or.inl ⟨by decide, by decide⟩
  | exact Cm.wdiv (by first | decide | omega) (by first | decide | omega)
  | (show (0 : Int) < _; first | decide | omega)
  | exact ⟨by decide, by decide, by decide⟩
  | fail)
local macro_rules | `(tactic| walk_at "put") => `(tactic| exact rfl)
local macro_rules | `(tactic| walk_at "fl") => `(tactic| first | exact Cm.fl0 | (refine' Cm.flS ?hz; (case hz => walk_at "fl")) | fail)
local macro_rules | `(tactic| walk_at "size") => `(tactic| first | exact Cm.sz_lit rfl | exact Cm.sz_lt rfl | exact Cm.fs_lt rfl | decide | (refine' Nat.lt_of_le_of_lt ?ha ?hb; (case ha => walk_at "fl"); (case hb => decide)) | (simp only [List.length_cons, List.length_nil, List.length_append, List.length_map, List.length_set, List.length_replicate, PySem.sizeLine_eq]; omega) | (simp only [List.length_cons, List.length_nil, List.length_append, List.length_map, List.length_set, List.length_replicate, PySem.sizeLine_eq] at *; omega) | fail)
local macro_rules | `(tactic| walk_at "at") => `(tactic| first | assumption | (with_reducible exact Cm.at0) | (with_reducible exact Cm.at1) | (with_reducible exact Cm.at2) | (with_reducible exact Cm.at3) | (with_reducible exact Cm.at4) | (with_reducible exact Cm.at5) | (with_reducible exact Cm.at6) | (with_reducible exact Cm.at7) | (with_reducible exact Cm.at8) | (with_reducible exact Cm.at0s) | (with_reducible exact Cm.at1s) | (with_reducible exact Cm.at01s) | (with_reducible exact Cm.at10s) | fail)
local macro_rules | `(tactic| walk_at "ix") => `(tactic| first | exact Cm.ix0 (by walk_at "size") | exact Cm.ix1 (by walk_at "size") | assumption | fail)
local macro_rules | `(tactic| walk_at "key") => `(tactic| first | assumption | fail)
local macro_rules | `(tactic| walk_at "ne") => `(tactic| first
  | assumption
  | (refine Ne.symm ?_; assumption)
  | (refine' L2.ne_of_none ?h1 ?h2; (case h2 => assumption); (case h1 => walk_at "look"))
  | (refine' Ne.symm (L2.ne_of_none ?h1 ?h2); (case h2 => assumption); (case h1 => walk_at "look"))
  | fail)
local macro_rules | `(tactic| walk_at "lookT") => `(tactic| first
  | assumption
  | exact L2.SqT.of (by walk_at "look")
  | fail)
local macro_rules | `(tactic| walk_at "look") => `(tactic| first
  | assumption
  | exact L2.upd_same
  | ((fail_if_success (with_reducible refine Eq.trans L2.upd_same ?_)); (refine' Eq.trans (L2.upd_ne ?h1) ?h2); (case h1 => walk_at "ne"); (case h2 => walk_at "look"))
  | (refine' Cm.kp_look ?h1 ?h2 ?h3 ?h4; (case h1 => assumption); (case h2 => walk_at "look"); (case h3 => intro _ z; cases z); (case h4 => first | exact Or.inl rfl | exact Or.inr (by walk_at "out")))
  | fail)
local macro_rules | `(tactic| walk_at "out") => `(tactic| first
  | assumption
  | exact fun z => z
  | exact fun z => z.elim (fun e => absurd e (by walk_at "ne")) (fun e => absurd e (by walk_at "ne"))
  | exact fun e => absurd e (by walk_at "ne")
  | fail)
local macro_rules | `(tactic| walk_at "dom") => `(tactic| first
  | exact Cm.dm_refl
  | (refine Cm.dm_upd ?_; walk_at "dom")
  | (refine' Cm.dm_kp ?h1 ?h2; (case h2 => assumption); (case h1 => walk_at "dom"))
  | fail)
local macro_rules | `(tactic| walk_at "free") => `(tactic| first
  | assumption
  | exact Cm.nw_of (by assumption)
  | (refine' Cm.dm_use ?h1 ?h2; (case h2 => assumption); (case h1 => walk_at "dom"))
  | (refine' Cm.dm_use2 ?h1 ?h2; (case h2 => assumption); (case h1 => walk_at "dom"))
  | fail)
local macro_rules | `(tactic| walk_at "in") => `(tactic| first
  | exact Or.inl rfl | exact Or.inl (Or.inl rfl) | exact Or.inl (Or.inr rfl) | exact Or.inl (Or.inr (Or.inl rfl)) | exact Or.inl (Or.inr (Or.inr rfl))
  | exact Or.inl (by assumption)
  | exact Or.inr (by walk_at "free")
  | fail)
local macro_rules | `(tactic| walk_at "kp") => `(tactic| first
  | assumption
  | exact Cm.Kp.refl
  | (refine' Cm.Kp.new' ?h1 ?h2; (case h2 => assumption); (case h1 => walk_at "kp"))
  | (refine' Cm.Kp.setX' ?h1 ?h2 ?h4 ?h5 ?h3; (case h2 => walk_at "look"); (case h4 => exact rfl); (case h5 => intro _ z; cases z); (case h3 => walk_at "in"); (case h1 => walk_at "kp"))
  | (refine' Cm.kp_step ?h1 ?h2 ?h3; (case h2 => assumption); (case h3 => walk_at "sub"); (case h1 => walk_at "kp"))
  | fail)
local macro_rules | `(tactic| walk_at "sub") => `(tactic| first
  | exact fun _ z => z.elim
  | exact fun _ z => Or.inl z
  | (intro a z; rcases z with rfl | rfl <;> walk_at "in")
  | (intro a z; subst z; walk_at "in")
  | fail)
local macro_rules | `(tactic| walk_at "num2") => `(tactic| first | decide | omega | fail)

local macro_rules | `(tactic| walk_at "isi") => `(tactic| first | (with_reducible refine Cm.isi_non_bool ?_) | (with_reducible refine Cm.isi_non_int ?_) | (with_reducible refine Cm.isi_non_str ?_) | (with_reducible refine Cm.isi_non_tuple ?_) | (with_reducible refine Cm.isi_non_list ?_) | (with_reducible refine Cm.isi_bl_bool ?_) | (with_reducible refine Cm.isi_bl_int ?_) | (with_reducible refine Cm.isi_bl_str ?_) | (with_reducible refine Cm.isi_bl_tuple ?_) | (with_reducible refine Cm.isi_bl_list ?_) | (with_reducible refine Cm.isi_int_bool ?_) | (with_reducible refine Cm.isi_int_int ?_) | (with_reducible refine Cm.isi_int_str ?_) | (with_reducible refine Cm.isi_int_tuple ?_) | (with_reducible refine Cm.isi_int_list ?_) | (with_reducible refine Cm.isi_str_bool ?_) | (with_reducible refine Cm.isi_str_int ?_) | (with_reducible refine Cm.isi_str_str ?_) | (with_reducible refine Cm.isi_str_tuple ?_) | (with_reducible refine Cm.isi_str_list ?_) | ((with_reducible refine' Cm.isi_tup_bool ?h1 ?_); (case h1 => walk_at "look")) | ((with_reducible refine' Cm.isi_tup_int ?h1 ?_); (case h1 => walk_at "look")) | ((with_reducible refine' Cm.isi_tup_str ?h1 ?_); (case h1 => walk_at "look")) | ((with_reducible refine' Cm.isi_tup_tuple ?h1 ?_); (case h1 => walk_at "look")) | ((with_reducible refine' Cm.isi_tup_list ?h1 ?_); (case h1 => walk_at "look")) | ((with_reducible refine' Cm.isi_lst_bool ?h1 ?_); (case h1 => walk_at "look")) | ((with_reducible refine' Cm.isi_lst_int ?h1 ?_); (case h1 => walk_at "look")) | ((with_reducible refine' Cm.isi_lst_str ?h1 ?_); (case h1 => walk_at "look")) | ((with_reducible refine' Cm.isi_lst_tuple ?h1 ?_); (case h1 => walk_at "look")) | ((with_reducible refine' Cm.isi_lst_list ?h1 ?_); (case h1 => walk_at "look")) | fail)

/-! ### M1: more words -/
local macro_rules | `(tactic| walk_at "st") => `(tactic| first
  | ((with_reducible refine Cm.and_at (A := L2.tyV _ "dict" _ _) ?h1 ?_); (case h1 => exact Cm.ty_dic (by walk_at "look")))
  | (with_reducible refine Cm.e_dget2 ?_) | (with_reducible refine Cm.e_dpop2 ?_) | (with_reducible refine Cm.e_dpop1 ?_) | (with_reducible refine Cm.s_rx ?_)
  | ((with_reducible refine' Cm.isd_at ?h1 ?_); (case h1 => walk_at "look"))
  | ((with_reducible refine' Cm.get_at ?h1 ?_); (case h1 => walk_at "look"))
  | ((with_reducible refine' Cm.pop1_at ?h1 ?h2 ?_); (case h1 => walk_at "look"); (case h2 => assumption))
  | ((with_reducible refine' Cm.r_dictD ?h1 ?_); (case h1 => walk_at "look"); (intro _ _))
  | ((with_reducible refine' Cm.r_lenD ?h1 ?_); (case h1 => walk_at "look"))
  | ((with_reducible refine' Cm.r_ixdi ?h1 ?h2 ?_); (case h1 => walk_at "look"); (case h2 => assumption))
  | ((with_reducible refine' Cm.g_setdi ?h1 ?h2 ?_); (case h1 => walk_at "look"); (case h2 => first | assumption | omega))
  | (with_reducible refine Cm.r_min2 ?_)
  | (with_reducible refine W.r_eq_lv ?_) | (with_reducible refine W.r_ne_lv ?_) | (with_reducible refine W.r_isNo_lv ?_) | (with_reducible refine W.r_notNo_lv ?_)
  | fail)

local macro_rules | `(tactic| walk_at "key") => `(tactic| first | exact W.tF_g_rows | exact W.tF_g_hands | exact W.tF_g_moment | exact W.tF_g_number | exact W.tF_n_row_at | exact W.tF_n_shown | exact W.tF_n_content | exact W.tF_n_put_page | exact W.tF_n_prune | exact W.tF_n_change | exact W.tF_n_whole)
local macro_rules | `(tactic| walk_at "put") => `(tactic| first | exact W.tF_p_rows | exact W.tF_p_hands | exact W.tF_p_moment | exact W.tF_p_number)
local macro_rules | `(tactic| walk_at "size") => `(tactic| (rw [W.tF_len]; decide))

local macro_rules | `(tactic| walk_at "key") => `(tactic| first | exact W.oS_g_rows | exact W.oS_g_hands | exact W.oS_g_moment | exact W.oS_g_number)
local macro_rules | `(tactic| walk_at "put") => `(tactic| first | exact W.oS_p_rows | exact W.oS_p_hands | exact W.oS_p_moment | exact W.oS_p_number)
local macro_rules | `(tactic| walk_at "size") => `(tactic| (rw [W.oS_len]; decide))

namespace W
open PySem PySem.Spec PyProof.Rows L2 Cm
section
variable {w : World} {K : PySem.W.Frag} {mg : Str → Option Value}
theorem oS_made {r h : Addr} {m n : Int} : mergeK [] [(.inr "rows", .ref r), (.inr "hands", .ref h), (.inr "moment", .int m), (.inr "number", .int n)] = oS r h m n := by kernel_rfl
theorem oS_half {r h : Addr} : mergeK [] [(.inr "rows", V.ref r), (.inr "hands", .ref h)] = [(.inr "rows", .ref r), (.inr "hands", .ref h)] := by kernel_rfl
theorem oS_upd {r h : Addr} {m n : Int} : mergeK [(.inr "rows", V.ref r), (.inr "hands", .ref h)] [(.inr "moment", .int m), (.inr "number", .int n)] = oS r h m n := by kernel_rfl
theorem pure_store_ (vs : List V) (H : Hp) (Q : VK) (E : XK) (h : S_store_ K vs H Q E) : t_store_ K E { nx := fun _ H' => Q .non H', rt := Q } (start N_store_ vs) H := by
  obtain ⟨rfl, k⟩ := h
  unfold t_store_
  walk_at "run"
  refine e_disp fun q hq => ?_
  refine e_pcons ?_
  walk_at "run"
  intro r hr
  refine e_pcons ?_
  walk_at "run"
  intro h hh
  refine e_pcons ?_
  walk_at "run"
  refine e_pcons ?_
  walk_at "run"
  refine e_pnil ?_
  have e1 : q ≠ r := by walk_at "ne"
  have e2 : q ≠ h := by walk_at "ne"
  have e3 : r ≠ h := by walk_at "ne"
  refine ⟨by walk_at "look", [(.inr "rows", .ref r), (.inr "hands", .ref h), (.inr "moment", .int 0), (.inr "number", .int 0)], rfl, (by show 4 ≤ 15; decide), ?_⟩
  rw [oS_made]
  refine k q _ (fun a => a = q ∨ a = r ∨ a = h) ⟨r, h, [], [], by walk_at "look", by walk_at "look", DR.nil.congr fun _ => rfl, by walk_at "look", DR.nil.congr fun _ => rfl, ⟨e1, e2, e3⟩, ts0_ok, fun a => Iff.rfl⟩ (by walk_at "kp") (fun a ha => ?_)
  rcases ha with rfl | rfl | rfl
  · exact .inl hq
  · walk_at "free"
  · walk_at "free"
theorem pure_again_ (vs : List V) (H : Hp) (Q : VK) (E : XK) (h : S_again_ K vs H Q E) : t_again_ K E { nx := fun _ H' => Q .non H', rt := Q } (start N_again_ vs) H := by
  obtain ⟨_, rfl, s, S, F, rfl, ⟨r0, h0, rk, hk, h1, h2, h3, h4, h5, _, o, _⟩, k⟩ := h
  unfold t_again_
  walk_at "run"
  refine e_disp fun q hq => ?_
  refine e_pcons ?_
  walk_at "run"
  rename_i r hr
  refine e_pcons ?_
  walk_at "run"
  rename_i h hh
  refine e_pnil ?_
  have e1 : q ≠ r := by walk_at "ne"
  have e2 : q ≠ h := by walk_at "ne"
  have e3 : r ≠ h := by walk_at "ne"
  refine ⟨by walk_at "look", [(.inr "rows", .ref r), (.inr "hands", .ref h)], rfl, (by show 2 ≤ 15; decide), ?_⟩
  rw [oS_half]
  have nq : s ≠ q := ne_of_none h1 hq
  have nr : s ≠ r := by walk_at "ne"
  have nh : s ≠ h := by walk_at "ne"
  have fr : Nw H r := by walk_at "free"
  have fh : Nw H h := by walk_at "free"
  have kp1 : Kp (tabs K) No H (upd (upd (upd (upd H q (.dK [])) r (.dK rk)) h (.dK hk)) q (.dK [(.inr "rows", .ref r), (.inr "hands", .ref h)])) := by walk_at "kp"
  have g1 : (upd (upd (upd (upd H q (.dK [])) r (.dK rk)) h (.dK hk)) q (.dK [(.inr "rows", .ref r), (.inr "hands", .ref h)])) s = some (.dK (oS r0 h0 S.moment S.number)) := by walk_at "look"
  have g2 : (upd (upd (upd (upd H q (.dK [])) r (.dK rk)) h (.dK hk)) q (.dK [(.inr "rows", .ref r), (.inr "hands", .ref h)])) q = some (.dK [(.inr "rows", .ref r), (.inr "hands", .ref h)]) := upd_same
  have g3 : (upd (upd (upd (upd H q (.dK [])) r (.dK rk)) h (.dK hk)) q (.dK [(.inr "rows", .ref r), (.inr "hands", .ref h)])) r = some (.dK rk) := by walk_at "look"
  have g4 : (upd (upd (upd (upd H q (.dK [])) r (.dK rk)) h (.dK hk)) q (.dK [(.inr "rows", .ref r), (.inr "hands", .ref h)])) h = some (.dK hk) := by walk_at "look"
  clear hr hh
  revert kp1 g1 g2 g3 g4
  generalize upd (upd (upd (upd H q (.dK [])) r (.dK rk)) h (.dK hk)) q (.dK [(.inr "rows", .ref r), (.inr "hands", .ref h)]) = H1
  intro kp1 g1 g2 g3 g4
  walk_at "run"
  rename_i t1 ht1 t2 ht2 l hl
  have e4 : q ≠ t1 := by walk_at "ne"
  have e5 : q ≠ t2 := by walk_at "ne"
  have e6 : q ≠ l := by walk_at "ne"
  refine m_upd2 (by walk_at "look") (by walk_at "look") (by walk_at "look") (by walk_at "look") (by show 2 ≤ 900; decide) oS_upd ?_
  walk_at "run"
  have kp : Kp (tabs K) No H (upd (upd (upd (upd H1 t1 (.tup [.str "moment", .int S.moment])) t2 (.tup [.str "number", .int S.number])) l (.lst [.ref t1, .ref t2])) q (.dK (oS r h S.moment S.number))) := by walk_at "kp"
  refine k q _ (fun a => a = q ∨ a = r ∨ a = h) ⟨r, h, rk, hk, by walk_at "look", by walk_at "look", h3.keep kp, by walk_at "look", h5.keep kp, ⟨e1, e2, e3⟩, o, fun a => Iff.rfl⟩ kp (fun a ha => ?_)
  rcases ha with rfl | rfl | rfl
  · exact .inl hq
  · exact fr
  · exact fh
theorem row_own {H : Hp} {kvs : List (Key × V)} {f : Rows} {k : Int} (r : DR H kvs (rwf f)) : (f k = none ∧ valV kvs (.inl k) = none) ∨ ∃ w e v, f k = some (w, e) ∧ valV kvs (.inl k) = some v ∧ Dt H v (rowD (w, e)) := by
  cases hf : f k with
  | none => exact .inl ⟨rfl, r.non k (by unfold rwf; rw [hf]; rfl)⟩
  | some q =>
    obtain ⟨v, e1, e2⟩ := r.get k (rowD q) (by unfold rwf; rw [hf]; rfl)
    exact .inr ⟨q.1, q.2, v, rfl, e1, e2⟩
theorem pure_seen_ (vs : List V) (H : Hp) (Q : VK) (E : XK) (h : S_seen_ K vs H Q E) : t_seen_ K E { nx := fun _ H' => Q .non H', rt := Q } (start N_seen_ vs) H := by
  obtain ⟨_, _, rfl, s, S, F, key, rfl, ⟨r0, h0, rk, hk, h1, h2, h3, h4, h5, _, o, _⟩, rfl, k⟩ := h
  unfold t_seen_
  walk_at "run"
  rename_i t ht
  have kt : Kp (tabs K) No H (upd H t (.tup [.non, .int 0])) := by walk_at "kp"
  have kk := k _ kt
  unfold TB.shown at kk
  rcases row_own (k := key) h3 with ⟨e1, e2⟩ | ⟨wo, en, v, e1, e2, e3⟩
  · rw [e2]
    rw [e1] at kk
    rw [Option.getD_none]
    walk_at "run"
    refine if_dT rfl ?_
    walk_at "run"
    exact kk
  · rw [e2]
    rw [e1] at kk
    obtain ⟨u, u0, u1, rfl, hu, rfl, rfl⟩ := dt2.mp e3
    have kk : Q (lv (if en = 0 ∨ en > S.moment then some wo else none)) _ := kk
    rw [Option.getD_some]
    walk_at "run"
    refine if_d (fun h => ?_) (fun h => ?_)
    · have h : en = 0 := by injection h
      rw [if_pos (.inl h)] at kk
      walk_at "run"
      exact kk
    · have h' : en ≠ 0 := fun z => h (by rw [z])
      walk_at "run"
      refine if_d (fun h2 => ?_) (fun h2 => ?_)
      · rw [if_pos (.inr h2)] at kk
        walk_at "run"
        exact kk
      · rw [if_neg (fun z => z.elim h' h2)] at kk
        walk_at "run"
        exact kk
end
end W

end
section
/-! ### M0: words for walking through a reading (local) -/
local macro_rules | `(tactic| walk_at "st") => `(tactic| first
  | (with_reducible refine Cm.s_seq ?_) | (with_reducible refine Cm.s_asg ?_) | (with_reducible refine Cm.s_drop ?_) | (with_reducible refine Cm.s_ret ?_) | (with_reducible refine Cm.s_if ?_) | (with_reducible refine Cm.s_next ?_) | (with_reducible refine Cm.s_retN ?_) | (with_reducible refine Cm.s_rs ?_) | (with_reducible refine Cm.s_fld0 ?_)
  | ((with_reducible refine' Cm.e_var ?hv ?_); (case hv => exact rfl))
  | (with_reducible refine Cm.e_c ?_) | (with_reducible refine Cm.e_op ?_) | (with_reducible refine Cm.e_un ?_) | (with_reducible refine Cm.e_nil ?_) | (with_reducible refine Cm.e_cons ?_) | (with_reducible refine Cm.e_tup ?_) | (with_reducible refine Cm.e_lst ?_) | (with_reducible refine Cm.e_cb ?_) | (with_reducible refine Cm.e_call ?_) | (with_reducible refine Cm.e_if ?_)
  | (with_reducible refine Cm.e_andV ?_) | (with_reducible refine Cm.e_orV ?_) | (with_reducible refine Cm.e_notV ?_) | (with_reducible refine Cm.e_fld0 ?_) | (with_reducible refine Cm.e_meth0 ?_) | (with_reducible refine Cm.e_bm0 ?_) | (with_reducible refine Cm.e_bm ?_) | (with_reducible refine Cm.e_sl ?_) | (with_reducible refine Cm.o_none ?_) | (with_reducible refine Cm.o_some ?_) | (with_reducible refine Cm.e_dnew ?_)
  | (with_reducible refine Cm.e_test ?_) | (with_reducible refine Cm.e_tr ?_) | (with_reducible refine Cm.e_and ?_) | (with_reducible refine Cm.e_or ?_) | (with_reducible refine Cm.e_not ?_) | (with_reducible refine Cm.e_yes ?_) | (with_reducible refine Cm.e_chain ?_)
  | (with_reducible refine Cm.r_i0 ?_) | (with_reducible refine Cm.r_u ?_) | (with_reducible refine Cm.r_isNo ?_) | (with_reducible refine Cm.r_notNo ?_) | (with_reducible refine Cm.r_addI ?_) | (with_reducible refine Cm.r_int1b ?_) | (with_reducible refine Cm.r_max2 ?_)
  | ((with_reducible refine Cm.r_i ?hc ?_); (case hc => walk_at "num"))
  | ((with_reducible refine Cm.r_mulI ?hc ?_); (case hc => walk_at "num"))
  | ((with_reducible refine Cm.r_eqS ?hc ?_); (case hc => exact rfl))
  | ((with_reducible refine Cm.r_neS ?hc ?_); (case hc => exact rfl))
  | ((with_reducible refine' Cm.r_ixl ?h1 ?h2 ?_); (case h1 => walk_at "look"); (case h2 => walk_at "at"))
  | ((with_reducible refine' Cm.r_ixt ?h1 ?h2 ?_); (case h1 => walk_at "look"); (case h2 => walk_at "at"))
  | ((with_reducible refine' Cm.r_ixT ?h1 ?h2 ?_); (case h1 => walk_at "lookT"); (case h2 => walk_at "at"))
  | ((with_reducible refine' Cm.r_ixds ?h1 ?h2 ?_); (case h1 => walk_at "look"); (case h2 => walk_at "key"))
  | ((with_reducible refine' Cm.r_eqe ?h1 ?h2 ?_); (case h1 => walk_at "look"); (case h2 => walk_at "look"))
  | ((with_reducible refine' Cm.r_nee ?h1 ?h2 ?_); (case h1 => walk_at "look"); (case h2 => walk_at "look"))
  | ((with_reducible refine' Cm.r_lenl ?h1 ?_); (case h1 => walk_at "look"))
  | ((with_reducible refine' Cm.r_lent ?h1 ?_); (case h1 => walk_at "look"))
  | ((with_reducible refine' Cm.r_lenT ?h1 ?_); (case h1 => walk_at "lookT"))
  | ((with_reducible refine' Cm.r_listl ?h1 ?_); (case h1 => walk_at "look"); (intro _ _))
  | ((with_reducible refine' Cm.r_tupl ?h1 ?_); (case h1 => walk_at "look"); (intro _ _))
  | ((with_reducible refine' Cm.r_addL ?h1 ?h2 ?h3 ?_); (case h1 => walk_at "look"); (case h2 => walk_at "look"); (case h3 => walk_at "size"); (intro _ _))
  | ((with_reducible refine' Cm.m_append ?h1 ?h2 ?_); (case h1 => walk_at "look"); (case h2 => walk_at "size"))
  | ((with_reducible refine' Cm.m_clear ?h1 ?_); (case h1 => walk_at "look"))
  | ((with_reducible refine' Cm.g_setL ?h1 ?h2 ?_); (case h1 => walk_at "look"); (case h2 => walk_at "ix"))
  | ((with_reducible refine' Cm.g_setDs ?h1 ?h2 ?h3 ?_); (case h1 => walk_at "look"); (case h2 => walk_at "size"); (case h3 => walk_at "put"))
  | ((with_reducible refine' Cm.fld_at ?h1 ?h2 ?h3 ?h4 ?_); (case h1 => walk_at "look"); (case h2 => assumption); (case h3 => assumption); (case h4 => walk_at "key"))
  | ((with_reducible refine' Cm.fldset_at ?h1 ?h2 ?h3 ?h4 ?h5 ?_); (case h1 => walk_at "look"); (case h2 => assumption); (case h3 => assumption); (case h4 => walk_at "size"); (case h5 => walk_at "put"))
  | (with_reducible refine Cm.s_fldaug0 ?_)
  | ((with_reducible refine' Cm.aug_at ?h1 ?h2 ?h3 ?h4 ?_); (case h1 => walk_at "look"); (case h2 => assumption); (case h3 => assumption); (case h4 => walk_at "key"))
  | ((with_reducible refine' Cm.augset_at ?h1 ?h4 ?h5 ?_); (case h1 => walk_at "look"); (case h4 => walk_at "size"); (case h5 => walk_at "put"))
  | (with_reducible refine Cm.in_sub_at ?_) | (with_reducible refine Cm.in_add_at ?_)
  | ((with_reducible refine' Cm.meth_at ?h1 ?h2 ?_); (case h1 => walk_at "look"); (case h2 => walk_at "key"))
  | ((with_reducible refine Cm.new_at ?h1 ?_); (case h1 => walk_at "size"); (intro _ _))
  | ((with_reducible refine Cm.and_at (A := L2.tyV _ "list" _ _) ?h1 ?_); (case h1 => exact Cm.ty_lst (by walk_at "look")))
  | ((with_reducible refine' Cm.g_tupt ?h1 ?h2 ?_); (case h1 => walk_at "look"); (case h2 => exact rfl))
  | ((with_reducible refine' Cm.g_tup ?h1 ?h2 ?_); (case h1 => walk_at "lookT"); (case h2 => exact rfl))
  | (with_reducible refine Cm.g_name ?_) | (with_reducible refine Cm.g_sub ?_) | (with_reducible refine Cm.g_cons ?_) | (with_reducible refine Cm.g_nil ?_)
  | (with_reducible refine Cm.int_at ?_) | (with_reducible refine Cm.bl_at ?_) | (with_reducible refine Cm.tr_bl ?_) | (with_reducible refine Cm.tr_non ?_)
  | ((with_reducible refine' Cm.m_pop0 ?h1 ?_); (case h1 => walk_at "look"))
  | ((with_reducible refine' Cm.r_slTo ?h1 ?h2 ?_); (case h1 => walk_at "look"); (case h2 => walk_at "num2"); (intro _ _))
  | ((with_reducible refine' Cm.r_slFrom ?h1 ?h2 ?_); (case h1 => walk_at "look"); (case h2 => walk_at "num2"); (intro _ _))
  | ((with_reducible refine' Cm.at_forL ?h1 ?_); (case h1 => walk_at "look"))
  | ((with_reducible refine' Cm.at_forT ?h1 ?_); (case h1 => walk_at "look"))
  | ((with_reducible refine' Cm.at_forR ?h1 ?h2 ?_); (case h1 => walk_at "num2"); (case h2 => walk_at "num2"))
  | ((with_reducible refine' Cm.at_forZ ?h1 ?h2 ?_); (case h1 => walk_at "look"); (case h2 => walk_at "look"))
  | (with_reducible refine Cm.s_forZ ?_) | (with_reducible refine Cm.s_forR ?_)
  | ((with_reducible refine Cm.and_at (A := _ = _) ?h1 ?_); (case h1 => exact rfl))
  | ((with_reducible show L2.rIsi _ _ _ _); walk_at "isi")
  | (with_reducible refine Cm.ite_nt ?_) | (with_reducible refine Cm.ite_nf ?_)
  | (with_reducible refine L2.iteT ?_) | (with_reducible refine L2.iteF ?_)
  | dsimp only
  | fail)
local macro_rules | `(tactic| walk_at "run") => `(tactic| repeat (walk_at "st"))
local macro_rules | `(tactic| walk_at "num") => `(tactic| first
  | exact Or.inr ⟨by decide, by decide⟩ | exact Or.inl ⟨by decide, by decide⟩
  | exact Cm.wdiv (by first | decide | omega) (by first | decide | omega)
  | (show (0 : Int) < _; first | decide | omega)
  | exact ⟨by decide, by decide, by decide⟩
  | fail)
local macro_rules | `(tactic| walk_at "put") => `(tactic| exact rfl)
local macro_rules | `(tactic| walk_at "fl") => `(tactic| first | exact Cm.fl0 | (refine' Cm.flS ?hz; (case hz => walk_at "fl")) | fail)
local macro_rules | `(tactic| walk_at "size") => `(tactic| first | exact Cm.sz_lit rfl | exact Cm.sz_lt rfl | exact Cm.fs_lt rfl | decide | (refine' Nat.lt_of_le_of_lt ?ha ?hb; (case ha => walk_at "fl"); (case hb => decide)) | (simp only [List.length_cons, List.length_nil, List.length_append, List.length_map, List.length_set, List.length_replicate, PySem.sizeLine_eq]; omega) | (simp only [List.length_cons, List.length_nil, List.length_append, List.length_map, List.length_set, List.length_replicate, PySem.sizeLine_eq] at *; omega) | fail)
local macro_rules | `(tactic| walk_at "at") => `(tactic| first | assumption | (with_reducible exact Cm.at0) | (with_reducible exact Cm.at1) | (with_reducible exact Cm.at2) | (with_reducible exact Cm.at3) | (with_reducible exact Cm.at4) | (with_reducible exact Cm.at5) | (with_reducible exact Cm.at6) | (with_reducible exact Cm.at7) | (with_reducible exact Cm.at8) | (with_reducible exact Cm.at0s) | (with_reducible exact Cm.at1s) | (with_reducible exact Cm.at01s) | (with_reducible exact Cm.at10s) | fail)
local macro_rules | `(tactic| walk_at "ix") => `(tactic| first | exact Cm.ix0 (by walk_at "size") | exact Cm.ix1 (by walk_at "size") | assumption | fail)
local macro_rules | `(tactic| walk_at "key") => `(tactic| first | assumption | fail)
local macro_rules | `(tactic| walk_at "ne") => `(tactic| first
  | assumption
  | (refine Ne.symm ?_; assumption)
  | (refine' L2.ne_of_none ?h1 ?h2; (case h2 => assumption); (case h1 => walk_at "look"))
  | (refine' Ne.symm (L2.ne_of_none ?h1 ?h2); (case h2 => assumption); (case h1 => walk_at "look"))
  | fail)
local macro_rules | `(tactic| walk_at "lookT") => `(tactic| first
  | assumption
  | exact L2.SqT.of (by walk_at "look")
  | fail)
local macro_rules | `(tactic| walk_at "look") => `(tactic| first
  | assumption
  | exact L2.upd_same
  | ((fail_if_success (with_reducible refine Eq.trans L2.upd_same ?_)); (refine' Eq.trans (L2.upd_ne ?h1) ?h2); (case h1 => walk_at "ne"); (case h2 => walk_at "look"))
  | (refine' Cm.kp_look ?h1 ?h2 ?h3 ?h4; (case h1 => assumption); (case h2 => walk_at "look"); (case h3 => intro _ z; cases z); (case h4 => first | exact Or.inl rfl | exact Or.inr (by walk_at "out")))
  | fail)
local macro_rules | `(tactic| walk_at "out") => `(tactic| first
  | assumption
  | exact fun z => z
  | exact fun z => z.elim (fun e => absurd e (by walk_at "ne")) (fun e => absurd e (by walk_at "ne"))
  | exact fun e => absurd e (by walk_at "ne")
  | fail)
local macro_rules | `(tactic| walk_at "dom") => `(tactic| first
  | exact Cm.dm_refl
  | (refine Cm.dm_upd ?_; walk_at "dom")
  | (refine' Cm.dm_kp ?h1 ?h2; (case h2 => assumption); (case h1 => walk_at "dom"))
  | fail)
local macro_rules | `(tactic| walk_at "free") => `(tactic| first
  | assumption
  | exact Cm.nw_of (by assumption)
  | (refine' Cm.dm_use ?h1 ?h2; (case h2 => assumption); (case h1 => walk_at "dom"))
  | (refine' Cm.dm_use2 ?h1 ?h2; (case h2 => assumption); (case h1 => walk_at "dom"))
  | fail)
local macro_rules | `(tactic| walk_at "in") => `(tactic| first
  | exact Or.inl rfl | exact Or.inl (Or.inl rfl) | exact Or.inl (Or.inr rfl) | exact Or.inl (Or.inr (Or.inl rfl)) | exact Or.inl (Or.inr (Or.inr rfl))
  | exact Or.inl (by assumption)
  | exact Or.inr (by walk_at "free")
  | fail)
local macro_rules | `(tactic| walk_at "kp") => `(tactic| first
  | assumption
  | exact Cm.Kp.refl
  | (refine' Cm.Kp.new' ?h1 ?h2; (case h2 => assumption); (case h1 => walk_at "kp"))
  | (refine' Cm.Kp.setX' ?h1 ?h2 ?h4 ?h5 ?h3; (case h2 => walk_at "look"); (case h4 => exact rfl); (case h5 => intro _ z; cases z); (case h3 => walk_at "in"); (case h1 => walk_at "kp"))
  | (refine' Cm.kp_step ?h1 ?h2 ?h3; (case h2 => assumption); (case h3 => walk_at "sub"); (case h1 => walk_at "kp"))
  | fail)
local macro_rules | `(tactic| walk_at "sub") => `(tactic| first
  | exact fun _ z => z.elim
  | exact fun _ z => Or.inl z
  | (intro a z; rcases z with rfl | rfl <;> walk_at "in")
  | (intro a z; subst z; walk_at "in")
  | fail)
local macro_rules | `(tactic| walk_at "num2") => `(tactic| first | decide | omega | fail)

local macro_rules | `(tactic| walk_at "isi") => `(tactic| first | (with_reducible refine Cm.isi_non_bool ?_) | (with_reducible refine Cm.isi_non_int ?_) | (with_reducible refine Cm.isi_non_str ?_) | (with_reducible refine Cm.isi_non_tuple ?_) | (with_reducible refine Cm.isi_non_list ?_) | (with_reducible refine Cm.isi_bl_bool ?_) | (with_reducible refine Cm.isi_bl_int ?_) | (with_reducible refine Cm.isi_bl_str ?_) | (with_reducible refine Cm.isi_bl_tuple ?_) | (with_reducible refine Cm.isi_bl_list ?_) | (with_reducible refine Cm.isi_int_bool ?_) | (with_reducible refine Cm.isi_int_int ?_) | (with_reducible refine Cm.isi_int_str ?_) | (with_reducible refine Cm.isi_int_tuple ?_) | (with_reducible refine Cm.isi_int_list ?_) | (with_reducible refine Cm.isi_str_bool ?_) | (with_reducible refine Cm.isi_str_int ?_) | (with_reducible refine Cm.isi_str_str ?_) | (with_reducible refine Cm.isi_str_tuple ?_) | (with_reducible refine Cm.isi_str_list ?_) | ((with_reducible refine' Cm.isi_tup_bool ?h1 ?_); (case h1 => walk_at "look")) | ((with_reducible refine' Cm.isi_tup_int ?h1 ?_); (case h1 => walk_at "look")) | ((with_reducible refine' Cm.isi_tup_str ?h1 ?_); (case h1 => walk_at "look")) | ((with_reducible refine' Cm.isi_tup_tuple ?h1 ?_); (case h1 => walk_at "look")) | ((with_reducible refine' Cm.isi_tup_list ?h1 ?_); (case h1 => walk_at "look")) | ((with_reducible refine' Cm.isi_lst_bool ?h1 ?_); (case h1 => walk_at "look")) | ((with_reducible refine' Cm.isi_lst_int ?h1 ?_); (case h1 => walk_at "look")) | ((with_reducible refine' Cm.isi_lst_str ?h1 ?_); (case h1 => walk_at "look")) | ((with_reducible refine' Cm.isi_lst_tuple ?h1 ?_); (case h1 => walk_at "look")) | ((with_reducible refine' Cm.isi_lst_list ?h1 ?_); (case h1 => walk_at "look")) | fail)

/-! ### M1: more words -/
local macro_rules | `(tactic| walk_at "st") => `(tactic| first
  | ((with_reducible refine Cm.and_at (A := L2.tyV _ "dict" _ _) ?h1 ?_); (case h1 => exact Cm.ty_dic (by walk_at "look")))
  | (with_reducible refine Cm.e_dget2 ?_) | (with_reducible refine Cm.e_dpop2 ?_) | (with_reducible refine Cm.e_dpop1 ?_) | (with_reducible refine Cm.s_rx ?_)
  | ((with_reducible refine' Cm.isd_at ?h1 ?_); (case h1 => walk_at "look"))
  | ((with_reducible refine' Cm.get_at ?h1 ?_); (case h1 => walk_at "look"))
  | ((with_reducible refine' Cm.pop1_at ?h1 ?h2 ?_); (case h1 => walk_at "look"); (case h2 => assumption))
  | ((with_reducible refine' Cm.r_dictD ?h1 ?_); (case h1 => walk_at "look"); (intro _ _))
  | ((with_reducible refine' Cm.r_lenD ?h1 ?_); (case h1 => walk_at "look"))
  | ((with_reducible refine' Cm.r_ixdi ?h1 ?h2 ?_); (case h1 => walk_at "look"); (case h2 => assumption))
  | ((with_reducible refine' Cm.g_setdi ?h1 ?h2 ?_); (case h1 => walk_at "look"); (case h2 => first | assumption | omega))
  | (with_reducible refine Cm.r_min2 ?_)
  | (with_reducible refine W.r_eq_lv ?_) | (with_reducible refine W.r_ne_lv ?_) | (with_reducible refine W.r_isNo_lv ?_) | (with_reducible refine W.r_notNo_lv ?_)
  | fail)

namespace W
open PySem PySem.Spec PyProof.Rows L2 Cm
section
variable {w : World} {K : PySem.W.Frag} {mg : Str → Option Value}
theorem pure_take_ (vs : List V) (H : Hp) (Q : VK) (E : XK) (h : S_take_ K vs H Q E) : t_take_ K E { nx := fun _ H' => Q .non H', rt := Q } (start N_take_ vs) H := by
  obtain ⟨_, _, rfl, b, l, m, rfl, rfl, B, m0, m1, k⟩ := h
  obtain ⟨ns, z, hb, hl, hn⟩ := id B
  have nbl := B.ne
  unfold t_take_
  walk_at "run"
  refine if_b (fun hE => ?_) (fun hE => ?_)
  · walk_at "run"
    exact k _ _ (Int.emod_nonneg _ (by omega)) (Int.emod_lt_of_pos _ m0) ⟨ns, _, by walk_at "look", by walk_at "look", hn⟩ (by walk_at "kp")
  · cases ns with
    | nil => cases hE
    | cons n ns =>
      have hn' : ns.length ≤ 62 := by simpa using hn
      rw [List.map_cons] at hl
      walk_at "run"
      refine if_d (fun h => ?_) (fun h => ?_)
      · walk_at "run"
        exact k _ _ (Int.emod_nonneg _ (by omega)) (Int.emod_lt_of_pos _ m0) ⟨ns, _, by walk_at "look", by walk_at "look", by omega⟩ (by walk_at "kp")
      · walk_at "run"
        refine if_d (fun h => ?_) (fun h => ?_)
        · walk_at "run"
          exact k _ _ (Int.emod_nonneg _ (by omega)) (Int.emod_lt_of_pos _ m0) ⟨ns, _, by walk_at "look", by walk_at "look", by omega⟩ (by walk_at "kp")
        · walk_at "run"
          exact k _ _ (Int.emod_nonneg _ (by omega)) (Int.emod_lt_of_pos _ m0) ⟨(n / m) :: ns, _, by walk_at "look", by walk_at "look", by simp; omega⟩ (by walk_at "kp")
theorem pure_begun_ (vs : List V) (H : Hp) (Q : VK) (E : XK) (h : S_begun_ K vs H Q E) : t_begun_ K E { nx := fun _ H' => Q .non H', rt := Q } (start N_begun_ vs) H := by
  obtain ⟨_, rfl, a, ns, rfl, hS, hn, k⟩ := h
  unfold t_begun_
  walk_at "run"
  refine s_forL ?_
  walk_at "run"
  refine ⟨a, rfl, ⟨_, hS⟩, ?_⟩
  refine forLs (xs := ns.map V.int) (fun i σ' H' => ∃ (z : Int) (v : Option V), σ' = [some (.ref a), some (.int z), v] ∧ H' = H) ⟨0, none, rfl, rfl⟩ (fun i σ' H' z => by obtain ⟨_, _, _, rfl⟩ := z; exact hS) ?_ ?_
  · rintro i x σ' H' hx ⟨z, v, rfl, rfl⟩
    obtain ⟨u, rfl⟩ : ∃ u, x = V.int u := by
      rw [List.getElem?_map] at hx
      cases e : ns[i]? with
      | none => rw [e] at hx; cases hx
      | some u => rw [e] at hx; exact ⟨u, (Option.some.inj hx).symm⟩
    walk_at "run"
    exact ⟨_, _, rfl, rfl⟩
  · rintro σ' H' ⟨z, v, rfl, rfl⟩
    walk_at "run"
    refine r_listL hS (fun l hl => ?_)
    walk_at "run"
    refine r_lenL (xs := ns.map V.int) ?_ ?_
    · rcases hS with (h | ⟨o, h⟩) | h
      · exact SqL.of (by walk_at "look")
      · exact .inl (.inr ⟨o, by walk_at "look"⟩)
      · exact .inr h
    · walk_at "run"
      refine r_mulI ?_ ?_
      · refine .inr ?_
        split <;> exact ⟨by decide, by decide⟩
      walk_at "run"
      rename_i b hb
      exact k b l _ ⟨ns, _, by walk_at "look", by walk_at "look", hn⟩ (by walk_at "free") (.inl hl) (by walk_at "kp")
end
end W

end
section
/-! ### M0: words for walking through a reading (local) -/
local macro_rules | `(tactic| walk_at "st") => `(tactic| first
  | (with_reducible refine Cm.s_seq ?_) | (with_reducible refine Cm.s_asg ?_) | (with_reducible refine Cm.s_drop ?_) | (with_reducible refine Cm.s_ret ?_) | (with_reducible refine Cm.s_if ?_) | (with_reducible refine Cm.s_next ?_) | (with_reducible refine Cm.s_retN ?_) | (with_reducible refine Cm.s_rs ?_) | (with_reducible refine Cm.s_fld0 ?_)
  | ((with_reducible refine' Cm.e_var ?hv ?_); (case hv => exact rfl))
  | (with_reducible refine Cm.e_c ?_) | (with_reducible refine Cm.e_op ?_) | (with_reducible refine Cm.e_un ?_) | (with_reducible refine Cm.e_nil ?_) | (with_reducible refine Cm.e_cons ?_) | (with_reducible refine Cm.e_tup ?_) | (with_reducible refine Cm.e_lst ?_) | (with_reducible refine Cm.e_cb ?_) | (with_reducible refine Cm.e_call ?_) | (with_reducible refine Cm.e_if ?_)
  | (with_reducible refine Cm.e_andV ?_) | (with_reducible refine Cm.e_orV ?_) | (with_reducible refine Cm.e_notV ?_) | (with_reducible refine Cm.e_fld0 ?_) | (with_reducible refine Cm.e_meth0 ?_) | (with_reducible refine Cm.e_bm0 ?_) | (with_reducible refine Cm.e_bm ?_) | (with_reducible refine Cm.e_sl ?_) | (with_reducible refine Cm.o_none ?_) | (with_reducible refine Cm.o_some ?_) | (with_reducible refine Cm.e_dnew ?_)
  | (with_reducible refine Cm.e_test ?_) | (with_reducible refine Cm.e_tr ?_) | (with_reducible refine Cm.e_and ?_) | (with_reducible refine Cm.e_or ?_) | (with_reducible refine Cm.e_not ?_) | (with_reducible refine Cm.e_yes ?_) | (with_reducible refine Cm.e_chain ?_)
  | (with_reducible refine Cm.r_i0 ?_) | (with_reducible refine Cm.r_u ?_) | (with_reducible refine Cm.r_isNo ?_) | (with_reducible refine Cm.r_notNo ?_) | (with_reducible refine Cm.r_addI ?_) | (with_reducible refine Cm.r_int1b ?_) | (with_reducible refine Cm.r_max2 ?_)
  | ((with_reducible refine Cm.r_i ?hc ?_); (case hc => walk_at "num"))
  | ((with_reducible refine Cm.r_mulI ?hc ?_); (case hc => walk_at "num"))
  | ((with_reducible refine Cm.r_eqS ?hc ?_); (case hc => exact rfl))
  | ((with_reducible refine Cm.r_neS ?hc ?_); (case hc => exact rfl))
  | ((with_reducible refine' Cm.r_ixl ?h1 ?h2 ?_); (case h1 => walk_at "look"); (case h2 => walk_at "at"))
  | ((with_reducible refine' Cm.r_ixt ?h1 ?h2 ?_); (case h1 => walk_at "look"); (case h2 => walk_at "at"))
  | ((with_reducible refine' Cm.r_ixT ?h1 ?h2 ?_); (case h1 => walk_at "lookT"); (case h2 => walk_at "at"))
  | ((with_reducible refine' Cm.r_ixds ?h1 ?h2 ?_); (case h1 => walk_at "look"); (case h2 => walk_at "key"))
  | ((with_reducible refine' Cm.r_eqe ?h1 ?h2 ?_); (case h1 => walk_at "look"); (case h2 => walk_at "look"))
  | ((with_reducible refine' Cm.r_nee ?h1 ?h2 ?_); (case h1 => walk_at "look"); (case h2 => walk_at "look"))
  | ((with_reducible refine' Cm.r_lenl ?h1 ?_); (case h1 => walk_at "look"))
  | ((with_reducible refine' Cm.r_lent ?h1 ?_); (case h1 => walk_at "look"))
  | ((with_reducible refine' Cm.r_lenT ?h1 ?_); (case h1 => walk_at "lookT"))
  | ((with_reducible refine' Cm.r_listl ?h1 ?_); (case h1 => walk_at "look"); (intro _ _))
  | ((with_reducible refine' Cm.r_tupl ?h1 ?_); (case h1 => walk_at "look"); (intro _ _))
  | ((with_reducible refine' Cm.r_addL ?h1 ?h2 ?h3 ?_); (case h1 => walk_at "look"); (case h2 => walk_at "look"); (case h3 => walk_at "size"); (intro _ _))
  | ((with_reducible refine' Cm.m_append ?h1 ?h2 ?_); (case h1 => walk_at "look"); (case h2 => walk_at "size"))
  | ((with_reducible refine' Cm.m_clear ?h1 ?_); (case h1 => walk_at "look"))
  | ((with_reducible refine' Cm.g_setL ?h1 ?h2 ?_); (case h1 => walk_at "look"); (case h2 => walk_at "ix"))
  | ((with_reducible refine' Cm.g_setDs ?h1 ?h2 ?h3 ?_); (case h1 => walk_at "look"); (case h2 => walk_at "size"); (case h3 => walk_at "put"))
  | ((with_reducible refine' Cm.fld_at ?h1 ?h2 ?h3 ?h4 ?_); (case h1 => walk_at "look"); (case h2 => assumption); (case h3 => assumption); (case h4 => walk_at "key"))
  | ((with_reducible refine' Cm.fldset_at ?h1 ?h2 ?h3 ?h4 ?h5 ?_); (case h1 => walk_at "look"); (case h2 => assumption); (case h3 => assumption); (case h4 => walk_at "size"); (case h5 => walk_at "put"))
  | (with_reducible refine Cm.s_fldaug0 ?_)
  | ((with_reducible refine' Cm.aug_at ?h1 ?h2 ?h3 ?h4 ?_); (case h1 => walk_at "look"); (case h2 => assumption); (case h3 => assumption); (case h4 => walk_at "key"))
  | ((with_reducible refine' Cm.augset_at ?h1 ?h4 ?h5 ?_); (case h1 => walk_at "look"); (case h4 => walk_at "size"); (case h5 => walk_at "put"))
  | (with_reducible refine Cm.in_sub_at ?_) | (with_reducible refine Cm.in_add_at ?_)
  | ((with_reducible refine' Cm.meth_at ?h1 ?h2 ?_); (case h1 => walk_at "look"); (case h2 => walk_at "key"))
  | ((with_reducible refine Cm.new_at ?h1 ?_); (case h1 => walk_at "size"); (intro _ _))
  | ((with_reducible refine Cm.and_at (A := L2.tyV _ "list" _ _) ?h1 ?_); (case h1 => exact Cm.ty_lst (by walk_at "look")))
  | ((with_reducible refine' Cm.g_tupt ?h1 ?h2 ?_); (case h1 => walk_at "look"); (case h2 => exact rfl))
  | ((with_reducible refine' Cm.g_tup ?h1 ?h2 ?_); (case h1 => walk_at "lookT"); (case h2 => exact rfl))
  | (with_reducible refine Cm.g_name ?_) | (with_reducible refine Cm.g_sub ?_) | (with_reducible refine Cm.g_cons ?_) | (with_reducible refine Cm.g_nil ?_)
  | (with_reducible refine Cm.int_at ?_) | (with_reducible refine Cm.bl_at ?_) | (with_reducible refine Cm.tr_bl ?_) | (with_reducible refine Cm.tr_non ?_)
  | ((with_reducible refine' Cm.m_pop0 ?h1 ?_); (case h1 => walk_at "look"))
  | ((with_reducible refine' Cm.r_slTo ?h1 ?h2 ?_); (case h1 => walk_at "look"); (case h2 => walk_at "num2"); (intro _ _))
  | ((with_reducible refine' Cm.r_slFrom ?h1 ?h2 ?_); (case h1 => walk_at "look"); (case h2 => walk_at "num2"); (intro _ _))
  | ((with_reducible refine' Cm.at_forL ?h1 ?_); (case h1 => walk_at "look"))
  | ((with_reducible refine' Cm.at_forT ?h1 ?_); (case h1 => walk_at "look"))
  | ((with_reducible refine' Cm.at_forR ?h1 ?h2 ?_); (case h1 => walk_at "num2"); (case h2 => walk_at "num2"))
  | ((with_reducible refine' Cm.at_forZ ?h1 ?h2 ?_); (case h1 => walk_at "look"); (case h2 => walk_at "look"))
  | (with_reducible refine Cm.s_forZ ?_) | (with_reducible refine Cm.s_forR ?_)
  | ((with_reducible refine Cm.and_at (A := _ = _) ?h1 ?_); (case h1 => exact rfl))
  | ((with_reducible show L2.rIsi _ _ _ _); walk_at "isi")
  | (with_reducible refine Cm.ite_nt ?_) | (with_reducible refine Cm.ite_nf ?_)
  | (with_reducible refine L2.iteT ?_) | (with_reducible refine L2.iteF ?_)
  | dsimp only
  | fail)
local macro_rules | `(tactic| walk_at "run") => `(tactic| repeat (walk_at "st"))
local macro_rules | `(tactic| walk_at "num") => `(tactic| first
  | exact Or.inr ⟨by decide, by decide⟩ | exact Or.inl ⟨by decide, by decide⟩
  | exact Cm.wdiv (by first | decide | omega) (by first | decide | omega)
  | (show (0 : Int) < _; first | decide | omega)
  | exact ⟨by decide, by decide, by decide⟩
  | fail)
local macro_rules | `(tactic| walk_at "put") => `(tactic| exact rfl)
local macro_rules | `(tactic| walk_at "fl") => `(tactic| first | exact Cm.fl0 | (refine' Cm.flS ?hz; (case hz => walk_at "fl")) | fail)
local macro_rules | `(tactic| walk_at "size") => `(tactic| first | exact Cm.sz_lit rfl | exact Cm.sz_lt rfl | exact Cm.fs_lt rfl | decide | (refine' Nat.lt_of_le_of_lt ?ha ?hb; (case ha => walk_at "fl"); (case hb => decide)) | (simp only [List.length_cons, List.length_nil, List.length_append, List.length_map, List.length_set, List.length_replicate, PySem.sizeLine_eq]; omega) | (simp only [List.length_cons, List.length_nil, List.length_append, List.length_map, List.length_set, List.length_replicate, PySem.sizeLine_eq] at *; omega) | fail)
local macro_rules | `(tactic| walk_at "at") => `(tactic| first | assumption | (with_reducible exact Cm.at0) | (with_reducible exact Cm.at1) | (with_reducible exact Cm.at2) | (with_reducible exact Cm.at3) | (with_reducible exact Cm.at4) | (with_reducible exact Cm.at5) | (with_reducible exact Cm.at6) | (with_reducible exact Cm.at7) | (with_reducible exact Cm.at8) | (with_reducible exact Cm.at0s) | (with_reducible exact Cm.at1s) | (with_reducible exact Cm.at01s) | (with_reducible exact Cm.at10s) | fail)
local macro_rules | `(tactic| walk_at "ix") => `(tactic| first | exact Cm.ix0 (by walk_at "size") | exact Cm.ix1 (by walk_at "size") | assumption | fail)
local macro_rules | `(tactic| walk_at "key") => `(tactic| first | assumption | fail)
local macro_rules | `(tactic| walk_at "ne") => `(tactic| first
  | assumption
  | (refine Ne.symm ?_; assumption)
  | (refine' L2.ne_of_none ?h1 ?h2; (case h2 => assumption); (case h1 => walk_at "look"))
  | (refine' Ne.symm (L2.ne_of_none ?h1 ?h2); (case h2 => assumption); (case h1 => walk_at "look"))
  | fail)
local macro_rules | `(tactic| walk_at "lookT") => `(tactic| first
  | assumption
  | exact L2.SqT.of (by walk_at "look")
  | fail)
local macro_rules | `(tactic| walk_at "look") => `(tactic| first
  | assumption
  | exact L2.upd_same
  | ((fail_if_success (with_reducible refine Eq.trans L2.upd_same ?_)); (refine' Eq.trans (L2.upd_ne ?h1) ?h2); (case h1 => walk_at "ne"); (case h2 => walk_at "look"))
  | (refine' Cm.kp_look ?h1 ?h2 ?h3 ?h4; (case h1 => assumption); (case h2 => walk_at "look"); (case h3 => intro _ z; cases z); (case h4 => first | exact Or.inl rfl | exact Or.inr (by walk_at "out")))
  | fail)
local macro_rules | `(tactic| walk_at "out") => `(tactic| first
  | assumption
  | exact fun z => z
  | exact fun z => z.elim (fun e => absurd e (by walk_at "ne")) (fun e => absurd e (by walk_at "ne"))
  | exact fun e => absurd e (by walk_at "ne")
  | fail)
local macro_rules | `(tactic| walk_at "dom") => `(tactic| first
  | exact Cm.dm_refl
  | (refine Cm.dm_upd ?_; walk_at "dom")
  | (refine' Cm.dm_kp ?h1 ?h2; (case h2 => assumption); (case h1 => walk_at "dom"))
  | fail)
local macro_rules | `(tactic| walk_at "free") => `(tactic| first
  | assumption
  | exact Cm.nw_of (by assumption)
  | (refine' Cm.dm_use ?h1 ?h2; (case h2 => assumption); (case h1 => walk_at "dom"))
  | (refine' Cm.dm_use2 ?h1 ?h2; (case h2 => assumption); (case h1 => walk_at "dom"))
  | fail)
local macro_rules | `(tactic| walk_at "in") => `(tactic| first
  | exact Or.inl rfl | exact Or.inl (Or.inl rfl) | exact Or.inl (Or.inr rfl) | exact Or.inl (Or.inr (Or.inl rfl)) | exact Or.inl (Or.inr (Or.inr rfl))
  | exact Or.inl (by assumption)
  | exact Or.inr (by walk_at "free")
  | fail)
local macro_rules | `(tactic| walk_at "kp") => `(tactic| first
  | assumption
  | exact Cm.Kp.refl
  | (refine' Cm.Kp.new' ?h1 ?h2; (case h2 => assumption); (case h1 => walk_at "kp"))
  | (refine' Cm.Kp.setX' ?h1 ?h2 ?h4 ?h5 ?h3; (case h2 => walk_at "look"); (case h4 => exact rfl); (case h5 => intro _ z; cases z); (case h3 => walk_at "in"); (case h1 => walk_at "kp"))
  | (refine' Cm.kp_step ?h1 ?h2 ?h3; (case h2 => assumption); (case h3 => walk_at "sub"); (case h1 => walk_at "kp"))
  | fail)
local macro_rules | `(tactic| walk_at "sub") => `(tactic| first
  | exact fun _ z => z.elim
  | exact fun _ z => Or.inl z
  | (intro a z; rcases z with rfl | rfl <;> walk_at "in")
  | (intro a z; subst z; walk_at "in")
  | fail)
local macro_rules | `(tactic| walk_at "num2") => `(tactic| first | decide | omega | fail)

local macro_rules | `(tactic| walk_at "isi") => `(tactic| first | (with_reducible refine Cm.isi_non_bool ?_) | (with_reducible refine Cm.isi_non_int ?_) | (with_reducible refine Cm.isi_non_str ?_) | (with_reducible refine Cm.isi_non_tuple ?_) | (with_reducible refine Cm.isi_non_list ?_) | (with_reducible refine Cm.isi_bl_bool ?_) | (with_reducible refine Cm.isi_bl_int ?_) | (with_reducible refine Cm.isi_bl_str ?_) | (with_reducible refine Cm.isi_bl_tuple ?_) | (with_reducible refine Cm.isi_bl_list ?_) | (with_reducible refine Cm.isi_int_bool ?_) | (with_reducible refine Cm.isi_int_int ?_) | (with_reducible refine Cm.isi_int_str ?_) | (with_reducible refine Cm.isi_int_tuple ?_) | (with_reducible refine Cm.isi_int_list ?_) | (with_reducible refine Cm.isi_str_bool ?_) | (with_reducible refine Cm.isi_str_int ?_) | (with_reducible refine Cm.isi_str_str ?_) | (with_reducible refine Cm.isi_str_tuple ?_) | (with_reducible refine Cm.isi_str_list ?_) | ((with_reducible refine' Cm.isi_tup_bool ?h1 ?_); (case h1 => walk_at "look")) | ((with_reducible refine' Cm.isi_tup_int ?h1 ?_); (case h1 => walk_at "look")) | ((with_reducible refine' Cm.isi_tup_str ?h1 ?_); (case h1 => walk_at "look")) | ((with_reducible refine' Cm.isi_tup_tuple ?h1 ?_); (case h1 => walk_at "look")) | ((with_reducible refine' Cm.isi_tup_list ?h1 ?_); (case h1 => walk_at "look")) | ((with_reducible refine' Cm.isi_lst_bool ?h1 ?_); (case h1 => walk_at "look")) | ((with_reducible refine' Cm.isi_lst_int ?h1 ?_); (case h1 => walk_at "look")) | ((with_reducible refine' Cm.isi_lst_str ?h1 ?_); (case h1 => walk_at "look")) | ((with_reducible refine' Cm.isi_lst_tuple ?h1 ?_); (case h1 => walk_at "look")) | ((with_reducible refine' Cm.isi_lst_list ?h1 ?_); (case h1 => walk_at "look")) | fail)

/-! ### M1: more words -/
local macro_rules | `(tactic| walk_at "st") => `(tactic| first
  | ((with_reducible refine Cm.and_at (A := L2.tyV _ "dict" _ _) ?h1 ?_); (case h1 => exact Cm.ty_dic (by walk_at "look")))
  | (with_reducible refine Cm.e_dget2 ?_) | (with_reducible refine Cm.e_dpop2 ?_) | (with_reducible refine Cm.e_dpop1 ?_) | (with_reducible refine Cm.s_rx ?_)
  | ((with_reducible refine' Cm.isd_at ?h1 ?_); (case h1 => walk_at "look"))
  | ((with_reducible refine' Cm.get_at ?h1 ?_); (case h1 => walk_at "look"))
  | ((with_reducible refine' Cm.pop1_at ?h1 ?h2 ?_); (case h1 => walk_at "look"); (case h2 => assumption))
  | ((with_reducible refine' Cm.r_dictD ?h1 ?_); (case h1 => walk_at "look"); (intro _ _))
  | ((with_reducible refine' Cm.r_lenD ?h1 ?_); (case h1 => walk_at "look"))
  | ((with_reducible refine' Cm.r_ixdi ?h1 ?h2 ?_); (case h1 => walk_at "look"); (case h2 => assumption))
  | ((with_reducible refine' Cm.g_setdi ?h1 ?h2 ?_); (case h1 => walk_at "look"); (case h2 => first | assumption | omega))
  | (with_reducible refine Cm.r_min2 ?_)
  | (with_reducible refine W.r_eq_lv ?_) | (with_reducible refine W.r_ne_lv ?_) | (with_reducible refine W.r_isNo_lv ?_) | (with_reducible refine W.r_notNo_lv ?_)
  | fail)

local macro_rules | `(tactic| walk_at "key") => `(tactic| first | exact W.tF_g_rows | exact W.tF_g_hands | exact W.tF_g_moment | exact W.tF_g_number | exact W.tF_n_row_at | exact W.tF_n_shown | exact W.tF_n_content | exact W.tF_n_put_page | exact W.tF_n_prune | exact W.tF_n_change | exact W.tF_n_whole)
local macro_rules | `(tactic| walk_at "put") => `(tactic| first | exact W.tF_p_rows | exact W.tF_p_hands | exact W.tF_p_moment | exact W.tF_p_number)
local macro_rules | `(tactic| walk_at "size") => `(tactic| (rw [W.tF_len]; decide))

local macro_rules | `(tactic| walk_at "key") => `(tactic| first | exact W.oS_g_rows | exact W.oS_g_hands | exact W.oS_g_moment | exact W.oS_g_number)
local macro_rules | `(tactic| walk_at "put") => `(tactic| first | exact W.oS_p_rows | exact W.oS_p_hands | exact W.oS_p_moment | exact W.oS_p_number)
local macro_rules | `(tactic| walk_at "size") => `(tactic| (rw [W.oS_len]; decide))

namespace W
open PySem PySem.Spec PyProof.Rows L2 Cm
section
variable {w : World} {K : PySem.W.Frag} {mg : Str → Option Value}
theorem ownL_take {m : Int} : ∀ (ds : List Deed) (f : Rows) (i : Nat) (d : Deed), ds[i]? = some d → ownL m f (ds.take (i + 1)) = (ownL m f (ds.take i)).bind fun o => own1 m o d
  | [], _, _, _, h => by simp at h
  | e :: ds, f, 0, d, h => by
    have h : e = d := by simpa using h
    subst h
    show (match own1 m f e with | none => none | some f => ownL m f []) = own1 m f e
    cases own1 m f e <;> rfl
  | e :: ds, f, i + 1, d, h => by
    show (match own1 m f e with | none => none | some f => ownL m f (ds.take (i + 1))) = Option.bind (match own1 m f e with | none => none | some f => ownL m f (ds.take i)) _
    cases own1 m f e with
    | none => rfl
    | some o => exact ownL_take ds o i d (by simpa using h)
theorem ownL_none {m : Int} : ∀ (ds : List Deed) (f : Rows) (i : Nat), ownL m f (ds.take i) = none → ownL m f ds = none
  | [], f, i, h => by simpa using h
  | d :: ds, f, 0, h => by cases h
  | d :: ds, f, i + 1, h => by
    show (match own1 m f d with | none => none | some f => ownL m f ds) = none
    have h : (match own1 m f d with | none => none | some f => ownL m f (ds.take i)) = none := h
    cases e : own1 m f d with
    | none => rfl
    | some o => rw [e] at h; exact ownL_none ds o i h
theorem psh_ok {m : Int} {r : Option (Int × Int)} {w : Int} (h : psh m (r.map toP) = some w) : ∃ e, r = some (w, e) := by
  cases r with
  | none => cases h
  | some r =>
    obtain ⟨a, e⟩ := r
    have h : (if e = 0 ∨ e > m then some a else none) = some w := h
    split at h
    · cases h; exact ⟨e, rfl⟩
    · cases h
def rowsOk (f : Rows) : Prop := ∀ k r, f k = some r → (0 ≤ k ∧ k < 32) ∧ rowOk r
theorem rowsOk_up {f : Rows} {k : Int} {o : Option (Int × Int)} (h : rowsOk f) (hk : 0 ≤ k ∧ k < 32) (ho : ∀ r, o = some r → rowOk r) : rowsOk (upf f k o) := fun j r e => by
  unfold upf at e
  split at e
  · rename_i hj
    subst hj
    exact ⟨hk, ho r e⟩
  · exact h j r e
theorem own1_ok {m : Int} {f g : Rows} {d : Deed} (h : rowsOk f) (hd : d.Ok) (e : own1 m f d = some g) : rowsOk g := by
  cases d with
  | put k w l =>
    have e : some (upf f k (some (w, if l = 0 then 0 else m + l))) = some g := e
    cases e
    exact rowsOk_up h hd.1 fun r e => by cases e; exact hd.2.1
  | drop k =>
    have e : some (upf f k none) = some g := e
    cases e
    exact rowsOk_up h hd fun r e => by cases e
  | iff k w =>
    have e : (if psh m ((f k).map toP) = w then some f else none) = some g := e
    split at e
    · cases e; exact h
    · cases e
  | add k x =>
    have e : (match psh m ((f k).map toP) with | none => none | some w => if 0 ≤ w + x ∧ w + x ≤ 999 then some (upf f k (some (w + x, ((f k).getD (0, 0)).2))) else none) = some g := e
    cases hp : psh m ((f k).map toP) with
    | none => rw [hp] at e; cases e
    | some w =>
      rw [hp] at e
      have e : (if 0 ≤ w + x ∧ w + x ≤ 999 then some (upf f k (some (w + x, ((f k).getD (0, 0)).2))) else none) = some g := e
      split at e
      · rename_i h1
        cases e
        exact rowsOk_up h hd.1 fun r e => by cases e; exact h1
      · cases e
theorem ownL_ok {m : Int} : ∀ {ds : List Deed} {f g : Rows}, rowsOk f → (∀ d ∈ ds, d.Ok) → ownL m f ds = some g → rowsOk g
  | [], f, g, h, _, e => by cases e; exact h
  | d :: ds, f, g, h, hd, e => by
    have e : (match own1 m f d with | none => none | some f => ownL m f ds) = some g := e
    cases e1 : own1 m f d with
    | none => rw [e1] at e; cases e
    | some f1 =>
      rw [e1] at e
      exact ownL_ok (own1_ok h (hd d List.mem_cons_self) e1) (fun d' h' => hd d' (List.mem_cons_of_mem _ h')) e
theorem OwnAt.rows {H : Hp} {s : Addr} {S : TB} {F : Addr → Prop} (h : OwnAt H s S F) : ∃ (r h0 : Addr) (rk : List (Key × V)), H s = some (.dK (oS r h0 S.moment S.number)) ∧ H r = some (.dK rk) ∧ DR H rk (rwf S.rows) ∧ F s ∧ F r ∧ F h0 ∧ s ≠ r ∧ s ≠ h0 ∧
    ∀ (Tt : List (Addr × Str)) (H' : Hp) (kvs' : List (Key × V)) (f' : Rows), Kp Tt (fun b => b = r) H H' → H' r = some (.dK kvs') → DR H' kvs' (rwf f') → rowsOk f' → OwnAt H' s { S with rows := f' } F := by
  obtain ⟨r, h0, rk, hk, h1, h2, h3, h4, h5, ⟨n1, n2, n3⟩, o, f⟩ := h
  refine ⟨r, h0, rk, h1, h2, h3, (f s).mpr (.inl rfl), (f r).mpr (.inr (.inl rfl)), (f h0).mpr (.inr (.inr rfl)), n1, n2, fun Tt H' kvs' f' k g1 g2 g3 => ?_⟩
  exact ⟨r, h0, kvs', hk, k.dK h1 n1, g1, g2, k.dK h4 (Ne.symm n3), h5.keep k, ⟨n1, n2, n3⟩, ⟨g3, o.hd⟩, f⟩
theorem di_row {n : Nat} {r : Int × Int} : Di (n + 1) (rowD r) := di_tup (Nat.le_of_ble_eq_true rfl) fun d hd => by
  simp only [List.mem_cons, List.not_mem_nil, or_false] at hd
  rcases hd with rfl | rfl
  · exact Di.int
  · exact Di.int
theorem dr_putRow {H : Hp} {kvs : List (Key × V)} {f : Rows} {k : Int} {v : V} {r : Int × Int} (h : DR H kvs (rwf f)) (hv : Dt H v (rowD r)) (hk : 0 ≤ k ∧ k < 32) : DR H (putK kvs (.inl k) v) (rwf (upf f k (some r))) := by
  refine (h.put (k := k) hv di_row hk.1 hk.2).congr fun j => ?_
  unfold rwf upf
  split <;> rfl
theorem dr_dropRow {H : Hp} {kvs : List (Key × V)} {f : Rows} (h : DR H kvs (rwf f)) (k : Int) : DR H (dropK kvs (.inl k)) (rwf (upf f k none)) := by
  refine (h.drop k).congr fun j => ?_
  unfold rwf upf
  split <;> rfl
theorem pure_tried_ (vs : List V) (H : Hp) (Q : VK) (E : XK) (h : S_tried_ K vs H Q E) : t_tried_ K E { nx := fun _ H' => Q .non H', rt := Q } (start N_tried_ vs) H := by
  obtain ⟨_, _, rfl, s, S, F, ds, rfl, hS, hx, hok, hl4, kn, ks⟩ := h
  obtain ⟨a, xs, rfl, ha, hA⟩ := hx
  have hlen := hA.length
  rw [List.length_map] at hlen
  unfold t_tried_
  walk_at "run"
  refine ⟨_, rfl, s, S, F, rfl, hS, fun s' H1 F' hS1 kp1 hF => ?_⟩
  walk_at "run"
  refine s_forT ?_
  have ha1 := kp1.tup ha
  walk_at "run"
  have ns : s ≠ s' := fun z => by
    obtain ⟨_, _, _, g, _, _, f1, _⟩ := hS1.rows
    have h1 := hF s' f1
    obtain ⟨_, _, _, g', _, _, _, _⟩ := hS.rows
    rw [z] at g'
    exact nw_no h1 g' (fun _ z => nomatch z)
  refine forT (xs := xs) (fun i σ' H' => ∃ v3 v4 v5 f, σ' = [some (.ref s), some (.ref a), some (.ref s'), v3, v4, v5] ∧ Kp (tabs K) No H H' ∧ ownL S.moment S.rows (ds.take i) = some f ∧ OwnAt H' s' { S with rows := f } F')
    ⟨none, none, none, S.rows, rfl, kp1, rfl, hS1⟩ (fun j σ' H' ⟨_, _, _, _, _, z, _⟩ => z.tup ha) ?_ ?_
  · rintro i x σ' H' hx ⟨v3, v4, v5, f, rfl, kp, hf, hO⟩
    obtain ⟨_, hd1, hd2⟩ := hA.get hx
    obtain ⟨d, hd, rfl⟩ := map_get hd1
    have hdok := hok d (List.mem_of_getElem? hd)
    have hkey := hdok.key
    have hd2 := Dt.keep kp (n := 3) di_deed hd2
    have hS' := hS.keep kp (fun _ _ z => z)
    have hov1 := ownL_take (m := S.moment) ds S.rows i d hd
    rw [hf] at hov1
    have hov1 : _ = own1 S.moment f d := hov1
    -- behind the look at the worth
    have shown : ({ S with rows := f } : TB).shown d.key = psh S.moment ((f d.key).map toP) := rfl
    have fin : ∀ H2 (v4 v5 : Option V) t g, Kp (tabs K) No H H2 → own1 S.moment f d = some g → OwnAt H2 s' { S with rows := g } F' → ∃ v3 v4' v5' f, [some (V.ref s), some (.ref a), some (.ref s'), some (.ref t), v4, v5] = [some (.ref s), some (.ref a), some (.ref s'), v3, v4', v5'] ∧ Kp (tabs K) No H H2 ∧ ownL S.moment S.rows (ds.take (i + 1)) = some f ∧ OwnAt H2 s' { S with rows := f } F' :=
      fun H2 v4 v5 t g k2 e1 hO2 => ⟨_, _, _, g, rfl, k2, by rw [hov1, e1], hO2⟩
    cases d with
    | put key wo l =>
      obtain ⟨t, v0, v1, v2, v3, rfl, ht, rfl, rfl, rfl, rfl⟩ := dt4.mp hd2
      walk_at "run"
      refine ⟨_, _, rfl, s', _, F', key, rfl, hO, rfl, fun H2 k2 => ?_⟩
      have ht2 := k2.tup ht
      obtain ⟨r, h0, rk, g1, g2, g3, _, fr, _, nr, _, close⟩ := (hO.keep k2 (fun _ _ z => z)).rows
      obtain ⟨rS, hS0, rkS, gS1, _⟩ := (hS'.keep k2 (fun _ _ z => z)).rows
      have hz : rk.length ≤ 100 := by have := g3.len; omega
      have kk : Kp (tabs K) No H H2 := by walk_at "kp"
      have nwr : Nw H r := hF r fr |>.elim (fun z => .inl z) .inr
      walk_at "run"
      refine if_dT rfl ?_
      walk_at "run"
      refine if_d (fun h1 => ?_) (fun h1 => ?_)
      · have h1 : l = 0 := by injection h1
        walk_at "run"
        rename_i u hu
        have kb : Kp (tabs K) (fun b => b = r) H2 (upd (upd H2 u (.tup [.int wo, .int 0])) r (.dK (putK rk (.inl key) (.ref u)))) := by walk_at "kp"
        refine fin _ _ _ _ (upf f key (some (wo, if l = 0 then 0 else S.moment + l))) (kk.trans kb fun b z => .inr (by rw [z]; exact nwr)) rfl ?_
        refine close (tabs K) _ _ _ kb upd_same ?_ (own1_ok (m := S.moment) hO.ok.rw hdok rfl)
        rw [if_pos h1]
        exact dr_putRow (g3.keep kb) (dt2.mpr ⟨u, _, _, rfl, by walk_at "look", rfl, rfl⟩) hkey
      · have h1 : l ≠ 0 := fun z => h1 (by rw [z])
        walk_at "run"
        rename_i u hu
        have kb : Kp (tabs K) (fun b => b = r) H2 (upd (upd H2 u (.tup [.int wo, .int (S.moment + l)])) r (.dK (putK rk (.inl key) (.ref u)))) := by walk_at "kp"
        refine fin _ _ _ _ (upf f key (some (wo, if l = 0 then 0 else S.moment + l))) (kk.trans kb fun b z => .inr (by rw [z]; exact nwr)) rfl ?_
        refine close (tabs K) _ _ _ kb upd_same ?_ (own1_ok (m := S.moment) hO.ok.rw hdok rfl)
        rw [if_neg h1]
        exact dr_putRow (g3.keep kb) (dt2.mpr ⟨u, _, _, rfl, by walk_at "look", rfl, rfl⟩) hkey
    | drop key =>
      obtain ⟨t, v0, v1, rfl, ht, rfl, rfl⟩ := dt2.mp hd2
      walk_at "run"
      refine ⟨_, _, rfl, s', _, F', key, rfl, hO, rfl, fun H2 k2 => ?_⟩
      have ht2 := k2.tup ht
      obtain ⟨r, h0, rk, g1, g2, g3, _, fr, _, nr, _, close⟩ := (hO.keep k2 (fun _ _ z => z)).rows
      have kk : Kp (tabs K) No H H2 := by walk_at "kp"
      have nwr : Nw H r := hF r fr
      walk_at "run"
      refine if_dF (by decide) ?_
      walk_at "run"
      refine if_dT rfl ?_
      walk_at "run"
      refine pop2_at g2 (fun v hv => ?_) (fun hv => ?_)
      · walk_at "run"
        have kb : Kp (tabs K) (fun b => b = r) H2 (upd H2 r (.dK (dropK rk (.inl key)))) := Kp.setD g2 rfl
        refine fin _ _ _ _ (upf f key none) (kk.trans kb fun b z => .inr (by rw [z]; exact nwr)) rfl ?_
        exact close (tabs K) _ _ _ kb upd_same (dr_dropRow (g3.keep kb) key) (own1_ok (m := S.moment) hO.ok.rw hdok rfl)
      · walk_at "run"
        have e : upf f key none = f := by
          funext j
          unfold upf
          split
          · rename_i hj
            rcases row_own (k := key) g3 with ⟨e1, _⟩ | ⟨_, _, _, _, e2, _⟩
            · rw [hj]; exact e1.symm
            · rw [hv] at e2; cases e2
          · rfl
        refine fin _ _ _ _ (upf f key none) kk rfl ?_
        rw [e]
        exact hO.keep k2 (fun _ _ z => z)
    | iff key wo =>
      obtain ⟨t, v0, v1, v2, rfl, ht, rfl, rfl, h3⟩ := dt3.mp hd2
      obtain rfl := dt_oD.mp h3
      walk_at "run"
      refine ⟨_, _, rfl, s', _, F', key, rfl, hO, rfl, fun H2 k2 => ?_⟩
      have ht2 := k2.tup ht
      have kk : Kp (tabs K) No H H2 := by walk_at "kp"
      rw [show ({ S with rows := f } : TB).shown key = psh S.moment ((f key).map toP) from rfl]
      walk_at "run"
      refine if_dF (by decide) ?_
      walk_at "run"
      refine if_dF (by decide) ?_
      walk_at "run"
      refine if_dT rfl ?_
      walk_at "run"
      have e1 : own1 S.moment f (.iff key wo) = if psh S.moment ((f key).map toP) = wo then some f else none := rfl
      refine if_nd (fun h1 => ?_) (fun h1 => ?_)
      · rw [if_neg h1] at e1
        walk_at "run"
        refine kn (ownL_none ds _ (i + 1) (by rw [hov1, e1])) H2 kk
      · rw [if_pos h1] at e1
        walk_at "run"
        exact fin _ _ _ _ f kk e1 (hO.keep k2 (fun _ _ z => z))
    | add key x =>
      obtain ⟨t, v0, v1, v2, rfl, ht, rfl, rfl, rfl⟩ := dt3.mp hd2
      walk_at "run"
      refine ⟨_, _, rfl, s', _, F', key, rfl, hO, rfl, fun H2 k2 => ?_⟩
      have ht2 := k2.tup ht
      have kk : Kp (tabs K) No H H2 := by walk_at "kp"
      rw [show ({ S with rows := f } : TB).shown key = psh S.moment ((f key).map toP) from rfl]
      walk_at "run"
      refine if_dF (by decide) ?_
      walk_at "run"
      refine if_dF (by decide) ?_
      walk_at "run"
      refine if_dF (by decide) ?_
      walk_at "run"
      cases hp : psh S.moment ((f key).map toP) with
      | none =>
        have e1 : own1 S.moment f (.add key x) = none := by
          show (match psh S.moment ((f key).map toP) with | none => none | some w => _) = _
          rw [hp]
        refine if_dT rfl ?_
        walk_at "run"
        exact kn (ownL_none ds _ (i + 1) (by rw [hov1, e1])) H2 kk
      | some wo =>
        have e1 : own1 S.moment f (.add key x) = if 0 ≤ wo + x ∧ wo + x ≤ 999 then some (upf f key (some (wo + x, ((f key).getD (0, 0)).2))) else none := by
          show (match psh S.moment ((f key).map toP) with | none => none | some w => _) = _
          rw [hp]
        refine if_dF (fun z => nomatch z) ?_
        dsimp only [lv]
        walk_at "run"
        refine if_d (fun h1 => ?_) (fun h1 => ?_)
        · walk_at "run"
          refine if_nd (fun h2 => ?_) (fun h2 => ?_)
          · rw [if_neg (fun z => h2 z.2)] at e1
            walk_at "run"
            exact kn (ownL_none ds _ (i + 1) (by rw [hov1, e1])) H2 kk
          · rw [if_pos ⟨h1, h2⟩] at e1
            obtain ⟨en, hfk⟩ := psh_ok hp
            obtain ⟨r, h0, rk, g1, g2, g3, _, fr, _, nr, _, close⟩ := (hO.keep k2 (fun _ _ z => z)).rows
            have hz : rk.length ≤ 100 := by have := g3.len; omega
            have nwr : Nw H r := hF r fr
            obtain ⟨v, e4, e5⟩ := g3.get key (rowD (wo, en)) (by show (f key).map rowD = _; rw [hfk]; rfl)
            obtain ⟨u1, _, _, rfl, hu1, rfl, rfl⟩ := dt2.mp e5
            walk_at "run"
            rename_i u hu
            have kb : Kp (tabs K) (fun b => b = r) H2 (upd (upd H2 u (.tup [.int (wo + x), .int en])) r (.dK (putK rk (.inl key) (.ref u)))) := by walk_at "kp"
            refine fin _ _ _ _ _ (kk.trans kb fun b z => .inr (by rw [z]; exact nwr)) e1 ?_
            refine close (tabs K) _ _ _ kb upd_same ?_ (own1_ok (m := S.moment) hO.ok.rw hdok e1)
            rw [hfk]
            exact dr_putRow (g3.keep kb) (dt2.mpr ⟨u, _, _, rfl, by walk_at "look", rfl, rfl⟩) hkey
        · rw [if_neg (fun z => h1 z.1)] at e1
          walk_at "run"
          exact kn (ownL_none ds _ (i + 1) (by rw [hov1, e1])) H2 kk
  · rintro σ' H' ⟨v3, v4, v5, f, rfl, kp, hf, hO⟩
    rw [hlen, List.take_length] at hf
    obtain ⟨r, h0, rk, g1, g2, g3, _, fr, _, nr, _, close⟩ := hO.rows
    walk_at "run"
    exact ks f hf r rk H' (hF r fr) g2 g3 kp
end
end W

end
section
/-! ### M0: words for walking through a reading (local) -/
local macro_rules | `(tactic| walk_at "st") => `(tactic| first
  | (with_reducible refine Cm.s_seq ?_) | (with_reducible refine Cm.s_asg ?_) | (with_reducible refine Cm.s_drop ?_) | (with_reducible refine Cm.s_ret ?_) | (with_reducible refine Cm.s_if ?_) | (with_reducible refine Cm.s_next ?_) | (with_reducible refine Cm.s_retN ?_) | (with_reducible refine Cm.s_rs ?_) | (with_reducible refine Cm.s_fld0 ?_)
  | ((with_reducible refine' Cm.e_var ?hv ?_); (case hv => exact rfl))
  | (with_reducible refine Cm.e_c ?_) | (with_reducible refine Cm.e_op ?_) | (with_reducible refine Cm.e_un ?_) | (with_reducible refine Cm.e_nil ?_) | (with_reducible refine Cm.e_cons ?_) | (with_reducible refine Cm.e_tup ?_) | (with_reducible refine Cm.e_lst ?_) | (with_reducible refine Cm.e_cb ?_) | (with_reducible refine Cm.e_call ?_) | (with_reducible refine Cm.e_if ?_)
  | (with_reducible refine Cm.e_andV ?_) | (with_reducible refine Cm.e_orV ?_) | (with_reducible refine Cm.e_notV ?_) | (with_reducible refine Cm.e_fld0 ?_) | (with_reducible refine Cm.e_meth0 ?_) | (with_reducible refine Cm.e_bm0 ?_) | (with_reducible refine Cm.e_bm ?_) | (with_reducible refine Cm.e_sl ?_) | (with_reducible refine Cm.o_none ?_) | (with_reducible refine Cm.o_some ?_) | (with_reducible refine Cm.e_dnew ?_)
  | (with_reducible refine Cm.e_test ?_) | (with_reducible refine Cm.e_tr ?_) | (with_reducible refine Cm.e_and ?_) | (with_reducible refine Cm.e_or ?_) | (with_reducible refine Cm.e_not ?_) | (with_reducible refine Cm.e_yes ?_) | (with_reducible refine Cm.e_chain ?_)
  | (with_reducible refine Cm.r_i0 ?_) | (with_reducible refine Cm.r_u ?_) | (with_reducible refine Cm.r_isNo ?_) | (with_reducible refine Cm.r_notNo ?_) | (with_reducible refine Cm.r_addI ?_) | (with_reducible refine Cm.r_int1b ?_) | (with_reducible refine Cm.r_max2 ?_)
  | ((with_reducible refine Cm.r_i ?hc ?_); (case hc => walk_at "num"))
  | ((with_reducible refine Cm.r_mulI ?hc ?_); (case hc => walk_at "num"))
  | ((with_reducible refine Cm.r_eqS ?hc ?_); (case hc => exact rfl))
  | ((with_reducible refine Cm.r_neS ?hc ?_); (case hc => exact rfl))
  | ((with_reducible refine' Cm.r_ixl ?h1 ?h2 ?_); (case h1 => walk_at "look"); (case h2 => walk_at "at"))
  | ((with_reducible refine' Cm.r_ixt ?h1 ?h2 ?_); (case h1 => walk_at "look"); (case h2 => walk_at "at"))
  | ((with_reducible refine' Cm.r_ixT ?h1 ?h2 ?_); (case h1 => walk_at "lookT"); (case h2 => walk_at "at"))
  | ((with_reducible refine' Cm.r_ixds ?h1 ?h2 ?_); (case h1 => walk_at "look"); (case h2 => walk_at "key"))
  | ((with_reducible refine' Cm.r_eqe ?h1 ?h2 ?_); (case h1 => walk_at "look"); (case h2 => walk_at "look"))
  | ((with_reducible refine' Cm.r_nee ?h1 ?h2 ?_); (case h1 => walk_at "look"); (case h2 => walk_at "look"))
  | ((with_reducible refine' Cm.r_lenl ?h1 ?_); (case h1 => walk_at "look"))
  | ((with_reducible refine' Cm.r_lent ?h1 ?_); (case h1 => walk_at "look"))
  | ((with_reducible refine' Cm.r_lenT ?h1 ?_); (case h1 => walk_at "lookT"))
  | ((with_reducible refine' Cm.r_listl ?h1 ?_); (case h1 => walk_at "look"); (intro _ _))
  | ((with_reducible refine' Cm.r_tupl ?h1 ?_); (case h1 => walk_at "look"); (intro _ _))
  | ((with_reducible refine' Cm.r_addL ?h1 ?h2 ?h3 ?_); (case h1 => walk_at "look"); (case h2 => walk_at "look"); (case h3 => walk_at "size"); (intro _ _))
  | ((with_reducible refine' Cm.m_append ?h1 ?h2 ?_); (case h1 => walk_at "look"); (case h2 => walk_at "size"))
  | ((with_reducible refine' Cm.m_clear ?h1 ?_); (case h1 => walk_at "look"))
  | ((with_reducible refine' Cm.g_setL ?h1 ?h2 ?_); (case h1 => walk_at "look"); (case h2 => walk_at "ix"))
  | ((with_reducible refine' Cm.g_setDs ?h1 ?h2 ?h3 ?_); (case h1 => walk_at "look"); (case h2 => walk_at "size"); (case h3 => walk_at "put"))
  | ((with_reducible refine' Cm.fld_at ?h1 ?h2 ?h3 ?h4 ?_); (case h1 => walk_at "look"); (case h2 => assumption); (case h3 => assumption); (case h4 => walk_at "key"))
  | ((with_reducible refine' Cm.fldset_at ?h1 ?h2 ?h3 ?h4 ?h5 ?_); (case h1 => walk_at "look"); (case h2 => assumption); (case h3 => assumption); (case h4 => walk_at "size"); (case h5 => walk_at "put"))
  | (with_reducible refine Cm.s_fldaug0 ?_)
  | ((with_reducible refine' Cm.aug_at ?h1 ?h2 ?h3 ?h4 ?_); (case h1 => walk_at "look"); (case h2 => assumption); (case h3 => assumption); (case h4 => walk_at "key"))
  | ((with_reducible refine' Cm.augset_at ?h1 ?h4 ?h5 ?_); (case h1 => walk_at "look"); (case h4 => walk_at "size"); (case h5 => walk_at "put"))
  | (with_reducible refine Cm.in_sub_at ?_) | (with_reducible refine Cm.in_add_at ?_)
  | ((with_reducible refine' Cm.meth_at ?h1 ?h2 ?_); (case h1 => walk_at "look"); (case h2 => walk_at "key"))
  | ((with_reducible refine Cm.new_at ?h1 ?_); (case h1 => walk_at "size"); (intro _ _))
  | ((with_reducible refine Cm.and_at (A := L2.tyV _ "list" _ _) ?h1 ?_); (case h1 => exact Cm.ty_lst (by walk_at "look")))
  | ((with_reducible refine' Cm.g_tupt ?h1 ?h2 ?_); (case h1 => walk_at "look"); (case h2 => exact rfl))
  | ((with_reducible refine' Cm.g_tup ?h1 ?h2 ?_); (case h1 => walk_at "lookT"); (case h2 => exact rfl))
  | (with_reducible refine Cm.g_name ?_) | (with_reducible refine Cm.g_sub ?_) | (with_reducible refine Cm.g_cons ?_) | (with_reducible refine Cm.g_nil ?_)
  | (with_reducible refine Cm.int_at ?_) | (with_reducible refine Cm.bl_at ?_) | (with_reducible refine Cm.tr_bl ?_) | (with_reducible refine Cm.tr_non ?_)
  | ((with_reducible refine' Cm.m_pop0 ?h1 ?_); (case h1 => walk_at "look"))
  | ((with_reducible refine' Cm.r_slTo ?h1 ?h2 ?_); (case h1 => walk_at "look"); (case h2 => walk_at "num2"); (intro _ _))
  | ((with_reducible refine' Cm.r_slFrom ?h1 ?h2 ?_); (case h1 => walk_at "look"); (case h2 => walk_at "num2"); (intro _ _))
  | ((with_reducible refine' Cm.at_forL ?h1 ?_); (case h1 => walk_at "look"))
  | ((with_reducible refine' Cm.at_forT ?h1 ?_); (case h1 => walk_at "look"))
  | ((with_reducible refine' Cm.at_forR ?h1 ?h2 ?_); (case h1 => walk_at "num2"); (case h2 => walk_at "num2"))
  | ((with_reducible refine' Cm.at_forZ ?h1 ?h2 ?_); (case h1 => walk_at "look"); (case h2 => walk_at "look"))
  | (with_reducible refine Cm.s_forZ ?_) | (with_reducible refine Cm.s_forR ?_)
  | ((with_reducible refine Cm.and_at (A := _ = _) ?h1 ?_); (case h1 => exact rfl))
  | ((with_reducible show L2.rIsi _ _ _ _); walk_at "isi")
  | (with_reducible refine Cm.ite_nt ?_) | (with_reducible refine Cm.ite_nf ?_)
  | (with_reducible refine L2.iteT ?_) | (with_reducible refine L2.iteF ?_)
  | dsimp only
  | fail)
local macro_rules | `(tactic| walk_at "run") => `(tactic| repeat (walk_at "st"))
local macro_rules | `(tactic| walk_at "num") => `(tactic| first
  | exact Or.inr ⟨by decide, by decide⟩ | exact Or.inl ⟨by decide, by decide⟩
  | exact Cm.wdiv (by first | decide | omega) (by first | decide | omega)
  | (show (0 : Int) < _; first | decide | omega)
  | exact ⟨by decide, by decide, by decide⟩
  | fail)
local macro_rules | `(tactic| walk_at "put") => `(tactic| exact rfl)
local macro_rules | `(tactic| walk_at "fl") => `(tactic| first | exact Cm.fl0 | (refine' Cm.flS ?hz; (case hz => walk_at "fl")) | fail)
local macro_rules | `(tactic| walk_at "size") => `(tactic| first | exact Cm.sz_lit rfl | exact Cm.sz_lt rfl | exact Cm.fs_lt rfl | decide | (refine' Nat.lt_of_le_of_lt ?ha ?hb; (case ha => walk_at "fl"); (case hb => decide)) | (simp only [List.length_cons, List.length_nil, List.length_append, List.length_map, List.length_set, List.length_replicate, PySem.sizeLine_eq]; omega) | (simp only [List.length_cons, List.length_nil, List.length_append, List.length_map, List.length_set, List.length_replicate, PySem.sizeLine_eq] at *; omega) | fail)
local macro_rules | `(tactic| walk_at "at") => `(tactic| first | assumption | (with_reducible exact Cm.at0) | (with_reducible exact Cm.at1) | (with_reducible exact Cm.at2) | (with_reducible exact Cm.at3) | (with_reducible exact Cm.at4) | (with_reducible exact Cm.at5) | (with_reducible exact Cm.at6) | (with_reducible exact Cm.at7) | (with_reducible exact Cm.at8) | (with_reducible exact Cm.at0s) | (with_reducible exact Cm.at1s) | (with_reducible exact Cm.at01s) | (with_reducible exact Cm.at10s) | fail)
local macro_rules | `(tactic| walk_at "ix") => `(tactic| first | exact Cm.ix0 (by walk_at "size") | exact Cm.ix1 (by walk_at "size") | assumption | fail)
local macro_rules | `(tactic| walk_at "key") => `(tactic| first | assumption | fail)
local macro_rules | `(tactic| walk_at "ne") => `(tactic| first
  | assumption
  | (refine Ne.symm ?_; assumption)
  | (refine' L2.ne_of_none ?h1 ?h2; (case h2 => assumption); (case h1 => walk_at "look"))
  | (refine' Ne.symm (L2.ne_of_none ?h1 ?h2); (case h2 => assumption); (case h1 => walk_at "look"))
  | fail)
local macro_rules | `(tactic| walk_at "lookT") => `(tactic| first
  | assumption
  | exact L2.SqT.of (by walk_at "look")
  | fail)
local macro_rules | `(tactic| walk_at "look") => `(tactic| first
  | assumption
  | exact L2.upd_same
  | ((fail_if_success (with_reducible refine Eq.trans L2.upd_same ?_)); (refine' Eq.trans (L2.upd_ne ?h1) ?h2); (case h1 => walk_at "ne"); (case h2 => walk_at "look"))
  | (refine' Cm.kp_look ?h1 ?h2 ?h3 ?h4; (case h1 => assumption); (case h2 => walk_at "look"); (case h3 => intro _ z; cases z); (case h4 => first | exact Or.inl rfl | exact Or.inr (by walk_at "out")))
  | fail)
local macro_rules | `(tactic| walk_at "out") => `(tactic| first
  | assumption
  | exact fun z => z
  | exact fun z => z.elim (fun e => absurd e (by walk_at "ne")) (fun e => absurd e (by walk_at "ne"))
  | exact fun e => absurd e (by walk_at "ne")
  | fail)
local macro_rules | `(tactic| walk_at "dom") => `(tactic| first
  | exact Cm.dm_refl
  | (refine Cm.dm_upd ?_; walk_at "dom")
  | (refine' Cm.dm_kp ?h1 ?h2; (case h2 => assumption); (case h1 => walk_at "dom"))
  | fail)
local macro_rules | `(tactic| walk_at "free") => `(tactic| first
  | assumption
  | exact Cm.nw_of (by assumption)
  | (refine' Cm.dm_use ?h1 ?h2; (case h2 => assumption); (case h1 => walk_at "dom"))
  | (refine' Cm.dm_use2 ?h1 ?h2; (case h2 => assumption); (case h1 => walk_at "dom"))
  | fail)
local macro_rules | `(tactic| walk_at "in") => `(tactic| first
  | exact Or.inl rfl | exact Or.inl (Or.inl rfl) | exact Or.inl (Or.inr rfl) | exact Or.inl (Or.inr (Or.inl rfl)) | exact Or.inl (Or.inr (Or.inr rfl))
  | exact Or.inl (by assumption)
  | exact Or.inr (by walk_at "free")
  | fail)
local macro_rules | `(tactic| walk_at "kp") => `(tactic| first
  | assumption
  | exact Cm.Kp.refl
  | (refine' Cm.Kp.new' ?h1 ?h2; (case h2 => assumption); (case h1 => walk_at "kp"))
  | (refine' Cm.Kp.setX' ?h1 ?h2 ?h4 ?h5 ?h3; (case h2 => walk_at "look"); (case h4 => exact rfl); (case h5 => intro _ z; cases z); (case h3 => walk_at "in"); (case h1 => walk_at "kp"))
  | (refine' Cm.kp_step ?h1 ?h2 ?h3; (case h2 => assumption); (case h3 => walk_at "sub"); (case h1 => walk_at "kp"))
  | fail)
local macro_rules | `(tactic| walk_at "sub") => `(tactic| first
  | exact fun _ z => z.elim
  | exact fun _ z => Or.inl z
  | (intro a z; rcases z with rfl | rfl <;> walk_at "in")
  | (intro a z; subst z; walk_at "in")
  | fail)
local macro_rules | `(tactic| walk_at "num2") => `(tactic| first | decide | omega | fail)

local macro_rules | `(tactic| walk_at "isi") => `(tactic| first | (with_reducible refine Cm.isi_non_bool ?_) | (with_reducible refine Cm.isi_non_int ?_) | (with_reducible refine Cm.isi_non_str ?_) | (with_reducible refine Cm.isi_non_tuple ?_) | (with_reducible refine Cm.isi_non_list ?_) | (with_reducible refine Cm.isi_bl_bool ?_) | (with_reducible refine Cm.isi_bl_int ?_) | (with_reducible refine Cm.isi_bl_str ?_) | (with_reducible refine Cm.isi_bl_tuple ?_) | (with_reducible refine Cm.isi_bl_list ?_) | (with_reducible refine Cm.isi_int_bool ?_) | (with_reducible refine Cm.isi_int_int ?_) | (with_reducible refine Cm.isi_int_str ?_) | (with_reducible refine Cm.isi_int_tuple ?_) | (with_reducible refine Cm.isi_int_list ?_) | (with_reducible refine Cm.isi_str_bool ?_) | (with_reducible refine Cm.isi_str_int ?_) | (with_reducible refine Cm.isi_str_str ?_) | (with_reducible refine Cm.isi_str_tuple ?_) | (with_reducible refine Cm.isi_str_list ?_) | ((with_reducible refine' Cm.isi_tup_bool ?h1 ?_); (case h1 => walk_at "look")) | ((with_reducible refine' Cm.isi_tup_int ?h1 ?_); (case h1 => walk_at "look")) | ((with_reducible refine' Cm.isi_tup_str ?h1 ?_); (case h1 => walk_at "look")) | ((with_reducible refine' Cm.isi_tup_tuple ?h1 ?_); (case h1 => walk_at "look")) | ((with_reducible refine' Cm.isi_tup_list ?h1 ?_); (case h1 => walk_at "look")) | ((with_reducible refine' Cm.isi_lst_bool ?h1 ?_); (case h1 => walk_at "look")) | ((with_reducible refine' Cm.isi_lst_int ?h1 ?_); (case h1 => walk_at "look")) | ((with_reducible refine' Cm.isi_lst_str ?h1 ?_); (case h1 => walk_at "look")) | ((with_reducible refine' Cm.isi_lst_tuple ?h1 ?_); (case h1 => walk_at "look")) | ((with_reducible refine' Cm.isi_lst_list ?h1 ?_); (case h1 => walk_at "look")) | fail)

/-! ### M1: more words -/
local macro_rules | `(tactic| walk_at "st") => `(tactic| first
  | ((with_reducible refine Cm.and_at (A := L2.tyV _ "dict" _ _) ?h1 ?_); (case h1 => exact Cm.ty_dic (by walk_at "look")))
  | (with_reducible refine Cm.e_dget2 ?_) | (with_reducible refine Cm.e_dpop2 ?_) | (with_reducible refine Cm.e_dpop1 ?_) | (with_reducible refine Cm.s_rx ?_)
  | ((with_reducible refine' Cm.isd_at ?h1 ?_); (case h1 => walk_at "look"))
  | ((with_reducible refine' Cm.get_at ?h1 ?_); (case h1 => walk_at "look"))
  | ((with_reducible refine' Cm.pop1_at ?h1 ?h2 ?_); (case h1 => walk_at "look"); (case h2 => assumption))
  | ((with_reducible refine' Cm.r_dictD ?h1 ?_); (case h1 => walk_at "look"); (intro _ _))
  | ((with_reducible refine' Cm.r_lenD ?h1 ?_); (case h1 => walk_at "look"))
  | ((with_reducible refine' Cm.r_ixdi ?h1 ?h2 ?_); (case h1 => walk_at "look"); (case h2 => assumption))
  | ((with_reducible refine' Cm.g_setdi ?h1 ?h2 ?_); (case h1 => walk_at "look"); (case h2 => first | assumption | omega))
  | (with_reducible refine Cm.r_min2 ?_)
  | (with_reducible refine W.r_eq_lv ?_) | (with_reducible refine W.r_ne_lv ?_) | (with_reducible refine W.r_isNo_lv ?_) | (with_reducible refine W.r_notNo_lv ?_)
  | fail)

local macro_rules | `(tactic| walk_at "key") => `(tactic| first | exact W.tF_g_rows | exact W.tF_g_hands | exact W.tF_g_moment | exact W.tF_g_number | exact W.tF_n_row_at | exact W.tF_n_shown | exact W.tF_n_content | exact W.tF_n_put_page | exact W.tF_n_prune | exact W.tF_n_change | exact W.tF_n_whole)
local macro_rules | `(tactic| walk_at "put") => `(tactic| first | exact W.tF_p_rows | exact W.tF_p_hands | exact W.tF_p_moment | exact W.tF_p_number)
local macro_rules | `(tactic| walk_at "size") => `(tactic| (rw [W.tF_len]; decide))

local macro_rules | `(tactic| walk_at "key") => `(tactic| first | exact W.oS_g_rows | exact W.oS_g_hands | exact W.oS_g_moment | exact W.oS_g_number)
local macro_rules | `(tactic| walk_at "put") => `(tactic| first | exact W.oS_p_rows | exact W.oS_p_hands | exact W.oS_p_moment | exact W.oS_p_number)
local macro_rules | `(tactic| walk_at "size") => `(tactic| (rw [W.oS_len]; decide))

namespace W
open PySem PySem.Spec PyProof.Rows L2 Cm
section
variable {w : World} {K : PySem.W.Frag} {mg : Str → Option Value}
theorem pure_deal_ (vs : List V) (H : Hp) (Q : VK) (E : XK) (h : S_deal_ K vs H Q E) : t_deal_ K E { nx := fun _ H' => Q .non H', rt := Q } (start N_deal_ vs) H := by
  obtain ⟨_, _, _, x4, rfl, s, S, F, hn, l, ds, rfl, hS, rfl, hh, rfl, hl1, hx, hok, hl4, k⟩ := h
  obtain ⟨r0, h0, rk, hk, h1, h2, h3, h4, h5, ⟨n1, n2, n3⟩, o, f⟩ := id hS
  have fs : F s := (f s).mpr (.inl rfl)
  have fr : F r0 := (f r0).mpr (.inr (.inl rfl))
  have fh : F h0 := (f h0).mpr (.inr (.inr rfl))
  have hz : hk.length ≤ 100 := by have := h5.len; omega
  unfold t_deal_
  walk_at "run"
  rename_i t ht
  have kt : Kp (tabs K) No H (upd H t (.tup [.int 0])) := by walk_at "kp"
  -- the new letter
  have new : ((S.hands hn).map (·.1)).getD 0 ≠ l → tSeq (tAsg (tCall (S_tried_ K) [] E (tCons (tVar 0) (tCons (tVar 3) tNil))) (gName 4)) (tSeq (tAsg (tOp (rAddA K) (tOp (rIxA K) (tVar 0) (tC (.str "number"))) (tC (.int 1))) (gSub (tVar 0) (tC (.str "number")) rSetA)) (tSeq (tIfS (tTest (tOp rNotNo (tVar 4) (tC .non))) (tAsg (tVar 4) (gSub (tVar 0) (tC (.str "rows")) rSetA)) tNext) (tAsg (tTup (tCons (tVar 2) (tCons (tOp (rIxA K) (tVar 0) (tC (.str "number"))) (tCons (tOp rNotNo (tVar 4) (tC .non)) tNil)))) (gSub (tOp (rIxA K) (tVar 0) (tC (.str "hands"))) (tVar 1) rSetA))))
      { nx := tRet (tSl (rSlAny K) (tOp (rIxA K) (tOp (rIxA K) (tVar 0) (tC (.str "hands"))) (tVar 1)) (tPart (tC (.int 1))) tNoPart) { nx := fun _ H' => Q .non H', rt := Q }, rt := Q } (start N_deal_ [.ref s, .int hn, .int l, x4]) (upd H t (.tup [.int 0])) := by
    intro hne
    have hS1 := hS.keep kt (fun _ _ z => z)
    walk_at "run"
    refine ⟨_, _, rfl, s, S, F, ds, rfl, hS1, Dt.keep kt (n := 4) (di_tup (by simp; omega) fun d hd => by obtain ⟨e, _, rfl⟩ := List.mem_map.mp hd; exact di_deed) hx, hok, hl4, fun hnone H2 k2 => ?_, fun f' hsome r kvs H2 nr g1 g2 k2 => ?_⟩
    · have kk : Kp (tabs K) No H H2 := by walk_at "kp"
      have q1 := kk.dK h1 (fun z => z)
      have q2 := kk.dK h2 (fun z => z)
      have q4 := kk.dK h4 (fun z => z)
      walk_at "run"
      refine if_ndF rfl ?_
      walk_at "run"
      rename_i u hu
      have ep : valV (putK hk (.inl hn) (.ref u)) (.inl hn) = some (.ref u) := by rw [valV_put, if_pos rfl]
      walk_at "run"
      refine r_slT1 (x := .int l) (y := .int (S.number + 1)) (xs := [.bl (!decide (V.non = .non))]) (by walk_at "look") fun v hv => ?_
      have kb : Kp (tabs K) (fun b => b = s ∨ b = h0) H2 (upd (upd (upd (upd H2 s (.dK (oS r0 h0 S.moment (S.number + 1)))) u (.tup [.int l, .int (S.number + 1), .bl (!decide (V.non = .non))])) h0 (.dK (putK hk (.inl hn) (.ref u)))) v (.tup [.int (S.number + 1), .bl (!decide (V.non = .non))])) := by walk_at "kp"
      have ed : S.deal hn l ds = { S with number := S.number + 1, hands := upf S.hands hn (some (l, S.number + 1, false)) } := by
        unfold TB.deal
        rw [if_neg hne, hnone]
      refine k (.ref v) (l, S.number + 1, false) _ F ?_ ?_ ?_ ⟨?_, fun a z => .inl z⟩
      · rw [ed]
        show upf _ _ _ _ = _
        unfold upf; rw [if_pos rfl]
      · exact dt2.mpr ⟨v, _, _, rfl, by walk_at "look", rfl, rfl⟩
      · rw [ed]
        refine ⟨r0, h0, rk, putK hk (.inl hn) (.ref u), by walk_at "look", by walk_at "look", (h3.keep kk).keep kb, by walk_at "look", ?_, ⟨n1, n2, n3⟩, ⟨o.rw, ?_⟩, f⟩
        · refine (((h5.keep kk).keep kb).put (k := hn) (d := handD (l, S.number + 1, false)) (dt3.mpr ⟨u, _, _, _, rfl, by walk_at "look", rfl, rfl, rfl⟩) ?_ hh.1 (by omega)).congr fun j => ?_
          · exact di_tup (Nat.le_of_ble_eq_true rfl) fun d hd => by
              simp only [List.mem_cons, List.not_mem_nil, or_false] at hd
              rcases hd with rfl | rfl | rfl
              · exact Di.int
              · exact Di.int
              · exact Di.bool
          · show _ = (upf S.hands hn _ j).map handD
            unfold upf hdf
            split <;> rfl
        · intro j q e
          have e : upf S.hands hn (some (l, S.number + 1, false)) j = some q := e
          unfold upf at e
          split at e
          · rename_i hj; rw [hj]; exact hh
          · exact o.hd j q e
      · exact kk.mono (fun _ z => z.elim) |>.trans kb fun a z => .inl (by rcases z with rfl | rfl; exact fs; exact fh)
    · have kk : Kp (tabs K) No H H2 := by walk_at "kp"
      have nr' : Nw H r := kt.dom r nr
      have q1 := kk.dK h1 (fun z => z)
      have q2 := kk.dK h2 (fun z => z)
      have q4 := kk.dK h4 (fun z => z)
      have m1 : s ≠ r := fun z => by rw [← z] at nr'; exact nw_no nr' h1 (fun _ z => nomatch z)
      have m2 : h0 ≠ r := fun z => by rw [← z] at nr'; exact nw_no nr' h4 (fun _ z => nomatch z)
      walk_at "run"
      refine if_ndT (fun z => nomatch z) ?_
      walk_at "run"
      rename_i u hu
      have ep : valV (putK hk (.inl hn) (.ref u)) (.inl hn) = some (.ref u) := by rw [valV_put, if_pos rfl]
      walk_at "run"
      refine r_slT1 (x := .int l) (y := .int (S.number + 1)) (xs := [.bl (!decide (V.ref r = .non))]) (by walk_at "look") fun v hv => ?_
      have kb : Kp (tabs K) (fun b => b = s ∨ b = h0) H2 (upd (upd (upd (upd (upd H2 s (.dK (oS r0 h0 S.moment (S.number + 1)))) s (.dK (oS r h0 S.moment (S.number + 1)))) u (.tup [.int l, .int (S.number + 1), .bl (!decide (V.ref r = .non))])) h0 (.dK (putK hk (.inl hn) (.ref u)))) v (.tup [.int (S.number + 1), .bl (!decide (V.ref r = .non))])) := by walk_at "kp"
      have ed : S.deal hn l ds = { S with rows := f', number := S.number + 1, hands := upf S.hands hn (some (l, S.number + 1, true)) } := by
        unfold TB.deal
        rw [if_neg hne, hsome]
      refine k (.ref v) (l, S.number + 1, true) _ (fun a => a = s ∨ a = r ∨ a = h0) ?_ ?_ ?_ ⟨?_, fun a z => ?_⟩
      · rw [ed]
        show upf _ _ _ _ = _
        unfold upf; rw [if_pos rfl]
      · exact dt2.mpr ⟨v, _, _, rfl, by walk_at "look", rfl, rfl⟩
      · rw [ed]
        refine ⟨r, h0, kvs, putK hk (.inl hn) (.ref u), by walk_at "look", by walk_at "look", g2.keep kb, by walk_at "look", ?_, ⟨m1, n2, Ne.symm m2⟩, ⟨ownL_ok o.rw hok hsome, ?_⟩, fun a => Iff.rfl⟩
        · refine (((h5.keep kk).keep kb).put (k := hn) (d := handD (l, S.number + 1, true)) (dt3.mpr ⟨u, _, _, _, rfl, by walk_at "look", rfl, rfl, rfl⟩) ?_ hh.1 (by omega)).congr fun j => ?_
          · exact di_tup (Nat.le_of_ble_eq_true rfl) fun d hd => by
              simp only [List.mem_cons, List.not_mem_nil, or_false] at hd
              rcases hd with rfl | rfl | rfl
              · exact Di.int
              · exact Di.int
              · exact Di.bool
          · show _ = (upf S.hands hn _ j).map handD
            unfold upf hdf
            split <;> rfl
        · intro j q e
          have e : upf S.hands hn (some (l, S.number + 1, true)) j = some q := e
          unfold upf at e
          split at e
          · rename_i hj; rw [hj]; exact hh
          · exact o.hd j q e
      · exact kk.mono (fun _ z => z.elim) |>.trans kb fun a z => .inl (by rcases z with rfl | rfl; exact fs; exact fh)
      · rcases z with rfl | rfl | rfl
        · exact .inl fs
        · exact .inr nr'
        · exact .inl fh
  cases hf : S.hands hn with
  | none =>
    have e1 : valV hk (.inl hn) = none := h5.non hn (by unfold hdf; rw [hf]; rfl)
    rw [e1, Option.getD_none]
    walk_at "run"
    refine if_ndT (fun z => by injection z; omega) ?_
    refine new ?_
    rw [hf]; show (0 : Int) ≠ l; omega
  | some q =>
    obtain ⟨v, e1, e2⟩ := h5.get hn (handD q) (by unfold hdf; rw [hf]; rfl)
    obtain ⟨u, u0, u1, u2, rfl, hu, rfl, rfl, rfl⟩ := dt3.mp e2
    rw [e1, Option.getD_some]
    walk_at "run"
    refine if_nd (fun hne => ?_) (fun hne => ?_)
    · refine new ?_
      rw [hf]; exact fun z => hne (by rw [← z]; rfl)
    · walk_at "run"
      refine r_slT1 (x := .int q.1) (y := .int q.2.1) (xs := [.bl q.2.2]) (by walk_at "look") fun v hv => ?_
      have kb : Kp (tabs K) No H (upd (upd H t (.tup [.int 0])) v (.tup [.int q.2.1, .bl q.2.2])) := by walk_at "kp"
      have ed : S.deal hn l ds = S := by
        unfold TB.deal
        rw [hf, if_pos]
        show q.1 = l
        injection hne
      refine k (.ref v) q _ F (by rw [ed]; exact hf) (dt2.mpr ⟨v, _, _, rfl, by walk_at "look", rfl, rfl⟩) ?_ ⟨kb.mono fun _ z => z.elim, fun a z => .inl z⟩
      rw [ed]
      exact hS.keep kb (fun _ _ z => z)
end
end W

end
section
/-! ### M0: words for walking through a reading (local) -/
local macro_rules | `(tactic| walk_at "st") => `(tactic| first
  | (with_reducible refine Cm.s_seq ?_) | (with_reducible refine Cm.s_asg ?_) | (with_reducible refine Cm.s_drop ?_) | (with_reducible refine Cm.s_ret ?_) | (with_reducible refine Cm.s_if ?_) | (with_reducible refine Cm.s_next ?_) | (with_reducible refine Cm.s_retN ?_) | (with_reducible refine Cm.s_rs ?_) | (with_reducible refine Cm.s_fld0 ?_)
  | ((with_reducible refine' Cm.e_var ?hv ?_); (case hv => exact rfl))
  | (with_reducible refine Cm.e_c ?_) | (with_reducible refine Cm.e_op ?_) | (with_reducible refine Cm.e_un ?_) | (with_reducible refine Cm.e_nil ?_) | (with_reducible refine Cm.e_cons ?_) | (with_reducible refine Cm.e_tup ?_) | (with_reducible refine Cm.e_lst ?_) | (with_reducible refine Cm.e_cb ?_) | (with_reducible refine Cm.e_call ?_) | (with_reducible refine Cm.e_if ?_)
  | (with_reducible refine Cm.e_andV ?_) | (with_reducible refine Cm.e_orV ?_) | (with_reducible refine Cm.e_notV ?_) | (with_reducible refine Cm.e_fld0 ?_) | (with_reducible refine Cm.e_meth0 ?_) | (with_reducible refine Cm.e_bm0 ?_) | (with_reducible refine Cm.e_bm ?_) | (with_reducible refine Cm.e_sl ?_) | (with_reducible refine Cm.o_none ?_) | (with_reducible refine Cm.o_some ?_) | (with_reducible refine Cm.e_dnew ?_)
  | (with_reducible refine Cm.e_test ?_) | (with_reducible refine Cm.e_tr ?_) | (with_reducible refine Cm.e_and ?_) | (with_reducible refine Cm.e_or ?_) | (with_reducible refine Cm.e_not ?_) | (with_reducible refine Cm.e_yes ?_) | (with_reducible refine Cm.e_chain ?_)
  | (with_reducible refine Cm.r_i0 ?_) | (with_reducible refine Cm.r_u ?_) | (with_reducible refine Cm.r_isNo ?_) | (with_reducible refine Cm.r_notNo ?_) | (with_reducible refine Cm.r_addI ?_) | (with_reducible refine Cm.r_int1b ?_) | (with_reducible refine Cm.r_max2 ?_)
  | ((with_reducible refine Cm.r_i ?hc ?_); (case hc => walk_at "num"))
  | ((with_reducible refine Cm.r_mulI ?hc ?_); (case hc => walk_at "num"))
  | ((with_reducible refine Cm.r_eqS ?hc ?_); (case hc => exact rfl))
  | ((with_reducible refine Cm.r_neS ?hc ?_); (case hc => exact rfl))
  | ((with_reducible refine' Cm.r_ixl ?h1 ?h2 ?_); (case h1 => walk_at "look"); (case h2 => walk_at "at"))
  | ((with_reducible refine' Cm.r_ixt ?h1 ?h2 ?_); (case h1 => walk_at "look"); (case h2 => walk_at "at"))
  | ((with_reducible refine' Cm.r_ixT ?h1 ?h2 ?_); (case h1 => walk_at "lookT"); (case h2 => walk_at "at"))
  | ((with_reducible refine' Cm.r_ixds ?h1 ?h2 ?_); (case h1 => walk_at "look"); (case h2 => walk_at "key"))
  | ((with_reducible refine' Cm.r_eqe ?h1 ?h2 ?_); (case h1 => walk_at "look"); (case h2 => walk_at "look"))
  | ((with_reducible refine' Cm.r_nee ?h1 ?h2 ?_); (case h1 => walk_at "look"); (case h2 => walk_at "look"))
  | ((with_reducible refine' Cm.r_lenl ?h1 ?_); (case h1 => walk_at "look"))
  | ((with_reducible refine' Cm.r_lent ?h1 ?_); (case h1 => walk_at "look"))
  | ((with_reducible refine' Cm.r_lenT ?h1 ?_); (case h1 => walk_at "lookT"))
  | ((with_reducible refine' Cm.r_listl ?h1 ?_); (case h1 => walk_at "look"); (intro _ _))
  | ((with_reducible refine' Cm.r_tupl ?h1 ?_); (case h1 => walk_at "look"); (intro _ _))
  | ((with_reducible refine' Cm.r_addL ?h1 ?h2 ?h3 ?_); (case h1 => walk_at "look"); (case h2 => walk_at "look"); (case h3 => walk_at "size"); (intro _ _))
  | ((with_reducible refine' Cm.m_append ?h1 ?h2 ?_); (case h1 => walk_at "look"); (case h2 => walk_at "size"))
  | ((with_reducible refine' Cm.m_clear ?h1 ?_); (case h1 => walk_at "look"))
  | ((with_reducible refine' Cm.g_setL ?h1 ?h2 ?_); (case h1 => walk_at "look"); (case h2 => walk_at "ix"))
  | ((with_reducible refine' Cm.g_setDs ?h1 ?h2 ?h3 ?_); (case h1 => walk_at "look"); (case h2 => walk_at "size"); (case h3 => walk_at "put"))
  | ((with_reducible refine' Cm.fld_at ?h1 ?h2 ?h3 ?h4 ?_); (case h1 => walk_at "look"); (case h2 => assumption); (case h3 => assumption); (case h4 => walk_at "key"))
  | ((with_reducible refine' Cm.fldset_at ?h1 ?h2 ?h3 ?h4 ?h5 ?_); (case h1 => walk_at "look"); (case h2 => assumption); (case h3 => assumption); (case h4 => walk_at "size"); (case h5 => walk_at "put"))
  | (with_reducible refine Cm.s_fldaug0 ?_)
  | ((with_reducible refine' Cm.aug_at ?h1 ?h2 ?h3 ?h4 ?_); (case h1 => walk_at "look"); (case h2 => assumption); (case h3 => assumption); (case h4 => walk_at "key"))
  | ((with_reducible refine' Cm.augset_at ?h1 ?h4 ?h5 ?_); (case h1 => walk_at "look"); (case h4 => walk_at "size"); (case h5 => walk_at "put"))
  | (with_reducible refine Cm.in_sub_at ?_) | (with_reducible refine Cm.in_add_at ?_)
  | ((with_reducible refine' Cm.meth_at ?h1 ?h2 ?_); (case h1 => walk_at "look"); (case h2 => walk_at "key"))
  | ((with_reducible refine Cm.new_at ?h1 ?_); (case h1 => walk_at "size"); (intro _ _))
  | ((with_reducible refine Cm.and_at (A := L2.tyV _ "list" _ _) ?h1 ?_); (case h1 => exact Cm.ty_lst (by walk_at "look")))
  | ((with_reducible refine' Cm.g_tupt ?h1 ?h2 ?_); (case h1 => walk_at "look"); (case h2 => exact rfl))
  | ((with_reducible refine' Cm.g_tup ?h1 ?h2 ?_); (case h1 => walk_at "lookT"); (case h2 => exact rfl))
  | (with_reducible refine Cm.g_name ?_) | (with_reducible refine Cm.g_sub ?_) | (with_reducible refine Cm.g_cons ?_) | (with_reducible refine Cm.g_nil ?_)
  | (with_reducible refine Cm.int_at ?_) | (with_reducible refine Cm.bl_at ?_) | (with_reducible refine Cm.tr_bl ?_) | (with_reducible refine Cm.tr_non ?_)
  | ((with_reducible refine' Cm.m_pop0 ?h1 ?_); (case h1 => walk_at "look"))
  | ((with_reducible refine' Cm.r_slTo ?h1 ?h2 ?_); (case h1 => walk_at "look"); (case h2 => walk_at "num2"); (intro _ _))
  | ((with_reducible refine' Cm.r_slFrom ?h1 ?h2 ?_); (case h1 => walk_at "look"); (case h2 => walk_at "num2"); (intro _ _))
  | ((with_reducible refine' Cm.at_forL ?h1 ?_); (case h1 => walk_at "look"))
  | ((with_reducible refine' Cm.at_forT ?h1 ?_); (case h1 => walk_at "look"))
  | ((with_reducible refine' Cm.at_forR ?h1 ?h2 ?_); (case h1 => walk_at "num2"); (case h2 => walk_at "num2"))
  | ((with_reducible refine' Cm.at_forZ ?h1 ?h2 ?_); (case h1 => walk_at "look"); (case h2 => walk_at "look"))
  | (with_reducible refine Cm.s_forZ ?_) | (with_reducible refine Cm.s_forR ?_)
  | ((with_reducible refine Cm.and_at (A := _ = _) ?h1 ?_); (case h1 => exact rfl))
  | ((with_reducible show L2.rIsi _ _ _ _); walk_at "isi")
  | (with_reducible refine Cm.ite_nt ?_) | (with_reducible refine Cm.ite_nf ?_)
  | (with_reducible refine L2.iteT ?_) | (with_reducible refine L2.iteF ?_)
  | dsimp only
  | fail)
local macro_rules | `(tactic| walk_at "run") => `(tactic| repeat (walk_at "st"))
local macro_rules | `(tactic| walk_at "num") => `(tactic| first
  | exact Or.inr ⟨by decide, by decide⟩ | exact Or.inl ⟨by decide, by decide⟩
  | exact Cm.wdiv (by first | decide | omega) (by first | decide | omega)
  | (show (0 : Int) < _; first | decide | omega)
  | exact ⟨by decide, by decide, by decide⟩
  | fail)
local macro_rules | `(tactic| walk_at "put") => `(tactic| exact rfl)
local macro_rules | `(tactic| walk_at "fl") => `(tactic| first | exact Cm.fl0 | (refine' Cm.flS ?hz; (case hz => walk_at "fl")) | fail)
local macro_rules | `(tactic| walk_at "size") => `(tactic| first | exact Cm.sz_lit rfl | exact Cm.sz_lt rfl | exact Cm.fs_lt rfl | decide | (refine' Nat.lt_of_le_of_lt ?ha ?hb; (case ha => walk_at "fl"); (case hb => decide)) | (simp only [List.length_cons, List.length_nil, List.length_append, List.length_map, List.length_set, List.length_replicate, PySem.sizeLine_eq]; omega) | (simp only [List.length_cons, List.length_nil, List.length_append, List.length_map, List.length_set, List.length_replicate, PySem.sizeLine_eq] at *; omega) | fail)
local macro_rules | `(tactic| walk_at "at") => `(tactic| first | assumption | (with_reducible exact Cm.at0) | (with_reducible exact Cm.at1) | (with_reducible exact Cm.at2) | (with_reducible exact Cm.at3) | (with_reducible exact Cm.at4) | (with_reducible exact Cm.at5) | (with_reducible exact Cm.at6) | (with_reducible exact Cm.at7) | (with_reducible exact Cm.at8) | (with_reducible exact Cm.at0s) | (with_reducible exact Cm.at1s) | (with_reducible exact Cm.at01s) | (with_reducible exact Cm.at10s) | fail)
local macro_rules | `(tactic| walk_at "ix") => `(tactic| first | exact Cm.ix0 (by walk_at "size") | exact Cm.ix1 (by walk_at "size") | assumption | fail)
local macro_rules | `(tactic| walk_at "key") => `(tactic| first | assumption | fail)
local macro_rules | `(tactic| walk_at "ne") => `(tactic| first
  | assumption
  | (refine Ne.symm ?_; assumption)
  | (refine' L2.ne_of_none ?h1 ?h2; (case h2 => assumption); (case h1 => walk_at "look"))
  | (refine' Ne.symm (L2.ne_of_none ?h1 ?h2); (case h2 => assumption); (case h1 => walk_at "look"))
  | fail)
local macro_rules | `(tactic| walk_at "lookT") => `(tactic| first
  | assumption
  | exact L2.SqT.of (by walk_at "look")
  | fail)
local macro_rules | `(tactic| walk_at "look") => `(tactic| first
  | assumption
  | exact L2.upd_same
  | ((fail_if_success (with_reducible refine Eq.trans L2.upd_same ?_)); (refine' Eq.trans (L2.upd_ne ?h1) ?h2); (case h1 => walk_at "ne"); (case h2 => walk_at "look"))
  | (refine' Cm.kp_look ?h1 ?h2 ?h3 ?h4; (case h1 => assumption); (case h2 => walk_at "look"); (case h3 => intro _ z; cases z); (case h4 => first | exact Or.inl rfl | exact Or.inr (by walk_at "out")))
  | fail)
local macro_rules | `(tactic| walk_at "out") => `(tactic| first
  | assumption
  | exact fun z => z
  | exact fun z => z.elim (fun e => absurd e (by walk_at "ne")) (fun e => absurd e (by walk_at "ne"))
  | exact fun e => absurd e (by walk_at "ne")
  | fail)
local macro_rules | `(tactic| walk_at "dom") => `(tactic| first
  | exact Cm.dm_refl
  | (refine Cm.dm_upd ?_; walk_at "dom")
  | (refine' Cm.dm_kp ?h1 ?h2; (case h2 => assumption); (case h1 => walk_at "dom"))
  | fail)
local macro_rules | `(tactic| walk_at "free") => `(tactic| first
  | assumption
  | exact Cm.nw_of (by assumption)
  | (refine' Cm.dm_use ?h1 ?h2; (case h2 => assumption); (case h1 => walk_at "dom"))
  | (refine' Cm.dm_use2 ?h1 ?h2; (case h2 => assumption); (case h1 => walk_at "dom"))
  | fail)
local macro_rules | `(tactic| walk_at "in") => `(tactic| first
  | exact Or.inl rfl | exact Or.inl (Or.inl rfl) | exact Or.inl (Or.inr rfl) | exact Or.inl (Or.inr (Or.inl rfl)) | exact Or.inl (Or.inr (Or.inr rfl))
  | exact Or.inl (by assumption)
  | exact Or.inr (by walk_at "free")
  | fail)
local macro_rules | `(tactic| walk_at "kp") => `(tactic| first
  | assumption
  | exact Cm.Kp.refl
  | (refine' Cm.Kp.new' ?h1 ?h2; (case h2 => assumption); (case h1 => walk_at "kp"))
  | (refine' Cm.Kp.setX' ?h1 ?h2 ?h4 ?h5 ?h3; (case h2 => walk_at "look"); (case h4 => exact rfl); (case h5 => intro _ z; cases z); (case h3 => walk_at "in"); (case h1 => walk_at "kp"))
  | (refine' Cm.kp_step ?h1 ?h2 ?h3; (case h2 => assumption); (case h3 => walk_at "sub"); (case h1 => walk_at "kp"))
  | fail)
local macro_rules | `(tactic| walk_at "sub") => `(tactic| first
  | exact fun _ z => z.elim
  | exact fun _ z => Or.inl z
  | (intro a z; rcases z with rfl | rfl <;> walk_at "in")
  | (intro a z; subst z; walk_at "in")
  | fail)
local macro_rules | `(tactic| walk_at "num2") => `(tactic| first | decide | omega | fail)

local macro_rules | `(tactic| walk_at "isi") => `(tactic| first | (with_reducible refine Cm.isi_non_bool ?_) | (with_reducible refine Cm.isi_non_int ?_) | (with_reducible refine Cm.isi_non_str ?_) | (with_reducible refine Cm.isi_non_tuple ?_) | (with_reducible refine Cm.isi_non_list ?_) | (with_reducible refine Cm.isi_bl_bool ?_) | (with_reducible refine Cm.isi_bl_int ?_) | (with_reducible refine Cm.isi_bl_str ?_) | (with_reducible refine Cm.isi_bl_tuple ?_) | (with_reducible refine Cm.isi_bl_list ?_) | (with_reducible refine Cm.isi_int_bool ?_) | (with_reducible refine Cm.isi_int_int ?_) | (with_reducible refine Cm.isi_int_str ?_) | (with_reducible refine Cm.isi_int_tuple ?_) | (with_reducible refine Cm.isi_int_list ?_) | (with_reducible refine Cm.isi_str_bool ?_) | (with_reducible refine Cm.isi_str_int ?_) | (with_reducible refine Cm.isi_str_str ?_) | (with_reducible refine Cm.isi_str_tuple ?_) | (with_reducible refine Cm.isi_str_list ?_) | ((with_reducible refine' Cm.isi_tup_bool ?h1 ?_); (case h1 => walk_at "look")) | ((with_reducible refine' Cm.isi_tup_int ?h1 ?_); (case h1 => walk_at "look")) | ((with_reducible refine' Cm.isi_tup_str ?h1 ?_); (case h1 => walk_at "look")) | ((with_reducible refine' Cm.isi_tup_tuple ?h1 ?_); (case h1 => walk_at "look")) | ((with_reducible refine' Cm.isi_tup_list ?h1 ?_); (case h1 => walk_at "look")) | ((with_reducible refine' Cm.isi_lst_bool ?h1 ?_); (case h1 => walk_at "look")) | ((with_reducible refine' Cm.isi_lst_int ?h1 ?_); (case h1 => walk_at "look")) | ((with_reducible refine' Cm.isi_lst_str ?h1 ?_); (case h1 => walk_at "look")) | ((with_reducible refine' Cm.isi_lst_tuple ?h1 ?_); (case h1 => walk_at "look")) | ((with_reducible refine' Cm.isi_lst_list ?h1 ?_); (case h1 => walk_at "look")) | fail)

/-! ### M1: more words -/
local macro_rules | `(tactic| walk_at "st") => `(tactic| first
  | ((with_reducible refine Cm.and_at (A := L2.tyV _ "dict" _ _) ?h1 ?_); (case h1 => exact Cm.ty_dic (by walk_at "look")))
  | (with_reducible refine Cm.e_dget2 ?_) | (with_reducible refine Cm.e_dpop2 ?_) | (with_reducible refine Cm.e_dpop1 ?_) | (with_reducible refine Cm.s_rx ?_)
  | ((with_reducible refine' Cm.isd_at ?h1 ?_); (case h1 => walk_at "look"))
  | ((with_reducible refine' Cm.get_at ?h1 ?_); (case h1 => walk_at "look"))
  | ((with_reducible refine' Cm.pop1_at ?h1 ?h2 ?_); (case h1 => walk_at "look"); (case h2 => assumption))
  | ((with_reducible refine' Cm.r_dictD ?h1 ?_); (case h1 => walk_at "look"); (intro _ _))
  | ((with_reducible refine' Cm.r_lenD ?h1 ?_); (case h1 => walk_at "look"))
  | ((with_reducible refine' Cm.r_ixdi ?h1 ?h2 ?_); (case h1 => walk_at "look"); (case h2 => assumption))
  | ((with_reducible refine' Cm.g_setdi ?h1 ?h2 ?_); (case h1 => walk_at "look"); (case h2 => first | assumption | omega))
  | (with_reducible refine Cm.r_min2 ?_)
  | (with_reducible refine W.r_eq_lv ?_) | (with_reducible refine W.r_ne_lv ?_) | (with_reducible refine W.r_isNo_lv ?_) | (with_reducible refine W.r_notNo_lv ?_)
  | fail)

local macro_rules | `(tactic| walk_at "key") => `(tactic| first | exact W.tF_g_rows | exact W.tF_g_hands | exact W.tF_g_moment | exact W.tF_g_number | exact W.tF_n_row_at | exact W.tF_n_shown | exact W.tF_n_content | exact W.tF_n_put_page | exact W.tF_n_prune | exact W.tF_n_change | exact W.tF_n_whole)
local macro_rules | `(tactic| walk_at "put") => `(tactic| first | exact W.tF_p_rows | exact W.tF_p_hands | exact W.tF_p_moment | exact W.tF_p_number)
local macro_rules | `(tactic| walk_at "size") => `(tactic| (rw [W.tF_len]; decide))

local macro_rules | `(tactic| walk_at "key") => `(tactic| first | exact W.oS_g_rows | exact W.oS_g_hands | exact W.oS_g_moment | exact W.oS_g_number)
local macro_rules | `(tactic| walk_at "put") => `(tactic| first | exact W.oS_p_rows | exact W.oS_p_hands | exact W.oS_p_moment | exact W.oS_p_number)
local macro_rules | `(tactic| walk_at "size") => `(tactic| (rw [W.oS_len]; decide))

namespace W
open PySem PySem.Spec PyProof.Rows L2 Cm
section
variable {w : World} {K : PySem.W.Frag} {mg : Str → Option Value}
theorem shown_ok {S : TB} (o : S.Ok) {k i : Int} (h : S.shown k = some i) : 0 ≤ i ∧ i ≤ 999 := by
  obtain ⟨e, h⟩ := psh_ok h
  exact (o.rw k _ h).2
theorem pure_deed_ (vs : List V) (H : Hp) (Q : VK) (E : XK) (h : S_deed_ K vs H Q E) : t_deed_ K E { nx := fun _ H' => Q .non H', rt := Q } (start N_deed_ vs) H := by
  obtain ⟨_, _, rfl, b, l, s, S, F, rfl, rfl, B, hS, fb, fl, k⟩ := h
  have nbl := B.ne
  unfold t_deed_
  walk_at "run"
  rename_i p hp
  have pb := B.nb hp
  have pl := B.nl hp
  refine ⟨_, _, rfl, b, l, _, rfl, rfl, B.new hp, by decide, by decide, fun i1 H1 i10 i11 B1 k1 => ?_⟩
  obtain ⟨m1, e1, hm1⟩ := at_pick (xs := [.int 2, .int 6, .int 32]) i10 i11
  obtain ⟨m, rfl, hm0, hm3⟩ : ∃ m : Int, m1 = .int m ∧ 0 < m ∧ m ≤ 32 := by
    simp only [List.mem_cons, List.not_mem_nil, or_false] at hm1
    rcases hm1 with rfl | rfl | rfl <;> exact ⟨_, rfl, by decide, by decide⟩
  have g1 : H1 p = some (.lst [.int 2, .int 6, .int 32]) := k1.lst upd_same (out_bx pb pl)
  walk_at "run"
  refine ⟨_, _, rfl, b, l, m, rfl, rfl, B1, hm0, by omega, fun key H2 key0 key1 B2 k2 => ?_⟩
  have kk2 : Kp (tabs K) (Bx b l) H H2 := ((Kp.new hp).trans k1 fun a z => .inl z).trans k2 fun a z => .inl z
  have hS2 := hS.keep kk2 (fun a ha z => z.elim (fun e => fb (e ▸ ha)) fun e => fl (e ▸ ha))
  walk_at "run"
  refine ⟨_, _, rfl, s, S, F, key, rfl, hS2, rfl, fun H3 k3 => ?_⟩
  have B3 := B2.keep k3 (fun z => z) (fun z => z)
  have kk3 : Kp (tabs K) (Bx b l) H H3 := kk2.trans k3 fun a z => z.elim
  clear kk2 k2 B2 hS2 g1 k1 B1 hm1 e1 k3
  clear i11 i10 i1 H1
  walk_at "run"
  refine ⟨_, _, rfl, b, l, _, rfl, rfl, B3, by decide, by decide, fun way H4 way0 way1 B4 k4 => ?_⟩
  have kk4 : Kp (tabs K) (Bx b l) H H4 := kk3.trans k4 fun a z => .inl z
  clear kk3 k4 B3
  have hkey : 0 ≤ key ∧ key < 32 := ⟨key0, by omega⟩
  walk_at "run"
  refine if_d (fun h1 => ?_) (fun h1 => ?_)
  · walk_at "run"
    refine ⟨_, _, rfl, b, l, _, rfl, rfl, B4, by decide, by decide, fun j1 H5 j10 j11 B5 k5 => ?_⟩
    walk_at "run"
    refine ⟨_, _, rfl, b, l, _, rfl, rfl, B5, by decide, by decide, fun j2 H6 j20 j21 B6 k6 => ?_⟩
    walk_at "run"
    rename_i q hq
    have qb := B6.nb hq
    have ql := B6.nl hq
    refine ⟨_, _, rfl, b, l, _, rfl, rfl, B6.new hq, by decide, by decide, fun j3 H7 j30 j31 B7 k7 => ?_⟩
    obtain ⟨x, ex, hx⟩ := at_pick (xs := [.int 0, .int (1 + j1), .int (1 + j2)]) j30 j31
    obtain ⟨life, rfl, hl0, hl1⟩ : ∃ m : Int, x = .int m ∧ 0 ≤ m ∧ m ≤ 1000 := by
      simp only [List.mem_cons, List.not_mem_nil, or_false] at hx
      rcases hx with rfl | rfl | rfl <;> exact ⟨_, rfl, by omega, by omega⟩
    have g7 : H7 q = some (.lst [.int 0, .int (1 + j1), .int (1 + j2)]) := k7.lst upd_same (out_bx qb ql)
    have kk7 : Kp (tabs K) (Bx b l) H H7 := (((kk4.trans k5 fun a z => .inl z).trans k6 fun a z => .inl z).new' hq).trans k7 fun a z => .inl z
    clear k7 k6 k5 B6 B5 B4 kk4
    walk_at "run"
    refine ⟨_, _, rfl, b, l, _, rfl, rfl, B7, by decide, by decide, fun j4 H8 j40 j41 B8 k8 => ?_⟩
    walk_at "run"
    rename_i q2 hq2
    have qb2 := B8.nb hq2
    have ql2 := B8.nl hq2
    refine ⟨_, _, rfl, b, l, _, rfl, rfl, B8.new hq2, by decide, by decide, fun j5 H9 j50 j51 B9 k9 => ?_⟩
    obtain ⟨x, ex2, hx⟩ := at_pick (xs := [.int j4, .int 999, .int 0]) j50 j51
    obtain ⟨wo, rfl, hw0, hw1⟩ : ∃ m : Int, x = .int m ∧ 0 ≤ m ∧ m ≤ 999 := by
      simp only [List.mem_cons, List.not_mem_nil, or_false] at hx
      rcases hx with rfl | rfl | rfl <;> exact ⟨_, rfl, by omega, by omega⟩
    have g9 : H9 q2 = some (.lst [.int j4, .int 999, .int 0]) := k9.lst upd_same (out_bx qb2 ql2)
    have kk9 : Kp (tabs K) (Bx b l) H H9 := ((kk7.trans k8 fun a z => .inl z).new' hq2).trans k9 fun a z => .inl z
    clear k9 k8 kk7
    walk_at "run"
    rename_i t ht
    exact k _ (.put key wo life) _ (dt4.mpr ⟨t, _, _, _, _, rfl, upd_same, rfl, rfl, rfl, rfl⟩) ⟨hkey, ⟨hw0, hw1⟩, hl0, hl1⟩ (B9.new ht) (kk9.new' ht)
  · walk_at "run"
    refine if_d (fun h2 => ?_) (fun h2 => ?_)
    · walk_at "run"
      rename_i t ht
      exact k _ (.drop key) _ (dt2.mpr ⟨t, _, _, rfl, upd_same, rfl, rfl⟩) hkey (B4.new ht) (kk4.new' ht)
    · walk_at "run"
      refine if_d (fun h3 => ?_) (fun h3 => ?_)
      · walk_at "run"
        refine ⟨_, _, rfl, b, l, _, rfl, rfl, B4, by decide, by decide, fun j1 H5 j10 j11 B5 k5 => ?_⟩
        walk_at "run"
        refine ⟨_, _, rfl, b, l, _, rfl, rfl, B5, by decide, by decide, fun j2 H6 j20 j21 B6 k6 => ?_⟩
        walk_at "run"
        rename_i q hq
        have qb := B6.nb hq
        have ql := B6.nl hq
        refine ⟨_, _, rfl, b, l, _, rfl, rfl, B6.new hq, by decide, by decide, fun j3 H7 j30 j31 B7 k7 => ?_⟩
        obtain ⟨x, ex, hx⟩ := at_pick (xs := [.int (j1 - 4), .int (j2 - 999)]) j30 j31
        obtain ⟨mo, rfl, hl0, hl1⟩ : ∃ m : Int, x = .int m ∧ -999 ≤ m ∧ m ≤ 999 := by
          simp only [List.mem_cons, List.not_mem_nil, or_false] at hx
          rcases hx with rfl | rfl <;> exact ⟨_, rfl, by omega, by omega⟩
        have g7 : H7 q = some (.lst [.int (j1 - 4), .int (j2 - 999)]) := k7.lst upd_same (out_bx qb ql)
        have kk7 : Kp (tabs K) (Bx b l) H H7 := (((kk4.trans k5 fun a z => .inl z).trans k6 fun a z => .inl z).new' hq).trans k7 fun a z => .inl z
        clear k7 k6 k5 B6 B5 B4 kk4
        walk_at "run"
        rename_i t ht
        exact k _ (.add key mo) _ (dt3.mpr ⟨t, _, _, _, rfl, upd_same, rfl, rfl, rfl⟩) ⟨hkey, hl0, hl1⟩ (B7.new ht) (kk7.new' ht)
      · walk_at "run"
        refine ⟨_, _, rfl, b, l, _, rfl, rfl, B4, by decide, by decide, fun j1 H5 j10 j11 B5 k5 => ?_⟩
        walk_at "run"
        rename_i q hq
        have qb := B5.nb hq
        have ql := B5.nl hq
        refine ⟨_, _, rfl, b, l, _, rfl, rfl, B5.new hq, by decide, by decide, fun j3 H7 j30 j31 B7 k7 => ?_⟩
        obtain ⟨x, ex, hx⟩ := at_pick (xs := [lv (S.shown key), lv (S.shown key), lv (S.shown key), .non, .int j1]) j30 j31
        obtain ⟨wo, rfl, hwo⟩ : ∃ m : Option Int, x = lv m ∧ ∀ i, m = some i → 0 ≤ i ∧ i ≤ 999 := by
          simp only [List.mem_cons, List.not_mem_nil, or_false] at hx
          rcases hx with rfl | rfl | rfl | rfl | rfl
          · exact ⟨_, rfl, fun i e => shown_ok hS.ok e⟩
          · exact ⟨_, rfl, fun i e => shown_ok hS.ok e⟩
          · exact ⟨_, rfl, fun i e => shown_ok hS.ok e⟩
          · exact ⟨none, rfl, fun i e => by cases e⟩
          · exact ⟨some j1, rfl, fun i e => by cases e; omega⟩
        have g7 : H7 q = some (.lst [lv (S.shown key), lv (S.shown key), lv (S.shown key), .non, .int j1]) := k7.lst upd_same (out_bx qb ql)
        have kk7 : Kp (tabs K) (Bx b l) H H7 := ((kk4.trans k5 fun a z => .inl z).new' hq).trans k7 fun a z => .inl z
        clear k7 k5 B5 B4 kk4
        walk_at "run"
        rename_i t ht
        exact k _ (.iff key wo) _ (dt3.mpr ⟨t, _, _, _, rfl, upd_same, rfl, rfl, dt_oD.mpr rfl⟩) ⟨hkey, hwo⟩ (B7.new ht) (kk7.new' ht)
theorem pure_drawn_ (vs : List V) (H : Hp) (Q : VK) (E : XK) (h : S_drawn_ K vs H Q E) : t_drawn_ K E { nx := fun _ H' => Q .non H', rt := Q } (start N_drawn_ vs) H := by
  obtain ⟨_, _, rfl, b, l, s, S, F, rfl, rfl, B, hS, fb, fl, k⟩ := h
  unfold t_drawn_
  walk_at "run"
  refine lcR ?_
  walk_at "run"
  rename_i p hp
  have pb := B.nb hp
  have pl := B.nl hp
  refine ⟨_, _, rfl, b, l, _, rfl, rfl, B.new hp, by decide, by decide, fun i1 H1 i10 i11 B1 k1 => ?_⟩
  obtain ⟨m1, e1, hm1⟩ := at_pick (xs := [.int 1, .int 2, .int 4]) i10 i11
  obtain ⟨m, rfl, hm0, hm3⟩ : ∃ m : Int, m1 = .int m ∧ 0 < m ∧ m ≤ 4 := by
    simp only [List.mem_cons, List.not_mem_nil, or_false] at hm1
    rcases hm1 with rfl | rfl | rfl <;> exact ⟨_, rfl, by decide, by decide⟩
  have g1 : H1 p = some (.lst [.int 1, .int 2, .int 4]) := k1.lst upd_same (out_bx pb pl)
  walk_at "run"
  refine ⟨_, _, rfl, b, l, m, rfl, rfl, B1, hm0, by omega, fun n H2 n0 n1 B2 k2 => ?_⟩
  have kk2 : Kp (tabs K) (Bx b l) H H2 := ((Kp.new hp).trans k1 fun a z => .inl z).trans k2 fun a z => .inl z
  clear k1 k2 B1 g1
  walk_at "run"
  intro Dl hD
  have Db := B2.nb hD
  have Dd := B2.nl hD
  have nD : Nw H Dl := kk2.free hD
  refine coreR (j := 1 + n) (fun i acc H' => ∃ ds : List Deed, ds.length = i ∧ (∀ d ∈ ds, Deed.Ok d) ∧ DtA H' acc (ds.map Deed.d) ∧ BoxAt H' b l ∧ Kp (tabs K) (Bx b l) H H') ⟨[], rfl, fun _ z => (nomatch z), rfl, B2.new hD, kk2.new' hD⟩ (fun i acc H' hi hl z e => ?_) (fun acc H' hl z e => ?_)
  · obtain ⟨ds, hlen, hok, hA, B3, kp⟩ := z
    have hS3 := hS.keep kp (fun a ha z => z.elim (fun e => fb (e ▸ ha)) fun e => fl (e ▸ ha))
    unfold CStep
    walk_at "run"
    refine ⟨_, _, rfl, b, l, s, S, F, rfl, rfl, B3, hS3, fb, fl, fun v d H4 hv hd B4 k4 => ?_⟩
    have e4 : H4 Dl = some (.lst acc) := k4.lst e (out_bx Db Dd)
    have kc : Kp (tabs K) (fun a => a = Dl) H4 (upd H4 Dl (.lst (acc ++ [v]))) := Kp.setL e4 rfl
    have hdi : ∀ d ∈ ds.map Deed.d, Di 3 d := fun d hd => by obtain ⟨e, _, rfl⟩ := List.mem_map.mp hd; exact di_deed
    refine c_put e4 hl (by omega) ⟨ds ++ [d], by simp [hlen], fun d' h' => ?_, ?_, B4.upd Db Dd, (kp.trans k4 fun a z => .inl z).setL' e4 (.inr nD)⟩
    · rcases List.mem_append.mp h' with h' | h'
      · exact hok d' h'
      · rw [List.mem_singleton.mp h']; exact hd
    · rw [List.map_append]
      exact ((hA.keep k4 hdi).keep kc hdi).snoc (Dt.keep kc (n := 3) di_deed hv)
  · obtain ⟨ds, hlen, hok, hA, B3, kp⟩ := z
    walk_at "run"
    rename_i t ht
    have hdi : ∀ d ∈ ds.map Deed.d, Di 3 d := fun d hd => by obtain ⟨e, _, rfl⟩ := List.mem_map.mp hd; exact di_deed
    exact k _ ds _ ⟨t, acc, rfl, upd_same, hA.keep (Kp.new (T := tabs K) (S := No) ht) hdi⟩ hok (by omega) (by omega) (B3.new ht) (kp.new' ht)
end
end W

end
section
/-! ### plain law: deals by the program and by own tables -/
namespace W
open PySem PySem.Spec PyProof.Rows L2 Cm
/-- a row, if it is shown -/
def shr (m : Int) : Option (Int × Int) → Option (Int × Int)
  | some (w, e) => if e = 0 ∨ e > m then some (w, e) else none
  | none => none
def Agr (m : Int) (f g : Rows) : Prop := ∀ k, shr m (f k) = shr m (g k)
theorem Agr.refl {m : Int} {f : Rows} : Agr m f f := fun _ => rfl
theorem psh_shr {m : Int} {r : Option (Int × Int)} : psh m (r.map toP) = (shr m r).map (·.1) := by
  cases r with
  | none => rfl
  | some r =>
    obtain ⟨w, e⟩ := r
    show (if e = 0 ∨ e > m then some w else none) = Option.map _ (if e = 0 ∨ e > m then some (w, e) else none)
    split <;> rfl
theorem shr_shr {m m' : Int} (h : m ≤ m') {r : Option (Int × Int)} : shr m' (shr m r) = shr m' r := by
  cases r with
  | none => rfl
  | some r =>
    obtain ⟨w, e⟩ := r
    show shr m' (if e = 0 ∨ e > m then some (w, e) else none) = if e = 0 ∨ e > m' then some (w, e) else none
    by_cases h1 : e = 0 ∨ e > m
    · rw [if_pos h1]; rfl
    · rw [if_neg h1, if_neg (fun z => h1 (z.imp id fun z => by omega))]; rfl
theorem Agr.later {m m' : Int} {f g : Rows} (h : Agr m f g) (hm : m ≤ m') : Agr m' f g := fun k => by
  rw [← shr_shr hm, h k, shr_shr hm]
theorem Agr.psh {m : Int} {f g : Rows} (h : Agr m f g) (k : Int) : psh m ((f k).map toP) = psh m ((g k).map toP) := by
  rw [psh_shr, psh_shr, h k]
theorem Agr.trans {m : Int} {f g h : Rows} (a : Agr m f g) (b : Agr m g h) : Agr m f h := fun k => (a k).trans (b k)
theorem Agr.symm {m : Int} {f g : Rows} (a : Agr m f g) : Agr m g f := fun k => (a k).symm
/-- the rows with an overlay -/
def ofP : PRow → Option (Int × Int)
  | (some w, e) => some (w, e)
  | (none, _) => none
def appO (f : Rows) (ov : Ov) : Rows := fun k => match ov k with
  | some r => ofP r
  | none => f k
theorem psh_row {f : Rows} {ov : Ov} {m k : Int} : psh m (ov.row f k) = (shr m (appO f ov k)).map (·.1) := by
  unfold Ov.row appO
  cases ov k with
  | none => exact psh_shr
  | some r =>
    obtain ⟨w, e⟩ := r
    cases w with
    | none => rfl
    | some w =>
      show (if e = 0 ∨ e > m then some w else none) = Option.map _ (if e = 0 ∨ e > m then some (w, e) else none)
      split <;> rfl
theorem appO_up {f : Rows} {ov : Ov} {k : Int} {r : PRow} : appO f (upf ov k (some r)) = upf (appO f ov) k (ofP r) := by
  funext j
  unfold appO upf
  by_cases h : j = k
  · simp [h]
  · simp [h]
theorem agr_up {m : Int} {f g : Rows} {k : Int} {r r' : Option (Int × Int)} (h : Agr m f g) (e : shr m r = shr m r') : Agr m (upf f k r) (upf g k r') := fun j => by
  unfold upf
  by_cases hj : j = k
  · simp [hj, e]
  · simp [hj]; exact h j
theorem eff1_own {m : Int} {f g : Rows} {ov : Ov} {d : Deed} (hd : d.Ok) (h : Agr m (appO f ov) g) : (eff1 f m ov d = none ∧ own1 m g d = none) ∨ ∃ ov' g', eff1 f m ov d = some ov' ∧ own1 m g d = some g' ∧ Agr m (appO f ov') g' := by
  have hw : psh m (ov.row f d.key) = psh m ((g d.key).map toP) := by rw [psh_row, psh_shr, h]
  cases d with
  | put k w l =>
    refine .inr ⟨_, _, rfl, rfl, ?_⟩
    rw [appO_up]
    refine agr_up h ?_
    have h2 : (if l > 0 then m + l else 0) = (if l = 0 then 0 else m + l) := by
      have := hd.2.2.1
      by_cases h0 : l = 0
      · rw [if_pos h0, if_neg (by omega)]
      · rw [if_neg h0, if_pos (by omega)]
    rw [h2]; rfl
  | drop k =>
    refine .inr ⟨_, _, rfl, rfl, ?_⟩
    rw [appO_up]
    exact agr_up h rfl
  | iff k w =>
    have hw : psh m (ov.row f k) = psh m ((g k).map toP) := hw
    by_cases e : psh m ((g k).map toP) = w
    · refine .inr ⟨ov, g, ?_, ?_, h⟩
      · show (match (if psh m (ov.row f k) = w then some ((ov.row f k).getD (none, 0)) else none) with | none => none | some r => _) = _
        rw [hw, if_pos e]; rfl
      · show (if psh m ((g k).map toP) = w then some g else none) = _
        rw [if_pos e]
    · refine .inl ⟨?_, ?_⟩
      · show (match (if psh m (ov.row f k) = w then some ((ov.row f k).getD (none, 0)) else none) with | none => none | some r => _) = _
        rw [hw, if_neg e]
      · show (if psh m ((g k).map toP) = w then some g else none) = _
        rw [if_neg e]
  | add k x =>
    have hw : psh m (ov.row f k) = psh m ((g k).map toP) := hw
    have e1 : eff1 f m ov (.add k x) = match (match psh m (ov.row f k) with | none => none | some w => if 0 ≤ w + x ∧ w + x ≤ 999 then some (some (w + x), ((ov.row f k).getD (none, 0)).2) else none) with | none => none | some r => some (upf ov k (some r)) := rfl
    have e2 : own1 m g (.add k x) = match psh m ((g k).map toP) with | none => none | some w => if 0 ≤ w + x ∧ w + x ≤ 999 then some (upf g k (some (w + x, ((g k).getD (0, 0)).2))) else none := rfl
    cases hp : psh m ((g k).map toP) with
    | none =>
      rw [hw] at e1
      rw [hp] at e1 e2
      exact .inl ⟨e1, e2⟩
    | some w =>
      rw [hw] at e1
      rw [hp] at e1 e2
      by_cases hr : 0 ≤ w + x ∧ w + x ≤ 999
      · refine .inr ⟨upf ov k (some (some (w + x), ((ov.row f k).getD (none, 0)).2)), upf g k (some (w + x, ((g k).getD (0, 0)).2)), ?_, ?_, ?_⟩
        · rw [e1]; dsimp only; rw [if_pos hr]
        · rw [e2]; dsimp only; rw [if_pos hr]
        · rw [appO_up]
          refine agr_up h ?_
          have hk := h k
          rw [psh_shr] at hp
          cases hg : shr m (g k) with
          | none => rw [hg] at hp; cases hp
          | some q =>
            rw [hg] at hp hk
            have e3 : ∀ {r : Option (Int × Int)}, shr m r = some q → r = some q := fun {r} hr => by
              cases r with
              | none => cases hr
              | some r =>
                obtain ⟨a, b⟩ := r
                have hr : (if b = 0 ∨ b > m then some (a, b) else none) = some q := hr
                split at hr
                · exact hr
                · cases hr
            have e4 := e3 hg
            have e5 := e3 hk
            have e6 : ((ov.row f k).getD (none, 0)).2 = q.2 := by
              unfold appO at e5
              unfold Ov.row
              cases ho : ov k with
              | none => rw [ho] at e5; dsimp only at e5 ⊢; rw [e5]; rfl
              | some r =>
                rw [ho] at e5
                obtain ⟨a, b⟩ := r
                cases a with
                | none => cases e5
                | some a =>
                  have e5 : some (a, b) = some q := e5
                  cases e5; rfl
            rw [e6, e4]; rfl
      · refine .inl ⟨?_, ?_⟩
        · rw [e1]; dsimp only; rw [if_neg hr]
        · rw [e2]; dsimp only; rw [if_neg hr]
theorem effL_own {m : Int} {f : Rows} : ∀ {ds : List Deed} {g : Rows} {ov : Ov}, (∀ d ∈ ds, d.Ok) → Agr m (appO f ov) g → (effL f m ov ds = none ∧ ownL m g ds = none) ∨ ∃ ov' g', effL f m ov ds = some ov' ∧ ownL m g ds = some g' ∧ Agr m (appO f ov') g'
  | [], g, ov, _, h => .inr ⟨ov, g, rfl, rfl, h⟩
  | d :: ds, g, ov, hd, h => by
    have e1 : effL f m ov (d :: ds) = match eff1 f m ov d with | none => none | some ov => effL f m ov ds := rfl
    have e2 : ownL m g (d :: ds) = match own1 m g d with | none => none | some g => ownL m g ds := rfl
    rcases eff1_own (hd d List.mem_cons_self) h with ⟨h1, h2⟩ | ⟨ov', g', h1, h2, h3⟩
    · rw [h1] at e1; rw [h2] at e2
      exact .inl ⟨e1, e2⟩
    · rw [h1] at e1; rw [h2] at e2
      rw [e1, e2]
      exact effL_own (fun d' h' => hd d' (List.mem_cons_of_mem _ h')) h3
/-! the overlay keeps to keys and worths -/
def ovOk (ov : Ov) : Prop := ∀ k r, ov k = some r → (0 ≤ k ∧ k < 32) ∧ prOk r
theorem psh_prOk {m w : Int} {r : Option PRow} (h : psh m r = some w) : ∃ e, r = some (some w, e) := by
  cases r with
  | none => cases h
  | some r =>
    obtain ⟨a, e⟩ := r
    cases a with
    | none => cases h
    | some a =>
      rw [psh_some] at h
      split at h
      · cases h; exact ⟨e, rfl⟩
      · cases h
theorem eff1_ok {m : Int} {f : Rows} {ov ov' : Ov} {d : Deed} (hd : d.Ok) (h : ovOk ov) (e : eff1 f m ov d = some ov') : ovOk ov' := by
  have up : ∀ r, prOk r → ovOk (upf ov d.key (some r)) := fun r hr j q e => by
    unfold upf at e
    split at e
    · rename_i hj
      subst hj
      cases e
      exact ⟨hd.key, hr⟩
    · exact h j q e
  cases d with
  | put k w l =>
    have e : some (upf ov k (some (some w, if l > 0 then m + l else 0))) = some ov' := e
    cases e
    exact up _ fun w' e => by cases e; exact hd.2.1
  | drop k =>
    have e : some (upf ov k (some (none, 0))) = some ov' := e
    cases e
    exact up _ fun w' e => by cases e
  | iff k w =>
    have e : (match (if psh m (ov.row f k) = w then some ((ov.row f k).getD (none, 0)) else none) with | none => none | some r => some ov) = some ov' := e
    split at e
    · cases e
    · cases e; exact h
  | add k x =>
    have e : (match (match psh m (ov.row f k) with | none => none | some w => if 0 ≤ w + x ∧ w + x ≤ 999 then some (some (w + x), ((ov.row f k).getD (none, 0)).2) else none) with | none => none | some r => some (upf ov k (some r))) = some ov' := e
    cases hp : psh m (ov.row f k) with
    | none => rw [hp] at e; cases e
    | some w =>
      rw [hp] at e
      dsimp only at e
      by_cases hr : 0 ≤ w + x ∧ w + x ≤ 999
      · rw [if_pos hr] at e
        cases e
        exact up _ fun w' e => by cases e; exact hr
      · rw [if_neg hr] at e; cases e
theorem effL_ok {m : Int} {f : Rows} : ∀ {ds : List Deed} {ov ov' : Ov}, (∀ d ∈ ds, d.Ok) → ovOk ov → effL f m ov ds = some ov' → ovOk ov'
  | [], ov, ov', _, h, e => by cases e; exact h
  | d :: ds, ov, ov', hd, h, e => by
    have e : (match eff1 f m ov d with | none => none | some ov => effL f m ov ds) = some ov' := e
    cases e1 : eff1 f m ov d with
    | none => rw [e1] at e; cases e
    | some o =>
      rw [e1] at e
      exact effL_ok (fun d' h' => hd d' (List.mem_cons_of_mem _ h')) (eff1_ok (hd d List.mem_cons_self) h e1) e
theorem mem_effs {ov : Ov} {q : Eff} (h : q ∈ effs ov) : ov q.1 = some q.2 ∧ 0 ≤ q.1 ∧ q.1 < 32 := by
  obtain ⟨k, h1, h2⟩ := List.mem_filterMap.mp h
  cases e : ov k with
  | none => rw [e] at h2; cases h2
  | some r =>
    rw [e] at h2
    cases h2
    exact ⟨e, mem_rng.mp h1⟩
theorem effs_len {ov : Ov} : (effs ov).length ≤ 32 := Nat.le_trans (List.length_filterMap_le _ _) (by decide)
theorem effR_ok {f : Rows} {m : Int} {ds : List Deed} (hd : ∀ d ∈ ds, d.Ok) : (effR f m ds).2.length ≤ 32 ∧ ∀ q ∈ (effR f m ds).2, (0 ≤ q.1 ∧ q.1 < 32) ∧ prOk q.2 := by
  unfold effR
  cases e : effL f m (fun _ => none) ds with
  | none => exact ⟨Nat.zero_le _, fun q hq => absurd hq (by simp)⟩
  | some ov =>
    refine ⟨effs_len, fun q hq => ?_⟩
    obtain ⟨h1, h2⟩ := mem_effs hq
    exact effL_ok hd (by intro _ _ z; cases z) e q.1 q.2 h1
/-! what is put into the pages -/
def appE (f : Rows) (es : List Eff) : Rows := es.foldl put1 f
theorem appE_congr : ∀ {es : List Eff} {f g : Rows} {k : Int}, f k = g k → appE f es k = appE g es k
  | [], _, _, _, h => h
  | q :: es, f, g, k, h => by
    show appE (put1 f q) es k = appE (put1 g q) es k
    refine appE_congr ?_
    unfold put1 upf
    split
    · rfl
    · exact h
theorem chgR_eq {p : Int} : ∀ {es : List Eff} {f : Rows} {k : Int}, chgR p f es k = if k / 4 = p then appE f es k else f k
  | [], f, k => by
    show f k = if _ then f k else f k
    split <;> rfl
  | q :: es, f, k => by
    show chgR p (if q.1 / 4 = p then put1 f q else f) es k = if k / 4 = p then appE (put1 f q) es k else f k
    rw [chgR_eq (es := es)]
    by_cases hk : k / 4 = p
    · rw [if_pos hk, if_pos hk]
      refine appE_congr ?_
      by_cases hq : q.1 / 4 = p
      · rw [if_pos hq]
      · rw [if_neg hq]
        unfold put1 upf
        rw [if_neg (fun z => hq (by rw [← z]; exact hk))]
    · rw [if_neg hk, if_neg hk]
      by_cases hq : q.1 / 4 = p
      · rw [if_pos hq]
        unfold put1 upf
        rw [if_neg (fun z => hk (by rw [z]; exact hq))]
      · rw [if_neg hq]
theorem pages_fold {es : List Eff} : ∀ {ps : List Int} {f : Rows} {k : Int}, ps.Nodup → (ps.foldl (fun f p => chgR p f es) f) k = if k / 4 ∈ ps then appE f es k else f k
  | [], f, k, _ => by simp
  | p :: ps, f, k, hn => by
    rw [List.nodup_cons] at hn
    show (ps.foldl (fun f p => chgR p f es) (chgR p f es)) k = _
    rw [pages_fold hn.2]
    by_cases hk : k / 4 = p
    · have h1 : ¬ k / 4 ∈ ps := by rw [hk]; exact hn.1
      rw [if_neg h1, chgR_eq, if_pos hk, if_pos (by rw [hk]; exact List.mem_cons_self)]
    · by_cases hm : k / 4 ∈ ps
      · rw [if_pos hm, if_pos (List.mem_cons_of_mem _ hm)]
        refine appE_congr ?_
        rw [chgR_eq, if_neg hk]
      · rw [if_neg hm, if_neg (fun z => (List.mem_cons.mp z).elim hk hm), chgR_eq, if_neg hk]
theorem appE_out : ∀ {es : List Eff} {f : Rows} {k : Int}, (∀ q ∈ es, q.1 ≠ k) → appE f es k = f k
  | [], _, _, _ => rfl
  | q :: es, f, k, h => by
    show appE (put1 f q) es k = f k
    rw [appE_out fun q' h' => h q' (List.mem_cons_of_mem _ h')]
    unfold put1 upf
    rw [if_neg (fun z => h q List.mem_cons_self z.symm)]
def TB.chgs (T : TB) (e : Ent) : TB := (pagesOf e).foldl (fun T p => T.chg e p) T
theorem chgs_tick {T : TB} {n m : Int} : T.chgs (.tick n m) = { T with moment := m } := rfl
theorem chgs_rows {n h l : Int} {dn : Bool} {es : List Eff} : ∀ {ps : List Int} {T : TB}, (∀ p ∈ ps, p ≠ 8) → ps.foldl (fun T p => T.chg (.deal n h l dn es) p) T = { T with rows := ps.foldl (fun f p => chgR p f es) T.rows }
  | [], T, _ => rfl
  | p :: ps, T, hp => by
    show ps.foldl _ (T.chg (.deal n h l dn es) p) = _
    rw [chgs_rows fun p' h' => hp p' (List.mem_cons_of_mem _ h')]
    unfold TB.chg
    rw [if_neg (hp p List.mem_cons_self)]
    rfl
theorem chgs_deal {T : TB} {n h l : Int} {dn : Bool} {es : List Eff} (hk : ∀ q ∈ es, 0 ≤ q.1 ∧ q.1 < 32) : T.chgs (.deal n h l dn es) = { T with rows := appE T.rows es, hands := upf T.hands h (some (l, n, dn)) } := by
  unfold TB.chgs pagesOf
  rw [List.foldl_append, chgs_rows (ps := (rng 8).filter fun p => es.any fun q => decide (q.1 / 4 = p)) (fun p hp => by have := mem_rng.mp (List.mem_filter.mp hp).1; omega)]
  have e : (((rng 8).filter fun p => es.any fun q => decide (q.1 / 4 = p)).foldl (fun f p => chgR p f es) T.rows) = appE T.rows es := by
    funext k
    rw [pages_fold ((List.Pairwise.imp (fun h => by omega) (rng_up 8) : (rng 8).Nodup).filter _)]
    split
    · rfl
    · rename_i h
      refine (appE_out fun q hq hk' => h ?_).symm
      subst hk'
      have := hk q hq
      exact List.mem_filter.mpr ⟨mem_rng.mpr (by omega), List.any_eq_true.mpr ⟨q, hq, decide_eq_true rfl⟩⟩
  rw [e]
  rfl
theorem appE_effs {f : Rows} {ov : Ov} (ho : ovOk ov) : appE f (effs ov) = appO f ov := by
  have key : ∀ (ks : List Int) (f : Rows) (k : Int), ks.Nodup → appE f (ks.filterMap fun k => (ov k).map fun r => (k, r)) k = if k ∈ ks then appO f ov k else f k := by
    intro ks
    induction ks with
    | nil => intro f k _; rfl
    | cons j ks ih =>
      intro f k hn
      rw [List.nodup_cons] at hn
      cases hj : ov j with
      | none =>
        rw [List.filterMap_cons_none (by rw [hj]; rfl), ih f k hn.2]
        by_cases hk : k = j
        · subst hk
          rw [if_neg hn.1, if_pos List.mem_cons_self]
          unfold appO; rw [hj]
        · by_cases hm : k ∈ ks
          · rw [if_pos hm, if_pos (List.mem_cons_of_mem _ hm)]
          · rw [if_neg hm, if_neg (fun z => (List.mem_cons.mp z).elim hk hm)]
      | some r =>
        rw [List.filterMap_cons_some (by rw [hj]; rfl)]
        show appE (put1 f (j, r)) _ k = _
        rw [ih _ k hn.2]
        by_cases hk : k = j
        · subst hk
          rw [if_neg hn.1, if_pos List.mem_cons_self]
          unfold appO put1 upf
          rw [hj]
          obtain ⟨w, e⟩ := r
          cases w <;> simp [ofP]
        · by_cases hm : k ∈ ks
          · rw [if_pos hm, if_pos (List.mem_cons_of_mem _ hm)]
            unfold appO put1 upf
            rw [if_neg hk]
          · rw [if_neg hm, if_neg (fun z => (List.mem_cons.mp z).elim hk hm)]
            unfold put1 upf
            rw [if_neg hk]
  funext k
  unfold effs
  rw [key (rng 32) f k (List.Pairwise.imp (fun h => by omega) (rng_up 32))]
  split
  · rfl
  · rename_i h
    unfold appO
    cases e : ov k with
    | none => rfl
    | some r => exact absurd (mem_rng.mpr (ho k r e).1) h
/-- a deal by the program, and by own tables -/
theorem deal_agr {m : Int} {f g : Rows} {ds : List Deed} (hd : ∀ d ∈ ds, d.Ok) (h : Agr m f g) : (effR f m ds = (false, []) ∧ ownL m g ds = none) ∨ ∃ g', (effR f m ds).1 = true ∧ ownL m g ds = some g' ∧ Agr m (appE f (effR f m ds).2) g' := by
  have h0 : Agr m (appO f fun _ => none) g := h
  rcases effL_own hd h0 with ⟨h1, h2⟩ | ⟨ov, g', h1, h2, h3⟩
  · refine .inl ⟨?_, h2⟩
    unfold effR; rw [h1]
  · refine .inr ⟨g', ?_, h2, ?_⟩
    · unfold effR; rw [h1]
    · have e : effR f m ds = (true, effs ov) := by unfold effR; rw [h1]
      rw [e, appE_effs (effL_ok hd (by intro _ _ z; cases z) h1)]
      exact h3
end W

end
section
/-! ### isinstance of an error that is held, with or without a dict -/
namespace Cm
open PySem PySem.Spec PyProof.Rows L2 L2H
def XdOk (d : Option Addr) (H : Hp) : Prop := ∀ dd, d = some dd → ∃ fs, H dd = some (.xd fs)
theorem XdOk.kp {T : List (Addr × Str)} {S : Addr → Prop} {d : Option Addr} {H H' : Hp} (h : XdOk d H) (k : Kp T S H H') : XdOk d H' := fun dd e => by
  obtain ⟨fs, q⟩ := h dd e
  exact ⟨fs, k.imm dd _ q rfl⟩
def rIsX (K : PySem.W.Frag) (D a : Addr) (d : Option Addr) : List V → Hp → VK → Prop := fun xs H Q => XdOk d H ∧ rIsE K D a xs H Q
theorem is_pinX {X : Cx} {a D : Addr} {d : Option Addr} {oe : Obj} (C : ExcC X.K D) (hz : Zc (.ref D) d oe) (hf : ∃ vs, oe.data = .fields vs) (hp : (a, oe) ∈ X.pn) : CallR X (.builtin "isinstance") (rIsX X.K D a d) := by
  intro pins s σ H xs us Q I r h
  obtain ⟨hx, c, cv, b, rfl, hcv, e, q⟩ := h
  rcases r with _ | ⟨rx, _ | ⟨rt, _ | _⟩⟩
  cases rx
  obtain rfl := hcv _ rt
  have hget := (I.pin (a, oe) (List.mem_append.mpr (.inl hp))).1
  obtain ⟨vs, hv⟩ := hf
  have hcl : (PySem.W.clsIn X.K D).isSome = true := by
    have := C.hd
    unfold PySem.W.hasDictIn at this
    cases hq : PySem.W.clsIn X.K D with
    | none => rw [hq] at this; cases this
    | some _ => rfl
  obtain ⟨od, J⟩ : ∃ od, PySem.W.InstAt s.heap a oe D od := by
    cases d with
    | none =>
      refine ⟨none, hget, hz.1, by unfold PySem.W.notCls; rw [hv] <;> rfl, ?_⟩
      rw [hz.2]; trivial
    | some dd =>
      obtain ⟨fs, hdd⟩ := hx dd rfl
      obtain ⟨mA, hns, _⟩ : ∃ mA, s.heap.Ns1 dd mA ∧ True := by
        have z : ObjOk X.prog X.w H s.heap dd (.xd fs) := I.hok dd _ hdd
        obtain ⟨mA, h1, _⟩ := z
        exact ⟨mA, h1, trivial⟩
      obtain ⟨o, ho, _⟩ := lookIn_ns hns
      refine ⟨some o, hget, hz.1, by unfold PySem.W.notCls; rw [hv] <;> rfl, ?_⟩
      rw [hz.2]; exact ho
  refine PySem.W.kia_one (PySem.W.kitx_exc hcl C.hg C.hk C.hs C.ha C.hn C.ht C.hm) I.kIn J e (fun z => nomatch z) ?_
  intro tk
  exact ⟨.bl b, H, I.kept (t' := tk) fun _ _ z => z, rfl, q⟩
end Cm

end
section
namespace W
open PySem PySem.Spec PyProof.Rows L2 L2H Cm
/-! _law_class -/
def t_class_ (K : PySem.W.Frag) (D a : Addr) (d : Option Addr) : TS := (tSeq (tAsg (tLst (tCons (tCB (rIsX K D a d) (tCons (tVar 0) (tCons (tC (.ref (He.ga K "BadDeal"))) tNil))) (tCons (tCB (rIsX K D a d) (tCons (tVar 0) (tCons (tC (.ref (He.ga K "BadHand"))) tNil))) (tCons (tCB (rIsX K D a d) (tCons (tVar 0) (tCons (tC (.ref (He.ga K "BadLetter"))) tNil))) (tCons (tCB (rIsX K D a d) (tCons (tVar 0) (tCons (tC (.ref (He.ga K "BadTime"))) tNil))) tNil))))) (gName 1)) (tSeq (tAsg (tOp (rAddA K) (tVar 1) (tLst (tCons (tCB (rIsX K D a d) (tCons (tVar 0) (tCons (tC (.ref (He.ga K "BadKey"))) tNil))) (tCons (tCB (rIsX K D a d) (tCons (tVar 0) (tCons (tC (.ref (He.ga K "BadHouse"))) tNil))) (tCons (tCB (rIsX K D a d) (tCons (tVar 0) (tCons (tC (.ref (He.ga K "NoCopy"))) tNil))) (tCons (tCB (rIsX K D a d) (tCons (tVar 0) (tCons (tC (.ref (He.ga K "Behind"))) tNil))) tNil)))))) (gName 1)) (tSeq (tAsg (tOp (rAddA K) (tVar 1) (tLst (tCons (tCB (rIsX K D a d) (tCons (tVar 0) (tCons (tC (.ref (He.ga K "BadBlock"))) tNil))) (tCons (tCB (rIsX K D a d) (tCons (tVar 0) (tCons (tC (.ref (He.ga K "BadEntry"))) tNil))) (tCons (tCB (rIsX K D a d) (tCons (tVar 0) (tCons (tC (.ref (He.ga K "BadText"))) tNil))) (tCons (tCB (rIsX K D a d) (tCons (tVar 0) (tCons (tC (.ref (He.ga K "Stopped"))) tNil))) tNil)))))) (gName 1)) (tSeq (tAsg (tLst (tCons (tC (.str "BadDeal")) (tCons (tC (.str "BadHand")) (tCons (tC (.str "BadLetter")) (tCons (tC (.str "BadTime")) (tCons (tC (.str "BadKey")) (tCons (tC (.str "BadHouse")) (tCons (tC (.str "NoCopy")) (tCons (tC (.str "Behind")) (tCons (tC (.str "BadBlock")) tNil)))))))))) (gName 2)) (tSeq (tAsg (tOp (rAddA K) (tVar 2) (tLst (tCons (tC (.str "BadEntry")) (tCons (tC (.str "BadText")) (tCons (tC (.str "Stopped")) tNil))))) (gName 2)) (tRet (tIf (tAnd (tTest (tOp (rEqA K) (tBM K "list" (rCntB K) (tVar 1) (tCons (tC (.bl true)) tNil)) (tC (.int 1)))) (tTr K (tCB (rIsX K D a d) (tCons (tVar 0) (tCons (tC (.ty "ValueError")) tNil))))) (tOp (rIxA K) (tVar 2) (tBM K "list" (rIndex K) (tVar 1) (tCons (tC (.bl true)) tNil))) (tC (.str "")))))))))
section
variable {w : World} {K : PySem.W.Frag} {mg : Str → Option Value}
theorem Tx.f_class_ (T : Tx w K mg) : ∃ fd, FunD K "_law_class" "_law_class" (defArgs s_class_) (defBody s_class_) (defScope s_class_) [] [] (He.fAd K ("_law_class", none)) fd := T.dfn 30 (d := d_class_) rfl
theorem Tx.f_refused_ (T : Tx w K mg) : ∃ fd, FunD K "_law_refused" "_law_refused" (defArgs s_refused_) (defBody s_refused_) (defScope s_refused_) [] [] (He.fAd K ("_law_refused", none)) fd := T.dfn 31 (d := d_refused_) rfl
end
section
variable {P : Program} {w : World} {K : PySem.W.Frag} {mg : Str → Option Value} {base : Heap}
theorem der_class_ {w' : World} (T : Tx w K mg) {k : Nat} {D a : Addr} {d : Option Addr} {oe : Obj} {cdv : Value} {A : Around} {outer : List Env} {s : Shared} {H : Hp} (C : ExcC K D) (hz : Zc (.ref D) d oe) (hf : ∃ vs, oe.data = .fields vs)
    (hr : RoomH k (A.deeper (envOfC "_law_class" (defScope s_class_) s.heap.objs.size (He.fAd K ("_law_class", none)) cdv))) :
    PSs (cxH CX0 P w' K mg base N_class_ "_law_class" (defScope s_class_) (He.fAd K ("_law_class", none)) cdv A outer s H E0 (a, oe)) (defBody s_class_) (t_class_ K D a d) := by
  have IP : CallR (cxH CX0 P w' K mg base N_class_ "_law_class" (defScope s_class_) (He.fAd K ("_law_class", none)) cdv A outer s H E0 (a, oe)) (.builtin "isinstance") (rIsX K D a d) := is_pinX C hz hf (List.mem_singleton.mpr rfl)
  have hu64 := Nat.lt_of_le_of_lt (Nat.add_le_add_left (show 64 ≤ 16 * k + 200 by omega) _) (by have := hr.un; rw [Nat.add_assoc] at this; exact this)
  have hu1 := Nat.lt_of_le_of_lt (Nat.add_le_add_left (show 1 ≤ 16 * k + 200 by omega) _) (by have := hr.un; rw [Nat.add_assoc] at this; exact this)
  exact (pss_cons (ps_set (i := 1) sc_class_.nd rfl (by first | exact Or.inl rfl | exact Or.inr rfl) (pe_lst (pa_cons (pe_callB IP (by rfl) T.n_isinstance bt_isinstance (pa_cons (pv 0) (pa_cons (pe_glob (by rfl) T.g_BadDeal rfl) pa_nil))) (pa_cons (pe_callB IP (by rfl) T.n_isinstance bt_isinstance (pa_cons (pv 0) (pa_cons (pe_glob (by rfl) T.g_BadHand rfl) pa_nil))) (pa_cons (pe_callB IP (by rfl) T.n_isinstance bt_isinstance (pa_cons (pv 0) (pa_cons (pe_glob (by rfl) T.g_BadLetter rfl) pa_nil))) (pa_cons (pe_callB IP (by rfl) T.n_isinstance bt_isinstance (pa_cons (pv 0) (pa_cons (pe_glob (by rfl) T.g_BadTime rfl) pa_nil))) pa_nil))))))
      (pss_cons (ps_set (i := 1) sc_class_.nd rfl (by first | exact Or.inl rfl | exact Or.inr rfl) (pe_op op_addA (pv 1) (pe_lst (pa_cons (pe_callB IP (by rfl) T.n_isinstance bt_isinstance (pa_cons (pv 0) (pa_cons (pe_glob (by rfl) T.g_BadKey rfl) pa_nil))) (pa_cons (pe_callB IP (by rfl) T.n_isinstance bt_isinstance (pa_cons (pv 0) (pa_cons (pe_glob (by rfl) T.g_BadHouse rfl) pa_nil))) (pa_cons (pe_callB IP (by rfl) T.n_isinstance bt_isinstance (pa_cons (pv 0) (pa_cons (pe_glob (by rfl) T.g_NoCopy rfl) pa_nil))) (pa_cons (pe_callB IP (by rfl) T.n_isinstance bt_isinstance (pa_cons (pv 0) (pa_cons (pe_glob (by rfl) T.g_Behind rfl) pa_nil))) pa_nil)))))))
      (pss_cons (ps_set (i := 1) sc_class_.nd rfl (by first | exact Or.inl rfl | exact Or.inr rfl) (pe_op op_addA (pv 1) (pe_lst (pa_cons (pe_callB IP (by rfl) T.n_isinstance bt_isinstance (pa_cons (pv 0) (pa_cons (pe_glob (by rfl) T.g_BadBlock rfl) pa_nil))) (pa_cons (pe_callB IP (by rfl) T.n_isinstance bt_isinstance (pa_cons (pv 0) (pa_cons (pe_glob (by rfl) T.g_BadEntry rfl) pa_nil))) (pa_cons (pe_callB IP (by rfl) T.n_isinstance bt_isinstance (pa_cons (pv 0) (pa_cons (pe_glob (by rfl) T.g_BadText rfl) pa_nil))) (pa_cons (pe_callB IP (by rfl) T.n_isinstance bt_isinstance (pa_cons (pv 0) (pa_cons (pe_glob (by rfl) T.g_Stopped rfl) pa_nil))) pa_nil)))))))
      (pss_cons (ps_set (i := 2) sc_class_.nd rfl (by first | exact Or.inl rfl | exact Or.inr rfl) (pe_lst (pa_cons pe_str (pa_cons pe_str (pa_cons pe_str (pa_cons pe_str (pa_cons pe_str (pa_cons pe_str (pa_cons pe_str (pa_cons pe_str (pa_cons pe_str pa_nil)))))))))))
      (pss_cons (ps_set (i := 2) sc_class_.nd rfl (by first | exact Or.inl rfl | exact Or.inr rfl) (pe_op op_addA (pv 2) (pe_lst (pa_cons pe_str (pa_cons pe_str (pa_cons pe_str pa_nil))))))
      (pss_one (ps_ret (pe_ifExp (PW.pt (pw_and (pt_cmpR (op_eqA hu64) (pe_bm PySem.F.plainAttrs_list PySem.F.slot_list_count PySem.F.type_list_count mt_cntB (pv 1) (pa_cons pe_bl pa_nil)) pe_int (nomark _)) (pw_and1 (pt_truth (pe_callB IP (by rfl) T.n_isinstance bt_isinstance (pa_cons (pv 0) (pa_cons (pe_bltn (v := .ty "ValueError") (by rfl) T.n_ValueError bt_ValueError rfl) pa_nil))) (by intro _; rfl))))) (pe_ix (ix_any hu1) (pv 2) (pe_bm PySem.F.plainAttrs_list PySem.F.slot_list_index PySem.F.type_list_index mt_index (pv 1) (pa_cons pe_bl pa_nil)) (fun _ _ => rfl)) pe_str))))))))
end
end W
namespace W
open PySem PySem.Spec PyProof.Rows L2 L2H Cm
def tClsX (K : PySem.W.Frag) (x : Str) (a : Addr) (d : Option Addr) : Sp := sp1 fun v H Q _ => v = .ref a ∧ XdOk d H ∧ ∀ H', Kp (tabs K) No H H' → Q (.str x) H'
def t_refS (K : PySem.W.Frag) (x : Str) (a : Addr) (d : Option Addr) : TS := (tSeq (tAsg (tCall (tClsX K x a d) [] E0 (tCons (tVar 1) tNil)) (gName 2)) (tSeq (tIfS (tTest (tOp (rEqA K) (tVar 2) (tC (.str "BadDeal")))) (tRet (tTup (tCons (tVar 2) (tCons (tXf a (.ref (He.ga K x)) d (He.ga K "BadDeal") "place" (tVar 1)) tNil)))) tNext) (tSeq (tIfS (tTest (tOp (rEqA K) (tVar 2) (tC (.str "Behind")))) (tRet (tTup (tCons (tVar 2) (tCons (tXf a (.ref (He.ga K x)) d (He.ga K "Behind") "number" (tVar 1)) tNil)))) tNext) (tRet (tTup (tCons (tVar 2) (tCons (tIf (tTest (tOp (rEqA K) (tVar 2) (tC (.str "BadText")))) (tXf a (.ref (He.ga K x)) d (He.ga K "BadText") "row" (tVar 1)) (tC (.int 0))) tNil)))))))
end W

end
section
/-! ### M0: words for walking through a reading (local) -/
local macro_rules | `(tactic| walk_at "st") => `(tactic| first
  | (with_reducible refine Cm.s_seq ?_) | (with_reducible refine Cm.s_asg ?_) | (with_reducible refine Cm.s_drop ?_) | (with_reducible refine Cm.s_ret ?_) | (with_reducible refine Cm.s_if ?_) | (with_reducible refine Cm.s_next ?_) | (with_reducible refine Cm.s_retN ?_) | (with_reducible refine Cm.s_rs ?_) | (with_reducible refine Cm.s_fld0 ?_)
  | ((with_reducible refine' Cm.e_var ?hv ?_); (case hv => exact rfl))
  | (with_reducible refine Cm.e_c ?_) | (with_reducible refine Cm.e_op ?_) | (with_reducible refine Cm.e_un ?_) | (with_reducible refine Cm.e_nil ?_) | (with_reducible refine Cm.e_cons ?_) | (with_reducible refine Cm.e_tup ?_) | (with_reducible refine Cm.e_lst ?_) | (with_reducible refine Cm.e_cb ?_) | (with_reducible refine Cm.e_call ?_) | (with_reducible refine Cm.e_if ?_)
  | (with_reducible refine Cm.e_andV ?_) | (with_reducible refine Cm.e_orV ?_) | (with_reducible refine Cm.e_notV ?_) | (with_reducible refine Cm.e_fld0 ?_) | (with_reducible refine Cm.e_meth0 ?_) | (with_reducible refine Cm.e_bm0 ?_) | (with_reducible refine Cm.e_bm ?_) | (with_reducible refine Cm.e_sl ?_) | (with_reducible refine Cm.o_none ?_) | (with_reducible refine Cm.o_some ?_) | (with_reducible refine Cm.e_dnew ?_)
  | (with_reducible refine Cm.e_test ?_) | (with_reducible refine Cm.e_tr ?_) | (with_reducible refine Cm.e_and ?_) | (with_reducible refine Cm.e_or ?_) | (with_reducible refine Cm.e_not ?_) | (with_reducible refine Cm.e_yes ?_) | (with_reducible refine Cm.e_chain ?_)
  | (with_reducible refine Cm.r_i0 ?_) | (with_reducible refine Cm.r_u ?_) | (with_reducible refine Cm.r_isNo ?_) | (with_reducible refine Cm.r_notNo ?_) | (with_reducible refine Cm.r_addI ?_) | (with_reducible refine Cm.r_int1b ?_) | (with_reducible refine Cm.r_max2 ?_)
  | ((with_reducible refine Cm.r_i ?hc ?_); (case hc => walk_at "num"))
  | ((with_reducible refine Cm.r_mulI ?hc ?_); (case hc => walk_at "num"))
  | ((with_reducible refine Cm.r_eqS ?hc ?_); (case hc => exact rfl))
  | ((with_reducible refine Cm.r_neS ?hc ?_); (case hc => exact rfl))
  | ((with_reducible refine' Cm.r_ixl ?h1 ?h2 ?_); (case h1 => walk_at "look"); (case h2 => walk_at "at"))
  | ((with_reducible refine' Cm.r_ixt ?h1 ?h2 ?_); (case h1 => walk_at "look"); (case h2 => walk_at "at"))
  | ((with_reducible refine' Cm.r_ixT ?h1 ?h2 ?_); (case h1 => walk_at "lookT"); (case h2 => walk_at "at"))
  | ((with_reducible refine' Cm.r_ixds ?h1 ?h2 ?_); (case h1 => walk_at "look"); (case h2 => walk_at "key"))
  | ((with_reducible refine' Cm.r_eqe ?h1 ?h2 ?_); (case h1 => walk_at "look"); (case h2 => walk_at "look"))
  | ((with_reducible refine' Cm.r_nee ?h1 ?h2 ?_); (case h1 => walk_at "look"); (case h2 => walk_at "look"))
  | ((with_reducible refine' Cm.r_lenl ?h1 ?_); (case h1 => walk_at "look"))
  | ((with_reducible refine' Cm.r_lent ?h1 ?_); (case h1 => walk_at "look"))
  | ((with_reducible refine' Cm.r_lenT ?h1 ?_); (case h1 => walk_at "lookT"))
  | ((with_reducible refine' Cm.r_listl ?h1 ?_); (case h1 => walk_at "look"); (intro _ _))
  | ((with_reducible refine' Cm.r_tupl ?h1 ?_); (case h1 => walk_at "look"); (intro _ _))
  | ((with_reducible refine' Cm.r_addL ?h1 ?h2 ?h3 ?_); (case h1 => walk_at "look"); (case h2 => walk_at "look"); (case h3 => walk_at "size"); (intro _ _))
  | ((with_reducible refine' Cm.m_append ?h1 ?h2 ?_); (case h1 => walk_at "look"); (case h2 => walk_at "size"))
  | ((with_reducible refine' Cm.m_clear ?h1 ?_); (case h1 => walk_at "look"))
  | ((with_reducible refine' Cm.g_setL ?h1 ?h2 ?_); (case h1 => walk_at "look"); (case h2 => walk_at "ix"))
  | ((with_reducible refine' Cm.g_setDs ?h1 ?h2 ?h3 ?_); (case h1 => walk_at "look"); (case h2 => walk_at "size"); (case h3 => walk_at "put"))
  | ((with_reducible refine' Cm.fld_at ?h1 ?h2 ?h3 ?h4 ?_); (case h1 => walk_at "look"); (case h2 => assumption); (case h3 => assumption); (case h4 => walk_at "key"))
  | ((with_reducible refine' Cm.fldset_at ?h1 ?h2 ?h3 ?h4 ?h5 ?_); (case h1 => walk_at "look"); (case h2 => assumption); (case h3 => assumption); (case h4 => walk_at "size"); (case h5 => walk_at "put"))
  | (with_reducible refine Cm.s_fldaug0 ?_)
  | ((with_reducible refine' Cm.aug_at ?h1 ?h2 ?h3 ?h4 ?_); (case h1 => walk_at "look"); (case h2 => assumption); (case h3 => assumption); (case h4 => walk_at "key"))
  | ((with_reducible refine' Cm.augset_at ?h1 ?h4 ?h5 ?_); (case h1 => walk_at "look"); (case h4 => walk_at "size"); (case h5 => walk_at "put"))
  | (with_reducible refine Cm.in_sub_at ?_) | (with_reducible refine Cm.in_add_at ?_)
  | ((with_reducible refine' Cm.meth_at ?h1 ?h2 ?_); (case h1 => walk_at "look"); (case h2 => walk_at "key"))
  | ((with_reducible refine Cm.new_at ?h1 ?_); (case h1 => walk_at "size"); (intro _ _))
  | ((with_reducible refine Cm.and_at (A := L2.tyV _ "list" _ _) ?h1 ?_); (case h1 => exact Cm.ty_lst (by walk_at "look")))
  | ((with_reducible refine' Cm.g_tupt ?h1 ?h2 ?_); (case h1 => walk_at "look"); (case h2 => exact rfl))
  | ((with_reducible refine' Cm.g_tup ?h1 ?h2 ?_); (case h1 => walk_at "lookT"); (case h2 => exact rfl))
  | (with_reducible refine Cm.g_name ?_) | (with_reducible refine Cm.g_sub ?_) | (with_reducible refine Cm.g_cons ?_) | (with_reducible refine Cm.g_nil ?_)
  | (with_reducible refine Cm.int_at ?_) | (with_reducible refine Cm.bl_at ?_) | (with_reducible refine Cm.tr_bl ?_) | (with_reducible refine Cm.tr_non ?_)
  | ((with_reducible refine' Cm.m_pop0 ?h1 ?_); (case h1 => walk_at "look"))
  | ((with_reducible refine' Cm.r_slTo ?h1 ?h2 ?_); (case h1 => walk_at "look"); (case h2 => walk_at "num2"); (intro _ _))
  | ((with_reducible refine' Cm.r_slFrom ?h1 ?h2 ?_); (case h1 => walk_at "look"); (case h2 => walk_at "num2"); (intro _ _))
  | ((with_reducible refine' Cm.at_forL ?h1 ?_); (case h1 => walk_at "look"))
  | ((with_reducible refine' Cm.at_forT ?h1 ?_); (case h1 => walk_at "look"))
  | ((with_reducible refine' Cm.at_forR ?h1 ?h2 ?_); (case h1 => walk_at "num2"); (case h2 => walk_at "num2"))
  | ((with_reducible refine' Cm.at_forZ ?h1 ?h2 ?_); (case h1 => walk_at "look"); (case h2 => walk_at "look"))
  | (with_reducible refine Cm.s_forZ ?_) | (with_reducible refine Cm.s_forR ?_)
  | ((with_reducible refine Cm.and_at (A := _ = _) ?h1 ?_); (case h1 => exact rfl))
  | ((with_reducible show L2.rIsi _ _ _ _); walk_at "isi")
  | (with_reducible refine Cm.ite_nt ?_) | (with_reducible refine Cm.ite_nf ?_)
  | (with_reducible refine L2.iteT ?_) | (with_reducible refine L2.iteF ?_)
  | dsimp only
  | fail)
local macro_rules | `(tactic| walk_at "run") => `(tactic| repeat (walk_at "st"))
local macro_rules | `(tactic| walk_at "num") => `(tactic| first
  | exact Or.inr ⟨by decide, by decide⟩ | exact Or.inl ⟨by decide, by decide⟩
  | exact Cm.wdiv (by first | decide | omega) (by first | decide | omega)
  | (show (0 : Int) < _; first | decide | omega)
  | exact ⟨by decide, by decide, by decide⟩
  | fail)
local macro_rules | `(tactic| walk_at "put") => `(tactic| exact rfl)
local macro_rules | `(tactic| walk_at "fl") => `(tactic| first | exact Cm.fl0 | (refine' Cm.flS ?hz; (case hz => walk_at "fl")) | fail)
local macro_rules | `(tactic| walk_at "size") => `(tactic| first | exact Cm.sz_lit rfl | exact Cm.sz_lt rfl | exact Cm.fs_lt rfl | decide | (refine' Nat.lt_of_le_of_lt ?ha ?hb; (case ha => walk_at "fl"); (case hb => decide)) | (simp only [List.length_cons, List.length_nil, List.length_append, List.length_map, List.length_set, List.length_replicate, PySem.sizeLine_eq]; omega) | (simp only [List.length_cons, List.length_nil, List.length_append, List.length_map, List.length_set, List.length_replicate, PySem.sizeLine_eq] at *; omega) | fail)
local macro_rules | `(tactic| walk_at "at") => `(tactic| first | assumption | (with_reducible exact Cm.at0) | (with_reducible exact Cm.at1) | (with_reducible exact Cm.at2) | (with_reducible exact Cm.at3) | (with_reducible exact Cm.at4) | (with_reducible exact Cm.at5) | (with_reducible exact Cm.at6) | (with_reducible exact Cm.at7) | (with_reducible exact Cm.at8) | (with_reducible exact Cm.at0s) | (with_reducible exact Cm.at1s) | (with_reducible exact Cm.at01s) | (with_reducible exact Cm.at10s) | fail)
local macro_rules | `(tactic| walk_at "ix") => `(tactic| first | exact Cm.ix0 (by walk_at "size") | exact Cm.ix1 (by walk_at "size") | assumption | fail)
local macro_rules | `(tactic| walk_at "key") => `(tactic| first | assumption | fail)
local macro_rules | `(tactic| walk_at "ne") => `(tactic| first
  | assumption
  | (refine Ne.symm ?_; assumption)
  | (refine' L2.ne_of_none ?h1 ?h2; (case h2 => assumption); (case h1 => walk_at "look"))
  | (refine' Ne.symm (L2.ne_of_none ?h1 ?h2); (case h2 => assumption); (case h1 => walk_at "look"))
  | fail)
local macro_rules | `(tactic| walk_at "lookT") => `(tactic| first
  | assumption
  | exact L2.SqT.of (by walk_at "look")
  | fail)
local macro_rules | `(tactic| walk_at "look") => `(tactic| first
  | assumption
  | exact L2.upd_same
  | ((fail_if_success (with_reducible refine Eq.trans L2.upd_same ?_)); (refine' Eq.trans (L2.upd_ne ?h1) ?h2); (case h1 => walk_at "ne"); (case h2 => walk_at "look"))
  | (refine' Cm.kp_look ?h1 ?h2 ?h3 ?h4; (case h1 => assumption); (case h2 => walk_at "look"); (case h3 => intro _ z; cases z); (case h4 => first | exact Or.inl rfl | exact Or.inr (by walk_at "out")))
  | fail)
local macro_rules | `(tactic| walk_at "out") => `(tactic| first
  | assumption
  | exact fun z => z
  | exact fun z => z.elim (fun e => absurd e (by walk_at "ne")) (fun e => absurd e (by walk_at "ne"))
  | exact fun e => absurd e (by walk_at "ne")
  | fail)
local macro_rules | `(tactic| walk_at "dom") => `(tactic| first
  | exact Cm.dm_refl
  | (refine Cm.dm_upd ?_; walk_at "dom")
  | (refine' Cm.dm_kp ?h1 ?h2; (case h2 => assumption); (case h1 => walk_at "dom"))
  | fail)
local macro_rules | `(tactic| walk_at "free") => `(tactic| first
  | assumption
  | exact Cm.nw_of (by assumption)
  | (refine' Cm.dm_use ?h1 ?h2; (case h2 => assumption); (case h1 => walk_at "dom"))
  | (refine' Cm.dm_use2 ?h1 ?h2; (case h2 => assumption); (case h1 => walk_at "dom"))
  | fail)
local macro_rules | `(tactic| walk_at "in") => `(tactic| first
  | exact Or.inl rfl | exact Or.inl (Or.inl rfl) | exact Or.inl (Or.inr rfl) | exact Or.inl (Or.inr (Or.inl rfl)) | exact Or.inl (Or.inr (Or.inr rfl))
  | exact Or.inl (by assumption)
  | exact Or.inr (by walk_at "free")
  | fail)
local macro_rules | `(tactic| walk_at "kp") => `(tactic| first
  | assumption
  | exact Cm.Kp.refl
  | (refine' Cm.Kp.new' ?h1 ?h2; (case h2 => assumption); (case h1 => walk_at "kp"))
  | (refine' Cm.Kp.setX' ?h1 ?h2 ?h4 ?h5 ?h3; (case h2 => walk_at "look"); (case h4 => exact rfl); (case h5 => intro _ z; cases z); (case h3 => walk_at "in"); (case h1 => walk_at "kp"))
  | (refine' Cm.kp_step ?h1 ?h2 ?h3; (case h2 => assumption); (case h3 => walk_at "sub"); (case h1 => walk_at "kp"))
  | fail)
local macro_rules | `(tactic| walk_at "sub") => `(tactic| first
  | exact fun _ z => z.elim
  | exact fun _ z => Or.inl z
  | (intro a z; rcases z with rfl | rfl <;> walk_at "in")
  | (intro a z; subst z; walk_at "in")
  | fail)
local macro_rules | `(tactic| walk_at "num2") => `(tactic| first | decide | omega | fail)

local macro_rules | `(tactic| walk_at "isi") => `(tactic| first | (with_reducible refine Cm.isi_non_bool ?_) | (with_reducible refine Cm.isi_non_int ?_) | (with_reducible refine Cm.isi_non_str ?_) | (with_reducible refine Cm.isi_non_tuple ?_) | (with_reducible refine Cm.isi_non_list ?_) | (with_reducible refine Cm.isi_bl_bool ?_) | (with_reducible refine Cm.isi_bl_int ?_) | (with_reducible refine Cm.isi_bl_str ?_) | (with_reducible refine Cm.isi_bl_tuple ?_) | (with_reducible refine Cm.isi_bl_list ?_) | (with_reducible refine Cm.isi_int_bool ?_) | (with_reducible refine Cm.isi_int_int ?_) | (with_reducible refine Cm.isi_int_str ?_) | (with_reducible refine Cm.isi_int_tuple ?_) | (with_reducible refine Cm.isi_int_list ?_) | (with_reducible refine Cm.isi_str_bool ?_) | (with_reducible refine Cm.isi_str_int ?_) | (with_reducible refine Cm.isi_str_str ?_) | (with_reducible refine Cm.isi_str_tuple ?_) | (with_reducible refine Cm.isi_str_list ?_) | ((with_reducible refine' Cm.isi_tup_bool ?h1 ?_); (case h1 => walk_at "look")) | ((with_reducible refine' Cm.isi_tup_int ?h1 ?_); (case h1 => walk_at "look")) | ((with_reducible refine' Cm.isi_tup_str ?h1 ?_); (case h1 => walk_at "look")) | ((with_reducible refine' Cm.isi_tup_tuple ?h1 ?_); (case h1 => walk_at "look")) | ((with_reducible refine' Cm.isi_tup_list ?h1 ?_); (case h1 => walk_at "look")) | ((with_reducible refine' Cm.isi_lst_bool ?h1 ?_); (case h1 => walk_at "look")) | ((with_reducible refine' Cm.isi_lst_int ?h1 ?_); (case h1 => walk_at "look")) | ((with_reducible refine' Cm.isi_lst_str ?h1 ?_); (case h1 => walk_at "look")) | ((with_reducible refine' Cm.isi_lst_tuple ?h1 ?_); (case h1 => walk_at "look")) | ((with_reducible refine' Cm.isi_lst_list ?h1 ?_); (case h1 => walk_at "look")) | fail)

/-! ### M1: more words -/
local macro_rules | `(tactic| walk_at "st") => `(tactic| first
  | ((with_reducible refine Cm.and_at (A := L2.tyV _ "dict" _ _) ?h1 ?_); (case h1 => exact Cm.ty_dic (by walk_at "look")))
  | (with_reducible refine Cm.e_dget2 ?_) | (with_reducible refine Cm.e_dpop2 ?_) | (with_reducible refine Cm.e_dpop1 ?_) | (with_reducible refine Cm.s_rx ?_)
  | ((with_reducible refine' Cm.isd_at ?h1 ?_); (case h1 => walk_at "look"))
  | ((with_reducible refine' Cm.get_at ?h1 ?_); (case h1 => walk_at "look"))
  | ((with_reducible refine' Cm.pop1_at ?h1 ?h2 ?_); (case h1 => walk_at "look"); (case h2 => assumption))
  | ((with_reducible refine' Cm.r_dictD ?h1 ?_); (case h1 => walk_at "look"); (intro _ _))
  | ((with_reducible refine' Cm.r_lenD ?h1 ?_); (case h1 => walk_at "look"))
  | ((with_reducible refine' Cm.r_ixdi ?h1 ?h2 ?_); (case h1 => walk_at "look"); (case h2 => assumption))
  | ((with_reducible refine' Cm.g_setdi ?h1 ?h2 ?_); (case h1 => walk_at "look"); (case h2 => first | assumption | omega))
  | (with_reducible refine Cm.r_min2 ?_)
  | (with_reducible refine W.r_eq_lv ?_) | (with_reducible refine W.r_ne_lv ?_) | (with_reducible refine W.r_isNo_lv ?_) | (with_reducible refine W.r_notNo_lv ?_)
  | fail)

/-! ### the class of a refusal, with or without a field; a lambda's work refused -/
namespace W
open PySem PySem.Spec PyProof.Rows L2 L2H Cm
section
variable {P : Program} {w : World} {K : PySem.W.Frag} {mg : Str → Option Value} {base : Heap}
theorem Tx.kin (T : Tx w K mg) {x : Str} (hx : x ∈ kinds) : ExcC K (He.ga K x) ∧ PySem.W.kitOne K (.ref (He.ga K x)) (.type "ValueError") = some true ∧ ∀ y ∈ kinds, PySem.W.kitOne K (.ref (He.ga K x)) (.ref (He.ga K y)) = some (x == y) := exK_of T.ex1 hx
theorem Tx.exm (T : Tx w K mg) {x : Str} (hx : x ∈ kinds) : PySem.W.exmOne K (.ref (He.ga K x)) (.ref (He.ga K "StillError")) = some true := by
  simp only [kinds, List.mem_cons, List.not_mem_nil, or_false] at hx
  rcases hx with rfl | rfl | rfl | rfl | rfl | rfl | rfl | rfl | rfl | rfl | rfl | rfl
  · exact T.xm_BadDeal_StillError
  · exact T.xm_BadHand_StillError
  · exact T.xm_BadLetter_StillError
  · exact T.xm_BadTime_StillError
  · exact T.xm_BadKey_StillError
  · exact T.xm_BadHouse_StillError
  · exact T.xm_NoCopy_StillError
  · exact T.xm_Behind_StillError
  · exact T.xm_BadBlock_StillError
  · exact T.xm_BadEntry_StillError
  · exact T.xm_BadText_StillError
  · exact T.xm_Stopped_StillError
theorem r_isX (T : Tx w K mg) {x y : Str} {a : Addr} {d : Option Addr} {H : Hp} {Q : VK} (hx : x ∈ kinds) (hy : y ∈ kinds) (xd : XdOk d H) (q : Q (.bl (x == y)) H) : rIsX K (He.ga K x) a d [.ref a, .ref (He.ga K y)] H Q :=
  ⟨xd, .ref (He.ga K y), .ref (He.ga K y), x == y, rfl, fun _ r => r, (T.kin hx).2.2 y hy, q⟩
theorem r_isXV (T : Tx w K mg) {x : Str} {a : Addr} {d : Option Addr} {H : Hp} {Q : VK} (hx : x ∈ kinds) (xd : XdOk d H) (q : Q (.bl true) H) : rIsX K (He.ga K x) a d [.ref a, .ty "ValueError"] H Q :=
  ⟨xd, .ty "ValueError", .type "ValueError", true, rfl, fun _ r => r, (T.kin hx).2.1, q⟩
theorem pure_class_ (T : Tx w K mg) {x : Str} (hx : x ∈ kinds) {a : Addr} {d : Option Addr} {H : Hp} {Q : VK} (xd : XdOk d H) (hq : ∀ H', Kp (tabs K) No H H' → Q (.str x) H') : t_class_ K (He.ga K x) a d { nx := fun _ H' => Q .non H', rt := Q } (start N_class_ [.ref a]) H := by
  unfold t_class_
  iterate 12 (walk_at "run"; refine r_isX T hx (by decide) (xd.kp (T := tabs K) (S := No) (by walk_at "kp")) ?_)
  walk_at "run"
  rename_i p1 h1 p2 h2 p3 h3 p4 h4 p5 h5 p6 h6 p7 h7 p8 h8
  obtain ⟨hc, j, hj, hjt, hjf, hjw⟩ := kinds_at x hx
  have e58 : p5 ≠ p8 := by walk_at "ne"
  have e57 : p5 ≠ p7 := by walk_at "ne"
  have e56 : p5 ≠ p6 := by walk_at "ne"
  refine ⟨p5, kinds.map (x == ·), true, rfl, rfl, SqL.of ?_, ?_⟩
  · rw [upd_ne e58, upd_ne e57, upd_ne e56]; exact upd_same
  rw [hc]
  walk_at "run"
  refine if_dT rfl ?_
  walk_at "run"
  refine r_isXV T hx (xd.kp (T := tabs K) (S := No) (by walk_at "kp")) ?_
  walk_at "run"
  refine ⟨p5, (kinds.map (x == ·)).map V.bl, .bl true, j, .bl true, rfl, rfl, SqL.of ?_, rfl, ?_, ?_, rfl, fun m z hm hz => ?_, ?_⟩
  · rw [upd_ne e58, upd_ne e57, upd_ne e56]; exact upd_same
  · rw [List.all_map]; exact List.all_eq_true.mpr fun _ _ => rfl
  · rw [List.getElem?_map, hjt]; rfl
  · rw [List.getElem?_map, hjf m hm] at hz
    cases hz; rfl
  · refine r_ixl (xs := kinds.map V.str) (v := .str x) upd_same (atI_nat (j := j) ?_) (hq _ (by walk_at "kp"))
    rw [List.getElem?_map, hjw]; rfl
/-- _law_class(e) within the except suite -/
theorem pe_classX {X : Cx} (T : Tx w X.K X.mg) {k : Nat} {x : Str} {a : Addr} {d : Option Addr} {oe : Obj} {e : Expr} {es : List Expr} {t : TA} {p pos : Pos} (hx : x ∈ kinds) (hz : L2N.Zn (.ref (He.ga X.K x)) d oe) (hf : ∃ vs, oe.data = .fields vs) (hh : X.A.handled = some (.ref a)) (hr : RoomH (k + 1) X.A) (hp : (a, oe) ∈ X.pn) (hg : Gl X "_law_class")
    (ha : PA X (e :: es) t) (he : starEach (e :: es) X.env = (false, eval e X.env) :: starEach es X.env := by rfl) (hpl : (backTo pos (starEach es X.env)).any (·.1) = false := by rfl) : PE X (.Call (.Name "_law_class" p) (e :: es) [] pos) (tCall (tClsX X.K x a d) [] E0 t) := by
  obtain ⟨fd, F⟩ := T.f_class_
  have hv : ∃ vs : Array Value, oe.data = .fields vs ∧ vs[2]? = some .none := by
    obtain ⟨vs, e⟩ := hf
    exact ⟨vs, e, hz.2.2 vs e⟩
  refine call_pin (k := k) (p := (a, oe)) F sc_class_ (fun vs H Q E h => by obtain ⟨_, rfl, _⟩ := h; rfl) hr ⟨hh, hv⟩ hp hg T.g_class_ (F.bindsN (fun _ _ _ _ _ _ us hl => match us, hl with | [_], _ => rfl)) (fun cdv s H vs Q hr' hsp => ?_) ha (by rfl) he hpl
  obtain ⟨_, rfl, rfl, xd, hq⟩ := hsp
  exact ⟨t_class_ X.K (He.ga X.K x) a d, der_class_ T (T.kin hx).1 hz.zc hf hr', pure_class_ T hx xd hq⟩
/-- the refusals with a field -/
def xfs : List (Str × Str) := [("BadDeal", "place"), ("Behind", "number"), ("BadText", "row")]
/-- what is told of an error -/
def Told (K : PySem.W.Frag) (cls : Value) (d : Option Addr) (H' : Hp) (Q : VK) : Prop := ∃ x, x ∈ kinds ∧ cls = .ref (He.ga K x) ∧
  ((d = none ∧ (∀ q ∈ xfs, q.1 ≠ x) ∧ ∀ t H'', Nw H' t → Kp (tabs K) No H' H'' → H'' t = some (.tup [.str x, .int 0]) → Q (.ref t) H'') ∨
   ∃ dd f i, d = some dd ∧ (x, f) ∈ xfs ∧ H' dd = some (.xd [(f, .int i)]) ∧ ∀ t H'', Nw H' t → Kp (tabs K) No H' H'' → H'' t = some (.tup [.str x, .int i]) → Q (.ref t) H'')
def TT_refused_ (K : PySem.W.Frag) : (XK → Hp → VK → Prop) → Hp → VK → Prop := fun tl H Q => tl (fun cls d H' => Told K cls d H' Q) H (fun _ H' => Q .non H')
theorem pure_refS {x : Str} (hx : x ∈ kinds) {a : Addr} {d : Option Addr} {σ : L2.St} {H : Hp} {D : Ends} (v0 v2 : Option V) (he : σ = [v0, some (.ref a), v2]) (h : Told K (.ref (He.ga K x)) d H D.rt) (hinj : ∀ y, y ∈ kinds → He.ga K x = He.ga K y → x = y) : t_refS K x a d D σ H := by
  subst he
  obtain ⟨y, hy, e, h⟩ := h
  have e : x = y := hinj y hy (by injection e)
  subst e
  have xd : XdOk d H := fun dd e => by
    rcases h with ⟨rfl, _⟩ | ⟨dd', f, i, rfl, _, h1, _⟩
    · cases e
    · cases e; exact ⟨_, h1⟩
  unfold t_refS
  walk_at "run"
  refine ⟨_, rfl, rfl, xd, fun H1 k1 => ?_⟩
  walk_at "run"
  rcases h with ⟨rfl, hn, q⟩ | ⟨dd, f, i, rfl, hm, hd, q⟩
  · refine if_dF (fun z => hn ("BadDeal", "place") (by decide) (by injection z with z; exact z.symm)) ?_
    walk_at "run"
    refine if_dF (fun z => hn ("Behind", "number") (by decide) (by injection z with z; exact z.symm)) ?_
    walk_at "run"
    refine if_dF (fun z => hn ("BadText", "row") (by decide) (by injection z with z; exact z.symm)) ?_
    walk_at "run"
    rename_i t ht
    exact q t _ (k1.free ht) (by walk_at "kp") upd_same
  · have hd1 := k1.imm dd _ hd rfl
    simp only [xfs, List.mem_cons, List.not_mem_nil, or_false, Prod.mk.injEq] at hm
    rcases hm with ⟨rfl, rfl⟩ | ⟨rfl, rfl⟩ | ⟨rfl, rfl⟩
    · refine if_dT rfl ?_
      walk_at "run"
      refine ⟨_, rfl, rfl, rfl, dd, _, .int i, rfl, hd1, by kernel_rfl, ?_⟩
      walk_at "run"
      rename_i t ht
      exact q t _ (k1.free ht) (by walk_at "kp") upd_same
    · refine if_dF (by decide) ?_
      walk_at "run"
      refine if_dT rfl ?_
      walk_at "run"
      refine ⟨_, rfl, rfl, rfl, dd, _, .int i, rfl, hd1, by kernel_rfl, ?_⟩
      walk_at "run"
      rename_i t ht
      exact q t _ (k1.free ht) (by walk_at "kp") upd_same
    · refine if_dF (by decide) ?_
      walk_at "run"
      refine if_dF (by decide) ?_
      walk_at "run"
      refine if_dT rfl ?_
      walk_at "run"
      refine ⟨_, rfl, rfl, rfl, dd, _, .int i, rfl, hd1, by kernel_rfl, ?_⟩
      walk_at "run"
      rename_i t ht
      exact q t _ (k1.free ht) (by walk_at "kp") upd_same
theorem Tx.kinj (T : Tx w K mg) {x y : Str} (hx : x ∈ kinds) (hy : y ∈ kinds) (e : He.ga K x = He.ga K y) : x = y := by
  have h1 := (T.kin hx).2.2 x hx
  have h2 := (T.kin hx).2.2 y hy
  rw [← e, h1] at h2
  injection h2 with h2
  rw [beq_self_eq_true] at h2
  exact eq_of_beq h2.symm
theorem gives_refused {X : Cx} (T : Tx w X.K X.mg) {k : Nat} {q : Str} (cdv : Value) : GivesN X (k + 1) N_refused_ "_law_refused" (defScope s_refused_) (He.fAd X.K ("_law_refused", none)) cdv (defBody s_refused_) "_law_work" q (TT_refused_ X.K) := by
  intro f c' s H Q tl hr act hco ht
  refine ⟨_, pss_cons (L2N.ps_try_as (i := 1) (x := "StillError") (c := .ref (He.ga X.K "StillError")) rfl rfl sc_refused_.nd rfl rfl ⟨by rfl, by rfl, .inl T.g_StillError⟩ tkN
    (tb := fun W D σ H => ∃ E : XK, (∀ cls d σ' H', E cls d H' → W cls d σ' H') ∧ tDrop (fun σZ HZ Q => σZ[0]? = some (some (.ref f)) ∧ HZ c' = some (LamX.CodeO c' q) ∧ tl E HZ Q) D σ H)
    (ts := fun a cls d D σ H => ∃ x, x ∈ kinds ∧ cls = .ref (He.ga X.K x) ∧ (σ.length = 3 → t_refS X.K x a d D σ H)) ?hb ?hsu) (pss_one (ps_ret pe_non)), ?_⟩
  case hb =>
    intro W pn xe tk _
    refine ⟨fun pins s σ H D I h => ?_⟩
    obtain ⟨E, hE, h⟩ := h
    exact (pss_one (ps_expr (act W pn xe E _ _ tk hE))).run pins s σ H D I h
  case hsu =>
    intro a oe cls d pn hz hf
    refine ⟨fun pins s' σ H' D I h => ?_⟩
    obtain ⟨x, hx, rfl, h⟩ := h
    have hr2 : RoomH (k + 1) ((X.A.deeper (envOfC "_law_refused" (defScope s_refused_) s.heap.objs.size (He.fAd X.K ("_law_refused", none)) cdv)).mark (some (.ref a))) := ⟨hr.dp, hr.un⟩
    have hu64 := Nat.lt_of_le_of_lt (Nat.add_le_add_left (show 64 ≤ 16 * (k + 1) + 200 by omega) _) (by have := hr2.un; rw [Nat.add_assoc] at this; exact this)
    refine PSs.run (X := (zCx CX0 X N_refused_ "_law_refused" (defScope s_refused_) (He.fAd X.K ("_law_refused", none)) cdv s H E0).nox.suite a ((a, oe) :: pn)) (t := t_refS X.K x a d) ?_ pins s' σ H' D I (h I.len)
    exact (pss_cons (ps_set (i := 2) sc_refused_.nd rfl (by first | exact Or.inl rfl | exact Or.inr rfl) (pe_classX (X := (zCx CX0 X N_refused_ "_law_refused" (defScope s_refused_) (He.fAd X.K ("_law_refused", none)) cdv s H E0).nox.suite a ((a, oe) :: pn)) (k := k) T hx hz hf rfl hr2 List.mem_cons_self (by rfl) (pa_cons (pv 1) pa_nil)))
      (pss_cons (ps_if (pt_cmpR (op_eqA hu64) (pv 2) pe_str (nomark _)) (pss_one (ps_ret (pe_tup (pa_cons (pv 2) (pa_cons (pe_xf (X := (zCx CX0 X N_refused_ "_law_refused" (defScope s_refused_) (He.fAd X.K ("_law_refused", none)) cdv s H E0).nox) (a := a) (pn := pn) T.x_BadDeal.xf T.x_BadDeal.no hz.zc hf (pv 1)) pa_nil))))) pss_nil)
      (pss_cons (ps_if (pt_cmpR (op_eqA hu64) (pv 2) pe_str (nomark _)) (pss_one (ps_ret (pe_tup (pa_cons (pv 2) (pa_cons (pe_xf (X := (zCx CX0 X N_refused_ "_law_refused" (defScope s_refused_) (He.fAd X.K ("_law_refused", none)) cdv s H E0).nox) (a := a) (pn := pn) T.x_Behind.xf T.x_Behind.no hz.zc hf (pv 1)) pa_nil))))) pss_nil)
      (pss_one (ps_ret (pe_tup (pa_cons (pv 2) (pa_cons (pe_ifExp (pt_cmpR (op_eqA hu64) (pv 2) pe_str (nomark _)) (pe_xf (X := (zCx CX0 X N_refused_ "_law_refused" (defScope s_refused_) (He.fAd X.K ("_law_refused", none)) cdv s H E0).nox) (a := a) (pn := pn) T.x_BadText.xf T.x_BadText.no hz.zc hf (pv 1)) pe_int) pa_nil))))))))
  · refine ⟨_, fun cls d σ' H' h => ?_, rfl, hco, ht⟩
    obtain ⟨x, hx, rfl, hq⟩ := id h
    refine ⟨true, T.exm hx, fun _ a ha => ⟨x, hx, rfl, fun hl => ?_⟩, fun z => nomatch z⟩
    have hl : σ'.length = 3 := by simpa using hl
    match σ', hl with
    | [v0, v1, v2], _ => exact pure_refS hx v0 v2 rfl h (fun y hy e => T.kinj hx hy e)
theorem lam_refused_ {X : Cx} (T : Tx w X.K X.mg) (TB : ∀ p ∈ tf, LamX.TabB X.base X.mg (He.cT X.K p).1 (He.cT X.K p).2) {k : Nat} {at_ : He.Defn} {params : Arguments} {body : Expr} {scope : Scope} {t : XK → TE} {p lpos pos : Pos} (hat : at_ ∈ tf) (hq : X.env.qual ++ "<lambda>" = at_.1 ++ ".<locals>.<lambda>") (hcode : X.env.code = .ref (He.codeOf X.K at_))
    (hr : Room (k + 2) X.A) (hL : LamX.lamSB X.env.scope scope = true) (hg : Gl X "_law_refused") (hdef : defaultsOf params X.env = ([], [])) (hbind : ∀ (q : Str) (cl : List (Str × Addr)) (pm cv ctv : Value), bindArgs (PySem.W.kla_fn "<lambda>" q params body scope cl pm cv ctv) ⟨[], []⟩ = pure [])
    (hbody : ∀ (A : Around) (outer : List Env) (s : Shared) (H : Hp) (E : XK) (f c' : Addr), Room k (A.deeper (LamX.lamEnv X scope s.heap.objs.size f c')) → PE (lamN X A outer s H E scope f c') body (t E)) :
    PE X (.Call (.Name "_law_refused" p) [.Lambda params body scope lpos] [] pos) (LamX.tLam (tabs X.K) (TT_refused_ X.K) t) := by
  obtain ⟨fd, F⟩ := T.f_refused_
  refine lam_n (T := tabs X.K) (P := (He.cT X.K at_).2) (c := He.codeOf X.K at_) (k := k) F hg T.g_refused_ (F.bindsN (fun _ _ _ _ _ _ us hl => match us, hl with | [_], _ => rfl)) sc_refused_ rfl (.inl rfl) (fun cdv => gives_refused T cdv) (TB at_ hat) hcode ?_ ?_ hr (LamX.lamS_by hL) hdef hbind hbody
  · rw [hq]; exact List.mem_map.mpr ⟨at_, hat, rfl⟩
  · intro q hm e
    obtain ⟨at2, h2, rfl⟩ := List.mem_map.mp hm
    rw [hq, inj_map (f := fun p => (He.cT X.K p).2) T.tnd h2 hat e]
end
end W


end
section
/-! ### a list of own tables; data alike -/
namespace W
open PySem PySem.Spec PyProof.Rows L2 Cm
def S_alike_ (K : PySem.W.Frag) : Nat → Sp
  | 0 => fun _ _ _ _ => False
  | n + 1 => sp2 fun x y H Q _ => ∃ d, Dt H x d ∧ Dt H y d ∧ Dn n d ∧ ∀ H', Kp (tabs K) No H H' → Q (.bl true) H'
/-- a list at sl of own tables in the states Ss; all their things lie in X -/
def StoresAt (H : Hp) (sl : Addr) (Ss : List TB) (X : Addr → Prop) : Prop := ∃ as : List Addr, H sl = some (.lst (as.map V.ref)) ∧ as.length = Ss.length ∧ X sl ∧ (∀ c, X c → ¬ Nw H c) ∧ ∀ (i : Nat) (a : Addr) (S : TB), as[i]? = some a → Ss[i]? = some S → ∃ F, OwnAt H a S F ∧ ∀ c, F c → X c
theorem StoresAt.keep {T : List (Addr × Str)} {G : Addr → Prop} {H H' : Hp} {sl : Addr} {Ss : List TB} {X : Addr → Prop} (h : StoresAt H sl Ss X) (k : Kp T G H H') (d : ∀ a, X a → ¬ G a) : StoresAt H' sl Ss X := by
  obtain ⟨as, h1, h2, h3, h4, h5⟩ := h
  refine ⟨as, k.lst h1 (d sl h3), h2, h3, fun c hc hn => h4 c hc (k.dom c hn), fun i a S e1 e2 => ?_⟩
  obtain ⟨F, g1, g2⟩ := h5 i a S e1 e2
  exact ⟨F, g1.keep k (fun c hc => d c (g2 c hc)), g2⟩
theorem StoresAt.get {H : Hp} {sl : Addr} {Ss : List TB} {X : Addr → Prop} (h : StoresAt H sl Ss X) {i : Nat} {S : TB} (e : Ss[i]? = some S) : ∃ (as : List Addr) (a : Addr) (F : Addr → Prop), H sl = some (.lst (as.map V.ref)) ∧ as.length = Ss.length ∧ as[i]? = some a ∧ OwnAt H a S F ∧ ∀ c, F c → X c := by
  obtain ⟨as, h1, h2, h3, h4, h5⟩ := h
  have hi := (List.getElem?_eq_some_iff.mp e).1
  obtain ⟨a, ea⟩ : ∃ a, as[i]? = some a := ⟨_, List.getElem?_eq_getElem (by omega)⟩
  obtain ⟨F, g1, g2⟩ := h5 i a S ea e
  exact ⟨as, a, F, h1, h2, ea, g1, g2⟩
theorem StoresAt.len {H : Hp} {sl : Addr} {Ss : List TB} {X : Addr → Prop} (h : StoresAt H sl Ss X) : ∃ as : List Addr, H sl = some (.lst (as.map V.ref)) ∧ as.length = Ss.length := by
  obtain ⟨as, h1, h2, _⟩ := h
  exact ⟨as, h1, h2⟩
/-- data as the comparison reads them -/
theorem dt_dp {K : PySem.W.Frag} {H : Hp} : ∀ {n : Nat} {d : PyData} {v : V}, Dn n d → Dt H v d → Dp K H v d
  | n, .none, v, _, h => by have e : v = .non := h; subst e; exact .non
  | n, .bool b, v, _, h => by have e : v = .bl b := h; subst e; exact .bl b
  | n, .int b, v, _, h => by have e : v = .int b := h; subst e; exact .int b
  | n, .str b, v, _, h => by have e : v = .str b := h; subst e; exact .str b
  | 0, .tuple _, _, hd, _ => by cases hd
  | n + 1, .tuple ds, v, hd, h => by
    obtain ⟨a, xs, rfl, e, hA⟩ := h
    refine .tup (SqT.of e) ?_
    have go : ∀ (ds : List PyData) (xs : List V), (∀ d ∈ ds, Dn n d) → DtA H xs ds → DpAll K H xs ds := by
      intro ds
      induction ds with
      | nil => intro xs _ h; have e : xs = [] := h; subst e; exact .nil
      | cons d ds ih =>
        rintro xs hd ⟨v, vs, rfl, h1, h2⟩
        exact .cons (dt_dp (n := n) (hd d List.mem_cons_self) h1) (ih vs (fun d h => hd d (List.mem_cons_of_mem _ h)) h2)
    exact go ds xs hd.2 hA
  | 0, .list _, _, hd, _ => by cases hd
  | n + 1, .list ds, v, hd, h => by
    obtain ⟨a, xs, rfl, e, hA⟩ := h
    refine .lst (SqL.of e) ?_
    have go : ∀ (ds : List PyData) (xs : List V), (∀ d ∈ ds, Dn n d) → DtA H xs ds → DpAll K H xs ds := by
      intro ds
      induction ds with
      | nil => intro xs _ h; have e : xs = [] := h; subst e; exact .nil
      | cons d ds ih =>
        rintro xs hd ⟨v, vs, rfl, h1, h2⟩
        exact .cons (dt_dp (n := n) (hd d List.mem_cons_self) h1) (ih vs (fun d h => hd d (List.mem_cons_of_mem _ h)) h2)
    exact go ds xs hd.2 hA
  | 0, .dict _, _, hd, _ => by cases hd
  | n + 1, .dict _, _, hd, _ => by cases hd
mutual
theorem depth_le : ∀ {n : Nat} {d : PyData}, Dn n d → d.depth ≤ n
  | n, .none, _ => by simp [PyData.depth]
  | n, .bool _, _ => by simp [PyData.depth]
  | n, .int _, _ => by simp [PyData.depth]
  | n, .str _, _ => by simp [PyData.depth]
  | 0, .tuple _, h => by cases h
  | n + 1, .tuple ds, h => by
    have := depths_le (n := n) (ds := ds) h.2
    simp only [PyData.depth]; omega
  | 0, .list _, h => by cases h
  | n + 1, .list ds, h => by
    have := depths_le (n := n) (ds := ds) h.2
    simp only [PyData.depth]; omega
  | 0, .dict _, h => by cases h
  | n + 1, .dict _, h => by cases h
theorem depths_le : ∀ {n : Nat} {ds : List PyData}, (∀ d ∈ ds, Dn n d) → PyData.depthAll ds ≤ n
  | n, [], _ => by simp [PyData.depthAll]
  | n, d :: ds, h => by
    have h1 := depth_le (n := n) (d := d) (h d List.mem_cons_self)
    have h2 := depths_le (n := n) (ds := ds) fun d h' => h d (List.mem_cons_of_mem _ h')
    simp only [PyData.depthAll]; omega
end
theorem canL {ds : List PyData} (h : ∀ d ∈ ds, d.canLay0 = true) : PyData.canLayAll0 ds = true := by
  induction ds with
  | nil => rfl
  | cons d ds ih => simp [PyData.canLayAll0, h d List.mem_cons_self, ih fun d h' => h d (List.mem_cons_of_mem _ h')]
theorem shaped_of {n : Nat} {d : PyData} (h : Dn n d) (hn : n ≤ 64) (hc : d.canLay0 = true) : SeqAt.shaped d = true := by
  unfold SeqAt.shaped
  rw [hc, decide_eq_true (Nat.le_trans (depth_le h) hn)]; rfl
/-- two of the same data are alike -/
theorem r_neSame {K : PySem.W.Frag} {H : Hp} {Q : VK} {x y : V} {n : Nat} {d : PyData} (hx : Dt H x d) (hy : Dt H y d) (h : Dn n d) (hn : n ≤ 64) (hc : d.canLay0 = true) (q : Q (.bl false) H) : rNeA K x y H Q := by
  refine .inr ⟨d, d, dt_dp h hx, dt_dp h hy, shaped_of h hn hc, shaped_of h hn hc, ?_⟩
  rw [SeqAt.eqv_refl _ hc]; exact q
theorem can_oD {o : Option Int} : (oD o).canLay0 = true := by cases o <;> rfl
theorem can_deed {d : Deed} : d.d.canLay0 = true := by
  cases d with
  | put => simp [Deed.d, PyData.canLay0, PyData.canLayAll0]; decide +kernel
  | drop => simp [Deed.d, PyData.canLay0, PyData.canLayAll0]; decide +kernel
  | add => simp [Deed.d, PyData.canLay0, PyData.canLayAll0]; decide +kernel
  | iff k w => simp [Deed.d, PyData.canLay0, PyData.canLayAll0, can_oD]; decide +kernel
theorem can_deal {ds : List Deed} : (dealD ds).canLay0 = true := by
  show PyData.canLayAll0 _ = true
  exact canL fun d hd => by obtain ⟨e, _, rfl⟩ := List.mem_map.mp hd; exact can_deed
theorem dn_oD {n : Nat} {o : Option Int} : Dn n (oD o) := Di.dn Di.oD
theorem di_deal {n : Nat} {ds : List Deed} (h : ds.length ≤ 100000) : Di (n + 2) (dealD ds) := di_tup (by simpa using h) fun d hd => by
  obtain ⟨e, _, rfl⟩ := List.mem_map.mp hd
  exact di_deed
section
variable {H : Hp} {s sl : Addr} {S : TB} {F X : Addr → Prop} {Ss : List TB}
theorem OwnAt.notlst (h : OwnAt H s S F) {c : Addr} {xs : List V} (hc : H c = some (.lst xs)) : ¬ F c := by
  obtain ⟨r, h0, rk, hk, h1, h2, h3, h4, h5, _, o, f⟩ := h
  intro z
  rcases (f c).mp z with rfl | rfl | rfl
  · rw [h1] at hc; cases hc
  · rw [h2] at hc; cases hc
  · rw [h4] at hc; cases hc
theorem OwnAt.cell (h : OwnAt H s S F) : ∃ (r h0 : Addr) (hk : List (Key × V)), H s = some (.dK (oS r h0 S.moment S.number)) ∧ H h0 = some (.dK hk) ∧ DR H hk (hdf S.hands) ∧ F s ∧ F h0 ∧ s ≠ h0 ∧
    ∀ (Tt : List (Addr × Str)) (H' : Hp) (m n : Int), Kp Tt (fun b => b = s) H H' → H' s = some (.dK (oS r h0 m n)) → OwnAt H' s { S with moment := m, number := n } F := by
  obtain ⟨r, h0, rk, hk, h1, h2, h3, h4, h5, ⟨n1, n2, n3⟩, o, f⟩ := h
  refine ⟨r, h0, hk, h1, h4, h5, (f s).mpr (.inl rfl), (f h0).mpr (.inr (.inr rfl)), n2, fun Tt H' m n k g => ?_⟩
  exact ⟨r, h0, rk, hk, g, k.dK h2 (Ne.symm n1), h3.keep k, k.dK h4 (Ne.symm n2), h5.keep k, ⟨n1, n2, n3⟩, ⟨o.rw, o.hd⟩, f⟩
theorem StoresAt.opn (h : StoresAt H sl Ss X) : ∃ as : List Addr, H sl = some (.lst (as.map V.ref)) ∧ as.length = Ss.length ∧ X sl ∧ (∀ c, X c → ¬ Nw H c) ∧
    ∀ (Tt : List (Addr × Str)) (H' : Hp) (a : Addr) (S : TB) (F : Addr → Prop), Kp Tt (fun b => b = sl) H H' → H' sl = some (.lst (as.map V.ref ++ [.ref a])) → OwnAt H' a S F → StoresAt H' sl (Ss ++ [S]) (fun c => X c ∨ F c) := by
  obtain ⟨as, h1, h2, h3, h4, h5⟩ := h
  refine ⟨as, h1, h2, h3, h4, fun Tt H' a S F k g1 g2 => ?_⟩
  refine ⟨as ++ [a], by rw [g1, List.map_append]; rfl, by simp [h2], .inl h3, fun c hc hn => ?_, fun i a' S' e1 e2 => ?_⟩
  · rcases hc with hc | hc
    · exact h4 c hc (k.dom c hn)
    · exact g2.dom hc hn
  · rcases Nat.lt_or_ge i as.length with hi | hi
    · rw [List.getElem?_append_left hi] at e1
      rw [List.getElem?_append_left (by omega)] at e2
      obtain ⟨F', q1, q2⟩ := h5 i a' S' e1 e2
      exact ⟨F', q1.keep k (fun c hc z => q1.notlst h1 (by rw [← z]; exact hc)), fun c hc => .inl (q2 c hc)⟩
    · have hl := (List.getElem?_eq_some_iff.mp e1).1
      simp only [List.length_append, List.length_cons, List.length_nil] at hl
      have hi2 : i = as.length := by omega
      subst hi2
      rw [List.getElem?_append_right (Nat.le_refl _), Nat.sub_self] at e1
      rw [h2, List.getElem?_append_right (Nat.le_refl _), Nat.sub_self] at e2
      have e1 : a = a' := by simpa using e1
      have e2 : S = S' := by simpa using e2
      subst e1 e2
      exact ⟨F, g2, fun c hc => .inr hc⟩
theorem at_last {xs : List V} {i : Nat} {v : V} (h : xs[i]? = some v) (hl : xs.length = i + 1) : atI xs (-1) = some v := by
  unfold atI ixN
  rw [if_neg (by decide), if_pos (by omega)]
  simp only [Option.bind_some]
  rw [show ((-1 : Int) + xs.length).toNat = i by omega]
  exact h
end
end W

end
section
/-! ### law k16: what judge and the law's defs promise -/
namespace W
open PySem PySem.Spec PyProof.Rows L2 Cm
inductive JE where
  | tick (t : Int)
  | deal (h : Int) (ds : List Deed)
def JE.d : JE → PyData
  | .tick t => .tuple [.str "tick", .int t]
  | .deal h ds => .tuple [.str "deal", .int h, dealD ds]
def JE.Ok (m : Int) : JE → Prop
  | .tick t => m < t ∧ t ≤ 1000000
  | .deal h ds => (0 ≤ h ∧ h < 4) ∧ (∀ d ∈ ds, Deed.Ok d) ∧ 0 < ds.length ∧ ds.length ≤ 4
def JE.after (m : Int) : JE → Int
  | .tick t => t
  | .deal _ _ => m
def okL : Int → List JE → Prop
  | _, [] => True
  | m, j :: js => j.Ok m ∧ okL (j.after m) js
def endM : Int → List JE → Int
  | m, [] => m
  | m, j :: js => endM (j.after m) js
def pstep (T : TB) (n : Int) : JE → TB
  | .tick t => T.chgs (.tick n t)
  | .deal h ds => T.chgs (.deal n h 0 (effR T.rows T.moment ds).1 (effR T.rows T.moment ds).2)
def pRun : TB → Int → List JE → TB
  | T, _, [] => T
  | T, n, j :: js => pRun (pstep T n j) (n + 1) js
def pAt (js : List JE) (i : Nat) : TB := pRun ts0 1 (js.take i)
def ostep (S : TB) : JE → TB
  | .tick t => { S with moment := t, number := S.number + 1 }
  | .deal h ds => S.deal h (((S.hands h).map (·.1)).getD 0 + 1) ds
def oRun : TB → List JE → TB
  | S, [] => S
  | S, j :: js => oRun (ostep S j) js
def oAt (js : List JE) (i : Nat) : TB := oRun ts0 (js.take i)
def oAll (js : List JE) : List TB := (List.range (js.length + 1)).map (oAt js)
inductive JR where
  | ok (m : Int)
  | bad (c : Str)
  | deal (p : Nat)
def NeedE (m : Int) (d : PyData) : JR → Prop
  | .ok m' => (∃ t, d = .tuple [.str "tick", .int t] ∧ (m < t ∧ t ≤ 1000000) ∧ m' = t) ∨ ∃ h es, d = .tuple [.str "deal", .int h, .tuple es] ∧ (0 ≤ h ∧ h < 4) ∧ NeedD es none ∧ m' = m
  | .bad c => (c = "BadEntry" ∧ ((∃ t, d = .tuple [.str "tick", .int t] ∧ ¬ (m < t ∧ t ≤ 1000000)) ∨ (∃ ds, d = .tuple ds ∧ ds.length ≠ 2 ∧ ds.length ≠ 3) ∨ ∃ w x y, d = .tuple [.str w, x, y] ∧ w ≠ "deal")) ∨ (c = "BadHand" ∧ ∃ h es, d = .tuple [.str "deal", .int h, .tuple es] ∧ ¬ (0 ≤ h ∧ h < 4))
  | .deal p => ∃ h es, d = .tuple [.str "deal", .int h, .tuple es] ∧ (0 ≤ h ∧ h < 4) ∧ NeedD es (some p)
/-- how an error is told -/
def JX (K : PySem.W.Frag) (r : JR) (H : Hp) (E : XK) : Prop := (∀ c, r = .bad c → ∀ H', Kp (tabs K) No H H' → E (.ref (He.ga K c)) none H') ∧ ∀ p, r = .deal p → XD K "BadDeal" "place" p H E
def S_need_entry (K : PySem.W.Frag) : Sp := sp2 fun x y H Q E => ∃ d m r, Dt H x d ∧ Di 6 d ∧ y = .int m ∧ NeedE m d r ∧ (∀ m', r = .ok m' → ∀ H', Kp (tabs K) No H H' → Q (.int m') H') ∧ JX K r H E
def shownL (T : TB) : List V := (rng 32).map fun k => lv (T.shown k)
def S_tables_of (K : PySem.W.Frag) : Sp := sp1 fun x H Q _ => ∃ l xs js, x = .ref l ∧ H l = some (.lst xs) ∧ DtA H xs (js.map JE.d) ∧ okL 0 js ∧ js.length ≤ 1000 ∧
  ∀ (p : Addr) (as : List Addr) (H' : Hp), Kp (tabs K) No H H' → Nw H p → H' p = some (.lst (as.map V.ref)) → as.length = js.length + 1 → (∀ i a, as[i]? = some a → H' a = some (.lst (shownL (pAt js i)))) → Q (.ref p) H'
abbrev Rdg := Int × Int × Int × Option Int
def rdD (r : Rdg) : PyData := .tuple [.int r.1, .int r.2.1, .int r.2.2.1, oD r.2.2.2]
def rdOk (r : Rdg) : Prop := (0 ≤ r.1 ∧ r.1 < 4) ∧ 0 ≤ r.2.2.1 ∧ r.2.2.1 < 32
def judgeM (sh : Nat → Int → Option Int) (n : Nat) : (Int → Int) → Nat → List Rdg → Option Int
  | _, _, [] => none
  | seen, i, r :: rs => if (seen r.1 ≤ r.2.1 ∧ r.2.1 < n) ∧ sh r.2.1.toNat r.2.2.1 = r.2.2.2 then judgeM sh n (fun h => if h = r.1 then r.2.1 else seen h) (i + 1) rs else some i
/-- entries that are refused: so many may be, then one can't -/
def BadEs (ds : List PyData) (r : JR) : Prop := ∃ js d rest, ds = js.map JE.d ++ d :: rest ∧ okL 0 js ∧ js.length ≤ 1000 ∧ NeedE (endM 0 js) d r ∧ ∀ m, r ≠ .ok m
/-- readings that are refused -/
def BadRs (rs : List PyData) (c : Str) : Prop := ∃ (good : List Rdg) (r : Rdg) (rest : List PyData), rs = good.map rdD ++ rdD r :: rest ∧ (∀ g ∈ good, rdOk g) ∧ ((c = "BadHand" ∧ ¬ (0 ≤ r.1 ∧ r.1 < 4)) ∨ (c = "BadKey" ∧ (0 ≤ r.1 ∧ r.1 < 4) ∧ ¬ (0 ≤ r.2.2.1 ∧ r.2.2.1 < 32)))
def S_judge (K : PySem.W.Frag) : Sp := sp2 fun x y H Q E => ∃ l1 l2 xs ys ds rs, x = .ref l1 ∧ y = .ref l2 ∧ H l1 = some (.lst xs) ∧ H l2 = some (.lst ys) ∧ DtA H xs ds ∧ DtA H ys rs ∧ (∀ d ∈ ds, Di 6 d) ∧ (∀ d ∈ rs, Di 6 d) ∧
  ((∃ r, BadEs ds r ∧ JX K r H E) ∨ (∃ js c, ds = js.map JE.d ∧ okL 0 js ∧ js.length ≤ 1000 ∧ BadRs rs c ∧ ∀ H', Kp (tabs K) No H H' → E (.ref (He.ga K c)) none H') ∨
   ∃ (js : List JE) (gs : List Rdg), ds = js.map JE.d ∧ okL 0 js ∧ js.length ≤ 1000 ∧ rs = gs.map rdD ∧ (∀ g ∈ gs, rdOk g) ∧ gs.length ≤ 1000 ∧ ∀ H', Kp (tabs K) No H H' → Q (lv (judgeM (fun i k => (pAt js i).shown k) (js.length + 1) (fun _ => 0) 0 gs)) H')
/-! the law's own -/
def S_entries_ (K : PySem.W.Frag) : Sp := sp1 fun x H Q _ => ∃ b l, x = .ref b ∧ BoxAt H b l ∧
  ∀ t el sl xs js X H', H' t = some (.tup [.ref el, .ref sl]) → H' el = some (.lst xs) → DtA H' xs (js.map JE.d) → okL 0 js → js.length ≤ 40 → StoresAt H' sl (oAll js) X → (∀ a, X a → Nw H a) → Nw H el → ¬ X el → BoxAt H' b l → Kp (tabs K) (Bx b l) H H' → Q (.ref t) H'
def S_readings_ (K : PySem.W.Frag) : Sp := sp2 fun x y H Q _ => ∃ b l sl Ss X, x = .ref b ∧ y = .ref sl ∧ BoxAt H b l ∧ StoresAt H sl Ss X ∧ ¬ X b ∧ ¬ X l ∧ 0 < Ss.length ∧ Ss.length ≤ 1000 ∧
  ∀ (p : Addr) (xs : List V) (gs : List Rdg) (H' : Hp), H' p = some (.lst xs) → DtA H' xs (gs.map rdD) → (∀ g ∈ gs, rdOk g) → gs.length ≤ 30 → Nw H p → BoxAt H' b l → Kp (tabs K) (Bx b l) H H' → Q (.ref p) H'
def S_due_ (K : PySem.W.Frag) : Sp := sp2 fun x y H Q _ => ∃ (sl p : Addr) (Ss : List TB) (X : Addr → Prop) (xs : List V) (gs : List Rdg), x = .ref sl ∧ y = .ref p ∧ StoresAt H sl Ss X ∧ H p = some (.lst xs) ∧ DtA H xs (gs.map rdD) ∧ gs.length ≤ 30 ∧ Ss.length ≤ 1000 ∧
  ∀ H', Kp (tabs K) No H H' → Q (lv (judgeM (fun i k => (Ss.getD i ts0).shown k) Ss.length (fun _ => 0) 0 gs)) H'
/-- what is refused: the class and the place -/
def dueD (r : JR) : PyData := match r with
  | .ok _ => .none
  | .bad c => .tuple [.str c, .int 0]
  | .deal p => .tuple [.str "BadDeal", .int p]
def S_odd_ (K : PySem.W.Frag) : Sp := sp3 fun x y z H Q _ => ∃ (b l el rl : Addr) (xs ys : List V) (js : List JE) (gs : List Rdg), x = .ref b ∧ y = .ref el ∧ z = .ref rl ∧ BoxAt H b l ∧ H el = some (.lst xs) ∧ DtA H xs (js.map JE.d) ∧ okL 0 js ∧ js.length ≤ 40 ∧ H rl = some (.lst ys) ∧ DtA H ys (gs.map rdD) ∧ (∀ g ∈ gs, rdOk g) ∧ gs.length ≤ 30 ∧ el ≠ b ∧ el ≠ l ∧ rl ≠ b ∧ rl ≠ l ∧
  ∀ t l1 l2 v xs' ys' ds rs r H', H' t = some (.tup [.ref l1, .ref l2, v]) → H' l1 = some (.lst xs') → H' l2 = some (.lst ys') → DtA H' xs' ds → DtA H' ys' rs → (∀ d ∈ ds, Di 6 d) → (∀ d ∈ rs, Di 6 d) → Dt H' v (dueD r) → (∀ m, r ≠ .ok m) →
    (BadEs ds r ∨ ∃ js c, ds = js.map JE.d ∧ okL 0 js ∧ js.length ≤ 1000 ∧ BadRs rs c ∧ r = .bad c ∧ (c = "BadHand" ∨ c = "BadKey")) → l1 ≠ b → l1 ≠ l → l2 ≠ b → l2 ≠ l → BoxAt H' b l → Kp (tabs K) (Bx b l) H H' → Q (.ref t) H'
def S_law (K : PySem.W.Frag) : Sp := sp1 fun x H Q _ => ∃ (a : Addr) (ns : List Int), x = .ref a ∧ SqL K H a (ns.map V.int) ∧ ns.length ≤ 63 ∧ LamX.Tabs (tabs K) H ∧ ∀ H', Q (.bl true) H'
end W

end
section
namespace W
open PySem PySem.Spec PyProof.Rows L2 Cm
/-! need_entry -/
def t_need_entry (K : PySem.W.Frag) (E : XK) : TS := (tSeq (tIfS (tAnd (tTest (tOp (rEqA K) (tCB (rLenA K) (tCons (tVar 0) tNil)) (tC (.int 2)))) (tTest (tOp (rEqA K) (tOp (rIxA K) (tVar 0) (tC (.int 0))) (tC (.str "tick"))))) (tSeq (tIfS (tNot (tTest (tChain (rI0 fun i j => .bl (decide (i < j))) (rI0 fun i j => .bl (decide (i ≤ j))) (tVar 1) (tOp (rIxA K) (tVar 0) (tC (.int 1))) (tC (.int 1000000))))) (tRs E (He.ga K "BadEntry")) tNext) (tRet (tOp (rIxA K) (tVar 0) (tC (.int 1))))) tNext) (tSeq (tIfS (tOr (tTest (tOp (rNeA K) (tCB (rLenA K) (tCons (tVar 0) tNil)) (tC (.int 3)))) (tTest (tOp (rNeA K) (tOp (rIxA K) (tVar 0) (tC (.int 0))) (tC (.str "deal"))))) (tRs E (He.ga K "BadEntry")) tNext) (tSeq (tDrop (tCall (S_need_hand K) [] E (tCons (tOp (rIxA K) (tVar 0) (tC (.int 1))) tNil))) (tSeq (tDrop (tCall (S_need_deal K) [] E (tCons (tOp (rIxA K) (tVar 0) (tC (.int 2))) tNil))) (tRet (tVar 1))))))
/-! tables_of -/
def t_tables_of (K : PySem.W.Frag) (E : XK) : TS := (tSeq (tAsg (tMake (He.ga K "Table") (S_Table_init K) [] E tNil) (gName 1)) (tSeq (tAsg (tLst (tCons (tLc (iRng1 (tCons (tC (.int 32)) tNil)) (gName 3) tYes (tC .non) [3]) tNil)) (gName 2)) (tSeq (tFor (iEnumA K (tCons (tVar 0) tNil)) (gTup K 2 (gCons (gName 4) (gCons (gName 5) gNil))) (tSeq (tIfS (tTest (tOp (rEqA K) (tOp (rIxA K) (tVar 5) (tC (.int 0))) (tC (.str "tick")))) (tAsg (tTup (tCons (tC (.str "tick")) (tCons (tOp (rAddA K) (tVar 4) (tC (.int 1))) (tCons (tOp (rIxA K) (tVar 5) (tC (.int 1))) tNil)))) (gName 6)) (tSeq (tAsg (tCall (S_effects_of K) [] E (tCons (tOp (rIxA K) (tVar 5) (tC (.int 2))) (tCons (tVar 1) tNil))) (gTup K 2 (gCons (gName 7) (gCons (gName 8) gNil)))) (tAsg (tTup (tCons (tC (.str "deal")) (tCons (tOp (rAddA K) (tVar 4) (tC (.int 1))) (tCons (tOp (rIxA K) (tVar 5) (tC (.int 1))) (tCons (tC (.int 0)) (tCons (tVar 7) (tCons (tVar 8) tNil))))))) (gName 6)))) (tSeq (tFor (iSeq K (tCall (S_pages_of K) [] E (tCons (tVar 6) tNil))) (gName 9) (tDrop (tMeth (He.ga K "Table") "change" (S_Table_change K) [] E (tVar 1) (tCons (tVar 6) (tCons (tVar 9) tNil))))) (tDrop (tBM K "list" rAppend (tVar 2) (tCons (tLc (iRng1 (tCons (tC (.int 32)) tNil)) (gName 3) tYes (tMeth (He.ga K "Table") "shown" (S_Table_shown K) [] E0 (tVar 1) (tCons (tVar 3) tNil)) [3]) tNil)))))) (tRet (tVar 2)))))
/-! judge -/
def t_judge (K : PySem.W.Frag) (E : XK) : TS := (tSeq (tAsg (tC (.int 0)) (gName 2)) (tSeq (tFor (iSeq K (tVar 0)) (gName 3) (tAsg (tCall (S_need_entry K) [] E (tCons (tVar 3) (tCons (tVar 2) tNil))) (gName 2))) (tSeq (tFor (iSeq K (tVar 1)) (gTup K 4 (gCons (gName 4) (gCons (gName 5) (gCons (gName 6) (gCons (gName 7) gNil))))) (tSeq (tDrop (tCall (S_need_hand K) [] E (tCons (tVar 4) tNil))) (tDrop (tCall (S_need_key K) [] E (tCons (tVar 6) tNil))))) (tSeq (tAsg (tCall (S_tables_of K) [] E (tCons (tVar 0) tNil)) (gName 8)) (tSeq (tAsg tDNewK (gName 9)) (tSeq (tFor (iEnumA K (tCons (tVar 1) tNil)) (gTup K 2 (gCons (gName 10) (gCons (gTup K 4 (gCons (gName 4) (gCons (gName 5) (gCons (gName 6) (gCons (gName 7) gNil))))) gNil))) (tSeq (tIfS (tOr (tNot (tTest (tChain (rI0 fun i j => .bl (decide (i ≤ j))) (rI0 fun i j => .bl (decide (i < j))) (tDGet2 (tVar 9) (tVar 4) (tC (.int 0))) (tVar 5) (tCB (rLenA K) (tCons (tVar 8) tNil))))) (tTest (tOp (rNeA K) (tOp (rIxA K) (tOp (rIxA K) (tVar 8) (tVar 5)) (tVar 6)) (tVar 7)))) (tRet (tVar 10)) tNext) (tAsg (tVar 5) (gSub (tVar 9) (tVar 4) rSetA)))) (tRet (tC .non))))))))
/-! _law_alike -/
def t_alike_ (K : PySem.W.Frag) (n : Nat) (E : XK) : TS := (tSeq (tIfS (tTest (tOp rIsNo (tVar 1) (tC .non))) (tRet (tOp rIsNo (tVar 0) (tC .non))) tNext) (tSeq (tIfS (tTr K (tCB (rIsi K) (tCons (tVar 1) (tCons (tC (.ty "bool")) tNil)))) (tRet (tAndV (tCB (rIsi K) (tCons (tVar 0) (tCons (tC (.ty "bool")) tNil))) (tOp (rEqA K) (tVar 0) (tVar 1)))) tNext) (tSeq (tIfS (tTr K (tCB (rIsi K) (tCons (tVar 1) (tCons (tC (.ty "int")) tNil)))) (tRet (tAndV (tCB (rIsi K) (tCons (tVar 0) (tCons (tC (.ty "int")) tNil))) (tAndV (tNotV (tCB (rIsi K) (tCons (tVar 0) (tCons (tC (.ty "bool")) tNil)))) (tOp (rEqA K) (tVar 0) (tVar 1))))) tNext) (tSeq (tIfS (tTr K (tCB (rIsi K) (tCons (tVar 1) (tCons (tC (.ty "str")) tNil)))) (tRet (tAndV (tCB (rIsi K) (tCons (tVar 0) (tCons (tC (.ty "str")) tNil))) (tOp (rEqA K) (tVar 0) (tVar 1)))) tNext) (tSeq (tIfS (tOr (tTest (tOp (rNeA K) (tCB (rIsi K) (tCons (tVar 1) (tCons (tC (.ty "tuple")) tNil))) (tCB (rIsi K) (tCons (tVar 0) (tCons (tC (.ty "tuple")) tNil))))) (tTest (tOp (rNeA K) (tCB (rIsi K) (tCons (tVar 1) (tCons (tC (.ty "list")) tNil))) (tCB (rIsi K) (tCons (tVar 0) (tCons (tC (.ty "list")) tNil)))))) (tRet (tC (.bl false))) tNext) (tSeq (tIfS (tTest (tOp (rNeA K) (tCB (rLenA K) (tCons (tVar 0) tNil)) (tCB (rLenA K) (tCons (tVar 1) tNil)))) (tRet (tC (.bl false))) tNext) (tSeq (tFor (iRng1 (tCons (tCB (rLenA K) (tCons (tVar 1) tNil)) tNil)) (gName 2) (tIfS (tNot (tTr K (tCall (S_alike_ K n) [] E (tCons (tOp (rIxA K) (tVar 0) (tVar 2)) (tCons (tOp (rIxA K) (tVar 1) (tVar 2)) tNil))))) (tRet (tC (.bl false))) tNext)) (tRet (tC (.bl true))))))))))
/-! _law_entries -/
def t_entries_ (K : PySem.W.Frag) (E : XK) : TS := (tSeq (tAsg (tLst (tCons (tCall (S_store_ K) [] E tNil) tNil)) (gName 1)) (tSeq (tAsg (tLst tNil) (gName 2)) (tSeq (tFor (iRng1 (tCons (tCall (S_take_ K) [] E (tCons (tVar 0) (tCons (tOp (rIxA K) (tLst (tCons (tC (.int 8)) (tCons (tC (.int 40)) tNil))) (tCall (S_take_ K) [] E (tCons (tVar 0) (tCons (tC (.int 2)) tNil)))) tNil))) tNil)) (gName 3) (tSeq (tAsg (tCall (S_again_ K) [] E (tCons (tOp (rIxA K) (tVar 1) (tUn (rU fun i => .int (-i)) (tC (.int 1)))) tNil)) (gName 4)) (tSeq (tIfS (tAnd (tTest (tOp (rEqA K) (tCall (S_take_ K) [] E (tCons (tVar 0) (tCons (tC (.int 4)) tNil))) (tC (.int 0)))) (tTest (tOp (rI0 fun i j => .bl (decide (i < j))) (tOp (rIxA K) (tVar 4) (tC (.str "moment"))) (tOp rMulA (tC (.int 9)) (tOp (rI CPow fun i j => .int (i ^ j.toNat)) (tC (.int 10)) (tC (.int 5))))))) (tSeq (tAsg (tOp (rAddA K) (tOp (rAddA K) (tOp (rIxA K) (tVar 4) (tC (.str "moment"))) (tC (.int 1))) (tCall (S_take_ K) [] E (tCons (tVar 0) (tCons (tOp (rIxA K) (tLst (tCons (tC (.int 3)) (tCons (tC (.int 900)) tNil))) (tCall (S_take_ K) [] E (tCons (tVar 0) (tCons (tC (.int 2)) tNil)))) tNil)))) (gSub (tVar 4) (tC (.str "moment")) rSetA)) (tSeq (tAsg (tOp (rAddA K) (tOp (rIxA K) (tVar 4) (tC (.str "number"))) (tC (.int 1))) (gSub (tVar 4) (tC (.str "number")) rSetA)) (tDrop (tBM K "list" rAppend (tVar 2) (tCons (tTup (tCons (tC (.str "tick")) (tCons (tOp (rIxA K) (tVar 4) (tC (.str "moment"))) tNil))) tNil))))) (tSeq (tAsg (tCall (S_drawn_ K) [] E (tCons (tVar 0) (tCons (tVar 4) tNil))) (gName 5)) (tSeq (tAsg (tCall (S_take_ K) [] E (tCons (tVar 0) (tCons (tC (.int 4)) tNil))) (gName 6)) (tSeq (tDrop (tBM K "list" rAppend (tVar 2) (tCons (tTup (tCons (tC (.str "deal")) (tCons (tVar 6) (tCons (tVar 5) tNil)))) tNil))) (tDrop (tCall (S_deal_ K) [] E (tCons (tVar 4) (tCons (tVar 6) (tCons (tOp (rAddA K) (tOp (rIxA K) (tDGet2 (tOp (rIxA K) (tVar 4) (tC (.str "hands"))) (tVar 6) (tTup (tCons (tC (.int 0)) tNil))) (tC (.int 0))) (tC (.int 1))) (tCons (tVar 5) tNil)))))))))) (tDrop (tBM K "list" rAppend (tVar 1) (tCons (tVar 4) tNil)))))) (tRet (tTup (tCons (tVar 2) (tCons (tVar 1) tNil)))))))
/-! _law_readings -/
def t_readings_ (K : PySem.W.Frag) (E : XK) : TS := (tSeq (tAsg (tLst tNil) (gName 2)) (tSeq (tAsg (tLst (tCons (tC (.int 0)) (tCons (tC (.int 0)) (tCons (tC (.int 0)) (tCons (tC (.int 0)) tNil))))) (gName 3)) (tSeq (tAsg (tOp (rIxA K) (tLst (tCons (tC (.int 3)) (tCons (tC (.int 12)) (tCons (tOp (rI CPow fun i j => .int (i ^ j.toNat)) (tC (.int 10)) (tC (.int 6))) tNil)))) (tCall (S_take_ K) [] E (tCons (tVar 0) (tCons (tC (.int 3)) tNil)))) (gName 4)) (tSeq (tFor (iRng1 (tCons (tCall (S_take_ K) [] E (tCons (tVar 0) (tCons (tC (.int 31)) tNil))) tNil)) (gName 5) (tSeq (tAsg (tCall (S_take_ K) [] E (tCons (tVar 0) (tCons (tC (.int 4)) tNil))) (gName 6)) (tSeq (tAsg (tOp (rAddA K) (tOp (rIxA K) (tVar 3) (tVar 6)) (tCall (S_take_ K) [] E (tCons (tVar 0) (tCons (tCB rMin2 (tCons (tC (.int 4)) (tCons (tOp (rI0 fun i j => .int (i - j)) (tCB (rLenA K) (tCons (tVar 1) tNil)) (tOp (rIxA K) (tVar 3) (tVar 6))) tNil))) tNil)))) (gName 7)) (tSeq (tAsg (tCall (S_take_ K) [] E (tCons (tVar 0) (tCons (tOp (rIxA K) (tLst (tCons (tC (.int 6)) (tCons (tC (.int 32)) tNil))) (tCall (S_take_ K) [] E (tCons (tVar 0) (tCons (tC (.int 2)) tNil)))) tNil))) (gName 8)) (tSeq (tAsg (tCall (S_seen_ K) [] E (tCons (tOp (rIxA K) (tVar 1) (tVar 7)) (tCons (tVar 8) tNil))) (gName 9)) (tSeq (tIfS (tTest (tOp (rEqA K) (tCall (S_take_ K) [] E (tCons (tVar 0) (tCons (tVar 4) tNil))) (tC (.int 0)))) (tSeq (tAsg (tOp (rIxA K) (tLst (tCons (tOp (rI0 fun i j => .int (i - j)) (tOp (rI0 fun i j => .int (i - j)) (tVar 7) (tC (.int 1))) (tCall (S_take_ K) [] E (tCons (tVar 0) (tCons (tC (.int 3)) tNil)))) (tCons (tOp (rAddA K) (tCB (rLenA K) (tCons (tVar 1) tNil)) (tCall (S_take_ K) [] E (tCons (tVar 0) (tCons (tC (.int 3)) tNil)))) (tCons (tVar 7) tNil)))) (tCall (S_take_ K) [] E (tCons (tVar 0) (tCons (tC (.int 3)) tNil)))) (gName 7)) (tSeq (tAsg (tOp (rIxA K) (tLst (tCons (tVar 9) (tCons (tC .non) (tCons (tCall (S_take_ K) [] E (tCons (tVar 0) (tCons (tC (.int 1000)) tNil))) tNil)))) (tCall (S_take_ K) [] E (tCons (tVar 0) (tCons (tC (.int 3)) tNil)))) (gName 9)) (tIfS (tAnd (tTest (tChain (rI0 fun i j => .bl (decide (i ≤ j))) (rI0 fun i j => .bl (decide (i < j))) (tC (.int 0)) (tVar 7) (tCB (rLenA K) (tCons (tVar 1) tNil)))) (tTest (tOp (rEqA K) (tCall (S_take_ K) [] E (tCons (tVar 0) (tCons (tC (.int 2)) tNil))) (tC (.int 0))))) (tAsg (tCall (S_seen_ K) [] E (tCons (tOp (rIxA K) (tVar 1) (tVar 7)) (tCons (tVar 8) tNil))) (gName 9)) tNext))) (tIfS (tTest (tOp (rEqA K) (tCall (S_take_ K) [] E (tCons (tVar 0) (tCons (tC (.int 2)) tNil))) (tC (.int 0)))) (tAsg (tVar 7) (gSub (tVar 3) (tVar 6) rSetA)) tNext)) (tDrop (tBM K "list" rAppend (tVar 2) (tCons (tTup (tCons (tVar 6) (tCons (tVar 7) (tCons (tVar 8) (tCons (tVar 9) tNil))))) tNil))))))))) (tRet (tVar 2))))))
/-! _law_due -/
def t_due_ (K : PySem.W.Frag) (E : XK) : TS := (tSeq (tFor (iRng1 (tCons (tCB (rLenA K) (tCons (tVar 1) tNil)) tNil)) (gName 2) (tSeq (tAsg (tOp (rIxA K) (tVar 1) (tVar 2)) (gTup K 4 (gCons (gName 3) (gCons (gName 4) (gCons (gName 5) (gCons (gName 6) gNil)))))) (tSeq (tAsg (tLc (iSeq K (tSl (rSlAny K) (tVar 1) tNoPart (tPart (tVar 2)))) (gName 8) (tTest (tOp (rEqA K) (tOp (rIxA K) (tVar 8) (tC (.int 0))) (tVar 3))) (tOp (rIxA K) (tVar 8) (tC (.int 1))) [8]) (gName 7)) (tSeq (tIfS (tOr (tTest (tOp (rI0 fun i j => .bl (decide (i < j))) (tVar 4) (tC (.int 0)))) (tOr (tTest (tOp (rI0 fun i j => .bl (decide (j ≤ i))) (tVar 4) (tCB (rLenA K) (tCons (tVar 0) tNil)))) (tTest (tOp (rI0 fun i j => .bl (decide (i < j))) (tVar 4) (tCB (rMax K) (tCons (tOp (rAddA K) (tLst (tCons (tC (.int 0)) tNil)) (tVar 7)) tNil)))))) (tRet (tVar 2)) tNext) (tIfS (tTest (tOp (rNeA K) (tCall (S_seen_ K) [] E (tCons (tOp (rIxA K) (tVar 0) (tVar 4)) (tCons (tVar 5) tNil))) (tVar 6))) (tRet (tVar 2)) tNext))))) (tRet (tC .non)))
/-! _law_odd -/
def t_odd_ (K : PySem.W.Frag) (E : XK) : TS := (tSeq (tAsg (tCall (S_take_ K) [] E (tCons (tVar 0) (tCons (tOp (rAddA K) (tCB (rLenA K) (tCons (tVar 1) tNil)) (tC (.int 1))) tNil))) (gName 3)) (tSeq (tAsg (tCB (rMax K) (tCons (tOp (rAddA K) (tLst (tCons (tC (.int 0)) tNil)) (tLc (iSeq K (tSl (rSlAny K) (tVar 1) tNoPart (tPart (tVar 3)))) (gName 5) (tTest (tOp (rEqA K) (tOp (rIxA K) (tVar 5) (tC (.int 0))) (tC (.str "tick")))) (tOp (rIxA K) (tVar 5) (tC (.int 1))) [5])) tNil)) (gName 4)) (tSeq (tAsg (tLst (tCons (tTup (tCons (tTup (tCons (tC (.str "tick")) (tCons (tVar 4) tNil))) (tCons (tTup (tCons (tC (.str "BadEntry")) (tCons (tC (.int 0)) tNil))) tNil))) (tCons (tTup (tCons (tTup (tCons (tC (.str "tick")) (tCons (tOp (rAddA K) (tOp (rI CPow fun i j => .int (i ^ j.toNat)) (tC (.int 10)) (tC (.int 6))) (tC (.int 1))) tNil))) (tCons (tTup (tCons (tC (.str "BadEntry")) (tCons (tC (.int 0)) tNil))) tNil))) (tCons (tTup (tCons (tTup tNil) (tCons (tTup (tCons (tC (.str "BadEntry")) (tCons (tC (.int 0)) tNil))) tNil))) tNil)))) (gName 6)) (tSeq (tAsg (tOp (rAddA K) (tVar 6) (tLst (tCons (tTup (tCons (tTup (tCons (tC (.str "tick")) tNil)) (tCons (tTup (tCons (tC (.str "BadEntry")) (tCons (tC (.int 0)) tNil))) tNil))) (tCons (tTup (tCons (tTup (tCons (tC (.str "Deal")) (tCons (tC (.int 0)) (tCons (tTup (tCons (tTup (tCons (tC (.str "drop")) (tCons (tC (.int 0)) tNil))) tNil)) tNil)))) (tCons (tTup (tCons (tC (.str "BadEntry")) (tCons (tC (.int 0)) tNil))) tNil))) tNil)))) (gName 6)) (tSeq (tAsg (tOp (rAddA K) (tVar 6) (tLst (tCons (tTup (tCons (tTup (tCons (tC (.str "deal")) (tCons (tC (.int 4)) (tCons (tTup tNil) tNil)))) (tCons (tTup (tCons (tC (.str "BadHand")) (tCons (tC (.int 0)) tNil))) tNil))) (tCons (tTup (tCons (tTup (tCons (tC (.str "deal")) (tCons (tC (.int 0)) (tCons (tTup tNil) tNil)))) (tCons (tTup (tCons (tC (.str "BadDeal")) (tCons (tC (.int 0)) tNil))) tNil))) tNil)))) (gName 6)) (tSeq (tDrop (tBM K "list" rAppend (tVar 6) (tCons (tTup (tCons (tTup (tCons (tC (.str "deal")) (tCons (tC (.int 1)) (tCons (tTup (tCons (tTup (tCons (tC (.str "drop")) (tCons (tC (.int 0)) tNil))) (tCons (tTup (tCons (tC (.str "drop")) (tCons (tC (.int 32)) tNil))) tNil))) tNil)))) (tCons (tTup (tCons (tC (.str "BadDeal")) (tCons (tC (.int 1)) tNil))) tNil))) tNil))) (tSeq (tPar 7 8 (tCons (tCall (S_take_ K) [] E (tCons (tVar 0) (tCons (tC (.int 11)) tNil))) (tCons (tOp (rAddA K) (tC (.int 1)) (tCall (S_take_ K) [] E (tCons (tVar 0) (tCons (tOp (rIxA K) (tLst (tCons (tC (.int 3)) (tCons (tOp (rI CPow fun i j => .int (i ^ j.toNat)) (tC (.int 10)) (tC (.int 18))) tNil))) (tCall (S_take_ K) [] E (tCons (tVar 0) (tCons (tC (.int 2)) tNil)))) tNil)))) tNil))) (tSeq (tIfS (tTest (tOp (rI0 fun i j => .bl (decide (i < j))) (tVar 7) (tC (.int 8)))) (tSeq (tAsg (tOp (rIxA K) (tLst (tCons (tOp (rAddA K) (tSl (rSlAny K) (tVar 1) (tPart (tVar 3)) tNoPart) (tLst (tCons (tTup tNil) tNil))) (tCons (tLst tNil) tNil))) (tCall (S_take_ K) [] E (tCons (tVar 0) (tCons (tC (.int 2)) tNil)))) (gName 9)) (tRet (tTup (tCons (tOp (rAddA K) (tOp (rAddA K) (tSl (rSlAny K) (tVar 1) tNoPart (tPart (tVar 3))) (tLst (tCons (tOp (rIxA K) (tOp (rIxA K) (tVar 6) (tVar 7)) (tC (.int 0))) tNil))) (tVar 9)) (tCons (tOp (rAddA K) (tVar 2) (tLst (tCons (tTup (tCons (tC (.int 9)) (tCons (tC (.int 0)) (tCons (tC (.int 99)) (tCons (tC (.int 0)) tNil))))) tNil))) (tCons (tOp (rIxA K) (tOp (rIxA K) (tVar 6) (tVar 7)) (tC (.int 1))) tNil)))))) tNext) (tSeq (tIfS (tTest (tOp (rEqA K) (tVar 7) (tC (.int 10)))) (tRet (tTup (tCons (tOp (rAddA K) (tVar 1) (tLst (tCons (tTup (tCons (tC (.str "tick")) (tCons (tOp (rAddA K) (tOp (rI CPow fun i j => .int (i ^ j.toNat)) (tC (.int 10)) (tC (.int 6))) (tVar 8)) tNil))) tNil))) (tCons (tOp (rAddA K) (tVar 2) (tLst (tCons (tTup (tCons (tC (.int 9)) (tCons (tC (.int 0)) (tCons (tC (.int 99)) (tCons (tC (.int 0)) tNil))))) tNil))) (tCons (tTup (tCons (tC (.str "BadEntry")) (tCons (tC (.int 0)) tNil))) tNil))))) tNext) (tSeq (tAsg (tCall (S_take_ K) [] E (tCons (tVar 0) (tCons (tOp (rAddA K) (tCB (rLenA K) (tCons (tVar 2) tNil)) (tC (.int 1))) tNil))) (gName 10)) (tSeq (tAsg (tOp (rIxA K) (tLst (tCons (tTup (tCons (tTup (tCons (tC (.int 4)) (tCons (tC (.int 0)) (tCons (tC (.int 99)) (tCons (tC (.int 0)) tNil))))) (tCons (tTup (tCons (tC (.str "BadHand")) (tCons (tC (.int 0)) tNil))) tNil))) (tCons (tTup (tCons (tTup (tCons (tC (.int 0)) (tCons (tC (.int 0)) (tCons (tC (.int 32)) (tCons (tC (.int 0)) tNil))))) (tCons (tTup (tCons (tC (.str "BadKey")) (tCons (tC (.int 0)) tNil))) tNil))) tNil))) (tOp (rI0 fun i j => .int (i - j)) (tVar 7) (tC (.int 8)))) (gName 11)) (tRet (tTup (tCons (tVar 1) (tCons (tOp (rAddA K) (tOp (rAddA K) (tOp (rAddA K) (tSl (rSlAny K) (tVar 2) tNoPart (tPart (tVar 10))) (tLst (tCons (tOp (rIxA K) (tVar 11) (tC (.int 0))) tNil))) (tSl (rSlAny K) (tVar 2) (tPart (tVar 10)) tNoPart)) (tLst (tCons (tTup (tCons (tUn (rU fun i => .int (-i)) (tC (.int 1))) (tCons (tC (.int 0)) (tCons (tUn (rU fun i => .int (-i)) (tC (.int 1))) (tCons (tC (.int 0)) tNil))))) tNil))) (tCons (tOp (rIxA K) (tVar 11) (tC (.int 1))) tNil))))))))))))))))
/-! law -/
def t_law (K : PySem.W.Frag) (E : XK) : TS := (tSeq (tAsg (tCall (S_begun_ K) [] E (tCons (tVar 0) tNil)) (gName 1)) (tSeq (tAsg (tCall (S_entries_ K) [] E (tCons (tVar 1) tNil)) (gTup K 2 (gCons (gName 2) (gCons (gName 3) gNil)))) (tSeq (tFor (iRng1 (tCons (tC (.int 3)) tNil)) (gName 4) (tSeq (tAsg (tCall (S_readings_ K) [] E (tCons (tVar 1) (tCons (tVar 3) tNil))) (gName 5)) (tSeq (tAsg (tTup (tCons (tCB (rListA K) (tCons (tVar 2) tNil)) (tCons (tCB (rListA K) (tCons (tVar 5) tNil)) tNil))) (gName 6)) (tSeq (tFor (iRng1 (tCons (tC (.int 2)) tNil)) (gName 7) (tSeq (tAsg (tCall (S_judge K) [] E (tCons (tOp (rIxA K) (tVar 6) (tC (.int 0))) (tCons (tOp (rIxA K) (tVar 6) (tC (.int 1))) tNil))) (gName 8)) (tIfS (tOr (tNot (tTr K (tCall (S_alike_ K 9) [] E (tCons (tVar 8) (tCons (tCall (S_due_ K) [] E (tCons (tVar 3) (tCons (tVar 5) tNil))) tNil))))) (tTest (tOp (rNeA K) (tVar 6) (tTup (tCons (tVar 2) (tCons (tVar 5) tNil)))))) (tRet (tC (.bl false))) tNext))) (tSeq (tAsg (tCall (S_odd_ K) [] E (tCons (tVar 1) (tCons (tVar 2) (tCons (tVar 5) tNil)))) (gTup K 3 (gCons (gName 9) (gCons (gName 10) (gCons (gName 11) gNil))))) (tIfS (tNot (tTr K (tCall (S_alike_ K 9) [] E (tCons (LamX.tLam (tabs K) (TT_refused_ K) (fun E => (tCall (S_judge K) [] E (tCons (tVar 9) (tCons (tVar 10) tNil))))) (tCons (tVar 11) tNil))))) (tRet (tC (.bl false))) tNext)))))) (tRet (tC (.bl true))))))
end W

end
section
/-! ### M0: words for walking through a reading (local) -/
local macro_rules | `(tactic| walk_at "st") => `(tactic| first
  | (with_reducible refine Cm.s_seq ?_) | (with_reducible refine Cm.s_asg ?_) | (with_reducible refine Cm.s_drop ?_) | (with_reducible refine Cm.s_ret ?_) | (with_reducible refine Cm.s_if ?_) | (with_reducible refine Cm.s_next ?_) | (with_reducible refine Cm.s_retN ?_) | (with_reducible refine Cm.s_rs ?_) | (with_reducible refine Cm.s_fld0 ?_)
  | ((with_reducible refine' Cm.e_var ?hv ?_); (case hv => exact rfl))
  | (with_reducible refine Cm.e_c ?_) | (with_reducible refine Cm.e_op ?_) | (with_reducible refine Cm.e_un ?_) | (with_reducible refine Cm.e_nil ?_) | (with_reducible refine Cm.e_cons ?_) | (with_reducible refine Cm.e_tup ?_) | (with_reducible refine Cm.e_lst ?_) | (with_reducible refine Cm.e_cb ?_) | (with_reducible refine Cm.e_call ?_) | (with_reducible refine Cm.e_if ?_)
  | (with_reducible refine Cm.e_andV ?_) | (with_reducible refine Cm.e_orV ?_) | (with_reducible refine Cm.e_notV ?_) | (with_reducible refine Cm.e_fld0 ?_) | (with_reducible refine Cm.e_meth0 ?_) | (with_reducible refine Cm.e_bm0 ?_) | (with_reducible refine Cm.e_bm ?_) | (with_reducible refine Cm.e_sl ?_) | (with_reducible refine Cm.o_none ?_) | (with_reducible refine Cm.o_some ?_) | (with_reducible refine Cm.e_dnew ?_)
  | (with_reducible refine Cm.e_test ?_) | (with_reducible refine Cm.e_tr ?_) | (with_reducible refine Cm.e_and ?_) | (with_reducible refine Cm.e_or ?_) | (with_reducible refine Cm.e_not ?_) | (with_reducible refine Cm.e_yes ?_) | (with_reducible refine Cm.e_chain ?_)
  | (with_reducible refine Cm.r_i0 ?_) | (with_reducible refine Cm.r_u ?_) | (with_reducible refine Cm.r_isNo ?_) | (with_reducible refine Cm.r_notNo ?_) | (with_reducible refine Cm.r_addI ?_) | (with_reducible refine Cm.r_int1b ?_) | (with_reducible refine Cm.r_max2 ?_)
  | ((with_reducible refine Cm.r_i ?hc ?_); (case hc => walk_at "num"))
  | ((with_reducible refine Cm.r_mulI ?hc ?_); (case hc => walk_at "num"))
  | ((with_reducible refine Cm.r_eqS ?hc ?_); (case hc => exact rfl))
  | ((with_reducible refine Cm.r_neS ?hc ?_); (case hc => exact rfl))
  | ((with_reducible refine' Cm.r_ixl ?h1 ?h2 ?_); (case h1 => walk_at "look"); (case h2 => walk_at "at"))
  | ((with_reducible refine' Cm.r_ixt ?h1 ?h2 ?_); (case h1 => walk_at "look"); (case h2 => walk_at "at"))
  | ((with_reducible refine' Cm.r_ixT ?h1 ?h2 ?_); (case h1 => walk_at "lookT"); (case h2 => walk_at "at"))
  | ((with_reducible refine' Cm.r_ixds ?h1 ?h2 ?_); (case h1 => walk_at "look"); (case h2 => walk_at "key"))
  | ((with_reducible refine' Cm.r_eqe ?h1 ?h2 ?_); (case h1 => walk_at "look"); (case h2 => walk_at "look"))
  | ((with_reducible refine' Cm.r_nee ?h1 ?h2 ?_); (case h1 => walk_at "look"); (case h2 => walk_at "look"))
  | ((with_reducible refine' Cm.r_lenl ?h1 ?_); (case h1 => walk_at "look"))
  | ((with_reducible refine' Cm.r_lent ?h1 ?_); (case h1 => walk_at "look"))
  | ((with_reducible refine' Cm.r_lenT ?h1 ?_); (case h1 => walk_at "lookT"))
  | ((with_reducible refine' Cm.r_listl ?h1 ?_); (case h1 => walk_at "look"); (intro _ _))
  | ((with_reducible refine' Cm.r_tupl ?h1 ?_); (case h1 => walk_at "look"); (intro _ _))
  | ((with_reducible refine' Cm.r_addL ?h1 ?h2 ?h3 ?_); (case h1 => walk_at "look"); (case h2 => walk_at "look"); (case h3 => walk_at "size"); (intro _ _))
  | ((with_reducible refine' Cm.m_append ?h1 ?h2 ?_); (case h1 => walk_at "look"); (case h2 => walk_at "size"))
  | ((with_reducible refine' Cm.m_clear ?h1 ?_); (case h1 => walk_at "look"))
  | ((with_reducible refine' Cm.g_setL ?h1 ?h2 ?_); (case h1 => walk_at "look"); (case h2 => walk_at "ix"))
  | ((with_reducible refine' Cm.g_setDs ?h1 ?h2 ?h3 ?_); (case h1 => walk_at "look"); (case h2 => walk_at "size"); (case h3 => walk_at "put"))
  | ((with_reducible refine' Cm.fld_at ?h1 ?h2 ?h3 ?h4 ?_); (case h1 => walk_at "look"); (case h2 => assumption); (case h3 => assumption); (case h4 => walk_at "key"))
  | ((with_reducible refine' Cm.fldset_at ?h1 ?h2 ?h3 ?h4 ?h5 ?_); (case h1 => walk_at "look"); (case h2 => assumption); (case h3 => assumption); (case h4 => walk_at "size"); (case h5 => walk_at "put"))
  | (with_reducible refine Cm.s_fldaug0 ?_)
  | ((with_reducible refine' Cm.aug_at ?h1 ?h2 ?h3 ?h4 ?_); (case h1 => walk_at "look"); (case h2 => assumption); (case h3 => assumption); (case h4 => walk_at "key"))
  | ((with_reducible refine' Cm.augset_at ?h1 ?h4 ?h5 ?_); (case h1 => walk_at "look"); (case h4 => walk_at "size"); (case h5 => walk_at "put"))
  | (with_reducible refine Cm.in_sub_at ?_) | (with_reducible refine Cm.in_add_at ?_)
  | ((with_reducible refine' Cm.meth_at ?h1 ?h2 ?_); (case h1 => walk_at "look"); (case h2 => walk_at "key"))
  | ((with_reducible refine Cm.new_at ?h1 ?_); (case h1 => walk_at "size"); (intro _ _))
  | ((with_reducible refine Cm.and_at (A := L2.tyV _ "list" _ _) ?h1 ?_); (case h1 => exact Cm.ty_lst (by walk_at "look")))
  | ((with_reducible refine' Cm.g_tupt ?h1 ?h2 ?_); (case h1 => walk_at "look"); (case h2 => exact rfl))
  | ((with_reducible refine' Cm.g_tup ?h1 ?h2 ?_); (case h1 => walk_at "lookT"); (case h2 => exact rfl))
  | (with_reducible refine Cm.g_name ?_) | (with_reducible refine Cm.g_sub ?_) | (with_reducible refine Cm.g_cons ?_) | (with_reducible refine Cm.g_nil ?_)
  | (with_reducible refine Cm.int_at ?_) | (with_reducible refine Cm.bl_at ?_) | (with_reducible refine Cm.tr_bl ?_) | (with_reducible refine Cm.tr_non ?_)
  | ((with_reducible refine' Cm.m_pop0 ?h1 ?_); (case h1 => walk_at "look"))
  | ((with_reducible refine' Cm.r_slTo ?h1 ?h2 ?_); (case h1 => walk_at "look"); (case h2 => walk_at "num2"); (intro _ _))
  | ((with_reducible refine' Cm.r_slFrom ?h1 ?h2 ?_); (case h1 => walk_at "look"); (case h2 => walk_at "num2"); (intro _ _))
  | ((with_reducible refine' Cm.at_forL ?h1 ?_); (case h1 => walk_at "look"))
  | ((with_reducible refine' Cm.at_forT ?h1 ?_); (case h1 => walk_at "look"))
  | ((with_reducible refine' Cm.at_forR ?h1 ?h2 ?_); (case h1 => walk_at "num2"); (case h2 => walk_at "num2"))
  | ((with_reducible refine' Cm.at_forZ ?h1 ?h2 ?_); (case h1 => walk_at "look"); (case h2 => walk_at "look"))
  | (with_reducible refine Cm.s_forZ ?_) | (with_reducible refine Cm.s_forR ?_)
  | ((with_reducible refine Cm.and_at (A := _ = _) ?h1 ?_); (case h1 => exact rfl))
  | ((with_reducible show L2.rIsi _ _ _ _); walk_at "isi")
  | (with_reducible refine Cm.ite_nt ?_) | (with_reducible refine Cm.ite_nf ?_)
  | (with_reducible refine L2.iteT ?_) | (with_reducible refine L2.iteF ?_)
  | dsimp only
  | fail)
local macro_rules | `(tactic| walk_at "run") => `(tactic| repeat (walk_at "st"))
local macro_rules | `(tactic| walk_at "num") => `(tactic| first
  | exact Or.inr ⟨by decide, by decide⟩ | exact Or.inl ⟨by decide, by decide⟩
  | exact Cm.wdiv (by first | decide | omega) (by first | decide | omega)
  | (show (0 : Int) < _; first | decide | omega)
  | exact ⟨by decide, by decide, by decide⟩
  | fail)
local macro_rules | `(tactic| walk_at "put") => `(tactic| exact rfl)
local macro_rules | `(tactic| walk_at "fl") => `(tactic| first | exact Cm.fl0 | (refine' Cm.flS ?hz; (case hz => walk_at "fl")) | fail)
local macro_rules | `(tactic| walk_at "size") => `(tactic| first | exact Cm.sz_lit rfl | exact Cm.sz_lt rfl | exact Cm.fs_lt rfl | decide | (refine' Nat.lt_of_le_of_lt ?ha ?hb; (case ha => walk_at "fl"); (case hb => decide)) | (simp only [List.length_cons, List.length_nil, List.length_append, List.length_map, List.length_set, List.length_replicate, PySem.sizeLine_eq]; omega) | (simp only [List.length_cons, List.length_nil, List.length_append, List.length_map, List.length_set, List.length_replicate, PySem.sizeLine_eq] at *; omega) | fail)
local macro_rules | `(tactic| walk_at "at") => `(tactic| first | assumption | (with_reducible exact Cm.at0) | (with_reducible exact Cm.at1) | (with_reducible exact Cm.at2) | (with_reducible exact Cm.at3) | (with_reducible exact Cm.at4) | (with_reducible exact Cm.at5) | (with_reducible exact Cm.at6) | (with_reducible exact Cm.at7) | (with_reducible exact Cm.at8) | (with_reducible exact Cm.at0s) | (with_reducible exact Cm.at1s) | (with_reducible exact Cm.at01s) | (with_reducible exact Cm.at10s) | fail)
local macro_rules | `(tactic| walk_at "ix") => `(tactic| first | exact Cm.ix0 (by walk_at "size") | exact Cm.ix1 (by walk_at "size") | assumption | fail)
local macro_rules | `(tactic| walk_at "key") => `(tactic| first | assumption | fail)
local macro_rules | `(tactic| walk_at "ne") => `(tactic| first
  | assumption
  | (refine Ne.symm ?_; assumption)
  | (refine' L2.ne_of_none ?h1 ?h2; (case h2 => assumption); (case h1 => walk_at "look"))
  | (refine' Ne.symm (L2.ne_of_none ?h1 ?h2); (case h2 => assumption); (case h1 => walk_at "look"))
  | fail)
local macro_rules | `(tactic| walk_at "lookT") => `(tactic| first
  | assumption
  | exact L2.SqT.of (by walk_at "look")
  | fail)
local macro_rules | `(tactic| walk_at "look") => `(tactic| first
  | assumption
  | exact L2.upd_same
  | ((fail_if_success (with_reducible refine Eq.trans L2.upd_same ?_)); (refine' Eq.trans (L2.upd_ne ?h1) ?h2); (case h1 => walk_at "ne"); (case h2 => walk_at "look"))
  | (refine' Cm.kp_look ?h1 ?h2 ?h3 ?h4; (case h1 => assumption); (case h2 => walk_at "look"); (case h3 => intro _ z; cases z); (case h4 => first | exact Or.inl rfl | exact Or.inr (by walk_at "out")))
  | fail)
local macro_rules | `(tactic| walk_at "out") => `(tactic| first
  | assumption
  | exact fun z => z
  | exact fun z => z.elim (fun e => absurd e (by walk_at "ne")) (fun e => absurd e (by walk_at "ne"))
  | exact fun e => absurd e (by walk_at "ne")
  | fail)
local macro_rules | `(tactic| walk_at "dom") => `(tactic| first
  | exact Cm.dm_refl
  | (refine Cm.dm_upd ?_; walk_at "dom")
  | (refine' Cm.dm_kp ?h1 ?h2; (case h2 => assumption); (case h1 => walk_at "dom"))
  | fail)
local macro_rules | `(tactic| walk_at "free") => `(tactic| first
  | assumption
  | exact Cm.nw_of (by assumption)
  | (refine' Cm.dm_use ?h1 ?h2; (case h2 => assumption); (case h1 => walk_at "dom"))
  | (refine' Cm.dm_use2 ?h1 ?h2; (case h2 => assumption); (case h1 => walk_at "dom"))
  | fail)
local macro_rules | `(tactic| walk_at "in") => `(tactic| first
  | exact Or.inl rfl | exact Or.inl (Or.inl rfl) | exact Or.inl (Or.inr rfl) | exact Or.inl (Or.inr (Or.inl rfl)) | exact Or.inl (Or.inr (Or.inr rfl))
  | exact Or.inl (by assumption)
  | exact Or.inr (by walk_at "free")
  | fail)
local macro_rules | `(tactic| walk_at "kp") => `(tactic| first
  | assumption
  | exact Cm.Kp.refl
  | (refine' Cm.Kp.new' ?h1 ?h2; (case h2 => assumption); (case h1 => walk_at "kp"))
  | (refine' Cm.Kp.setX' ?h1 ?h2 ?h4 ?h5 ?h3; (case h2 => walk_at "look"); (case h4 => exact rfl); (case h5 => intro _ z; cases z); (case h3 => walk_at "in"); (case h1 => walk_at "kp"))
  | (refine' Cm.kp_step ?h1 ?h2 ?h3; (case h2 => assumption); (case h3 => walk_at "sub"); (case h1 => walk_at "kp"))
  | fail)
local macro_rules | `(tactic| walk_at "sub") => `(tactic| first
  | exact fun _ z => z.elim
  | exact fun _ z => Or.inl z
  | (intro a z; rcases z with rfl | rfl <;> walk_at "in")
  | (intro a z; subst z; walk_at "in")
  | fail)
local macro_rules | `(tactic| walk_at "num2") => `(tactic| first | decide | omega | fail)

local macro_rules | `(tactic| walk_at "isi") => `(tactic| first | (with_reducible refine Cm.isi_non_bool ?_) | (with_reducible refine Cm.isi_non_int ?_) | (with_reducible refine Cm.isi_non_str ?_) | (with_reducible refine Cm.isi_non_tuple ?_) | (with_reducible refine Cm.isi_non_list ?_) | (with_reducible refine Cm.isi_bl_bool ?_) | (with_reducible refine Cm.isi_bl_int ?_) | (with_reducible refine Cm.isi_bl_str ?_) | (with_reducible refine Cm.isi_bl_tuple ?_) | (with_reducible refine Cm.isi_bl_list ?_) | (with_reducible refine Cm.isi_int_bool ?_) | (with_reducible refine Cm.isi_int_int ?_) | (with_reducible refine Cm.isi_int_str ?_) | (with_reducible refine Cm.isi_int_tuple ?_) | (with_reducible refine Cm.isi_int_list ?_) | (with_reducible refine Cm.isi_str_bool ?_) | (with_reducible refine Cm.isi_str_int ?_) | (with_reducible refine Cm.isi_str_str ?_) | (with_reducible refine Cm.isi_str_tuple ?_) | (with_reducible refine Cm.isi_str_list ?_) | ((with_reducible refine' Cm.isi_tup_bool ?h1 ?_); (case h1 => walk_at "look")) | ((with_reducible refine' Cm.isi_tup_int ?h1 ?_); (case h1 => walk_at "look")) | ((with_reducible refine' Cm.isi_tup_str ?h1 ?_); (case h1 => walk_at "look")) | ((with_reducible refine' Cm.isi_tup_tuple ?h1 ?_); (case h1 => walk_at "look")) | ((with_reducible refine' Cm.isi_tup_list ?h1 ?_); (case h1 => walk_at "look")) | ((with_reducible refine' Cm.isi_lst_bool ?h1 ?_); (case h1 => walk_at "look")) | ((with_reducible refine' Cm.isi_lst_int ?h1 ?_); (case h1 => walk_at "look")) | ((with_reducible refine' Cm.isi_lst_str ?h1 ?_); (case h1 => walk_at "look")) | ((with_reducible refine' Cm.isi_lst_tuple ?h1 ?_); (case h1 => walk_at "look")) | ((with_reducible refine' Cm.isi_lst_list ?h1 ?_); (case h1 => walk_at "look")) | fail)

/-! ### M1: more words -/
local macro_rules | `(tactic| walk_at "st") => `(tactic| first
  | ((with_reducible refine Cm.and_at (A := L2.tyV _ "dict" _ _) ?h1 ?_); (case h1 => exact Cm.ty_dic (by walk_at "look")))
  | (with_reducible refine Cm.e_dget2 ?_) | (with_reducible refine Cm.e_dpop2 ?_) | (with_reducible refine Cm.e_dpop1 ?_) | (with_reducible refine Cm.s_rx ?_)
  | ((with_reducible refine' Cm.isd_at ?h1 ?_); (case h1 => walk_at "look"))
  | ((with_reducible refine' Cm.get_at ?h1 ?_); (case h1 => walk_at "look"))
  | ((with_reducible refine' Cm.pop1_at ?h1 ?h2 ?_); (case h1 => walk_at "look"); (case h2 => assumption))
  | ((with_reducible refine' Cm.r_dictD ?h1 ?_); (case h1 => walk_at "look"); (intro _ _))
  | ((with_reducible refine' Cm.r_lenD ?h1 ?_); (case h1 => walk_at "look"))
  | ((with_reducible refine' Cm.r_ixdi ?h1 ?h2 ?_); (case h1 => walk_at "look"); (case h2 => assumption))
  | ((with_reducible refine' Cm.g_setdi ?h1 ?h2 ?_); (case h1 => walk_at "look"); (case h2 => first | assumption | omega))
  | (with_reducible refine Cm.r_min2 ?_)
  | (with_reducible refine W.r_eq_lv ?_) | (with_reducible refine W.r_ne_lv ?_) | (with_reducible refine W.r_isNo_lv ?_) | (with_reducible refine W.r_notNo_lv ?_)
  | fail)

local macro_rules | `(tactic| walk_at "key") => `(tactic| first | exact W.tF_g_rows | exact W.tF_g_hands | exact W.tF_g_moment | exact W.tF_g_number | exact W.tF_n_row_at | exact W.tF_n_shown | exact W.tF_n_content | exact W.tF_n_put_page | exact W.tF_n_prune | exact W.tF_n_change | exact W.tF_n_whole)
local macro_rules | `(tactic| walk_at "put") => `(tactic| first | exact W.tF_p_rows | exact W.tF_p_hands | exact W.tF_p_moment | exact W.tF_p_number)
local macro_rules | `(tactic| walk_at "size") => `(tactic| (rw [W.tF_len]; decide))

local macro_rules | `(tactic| walk_at "key") => `(tactic| first | exact W.oS_g_rows | exact W.oS_g_hands | exact W.oS_g_moment | exact W.oS_g_number)
local macro_rules | `(tactic| walk_at "put") => `(tactic| first | exact W.oS_p_rows | exact W.oS_p_hands | exact W.oS_p_moment | exact W.oS_p_number)
local macro_rules | `(tactic| walk_at "size") => `(tactic| (rw [W.oS_len]; decide))

namespace W
open PySem PySem.Spec PyProof.Rows L2 Cm
section
variable {w : World} {K : PySem.W.Frag} {mg : Str → Option Value}
theorem pure_need_entry (vs : List V) (H : Hp) (Q : VK) (E : XK) (h : S_need_entry K vs H Q E) : t_need_entry K E { nx := fun _ H' => Q .non H', rt := Q } (start N_need_entry vs) H := by
  obtain ⟨_, _, rfl, d, m, r, hx, hd, rfl, hn, k1, k2, k3⟩ := h
  unfold t_need_entry
  -- a deal's entry
  have dl : ∀ hnd es, d = .tuple [.str "deal", .int hnd, .tuple es] → (0 ≤ hnd ∧ hnd < 4 → ∃ q, NeedD es q ∧ (q = none → r = .ok m) ∧ ∀ p, q = some p → r = .deal p) → (¬ (0 ≤ hnd ∧ hnd < 4) → r = .bad "BadHand") → t_need_entry K E { nx := fun _ H' => Q .non H', rt := Q } (start N_need_entry [‹V›, .int m]) H := by
    intro hnd es e1 e2 e3
    subst e1
    obtain ⟨a, v0, v1, v2, rfl, ha, rfl, rfl, hv2⟩ := dt3.mp hx
    unfold t_need_entry
    walk_at "run"
    refine if_dF (fun z => by injection z with z; simp only [List.length_cons, List.length_nil] at z; omega) ?_
    walk_at "run"
    refine if_ndF rfl ?_
    walk_at "run"
    refine if_ndF rfl ?_
    walk_at "run"
    refine ⟨_, rfl, hnd, rfl, fun h1 => ?_, fun h1 => k2 "BadHand" (e3 h1) H Kp.refl⟩
    obtain ⟨q, hq, q1, q2⟩ := e2 h1
    walk_at "run"
    refine ⟨_, rfl, es, q, hv2, (hd.2 _ (by simp)).up (by decide), hq, fun e H' kp => ?_, fun p e => k3 p (q2 p e)⟩
    walk_at "run"
    exact k1 m (q1 e) H' kp
  cases r with
  | ok m' =>
    rcases hn with ⟨t, rfl, ht, rfl⟩ | ⟨hnd, es, e1, h1, h2, rfl⟩
    · obtain ⟨a, v0, v1, rfl, ha, rfl, rfl⟩ := dt2.mp hx
      walk_at "run"
      refine if_dT rfl ?_
      walk_at "run"
      refine if_dT rfl ?_
      walk_at "run"
      refine if_dT ht.1 ?_
      walk_at "run"
      refine if_ndF (by have := ht.2; omega) ?_
      walk_at "run"
      exact k1 _ rfl H Kp.refl
    · exact dl hnd es e1 (fun _ => ⟨none, h2, fun _ => rfl, fun p z => by cases z⟩) (fun z => (z h1).elim)
  | deal p =>
    obtain ⟨hnd, es, e1, h1, h2⟩ := hn
    exact dl hnd es e1 (fun _ => ⟨some p, h2, (fun z => by cases z), (fun p' z => by cases z; rfl)⟩) (fun z => (z h1).elim)
  | bad c =>
    rcases hn with ⟨rfl, h | h | h⟩ | ⟨rfl, hnd, es, e1, h1⟩
    · obtain ⟨t, rfl, ht⟩ := h
      obtain ⟨a, v0, v1, rfl, ha, rfl, rfl⟩ := dt2.mp hx
      walk_at "run"
      refine if_dT rfl ?_
      walk_at "run"
      refine if_dT rfl ?_
      walk_at "run"
      refine if_d (fun h1 => ?_) (fun h1 => ?_)
      · walk_at "run"
        refine if_ndT (fun h2 => ht ⟨h1, by omega⟩) ?_
        walk_at "run"
        exact k2 _ rfl H Kp.refl
      · walk_at "run"
        exact k2 _ rfl H Kp.refl
    · obtain ⟨ds, rfl, h2, h3⟩ := h
      obtain ⟨a, xs, rfl, ha, hA⟩ := hx
      have hl := hA.length
      walk_at "run"
      refine if_dF (fun z => h2 (by injection z; omega)) ?_
      walk_at "run"
      refine if_ndT (fun z => h3 (by injection z; omega)) ?_
      walk_at "run"
      exact k2 _ rfl H Kp.refl
    · obtain ⟨w, x, y, rfl, hw⟩ := h
      obtain ⟨a, v0, v1, v2, rfl, ha, rfl, hv1, hv2⟩ := dt3.mp hx
      walk_at "run"
      refine if_dF (fun z => by injection z with z; simp only [List.length_cons, List.length_nil] at z; omega) ?_
      walk_at "run"
      refine if_ndF rfl ?_
      walk_at "run"
      refine if_ndT (fun z => hw (by injection z)) ?_
      walk_at "run"
      exact k2 _ rfl H Kp.refl
    · exact dl hnd es e1 (fun z => (h1 z).elim) (fun _ => rfl)
end
end W

end
section
/-! ### M0: words for walking through a reading (local) -/
local macro_rules | `(tactic| walk_at "st") => `(tactic| first
  | (with_reducible refine Cm.s_seq ?_) | (with_reducible refine Cm.s_asg ?_) | (with_reducible refine Cm.s_drop ?_) | (with_reducible refine Cm.s_ret ?_) | (with_reducible refine Cm.s_if ?_) | (with_reducible refine Cm.s_next ?_) | (with_reducible refine Cm.s_retN ?_) | (with_reducible refine Cm.s_rs ?_) | (with_reducible refine Cm.s_fld0 ?_)
  | ((with_reducible refine' Cm.e_var ?hv ?_); (case hv => exact rfl))
  | (with_reducible refine Cm.e_c ?_) | (with_reducible refine Cm.e_op ?_) | (with_reducible refine Cm.e_un ?_) | (with_reducible refine Cm.e_nil ?_) | (with_reducible refine Cm.e_cons ?_) | (with_reducible refine Cm.e_tup ?_) | (with_reducible refine Cm.e_lst ?_) | (with_reducible refine Cm.e_cb ?_) | (with_reducible refine Cm.e_call ?_) | (with_reducible refine Cm.e_if ?_)
  | (with_reducible refine Cm.e_andV ?_) | (with_reducible refine Cm.e_orV ?_) | (with_reducible refine Cm.e_notV ?_) | (with_reducible refine Cm.e_fld0 ?_) | (with_reducible refine Cm.e_meth0 ?_) | (with_reducible refine Cm.e_bm0 ?_) | (with_reducible refine Cm.e_bm ?_) | (with_reducible refine Cm.e_sl ?_) | (with_reducible refine Cm.o_none ?_) | (with_reducible refine Cm.o_some ?_) | (with_reducible refine Cm.e_dnew ?_)
  | (with_reducible refine Cm.e_test ?_) | (with_reducible refine Cm.e_tr ?_) | (with_reducible refine Cm.e_and ?_) | (with_reducible refine Cm.e_or ?_) | (with_reducible refine Cm.e_not ?_) | (with_reducible refine Cm.e_yes ?_) | (with_reducible refine Cm.e_chain ?_)
  | (with_reducible refine Cm.r_i0 ?_) | (with_reducible refine Cm.r_u ?_) | (with_reducible refine Cm.r_isNo ?_) | (with_reducible refine Cm.r_notNo ?_) | (with_reducible refine Cm.r_addI ?_) | (with_reducible refine Cm.r_int1b ?_) | (with_reducible refine Cm.r_max2 ?_)
  | ((with_reducible refine Cm.r_i ?hc ?_); (case hc => walk_at "num"))
  | ((with_reducible refine Cm.r_mulI ?hc ?_); (case hc => walk_at "num"))
  | ((with_reducible refine Cm.r_eqS ?hc ?_); (case hc => exact rfl))
  | ((with_reducible refine Cm.r_neS ?hc ?_); (case hc => exact rfl))
  | ((with_reducible refine' Cm.r_ixl ?h1 ?h2 ?_); (case h1 => walk_at "look"); (case h2 => walk_at "at"))
  | ((with_reducible refine' Cm.r_ixt ?h1 ?h2 ?_); (case h1 => walk_at "look"); (case h2 => walk_at "at"))
  | ((with_reducible refine' Cm.r_ixT ?h1 ?h2 ?_); (case h1 => walk_at "lookT"); (case h2 => walk_at "at"))
  | ((with_reducible refine' Cm.r_ixds ?h1 ?h2 ?_); (case h1 => walk_at "look"); (case h2 => walk_at "key"))
  | ((with_reducible refine' Cm.r_eqe ?h1 ?h2 ?_); (case h1 => walk_at "look"); (case h2 => walk_at "look"))
  | ((with_reducible refine' Cm.r_nee ?h1 ?h2 ?_); (case h1 => walk_at "look"); (case h2 => walk_at "look"))
  | ((with_reducible refine' Cm.r_lenl ?h1 ?_); (case h1 => walk_at "look"))
  | ((with_reducible refine' Cm.r_lent ?h1 ?_); (case h1 => walk_at "look"))
  | ((with_reducible refine' Cm.r_lenT ?h1 ?_); (case h1 => walk_at "lookT"))
  | ((with_reducible refine' Cm.r_listl ?h1 ?_); (case h1 => walk_at "look"); (intro _ _))
  | ((with_reducible refine' Cm.r_tupl ?h1 ?_); (case h1 => walk_at "look"); (intro _ _))
  | ((with_reducible refine' Cm.r_addL ?h1 ?h2 ?h3 ?_); (case h1 => walk_at "look"); (case h2 => walk_at "look"); (case h3 => walk_at "size"); (intro _ _))
  | ((with_reducible refine' Cm.m_append ?h1 ?h2 ?_); (case h1 => walk_at "look"); (case h2 => walk_at "size"))
  | ((with_reducible refine' Cm.m_clear ?h1 ?_); (case h1 => walk_at "look"))
  | ((with_reducible refine' Cm.g_setL ?h1 ?h2 ?_); (case h1 => walk_at "look"); (case h2 => walk_at "ix"))
  | ((with_reducible refine' Cm.g_setDs ?h1 ?h2 ?h3 ?_); (case h1 => walk_at "look"); (case h2 => walk_at "size"); (case h3 => walk_at "put"))
  | ((with_reducible refine' Cm.fld_at ?h1 ?h2 ?h3 ?h4 ?_); (case h1 => walk_at "look"); (case h2 => assumption); (case h3 => assumption); (case h4 => walk_at "key"))
  | ((with_reducible refine' Cm.fldset_at ?h1 ?h2 ?h3 ?h4 ?h5 ?_); (case h1 => walk_at "look"); (case h2 => assumption); (case h3 => assumption); (case h4 => walk_at "size"); (case h5 => walk_at "put"))
  | (with_reducible refine Cm.s_fldaug0 ?_)
  | ((with_reducible refine' Cm.aug_at ?h1 ?h2 ?h3 ?h4 ?_); (case h1 => walk_at "look"); (case h2 => assumption); (case h3 => assumption); (case h4 => walk_at "key"))
  | ((with_reducible refine' Cm.augset_at ?h1 ?h4 ?h5 ?_); (case h1 => walk_at "look"); (case h4 => walk_at "size"); (case h5 => walk_at "put"))
  | (with_reducible refine Cm.in_sub_at ?_) | (with_reducible refine Cm.in_add_at ?_)
  | ((with_reducible refine' Cm.meth_at ?h1 ?h2 ?_); (case h1 => walk_at "look"); (case h2 => walk_at "key"))
  | ((with_reducible refine Cm.new_at ?h1 ?_); (case h1 => walk_at "size"); (intro _ _))
  | ((with_reducible refine Cm.and_at (A := L2.tyV _ "list" _ _) ?h1 ?_); (case h1 => exact Cm.ty_lst (by walk_at "look")))
  | ((with_reducible refine' Cm.g_tupt ?h1 ?h2 ?_); (case h1 => walk_at "look"); (case h2 => exact rfl))
  | ((with_reducible refine' Cm.g_tup ?h1 ?h2 ?_); (case h1 => walk_at "lookT"); (case h2 => exact rfl))
  | (with_reducible refine Cm.g_name ?_) | (with_reducible refine Cm.g_sub ?_) | (with_reducible refine Cm.g_cons ?_) | (with_reducible refine Cm.g_nil ?_)
  | (with_reducible refine Cm.int_at ?_) | (with_reducible refine Cm.bl_at ?_) | (with_reducible refine Cm.tr_bl ?_) | (with_reducible refine Cm.tr_non ?_)
  | ((with_reducible refine' Cm.m_pop0 ?h1 ?_); (case h1 => walk_at "look"))
  | ((with_reducible refine' Cm.r_slTo ?h1 ?h2 ?_); (case h1 => walk_at "look"); (case h2 => walk_at "num2"); (intro _ _))
  | ((with_reducible refine' Cm.r_slFrom ?h1 ?h2 ?_); (case h1 => walk_at "look"); (case h2 => walk_at "num2"); (intro _ _))
  | ((with_reducible refine' Cm.at_forL ?h1 ?_); (case h1 => walk_at "look"))
  | ((with_reducible refine' Cm.at_forT ?h1 ?_); (case h1 => walk_at "look"))
  | ((with_reducible refine' Cm.at_forR ?h1 ?h2 ?_); (case h1 => walk_at "num2"); (case h2 => walk_at "num2"))
  | ((with_reducible refine' Cm.at_forZ ?h1 ?h2 ?_); (case h1 => walk_at "look"); (case h2 => walk_at "look"))
  | (with_reducible refine Cm.s_forZ ?_) | (with_reducible refine Cm.s_forR ?_)
  | ((with_reducible refine Cm.and_at (A := _ = _) ?h1 ?_); (case h1 => exact rfl))
  | ((with_reducible show L2.rIsi _ _ _ _); walk_at "isi")
  | (with_reducible refine Cm.ite_nt ?_) | (with_reducible refine Cm.ite_nf ?_)
  | (with_reducible refine L2.iteT ?_) | (with_reducible refine L2.iteF ?_)
  | dsimp only
  | fail)
local macro_rules | `(tactic| walk_at "run") => `(tactic| repeat (walk_at "st"))
local macro_rules | `(tactic| walk_at "num") => `(tactic| first
  | exact Or.inr ⟨by decide, by decide⟩ | exact Or.inl ⟨by decide, by decide⟩
  | exact Cm.wdiv (by first | decide | omega) (by first | decide | omega)
  | (show (0 : Int) < _; first | decide | omega)
  | exact ⟨by decide, by decide, by decide⟩
  | fail)
local macro_rules | `(tactic| walk_at "put") => `(tactic| exact rfl)
local macro_rules | `(tactic| walk_at "fl") => `(tactic| first | exact Cm.fl0 | (refine' Cm.flS ?hz; (case hz => walk_at "fl")) | fail)
local macro_rules | `(tactic| walk_at "size") => `(tactic| first | exact Cm.sz_lit rfl | exact Cm.sz_lt rfl | exact Cm.fs_lt rfl | decide | (refine' Nat.lt_of_le_of_lt ?ha ?hb; (case ha => walk_at "fl"); (case hb => decide)) | (simp only [List.length_cons, List.length_nil, List.length_append, List.length_map, List.length_set, List.length_replicate, PySem.sizeLine_eq]; omega) | (simp only [List.length_cons, List.length_nil, List.length_append, List.length_map, List.length_set, List.length_replicate, PySem.sizeLine_eq] at *; omega) | fail)
local macro_rules | `(tactic| walk_at "at") => `(tactic| first | assumption | (with_reducible exact Cm.at0) | (with_reducible exact Cm.at1) | (with_reducible exact Cm.at2) | (with_reducible exact Cm.at3) | (with_reducible exact Cm.at4) | (with_reducible exact Cm.at5) | (with_reducible exact Cm.at6) | (with_reducible exact Cm.at7) | (with_reducible exact Cm.at8) | (with_reducible exact Cm.at0s) | (with_reducible exact Cm.at1s) | (with_reducible exact Cm.at01s) | (with_reducible exact Cm.at10s) | fail)
local macro_rules | `(tactic| walk_at "ix") => `(tactic| first | exact Cm.ix0 (by walk_at "size") | exact Cm.ix1 (by walk_at "size") | assumption | fail)
local macro_rules | `(tactic| walk_at "key") => `(tactic| first | assumption | fail)
local macro_rules | `(tactic| walk_at "ne") => `(tactic| first
  | assumption
  | (refine Ne.symm ?_; assumption)
  | (refine' L2.ne_of_none ?h1 ?h2; (case h2 => assumption); (case h1 => walk_at "look"))
  | (refine' Ne.symm (L2.ne_of_none ?h1 ?h2); (case h2 => assumption); (case h1 => walk_at "look"))
  | fail)
local macro_rules | `(tactic| walk_at "lookT") => `(tactic| first
  | assumption
  | exact L2.SqT.of (by walk_at "look")
  | fail)
local macro_rules | `(tactic| walk_at "look") => `(tactic| first
  | assumption
  | exact L2.upd_same
  | ((fail_if_success (with_reducible refine Eq.trans L2.upd_same ?_)); (refine' Eq.trans (L2.upd_ne ?h1) ?h2); (case h1 => walk_at "ne"); (case h2 => walk_at "look"))
  | (refine' Cm.kp_look ?h1 ?h2 ?h3 ?h4; (case h1 => assumption); (case h2 => walk_at "look"); (case h3 => intro _ z; cases z); (case h4 => first | exact Or.inl rfl | exact Or.inr (by walk_at "out")))
  | fail)
local macro_rules | `(tactic| walk_at "out") => `(tactic| first
  | assumption
  | exact fun z => z
  | exact fun z => z.elim (fun e => absurd e (by walk_at "ne")) (fun e => absurd e (by walk_at "ne"))
  | exact fun e => absurd e (by walk_at "ne")
  | fail)
local macro_rules | `(tactic| walk_at "dom") => `(tactic| first
  | exact Cm.dm_refl
  | (refine Cm.dm_upd ?_; walk_at "dom")
  | (refine' Cm.dm_kp ?h1 ?h2; (case h2 => assumption); (case h1 => walk_at "dom"))
  | fail)
local macro_rules | `(tactic| walk_at "free") => `(tactic| first
  | assumption
  | exact Cm.nw_of (by assumption)
  | (refine' Cm.dm_use ?h1 ?h2; (case h2 => assumption); (case h1 => walk_at "dom"))
  | (refine' Cm.dm_use2 ?h1 ?h2; (case h2 => assumption); (case h1 => walk_at "dom"))
  | fail)
local macro_rules | `(tactic| walk_at "in") => `(tactic| first
  | exact Or.inl rfl | exact Or.inl (Or.inl rfl) | exact Or.inl (Or.inr rfl) | exact Or.inl (Or.inr (Or.inl rfl)) | exact Or.inl (Or.inr (Or.inr rfl))
  | exact Or.inl (by assumption)
  | exact Or.inr (by walk_at "free")
  | fail)
local macro_rules | `(tactic| walk_at "kp") => `(tactic| first
  | assumption
  | exact Cm.Kp.refl
  | (refine' Cm.Kp.new' ?h1 ?h2; (case h2 => assumption); (case h1 => walk_at "kp"))
  | (refine' Cm.Kp.setX' ?h1 ?h2 ?h4 ?h5 ?h3; (case h2 => walk_at "look"); (case h4 => exact rfl); (case h5 => intro _ z; cases z); (case h3 => walk_at "in"); (case h1 => walk_at "kp"))
  | (refine' Cm.kp_step ?h1 ?h2 ?h3; (case h2 => assumption); (case h3 => walk_at "sub"); (case h1 => walk_at "kp"))
  | fail)
local macro_rules | `(tactic| walk_at "sub") => `(tactic| first
  | exact fun _ z => z.elim
  | exact fun _ z => Or.inl z
  | (intro a z; rcases z with rfl | rfl <;> walk_at "in")
  | (intro a z; subst z; walk_at "in")
  | fail)
local macro_rules | `(tactic| walk_at "num2") => `(tactic| first | decide | omega | fail)

local macro_rules | `(tactic| walk_at "isi") => `(tactic| first | (with_reducible refine Cm.isi_non_bool ?_) | (with_reducible refine Cm.isi_non_int ?_) | (with_reducible refine Cm.isi_non_str ?_) | (with_reducible refine Cm.isi_non_tuple ?_) | (with_reducible refine Cm.isi_non_list ?_) | (with_reducible refine Cm.isi_bl_bool ?_) | (with_reducible refine Cm.isi_bl_int ?_) | (with_reducible refine Cm.isi_bl_str ?_) | (with_reducible refine Cm.isi_bl_tuple ?_) | (with_reducible refine Cm.isi_bl_list ?_) | (with_reducible refine Cm.isi_int_bool ?_) | (with_reducible refine Cm.isi_int_int ?_) | (with_reducible refine Cm.isi_int_str ?_) | (with_reducible refine Cm.isi_int_tuple ?_) | (with_reducible refine Cm.isi_int_list ?_) | (with_reducible refine Cm.isi_str_bool ?_) | (with_reducible refine Cm.isi_str_int ?_) | (with_reducible refine Cm.isi_str_str ?_) | (with_reducible refine Cm.isi_str_tuple ?_) | (with_reducible refine Cm.isi_str_list ?_) | ((with_reducible refine' Cm.isi_tup_bool ?h1 ?_); (case h1 => walk_at "look")) | ((with_reducible refine' Cm.isi_tup_int ?h1 ?_); (case h1 => walk_at "look")) | ((with_reducible refine' Cm.isi_tup_str ?h1 ?_); (case h1 => walk_at "look")) | ((with_reducible refine' Cm.isi_tup_tuple ?h1 ?_); (case h1 => walk_at "look")) | ((with_reducible refine' Cm.isi_tup_list ?h1 ?_); (case h1 => walk_at "look")) | ((with_reducible refine' Cm.isi_lst_bool ?h1 ?_); (case h1 => walk_at "look")) | ((with_reducible refine' Cm.isi_lst_int ?h1 ?_); (case h1 => walk_at "look")) | ((with_reducible refine' Cm.isi_lst_str ?h1 ?_); (case h1 => walk_at "look")) | ((with_reducible refine' Cm.isi_lst_tuple ?h1 ?_); (case h1 => walk_at "look")) | ((with_reducible refine' Cm.isi_lst_list ?h1 ?_); (case h1 => walk_at "look")) | fail)

/-! ### M1: more words -/
local macro_rules | `(tactic| walk_at "st") => `(tactic| first
  | ((with_reducible refine Cm.and_at (A := L2.tyV _ "dict" _ _) ?h1 ?_); (case h1 => exact Cm.ty_dic (by walk_at "look")))
  | (with_reducible refine Cm.e_dget2 ?_) | (with_reducible refine Cm.e_dpop2 ?_) | (with_reducible refine Cm.e_dpop1 ?_) | (with_reducible refine Cm.s_rx ?_)
  | ((with_reducible refine' Cm.isd_at ?h1 ?_); (case h1 => walk_at "look"))
  | ((with_reducible refine' Cm.get_at ?h1 ?_); (case h1 => walk_at "look"))
  | ((with_reducible refine' Cm.pop1_at ?h1 ?h2 ?_); (case h1 => walk_at "look"); (case h2 => assumption))
  | ((with_reducible refine' Cm.r_dictD ?h1 ?_); (case h1 => walk_at "look"); (intro _ _))
  | ((with_reducible refine' Cm.r_lenD ?h1 ?_); (case h1 => walk_at "look"))
  | ((with_reducible refine' Cm.r_ixdi ?h1 ?h2 ?_); (case h1 => walk_at "look"); (case h2 => assumption))
  | ((with_reducible refine' Cm.g_setdi ?h1 ?h2 ?_); (case h1 => walk_at "look"); (case h2 => first | assumption | omega))
  | (with_reducible refine Cm.r_min2 ?_)
  | (with_reducible refine W.r_eq_lv ?_) | (with_reducible refine W.r_ne_lv ?_) | (with_reducible refine W.r_isNo_lv ?_) | (with_reducible refine W.r_notNo_lv ?_)
  | fail)

local macro_rules | `(tactic| walk_at "key") => `(tactic| first | exact W.tF_g_rows | exact W.tF_g_hands | exact W.tF_g_moment | exact W.tF_g_number | exact W.tF_n_row_at | exact W.tF_n_shown | exact W.tF_n_content | exact W.tF_n_put_page | exact W.tF_n_prune | exact W.tF_n_change | exact W.tF_n_whole)
local macro_rules | `(tactic| walk_at "put") => `(tactic| first | exact W.tF_p_rows | exact W.tF_p_hands | exact W.tF_p_moment | exact W.tF_p_number)
local macro_rules | `(tactic| walk_at "size") => `(tactic| (rw [W.tF_len]; decide))

local macro_rules | `(tactic| walk_at "key") => `(tactic| first | exact W.oS_g_rows | exact W.oS_g_hands | exact W.oS_g_moment | exact W.oS_g_number)
local macro_rules | `(tactic| walk_at "put") => `(tactic| first | exact W.oS_p_rows | exact W.oS_p_hands | exact W.oS_p_moment | exact W.oS_p_number)
local macro_rules | `(tactic| walk_at "size") => `(tactic| (rw [W.oS_len]; decide))

namespace W
open PySem PySem.Spec PyProof.Rows L2 Cm
section
variable {w : World} {K : PySem.W.Frag} {mg : Str → Option Value}
theorem mk_table {H : Hp} {E : XK} {σ : L2.St} {Q : VK} (k : ∀ p H' F', TableAt K H' p ts0 F' → Kp (tabs K) No H H' → (∀ a, F' a → Nw H a) → Q (.ref p) H') : tMake (He.ga K "Table") (S_Table_init K) [] E tNil σ H Q := by
  intro x dx hx hdx ne
  have hx1 : (upd H dx (.own x)) x = none := by rw [upd_ne ne.symm]; exact hx
  have k2 : Kp (tabs K) No H (upd (upd H dx (.own x)) x (.ins (He.ga K "Table") dx [])) := (Kp.new hdx).new' hx1
  refine ⟨_, rfl, x, dx, rfl, upd_same, fun H' F' D st => ⟨rfl, k x H' F' D (k2.trans st.kp fun a z => .inr (.inl (by rw [z]; exact hx))) fun a ha => ?_⟩⟩
  rcases st.sub a ha with h | h
  · exact .inl (by rw [h]; exact hx)
  · exact k2.dom a h
theorem pRun_snoc : ∀ (js : List JE) (T : TB) (n : Int) (j : JE), pRun T n (js ++ [j]) = pstep (pRun T n js) (n + js.length) j
  | [], T, n, j => by simp [pRun]
  | i :: js, T, n, j => by
    show pRun (pstep T n i) (n + 1) (js ++ [j]) = pstep (pRun (pstep T n i) (n + 1) js) _ j
    rw [pRun_snoc js]
    congr 1
    simp only [List.length_cons]; omega
theorem pAt_succ {js : List JE} {i : Nat} {j : JE} (h : js[i]? = some j) : pAt js (i + 1) = pstep (pAt js i) ((i : Int) + 1) j := by
  unfold pAt
  rw [take_succ h, pRun_snoc, List.length_take]
  have := (List.getElem?_eq_some_iff.mp h).1
  congr 1
  omega
theorem okL_get : ∀ {js : List JE} {m : Int} {i : Nat} {j : JE}, okL m js → js[i]? = some j → ∃ m', j.Ok m'
  | [], _, _, _, _, h => by simp at h
  | j0 :: js, m, 0, j, h, e => by
    have e : j0 = j := by simpa using e
    subst e
    exact ⟨m, h.1⟩
  | j0 :: js, m, i + 1, j, h, e => okL_get h.2 (by simpa using e)
theorem di_je {j : JE} (h : ∃ m, j.Ok m) : Di 6 j.d := by
  cases j with
  | tick t =>
    exact di_tup (Nat.le_of_ble_eq_true rfl) fun d hd => by
      simp only [List.mem_cons, List.not_mem_nil, or_false] at hd
      rcases hd with rfl | rfl
      · exact Di.str
      · exact Di.int
  | deal hn ds =>
    obtain ⟨m, h⟩ := h
    exact di_tup (Nat.le_of_ble_eq_true rfl) fun d hd => by
      simp only [List.mem_cons, List.not_mem_nil, or_false] at hd
      rcases hd with rfl | rfl | rfl
      · exact Di.str
      · exact Di.int
      · exact di_deal (by have := h.2.2.2; omega)
theorem di_ent {e : Ent} (h : e.Ok) : Di 4 e.d := by
  cases e with
  | tick n m =>
    exact di_tup (Nat.le_of_ble_eq_true rfl) fun d hd => by
      simp only [List.mem_cons, List.not_mem_nil, or_false] at hd
      rcases hd with rfl | rfl | rfl
      · exact Di.str
      · exact Di.int
      · exact Di.int
  | deal n hn l dn es =>
    exact di_tup (Nat.le_of_ble_eq_true rfl) fun d hd => by
      simp only [List.mem_cons, List.not_mem_nil, or_false] at hd
      rcases hd with rfl | rfl | rfl | rfl | rfl | rfl
      · exact Di.str
      · exact Di.int
      · exact Di.int
      · exact Di.int
      · exact Di.bool
      · refine di_tup (by have := h.2.1; simp; omega) fun d hd => ?_
        obtain ⟨q, _, rfl⟩ := List.mem_map.mp hd
        exact di_tup (Nat.le_of_ble_eq_true rfl) fun d hd => by
          simp only [List.mem_cons, List.not_mem_nil, or_false] at hd
          rcases hd with rfl | rfl | rfl
          · exact Di.int
          · exact Di.oD
          · exact Di.int
theorem pages_mem {e : Ent} {p : Int} (h : p ∈ pagesOf e) : (0 ≤ p ∧ p ≤ 8) ∧ (p = 8 ∨ ∃ n h l dn es, e = .deal n h l dn es) := by
  cases e with
  | tick n m =>
    have e : p = 8 := by simpa [pagesOf] using h
    exact ⟨by omega, .inl e⟩
  | deal n hn l dn es =>
    refine ⟨?_, .inr ⟨n, hn, l, dn, es, rfl⟩⟩
    rcases List.mem_append.mp h with h | h
    · have := mem_rng.mp (List.mem_filter.mp h).1; omega
    · have := List.mem_singleton.mp h; omega
def tt_tail (K : PySem.W.Frag) (E : XK) : TS := tSeq (tFor (iSeq K (tCall (S_pages_of K) [] E (tCons (tVar 6) tNil))) (gName 9) (tDrop (tMeth (He.ga K "Table") "change" (S_Table_change K) [] E (tVar 1) (tCons (tVar 6) (tCons (tVar 9) tNil))))) (tDrop (tBM K "list" rAppend (tVar 2) (tCons (tLc (iRng1 (tCons (tC (.int 32)) tNil)) (gName 3) tYes (tMeth (He.ga K "Table") "shown" (S_Table_shown K) [] E0 (tVar 1) (tCons (tVar 3) tNil)) [3]) tNil)))
theorem tables_tail (T : Tx w K mg) {E : XK} {D : Ends} {H : Hp} {l p fl u : Addr} {v3 v4 v5 v7 v8 v9 : Option V} {S : TB} {F : Addr → Prop} {e : Ent} {xs : List V} (hT : TableAt K H p S F) (hu : Dt H (.ref u) e.d) (ho : e.Ok) (hf : H fl = some (.lst xs)) (hfF : ¬ F fl) (hxs : xs.length ≤ 1001)
    (hD : ∀ H' F' a v9, TableAt K H' p (S.chgs e) F' → Kp (tabs K) (fun c => c = fl ∨ F c) H H' → (∀ c, F' c → F c ∨ Nw H c) → Nw H a → H' a = some (.lst (shownL (S.chgs e))) → ¬ F' a → H' fl = some (.lst (xs ++ [.ref a])) → ¬ F' fl → D.nx [some (.ref l), some (.ref p), some (.ref fl), v3, v4, v5, some (.ref u), v7, v8, v9] H') :
    tt_tail K E D [some (.ref l), some (.ref p), some (.ref fl), v3, v4, v5, some (.ref u), v7, v8, v9] H := by
  have c := T.c_Table
  unfold tt_tail
  walk_at "run"
  refine s_forL ?_
  walk_at "run"
  refine ⟨_, rfl, e, hu, ho, fun pl H1 np g1 k1 => ?_⟩
  have hT1 := hT.keep k1 (fun _ _ z => z)
  have npl : ¬ F pl := fun z => hT.dom z np
  walk_at "run"
  refine forL (xs := (pagesOf e).map V.int) (fun i σ' H' => ∃ v9 F', σ' = [some (.ref l), some (.ref p), some (.ref fl), v3, v4, v5, some (.ref u), v7, v8, v9] ∧ TableAt K H' p (((pagesOf e).take i).foldl (fun T q => T.chg e q) S) F' ∧ Stp (tabs K) F F' H1 H') ⟨v9, F, rfl, hT1, Stp.refl⟩ (fun i σ' H' ⟨_, _, _, _, st⟩ => st.kp.lst g1 npl) ?_ ?_
  · rintro i x σ' H' hx ⟨v9, F', rfl, hT', st⟩
    obtain ⟨q, hq, rfl⟩ := map_get hx
    obtain ⟨h1, h2⟩ := pages_mem (List.mem_of_getElem? hq)
    obtain ⟨dx, rl, hA, hp, _, _⟩ := id hT'.ins
    walk_at "run"
    refine ⟨_, _, _, rfl, p, _, F', e, q, rfl, hT', Dt.keep st.kp (di_ent ho) (Dt.keep k1 (di_ent ho) hu), ho, rfl, h1, h2, fun H2 F2 hT2 st2 => ?_⟩
    walk_at "run"
    refine ⟨_, F2, rfl, ?_, st.trans st2⟩
    rw [take_succ hq, List.foldl_append]; exact hT2
  · rintro σ' H' ⟨v9, F', rfl, hT', st⟩
    rw [List.length_map, List.take_length] at hT'
    have hT' : TableAt K H' p (S.chgs e) F' := hT'
    have hf1 := k1.lst hf (fun z => z)
    have hf2 := st.kp.lst hf1 hfF
    have hfF' : ¬ F' fl := fun z => (st.sub fl z).elim hfF fun n => nw_no n hf1 (fun _ z => nomatch z)
    walk_at "run"
    refine lcR ?_
    walk_at "run"
    intro Dl hDl
    have nD : Nw H Dl := k1.dom _ (st.kp.free hDl)
    have nfD : fl ≠ Dl := by walk_at "ne"
    have nFD : ¬ F' Dl := fun z => hT'.dom z (.inl hDl)
    refine coreR (fun i acc H2 => Kp (tabs K) No H' H2 ∧ acc = ((rng 32).take i).map fun k => lv ((S.chgs e).shown k)) ⟨Kp.new hDl, rfl⟩ (fun i acc H2 hi hl z e1 => ?_) (fun acc H2 hl z e1 => ?_)
    · obtain ⟨kp, rfl⟩ := z
      have hT2 := hT'.keep kp (fun _ _ z => z)
      obtain ⟨dx, rl, hA, hp, _, _⟩ := id hT2.ins
      unfold CStep
      walk_at "run"
      refine ⟨_, _, rfl, p, _, F', (i : Int), rfl, hT2, rfl, ⟨by omega, hi⟩, ?_⟩
      refine c_put e1 hl (by omega) ⟨by walk_at "kp", ?_⟩
      have e2 : (rng 32)[i]? = some (i : Int) := by
        unfold rng
        rw [List.getElem?_map, List.getElem?_range (by omega)]; rfl
      rw [take_succ e2, List.map_append]; rfl
    · obtain ⟨kp, rfl⟩ := z
      have e2 : ((rng 32).take (32 : Int).toNat).map (fun k => lv ((S.chgs e).shown k)) = shownL (S.chgs e) := rfl
      rw [e2] at e1
      have hf3 := kp.lst hf2 (fun z => z)
      walk_at "run"
      have kb : Kp (tabs K) (fun c => c = fl) H2 (upd H2 fl (.lst (xs ++ [.ref Dl]))) := Kp.setL hf3 rfl
      have kk : Kp (tabs K) No H' H2 := kp
      refine hD _ F' Dl _ ((hT'.keep kk (fun _ _ z => z)).keep kb (fun a ha z => hfF' (by rw [← z]; exact ha))) ?_ (fun a ha => (st.sub a ha).imp id fun z => k1.dom a z) nD (by walk_at "look") nFD upd_same hfF'
      refine (((k1.mono fun _ z => z.elim).trans st.kp fun a z => .inl (.inr z)).trans kk fun a z => z.elim).trans kb fun a z => .inl (.inl z)
def TabI (K : PySem.W.Frag) (H : Hp) (l p fl : Addr) (js : List JE) (i : Nat) (σ' : L2.St) (H' : Hp) : Prop := ∃ (v3 v4 v5 v6 v7 v8 v9 : Option V) (F' : Addr → Prop) (as : List Addr), σ' = [some (.ref l), some (.ref p), some (.ref fl), v3, v4, v5, v6, v7, v8, v9] ∧ Kp (tabs K) No H H' ∧ TableAt K H' p (pAt js i) F' ∧ (∀ a, F' a → Nw H a) ∧ H' fl = some (.lst (as.map V.ref)) ∧ as.length = i + 1 ∧ i ≤ js.length ∧
  (∀ (n : Nat) (a : Addr), as[n]? = some a → H' a = some (.lst (shownL (pAt js n))) ∧ ¬ F' a ∧ Nw H a ∧ a ≠ fl) ∧ ¬ F' fl ∧ Nw H fl
theorem pure_tables_of (T : Tx w K mg) (vs : List V) (H : Hp) (Q : VK) (E : XK) (h : S_tables_of K vs H Q E) : t_tables_of K E { nx := fun _ H' => Q .non H', rt := Q } (start N_tables_of vs) H := by
  obtain ⟨_, rfl, l, xs, js, rfl, hlist, hA, hok, hlen, k⟩ := h
  have hxl := hA.length
  rw [List.length_map] at hxl
  unfold t_tables_of
  walk_at "run"
  refine mk_table fun p H1 F hT k1 hF => ?_
  walk_at "run"
  refine lcR ?_
  walk_at "run"
  intro Dl hDl
  refine coreR (fun i acc H2 => Kp (tabs K) No H1 H2 ∧ acc = List.replicate i V.non) ⟨Kp.new hDl, rfl⟩ (fun i acc H2 hi hl z e1 => ?_) (fun acc H2 hl z e1 => ?_)
  · obtain ⟨kp, rfl⟩ := z
    unfold CStep
    walk_at "run"
    refine c_put e1 hl (by omega) ⟨by walk_at "kp", ?_⟩
    rw [List.replicate_succ']
  · obtain ⟨kp, rfl⟩ := z
    walk_at "run"
    rename_i fl hfl
    have nD1 : ¬ F Dl := fun z => hT.dom z (.inl hDl)
    have kk : Kp (tabs K) No H1 (upd H2 fl (.lst [.ref Dl])) := by walk_at "kp"
    have nfl : ¬ F fl := fun z => hT.dom z (kp.free hfl)
    have e0 : shownL (pAt js 0) = List.replicate 32 V.non := by kernel_rfl
    have nlf : l ≠ fl := fun z => by
      have := kp.lst (k1.lst hlist (fun z => z)) (fun z => z)
      rw [z, hfl] at this; cases this
    refine s_forE ?_
    walk_at "run"
    have hl0 := kk.lst (k1.lst hlist (fun z => z)) (fun z => z)
    refine ⟨l, rfl, .inl ⟨xs, SqL.of hl0, ?_⟩⟩
    refine forEL (xs := xs) (TabI K H l p fl js) ?_ (fun i σ' H' ⟨_, _, _, _, _, _, _, _, _, _, z, _⟩ => z.lst hlist (fun z => z)) ?_ ?_
    · refine ⟨none, none, none, none, none, none, none, F, [Dl], rfl, by walk_at "kp", hT.keep kk (fun _ _ z => z), hF, upd_same, rfl, Nat.zero_le _, fun n a e => ?_, nfl, k1.dom _ (kp.free hfl)⟩
      cases n with
      | zero =>
        have e : Dl = a := by simpa using e
        subst e
        have e3 : Dl ≠ fl := by walk_at "ne"
        refine ⟨by rw [upd_ne e3, e1, e0]; rfl, nD1, k1.dom _ (.inl hDl), e3⟩
      | succ n => simp at e
    · rintro i x t σ' H' hx ⟨v3, v4, v5, v6, v7, v8, v9, F', as, rfl, kp, hT', hF', hf, has, hil, hget, hnf, hnw⟩ ht
      obtain ⟨_, hd1, hd2⟩ := hA.get hx
      obtain ⟨j, hj, rfl⟩ := map_get hd1
      obtain ⟨mj, hjok⟩ := okL_get hok hj
      have hd2 := Dt.keep kp (di_je ⟨mj, hjok⟩) hd2
      have hil' : i < js.length := (List.getElem?_eq_some_iff.mp hj).1
      have nft : fl ≠ t := ne_of_none hf ht
      have kt : Kp (tabs K) No H' (upd H' t (.tup [.int (i : Nat), x])) := Kp.new ht
      have asl : (as.map V.ref).length ≤ 1001 := by rw [List.length_map]; omega
      -- behind told
      have tail : ∀ (H2 : Hp) (u : Addr) (e : Ent) v3 v4 v5 v7 v8 v9, Kp (tabs K) No H' H2 → Dt H2 (.ref u) e.d → e.Ok → pAt js (i + 1) = (pAt js i).chgs e → tt_tail K E { nx := TabI K H l p fl js (i + 1), rt := Q, bk := fun σ' H' => tRet (tVar 2) { nx := fun _ H' => Q .non H', rt := Q } σ' H', ct := TabI K H l p fl js (i + 1) } [some (.ref l), some (.ref p), some (.ref fl), v3, v4, v5, some (.ref u), v7, v8, v9] H2 := by
        intro H2 u e v3 v4 v5 v7 v8 v9 k2 hu he hstep
        refine tables_tail T (hT'.keep k2 (fun _ _ z => z)) hu he (k2.lst hf (fun z => z)) hnf asl fun H3 F3 a v9 hT3 k3 hsub na ha hna hf3 hnf3 => ?_
        have kk3 : Kp (tabs K) No H H3 := (kp.trans k2 fun _ z => z.elim).trans k3 fun c z => .inr (by rcases z with rfl | z; exact hnw; exact hF' c z)
        have na' : Nw H a := kp.dom _ (k2.dom _ na)
        have af : a ≠ fl := fun z => by rw [z, hf3] at ha; rw [z] at na; exact nw_no na (k2.lst hf (fun z => z)) (fun _ z => nomatch z)
        refine ⟨v3, v4, v5, _, v7, v8, v9, F3, as ++ [a], rfl, kk3, by rw [hstep]; exact hT3, fun c hc => (hsub c hc).elim (fun z => hF' c z) fun z => kp.dom _ (k2.dom _ z), by rw [hf3, List.map_append]; rfl, by simp [has], by omega, fun n c ec => ?_, hnf3, hnw⟩
        rcases Nat.lt_or_ge n as.length with hn | hn
        · rw [List.getElem?_append_left hn] at ec
          obtain ⟨q1, q2, q3, q4⟩ := hget n c ec
          have q1' := k2.lst q1 (fun z => z)
          exact ⟨k3.lst q1' (fun z => z.elim q4 q2), fun z => (hsub c z).elim q2 fun z => nw_no z q1' (fun _ z => nomatch z), q3, q4⟩
        · have hlen2 := (List.getElem?_eq_some_iff.mp ec).1
          simp only [List.length_append, List.length_cons, List.length_nil] at hlen2
          have hn2 : n = as.length := by omega
          subst hn2
          rw [List.getElem?_append_right (Nat.le_refl _), Nat.sub_self] at ec
          have ec : a = c := by simpa using ec
          subst ec
          have e5 : as.length = i + 1 := has
          refine ⟨by rw [e5, hstep]; exact ha, hna, na', af⟩
      cases j with
      | tick tm =>
        obtain ⟨a, u0, u1, rfl, ha, rfl, rfl⟩ := dt2.mp hd2
        have hta : a ≠ t := ne_of_none ha ht
        walk_at "run"
        refine if_dT rfl ?_
        walk_at "run"
        rename_i u hu
        refine tail _ u (.tick ((i : Int) + 1) tm) _ _ _ _ _ _ (by walk_at "kp") (dt3.mpr ⟨u, _, _, _, rfl, upd_same, rfl, rfl, rfl⟩) trivial ?_
        rw [pAt_succ hj]; rfl
      | deal hn ds =>
        obtain ⟨a, u0, u1, u2, rfl, ha, rfl, rfl, h2⟩ := dt3.mp hd2
        have hta : a ≠ t := ne_of_none ha ht
        walk_at "run"
        refine if_dF (by decide) ?_
        walk_at "run"
        refine ⟨_, _, rfl, ds, p, pAt js i, F', Dt.keep kt (n := 4) (di_deal (by have := hjok.2.2.2; omega)) h2, hjok.2.1, hjok.2.2.2, rfl, hT'.keep kt (fun _ _ z => z), fun v H2 k2 hv => ?_⟩
        obtain ⟨r, w0, w1, rfl, hr, rfl, hw1⟩ := dt2.mp hv
        have ha2 : H2 a = some (.tup [.str "deal", .int hn, u2]) := k2.tup (by rw [upd_ne hta]; exact ha)
        obtain ⟨r2, ws, rfl, hr2, hws⟩ := id hw1
        walk_at "run"
        rename_i u hu
        have eok := effR_ok (f := (pAt js i).rows) (m := (pAt js i).moment) hjok.2.1
        refine tail _ u (.deal ((i : Int) + 1) hn 0 (effR (pAt js i).rows (pAt js i).moment ds).1 (effR (pAt js i).rows (pAt js i).moment ds).2) _ _ _ _ _ _ (by walk_at "kp") (dt6.mpr ⟨u, _, _, _, _, _, _, rfl, upd_same, rfl, rfl, rfl, rfl, rfl, ?_⟩) ⟨hjok.1, eok⟩ ?_
        · exact Dt.keep (Kp.new (T := tabs K) (S := No) hu) (n := 6) (di_tup (by have := eok.1; simp; omega) fun d hd => by
            obtain ⟨q, _, rfl⟩ := List.mem_map.mp hd
            exact di_tup (Nat.le_of_ble_eq_true rfl) fun d hd => by
              simp only [List.mem_cons, List.not_mem_nil, or_false] at hd
              rcases hd with rfl | rfl | rfl
              · exact Di.int
              · exact Di.oD
              · exact Di.int) hw1
        · rw [pAt_succ hj]; rfl
    · rintro σ' H' ⟨v3, v4, v5, v6, v7, v8, v9, F', as, rfl, kp, hT', hF', hf, has, hil, hget, hnf, hnw⟩
      walk_at "run"
      exact k fl as H' kp hnw hf (by omega) fun n a e => (hget n a e).1
end
end W

end
section
/-! ### M0: words for walking through a reading (local) -/
local macro_rules | `(tactic| walk_at "st") => `(tactic| first
  | (with_reducible refine Cm.s_seq ?_) | (with_reducible refine Cm.s_asg ?_) | (with_reducible refine Cm.s_drop ?_) | (with_reducible refine Cm.s_ret ?_) | (with_reducible refine Cm.s_if ?_) | (with_reducible refine Cm.s_next ?_) | (with_reducible refine Cm.s_retN ?_) | (with_reducible refine Cm.s_rs ?_) | (with_reducible refine Cm.s_fld0 ?_)
  | ((with_reducible refine' Cm.e_var ?hv ?_); (case hv => exact rfl))
  | (with_reducible refine Cm.e_c ?_) | (with_reducible refine Cm.e_op ?_) | (with_reducible refine Cm.e_un ?_) | (with_reducible refine Cm.e_nil ?_) | (with_reducible refine Cm.e_cons ?_) | (with_reducible refine Cm.e_tup ?_) | (with_reducible refine Cm.e_lst ?_) | (with_reducible refine Cm.e_cb ?_) | (with_reducible refine Cm.e_call ?_) | (with_reducible refine Cm.e_if ?_)
  | (with_reducible refine Cm.e_andV ?_) | (with_reducible refine Cm.e_orV ?_) | (with_reducible refine Cm.e_notV ?_) | (with_reducible refine Cm.e_fld0 ?_) | (with_reducible refine Cm.e_meth0 ?_) | (with_reducible refine Cm.e_bm0 ?_) | (with_reducible refine Cm.e_bm ?_) | (with_reducible refine Cm.e_sl ?_) | (with_reducible refine Cm.o_none ?_) | (with_reducible refine Cm.o_some ?_) | (with_reducible refine Cm.e_dnew ?_)
  | (with_reducible refine Cm.e_test ?_) | (with_reducible refine Cm.e_tr ?_) | (with_reducible refine Cm.e_and ?_) | (with_reducible refine Cm.e_or ?_) | (with_reducible refine Cm.e_not ?_) | (with_reducible refine Cm.e_yes ?_) | (with_reducible refine Cm.e_chain ?_)
  | (with_reducible refine Cm.r_i0 ?_) | (with_reducible refine Cm.r_u ?_) | (with_reducible refine Cm.r_isNo ?_) | (with_reducible refine Cm.r_notNo ?_) | (with_reducible refine Cm.r_addI ?_) | (with_reducible refine Cm.r_int1b ?_) | (with_reducible refine Cm.r_max2 ?_)
  | ((with_reducible refine Cm.r_i ?hc ?_); (case hc => walk_at "num"))
  | ((with_reducible refine Cm.r_mulI ?hc ?_); (case hc => walk_at "num"))
  | ((with_reducible refine Cm.r_eqS ?hc ?_); (case hc => exact rfl))
  | ((with_reducible refine Cm.r_neS ?hc ?_); (case hc => exact rfl))
  | ((with_reducible refine' Cm.r_ixl ?h1 ?h2 ?_); (case h1 => walk_at "look"); (case h2 => walk_at "at"))
  | ((with_reducible refine' Cm.r_ixt ?h1 ?h2 ?_); (case h1 => walk_at "look"); (case h2 => walk_at "at"))
  | ((with_reducible refine' Cm.r_ixT ?h1 ?h2 ?_); (case h1 => walk_at "lookT"); (case h2 => walk_at "at"))
  | ((with_reducible refine' Cm.r_ixds ?h1 ?h2 ?_); (case h1 => walk_at "look"); (case h2 => walk_at "key"))
  | ((with_reducible refine' Cm.r_eqe ?h1 ?h2 ?_); (case h1 => walk_at "look"); (case h2 => walk_at "look"))
  | ((with_reducible refine' Cm.r_nee ?h1 ?h2 ?_); (case h1 => walk_at "look"); (case h2 => walk_at "look"))
  | ((with_reducible refine' Cm.r_lenl ?h1 ?_); (case h1 => walk_at "look"))
  | ((with_reducible refine' Cm.r_lent ?h1 ?_); (case h1 => walk_at "look"))
  | ((with_reducible refine' Cm.r_lenT ?h1 ?_); (case h1 => walk_at "lookT"))
  | ((with_reducible refine' Cm.r_listl ?h1 ?_); (case h1 => walk_at "look"); (intro _ _))
  | ((with_reducible refine' Cm.r_tupl ?h1 ?_); (case h1 => walk_at "look"); (intro _ _))
  | ((with_reducible refine' Cm.r_addL ?h1 ?h2 ?h3 ?_); (case h1 => walk_at "look"); (case h2 => walk_at "look"); (case h3 => walk_at "size"); (intro _ _))
  | ((with_reducible refine' Cm.m_append ?h1 ?h2 ?_); (case h1 => walk_at "look"); (case h2 => walk_at "size"))
  | ((with_reducible refine' Cm.m_clear ?h1 ?_); (case h1 => walk_at "look"))
  | ((with_reducible refine' Cm.g_setL ?h1 ?h2 ?_); (case h1 => walk_at "look"); (case h2 => walk_at "ix"))
  | ((with_reducible refine' Cm.g_setDs ?h1 ?h2 ?h3 ?_); (case h1 => walk_at "look"); (case h2 => walk_at "size"); (case h3 => walk_at "put"))
  | ((with_reducible refine' Cm.fld_at ?h1 ?h2 ?h3 ?h4 ?_); (case h1 => walk_at "look"); (case h2 => assumption); (case h3 => assumption); (case h4 => walk_at "key"))
  | ((with_reducible refine' Cm.fldset_at ?h1 ?h2 ?h3 ?h4 ?h5 ?_); (case h1 => walk_at "look"); (case h2 => assumption); (case h3 => assumption); (case h4 => walk_at "size"); (case h5 => walk_at "put"))
  | (with_reducible refine Cm.s_fldaug0 ?_)
  | ((with_reducible refine' Cm.aug_at ?h1 ?h2 ?h3 ?h4 ?_); (case h1 => walk_at "look"); (case h2 => assumption); (case h3 => assumption); (case h4 => walk_at "key"))
  | ((with_reducible refine' Cm.augset_at ?h1 ?h4 ?h5 ?_); (case h1 => walk_at "look"); (case h4 => walk_at "size"); (case h5 => walk_at "put"))
  | (with_reducible refine Cm.in_sub_at ?_) | (with_reducible refine Cm.in_add_at ?_)
  | ((with_reducible refine' Cm.meth_at ?h1 ?h2 ?_); (case h1 => walk_at "look"); (case h2 => walk_at "key"))
  | ((with_reducible refine Cm.new_at ?h1 ?_); (case h1 => walk_at "size"); (intro _ _))
  | ((with_reducible refine Cm.and_at (A := L2.tyV _ "list" _ _) ?h1 ?_); (case h1 => exact Cm.ty_lst (by walk_at "look")))
  | ((with_reducible refine' Cm.g_tupt ?h1 ?h2 ?_); (case h1 => walk_at "look"); (case h2 => exact rfl))
  | ((with_reducible refine' Cm.g_tup ?h1 ?h2 ?_); (case h1 => walk_at "lookT"); (case h2 => exact rfl))
  | (with_reducible refine Cm.g_name ?_) | (with_reducible refine Cm.g_sub ?_) | (with_reducible refine Cm.g_cons ?_) | (with_reducible refine Cm.g_nil ?_)
  | (with_reducible refine Cm.int_at ?_) | (with_reducible refine Cm.bl_at ?_) | (with_reducible refine Cm.tr_bl ?_) | (with_reducible refine Cm.tr_non ?_)
  | ((with_reducible refine' Cm.m_pop0 ?h1 ?_); (case h1 => walk_at "look"))
  | ((with_reducible refine' Cm.r_slTo ?h1 ?h2 ?_); (case h1 => walk_at "look"); (case h2 => walk_at "num2"); (intro _ _))
  | ((with_reducible refine' Cm.r_slFrom ?h1 ?h2 ?_); (case h1 => walk_at "look"); (case h2 => walk_at "num2"); (intro _ _))
  | ((with_reducible refine' Cm.at_forL ?h1 ?_); (case h1 => walk_at "look"))
  | ((with_reducible refine' Cm.at_forT ?h1 ?_); (case h1 => walk_at "look"))
  | ((with_reducible refine' Cm.at_forR ?h1 ?h2 ?_); (case h1 => walk_at "num2"); (case h2 => walk_at "num2"))
  | ((with_reducible refine' Cm.at_forZ ?h1 ?h2 ?_); (case h1 => walk_at "look"); (case h2 => walk_at "look"))
  | (with_reducible refine Cm.s_forZ ?_) | (with_reducible refine Cm.s_forR ?_)
  | ((with_reducible refine Cm.and_at (A := _ = _) ?h1 ?_); (case h1 => exact rfl))
  | ((with_reducible show L2.rIsi _ _ _ _); walk_at "isi")
  | (with_reducible refine Cm.ite_nt ?_) | (with_reducible refine Cm.ite_nf ?_)
  | (with_reducible refine L2.iteT ?_) | (with_reducible refine L2.iteF ?_)
  | dsimp only
  | fail)
local macro_rules | `(tactic| walk_at "run") => `(tactic| repeat (walk_at "st"))
local macro_rules | `(tactic| walk_at "num") => `(tactic| first
  | exact Or.inr ⟨by decide, by decide⟩ | exact Or.inl ⟨by decide, by decide⟩
  | exact Cm.wdiv (by first | decide | omega) (by first | decide | omega)
  | (show (0 : Int) < _; first | decide | omega)
  | exact ⟨by decide, by decide, by decide⟩
  | fail)
local macro_rules | `(tactic| walk_at "put") => `(tactic| exact rfl)
local macro_rules | `(tactic| walk_at "fl") => `(tactic| first | exact Cm.fl0 | (refine' Cm.flS ?hz; (case hz => walk_at "fl")) | fail)
local macro_rules | `(tactic| walk_at "size") => `(tactic| first | exact Cm.sz_lit rfl | exact Cm.sz_lt rfl | exact Cm.fs_lt rfl | decide | (refine' Nat.lt_of_le_of_lt ?ha ?hb; (case ha => walk_at "fl"); (case hb => decide)) | (simp only [List.length_cons, List.length_nil, List.length_append, List.length_map, List.length_set, List.length_replicate, PySem.sizeLine_eq]; omega) | (simp only [List.length_cons, List.length_nil, List.length_append, List.length_map, List.length_set, List.length_replicate, PySem.sizeLine_eq] at *; omega) | fail)
local macro_rules | `(tactic| walk_at "at") => `(tactic| first | assumption | (with_reducible exact Cm.at0) | (with_reducible exact Cm.at1) | (with_reducible exact Cm.at2) | (with_reducible exact Cm.at3) | (with_reducible exact Cm.at4) | (with_reducible exact Cm.at5) | (with_reducible exact Cm.at6) | (with_reducible exact Cm.at7) | (with_reducible exact Cm.at8) | (with_reducible exact Cm.at0s) | (with_reducible exact Cm.at1s) | (with_reducible exact Cm.at01s) | (with_reducible exact Cm.at10s) | fail)
local macro_rules | `(tactic| walk_at "ix") => `(tactic| first | exact Cm.ix0 (by walk_at "size") | exact Cm.ix1 (by walk_at "size") | assumption | fail)
local macro_rules | `(tactic| walk_at "key") => `(tactic| first | assumption | fail)
local macro_rules | `(tactic| walk_at "ne") => `(tactic| first
  | assumption
  | (refine Ne.symm ?_; assumption)
  | (refine' L2.ne_of_none ?h1 ?h2; (case h2 => assumption); (case h1 => walk_at "look"))
  | (refine' Ne.symm (L2.ne_of_none ?h1 ?h2); (case h2 => assumption); (case h1 => walk_at "look"))
  | fail)
local macro_rules | `(tactic| walk_at "lookT") => `(tactic| first
  | assumption
  | exact L2.SqT.of (by walk_at "look")
  | fail)
local macro_rules | `(tactic| walk_at "look") => `(tactic| first
  | assumption
  | exact L2.upd_same
  | ((fail_if_success (with_reducible refine Eq.trans L2.upd_same ?_)); (refine' Eq.trans (L2.upd_ne ?h1) ?h2); (case h1 => walk_at "ne"); (case h2 => walk_at "look"))
  | (refine' Cm.kp_look ?h1 ?h2 ?h3 ?h4; (case h1 => assumption); (case h2 => walk_at "look"); (case h3 => intro _ z; cases z); (case h4 => first | exact Or.inl rfl | exact Or.inr (by walk_at "out")))
  | fail)
local macro_rules | `(tactic| walk_at "out") => `(tactic| first
  | assumption
  | exact fun z => z
  | exact fun z => z.elim (fun e => absurd e (by walk_at "ne")) (fun e => absurd e (by walk_at "ne"))
  | exact fun e => absurd e (by walk_at "ne")
  | fail)
local macro_rules | `(tactic| walk_at "dom") => `(tactic| first
  | exact Cm.dm_refl
  | (refine Cm.dm_upd ?_; walk_at "dom")
  | (refine' Cm.dm_kp ?h1 ?h2; (case h2 => assumption); (case h1 => walk_at "dom"))
  | fail)
local macro_rules | `(tactic| walk_at "free") => `(tactic| first
  | assumption
  | exact Cm.nw_of (by assumption)
  | (refine' Cm.dm_use ?h1 ?h2; (case h2 => assumption); (case h1 => walk_at "dom"))
  | (refine' Cm.dm_use2 ?h1 ?h2; (case h2 => assumption); (case h1 => walk_at "dom"))
  | fail)
local macro_rules | `(tactic| walk_at "in") => `(tactic| first
  | exact Or.inl rfl | exact Or.inl (Or.inl rfl) | exact Or.inl (Or.inr rfl) | exact Or.inl (Or.inr (Or.inl rfl)) | exact Or.inl (Or.inr (Or.inr rfl))
  | exact Or.inl (by assumption)
  | exact Or.inr (by walk_at "free")
  | fail)
local macro_rules | `(tactic| walk_at "kp") => `(tactic| first
  | assumption
  | exact Cm.Kp.refl
  | (refine' Cm.Kp.new' ?h1 ?h2; (case h2 => assumption); (case h1 => walk_at "kp"))
  | (refine' Cm.Kp.setX' ?h1 ?h2 ?h4 ?h5 ?h3; (case h2 => walk_at "look"); (case h4 => exact rfl); (case h5 => intro _ z; cases z); (case h3 => walk_at "in"); (case h1 => walk_at "kp"))
  | (refine' Cm.kp_step ?h1 ?h2 ?h3; (case h2 => assumption); (case h3 => walk_at "sub"); (case h1 => walk_at "kp"))
  | fail)
local macro_rules | `(tactic| walk_at "sub") => `(tactic| first
  | exact fun _ z => z.elim
  | exact fun _ z => Or.inl z
  | (intro a z; rcases z with rfl | rfl <;> walk_at "in")
  | (intro a z; subst z; walk_at "in")
  | fail)
local macro_rules | `(tactic| walk_at "num2") => `(tactic| first | decide | omega | fail)

local macro_rules | `(tactic| walk_at "isi") => `(tactic| first | (with_reducible refine Cm.isi_non_bool ?_) | (with_reducible refine Cm.isi_non_int ?_) | (with_reducible refine Cm.isi_non_str ?_) | (with_reducible refine Cm.isi_non_tuple ?_) | (with_reducible refine Cm.isi_non_list ?_) | (with_reducible refine Cm.isi_bl_bool ?_) | (with_reducible refine Cm.isi_bl_int ?_) | (with_reducible refine Cm.isi_bl_str ?_) | (with_reducible refine Cm.isi_bl_tuple ?_) | (with_reducible refine Cm.isi_bl_list ?_) | (with_reducible refine Cm.isi_int_bool ?_) | (with_reducible refine Cm.isi_int_int ?_) | (with_reducible refine Cm.isi_int_str ?_) | (with_reducible refine Cm.isi_int_tuple ?_) | (with_reducible refine Cm.isi_int_list ?_) | (with_reducible refine Cm.isi_str_bool ?_) | (with_reducible refine Cm.isi_str_int ?_) | (with_reducible refine Cm.isi_str_str ?_) | (with_reducible refine Cm.isi_str_tuple ?_) | (with_reducible refine Cm.isi_str_list ?_) | ((with_reducible refine' Cm.isi_tup_bool ?h1 ?_); (case h1 => walk_at "look")) | ((with_reducible refine' Cm.isi_tup_int ?h1 ?_); (case h1 => walk_at "look")) | ((with_reducible refine' Cm.isi_tup_str ?h1 ?_); (case h1 => walk_at "look")) | ((with_reducible refine' Cm.isi_tup_tuple ?h1 ?_); (case h1 => walk_at "look")) | ((with_reducible refine' Cm.isi_tup_list ?h1 ?_); (case h1 => walk_at "look")) | ((with_reducible refine' Cm.isi_lst_bool ?h1 ?_); (case h1 => walk_at "look")) | ((with_reducible refine' Cm.isi_lst_int ?h1 ?_); (case h1 => walk_at "look")) | ((with_reducible refine' Cm.isi_lst_str ?h1 ?_); (case h1 => walk_at "look")) | ((with_reducible refine' Cm.isi_lst_tuple ?h1 ?_); (case h1 => walk_at "look")) | ((with_reducible refine' Cm.isi_lst_list ?h1 ?_); (case h1 => walk_at "look")) | fail)

/-! ### M1: more words -/
local macro_rules | `(tactic| walk_at "st") => `(tactic| first
  | ((with_reducible refine Cm.and_at (A := L2.tyV _ "dict" _ _) ?h1 ?_); (case h1 => exact Cm.ty_dic (by walk_at "look")))
  | (with_reducible refine Cm.e_dget2 ?_) | (with_reducible refine Cm.e_dpop2 ?_) | (with_reducible refine Cm.e_dpop1 ?_) | (with_reducible refine Cm.s_rx ?_)
  | ((with_reducible refine' Cm.isd_at ?h1 ?_); (case h1 => walk_at "look"))
  | ((with_reducible refine' Cm.get_at ?h1 ?_); (case h1 => walk_at "look"))
  | ((with_reducible refine' Cm.pop1_at ?h1 ?h2 ?_); (case h1 => walk_at "look"); (case h2 => assumption))
  | ((with_reducible refine' Cm.r_dictD ?h1 ?_); (case h1 => walk_at "look"); (intro _ _))
  | ((with_reducible refine' Cm.r_lenD ?h1 ?_); (case h1 => walk_at "look"))
  | ((with_reducible refine' Cm.r_ixdi ?h1 ?h2 ?_); (case h1 => walk_at "look"); (case h2 => assumption))
  | ((with_reducible refine' Cm.g_setdi ?h1 ?h2 ?_); (case h1 => walk_at "look"); (case h2 => first | assumption | omega))
  | (with_reducible refine Cm.r_min2 ?_)
  | (with_reducible refine W.r_eq_lv ?_) | (with_reducible refine W.r_ne_lv ?_) | (with_reducible refine W.r_isNo_lv ?_) | (with_reducible refine W.r_notNo_lv ?_)
  | fail)

local macro_rules | `(tactic| walk_at "key") => `(tactic| first | exact W.tF_g_rows | exact W.tF_g_hands | exact W.tF_g_moment | exact W.tF_g_number | exact W.tF_n_row_at | exact W.tF_n_shown | exact W.tF_n_content | exact W.tF_n_put_page | exact W.tF_n_prune | exact W.tF_n_change | exact W.tF_n_whole)
local macro_rules | `(tactic| walk_at "put") => `(tactic| first | exact W.tF_p_rows | exact W.tF_p_hands | exact W.tF_p_moment | exact W.tF_p_number)
local macro_rules | `(tactic| walk_at "size") => `(tactic| (rw [W.tF_len]; decide))

local macro_rules | `(tactic| walk_at "key") => `(tactic| first | exact W.oS_g_rows | exact W.oS_g_hands | exact W.oS_g_moment | exact W.oS_g_number)
local macro_rules | `(tactic| walk_at "put") => `(tactic| first | exact W.oS_p_rows | exact W.oS_p_hands | exact W.oS_p_moment | exact W.oS_p_number)
local macro_rules | `(tactic| walk_at "size") => `(tactic| (rw [W.oS_len]; decide))

namespace W
open PySem PySem.Spec PyProof.Rows L2 Cm
section
variable {w : World} {K : PySem.W.Frag} {mg : Str → Option Value}
theorem needD_ok {ds : List Deed} (h : ∀ d ∈ ds, Deed.Ok d) (h0 : 0 < ds.length) (h4 : ds.length ≤ 4) : NeedD (ds.map Deed.d) none := by
  refine ⟨by simpa using h0, by simpa using h4, fun d hd => ?_⟩
  obtain ⟨e, he, rfl⟩ := List.mem_map.mp hd
  exact (h e he).b
theorem needE_ok {j : JE} {m : Int} (h : j.Ok m) : NeedE m j.d (.ok (j.after m)) := by
  cases j with
  | tick t => exact .inl ⟨t, rfl, h, rfl⟩
  | deal hn ds => exact .inr ⟨hn, ds.map Deed.d, rfl, h.1, needD_ok h.2.1 h.2.2.1 h.2.2.2, rfl⟩
theorem okL_at : ∀ {js : List JE} {m : Int} {i : Nat} {j : JE}, okL m js → js[i]? = some j → j.Ok (endM m (js.take i)) ∧ endM m (js.take (i + 1)) = j.after (endM m (js.take i))
  | [], _, _, _, _, h => by simp at h
  | j0 :: js, m, 0, j, h, e => by
    have e : j0 = j := by simpa using e
    subst e
    exact ⟨h.1, rfl⟩
  | j0 :: js, m, i + 1, j, h, e => okL_at (js := js) h.2 (by simpa using e)
theorem JX.later {K : PySem.W.Frag} {r : JR} {H H' : Hp} {E : XK} (h : JX K r H E) (k : Kp (tabs K) No H H') : JX K r H' E :=
  ⟨fun c e H2 k2 => h.1 c e H2 (k.trans k2 fun _ z => z.elim), fun p e H2 d k2 hd hn => h.2 p e H2 d (k.trans k2 fun _ z => z.elim) hd (k.dom d hn)⟩
theorem judge_l1 {E : XK} {D : Ends} {H : Hp} {l1 l2 : Addr} {xs : List V} {ds tl : List PyData} {js : List JE} {σ : L2.St} (hl : H l1 = some (.lst xs)) (hA : DtA H xs ds) (hdi : ∀ d ∈ ds, Di 6 d) (hds : ds = js.map JE.d ++ tl) (hok : okL 0 js)
    (htl : tl = [] ∨ ∃ d rest r, tl = d :: rest ∧ NeedE (endM 0 js) d r ∧ (∀ m, r ≠ .ok m) ∧ JX K r H E) (hσ : σ = [some (.ref l1), some (.ref l2), some (.int 0), none, none, none, none, none, none, none, none])
    (hnx : tl = [] → ∀ m v3 H', Kp (tabs K) No H H' → D.nx [some (.ref l1), some (.ref l2), some (.int m), v3, none, none, none, none, none, none, none] H') :
    tFor (iSeq K (tVar 0)) (gName 3) (tAsg (tCall (S_need_entry K) [] E (tCons (tVar 3) (tCons (tVar 2) tNil))) (gName 2)) D σ H := by
  subst hσ
  have hlen := hA.length
  have hlj : js.length ≤ ds.length := by rw [hds]; simp
  refine s_forL ?_
  walk_at "run"
  refine forL (xs := xs) (fun i σ' H' => ∃ v3, σ' = [some (.ref l1), some (.ref l2), some (.int (endM 0 (js.take i))), v3, none, none, none, none, none, none, none] ∧ Kp (tabs K) No H H' ∧ i ≤ js.length) ⟨none, rfl, Kp.refl, Nat.zero_le _⟩ (fun i σ' H' ⟨_, _, z, _⟩ => z.lst hl (fun z => z)) ?_ ?_
  · rintro i x σ' H' hx ⟨v3, rfl, kp, hi⟩
    obtain ⟨d, hd1, hd2⟩ := hA.get hx
    have hdd := hdi d (List.mem_of_getElem? hd1)
    have hd2 := Dt.keep kp hdd hd2
    walk_at "run"
    rcases Nat.lt_or_ge i js.length with h1 | h1
    · have e1 : js[i]? = some js[i] := List.getElem?_eq_getElem h1
      have e2 : d = (js[i]).d := by
        rw [hds, List.getElem?_append_left (by simpa using h1), List.getElem?_map, e1] at hd1
        exact (Option.some.inj hd1).symm
      obtain ⟨o1, o2⟩ := okL_at hok e1
      refine ⟨_, _, rfl, d, _, .ok ((js[i]).after (endM 0 (js.take i))), hd2, hdd, rfl, by rw [e2]; exact needE_ok o1, fun m' e H2 k2 => ?_, ⟨(fun c z => by cases z), (fun p z => by cases z)⟩⟩
      cases e
      walk_at "run"
      exact ⟨_, by rw [o2]; rfl, by walk_at "kp", h1⟩
    · have h2 : i = js.length := by omega
      subst h2
      rcases htl with rfl | ⟨d', rest, r, rfl, hn, hb, hJ⟩
      · have := (List.getElem?_eq_some_iff.mp hd1).1
        rw [hds] at this; simp at this
      · have e2 : d = d' := by
          rw [hds, List.getElem?_append_right (by simp), List.length_map, Nat.sub_self] at hd1
          exact (Option.some.inj hd1).symm
        subst e2
        rw [List.take_length]
        exact ⟨_, _, rfl, d, _, r, hd2, hdd, rfl, hn, fun m' e => (hb m' e).elim, hJ.later kp⟩
  · rintro σ' H' ⟨v3, rfl, kp, hi⟩
    refine hnx ?_ _ _ H' kp
    rcases htl with rfl | ⟨d', rest, r, rfl, _⟩
    · rfl
    · rw [hds] at hlen; simp at hlen; omega
theorem di_rd {r : Rdg} : Di 6 (rdD r) := di_tup (Nat.le_of_ble_eq_true rfl) fun d hd => by
  simp only [List.mem_cons, List.not_mem_nil, or_false] at hd
  rcases hd with rfl | rfl | rfl | rfl
  · exact Di.int
  · exact Di.int
  · exact Di.int
  · exact Di.oD
theorem judge_l2 {E : XK} {D : Ends} {H : Hp} {l1 l2 : Addr} {m : Int} {v3 : Option V} {ys : List V} {rs tl : List PyData} {gs : List Rdg} (hl : H l2 = some (.lst ys)) (hA : DtA H ys rs) (hds : rs = gs.map rdD ++ tl) (hok : ∀ g ∈ gs, rdOk g)
    (htl : tl = [] ∨ ∃ (r : Rdg) (rest : List PyData) (c : Str), tl = rdD r :: rest ∧ ((c = "BadHand" ∧ ¬ (0 ≤ r.1 ∧ r.1 < 4)) ∨ (c = "BadKey" ∧ (0 ≤ r.1 ∧ r.1 < 4) ∧ ¬ (0 ≤ r.2.2.1 ∧ r.2.2.1 < 32))) ∧ E (.ref (He.ga K c)) none H)
    (hnx : tl = [] → ∀ v4 v5 v6 v7, D.nx [some (.ref l1), some (.ref l2), some (.int m), v3, v4, v5, v6, v7, none, none, none] H) :
    tFor (iSeq K (tVar 1)) (gTup K 4 (gCons (gName 4) (gCons (gName 5) (gCons (gName 6) (gCons (gName 7) gNil))))) (tSeq (tDrop (tCall (S_need_hand K) [] E (tCons (tVar 4) tNil))) (tDrop (tCall (S_need_key K) [] E (tCons (tVar 6) tNil)))) D [some (.ref l1), some (.ref l2), some (.int m), v3, none, none, none, none, none, none, none] H := by
  have hlen := hA.length
  refine s_forL ?_
  walk_at "run"
  refine forL (xs := ys) (fun i σ' H' => ∃ v4 v5 v6 v7, σ' = [some (.ref l1), some (.ref l2), some (.int m), v3, v4, v5, v6, v7, none, none, none] ∧ H' = H ∧ i ≤ gs.length) ⟨none, none, none, none, rfl, rfl, Nat.zero_le _⟩ (fun i σ' H' ⟨_, _, _, _, _, z, _⟩ => by rw [z]; exact hl) ?_ ?_
  · rintro i x σ' H' hx ⟨v4, v5, v6, v7, rfl, rfl, hi⟩
    obtain ⟨d, hd1, hd2⟩ := hA.get hx
    rcases Nat.lt_or_ge i gs.length with h1 | h1
    · have e1 : gs[i]? = some gs[i] := List.getElem?_eq_getElem h1
      have e2 : d = rdD gs[i] := by
        rw [hds, List.getElem?_append_left (by simpa using h1), List.getElem?_map, e1] at hd1
        exact (Option.some.inj hd1).symm
      subst e2
      have ho := hok _ (List.mem_of_getElem? e1)
      obtain ⟨t, u0, u1, u2, u3, rfl, ht, rfl, rfl, rfl, hu3⟩ := dt4.mp hd2
      walk_at "run"
      refine ⟨_, rfl, _, rfl, fun _ => ?_, fun z => (z ho.1).elim⟩
      walk_at "run"
      refine ⟨_, rfl, _, rfl, fun _ => ?_, fun z => (z ho.2).elim⟩
      walk_at "run"
      exact ⟨_, _, _, _, rfl, rfl, h1⟩
    · have h2 : i = gs.length := by omega
      subst h2
      rcases htl with rfl | ⟨r, rest, c, rfl, hb, hE⟩
      · have := (List.getElem?_eq_some_iff.mp hd1).1
        rw [hds] at this; simp at this
      · have e2 : d = rdD r := by
          rw [hds, List.getElem?_append_right (by simp), List.length_map, Nat.sub_self] at hd1
          exact (Option.some.inj hd1).symm
        subst e2
        obtain ⟨t, u0, u1, u2, u3, rfl, ht, rfl, rfl, rfl, hu3⟩ := dt4.mp hd2
        walk_at "run"
        rcases hb with ⟨rfl, h3⟩ | ⟨rfl, h3, h4⟩
        · exact ⟨_, rfl, _, rfl, fun z => (h3 z).elim, fun _ => hE⟩
        · refine ⟨_, rfl, _, rfl, fun _ => ?_, fun z => (z h3).elim⟩
          walk_at "run"
          exact ⟨_, rfl, _, rfl, fun z => (h4 z).elim, fun _ => hE⟩
  · rintro σ' H' ⟨v4, v5, v6, v7, rfl, rfl, hi⟩
    refine hnx ?_ _ _ _ _
    rcases htl with rfl | ⟨r, rest, c, rfl, _⟩
    · rfl
    · rw [hds] at hlen; simp at hlen; omega
theorem judgeM_at {sh : Nat → Int → Option Int} {n : Nat} {seen : Int → Int} {i : Nat} {gs : List Rdg} {r : Rdg} (h : gs[i]? = some r) (j : Nat) : judgeM sh n seen j (gs.drop i) = if (seen r.1 ≤ r.2.1 ∧ r.2.1 < n) ∧ sh r.2.1.toNat r.2.2.1 = r.2.2.2 then judgeM sh n (fun h => if h = r.1 then r.2.1 else seen h) (j + 1) (gs.drop (i + 1)) else some (j : Int) := by
  have hi := (List.getElem?_eq_some_iff.mp h).1
  have e : gs.drop i = r :: gs.drop (i + 1) := by
    rw [List.drop_eq_getElem_cons hi]
    congr 1
    exact (List.getElem?_eq_some_iff.mp h).2
  rw [e]; rfl
theorem pure_judge (T : Tx w K mg) (vs : List V) (H : Hp) (Q : VK) (E : XK) (h : S_judge K vs H Q E) : t_judge K E { nx := fun _ H' => Q .non H', rt := Q } (start N_judge vs) H := by
  obtain ⟨_, _, rfl, l1, l2, xs, ys, ds, rs, rfl, rfl, hl1, hl2, hA, hB, hdi, hri, hc⟩ := h
  unfold t_judge
  rcases hc with ⟨r, ⟨js, d, rest, hds, hok, hlj, hn, hb⟩, hJ⟩ | hc
  · walk_at "run"
    exact judge_l1 hl1 hA hdi hds hok (.inr ⟨d, rest, r, rfl, hn, hb, hJ⟩) rfl (fun z => nomatch z)
  have hc2 : ∃ js tl gs, ds = js.map JE.d ∧ okL 0 js ∧ js.length ≤ 1000 ∧ rs = gs.map rdD ++ tl ∧ (∀ g ∈ gs, rdOk g) ∧ ((∃ (r : Rdg) (rest : List PyData) (c : Str), tl = rdD r :: rest ∧ ((c = "BadHand" ∧ ¬ (0 ≤ r.1 ∧ r.1 < 4)) ∨ (c = "BadKey" ∧ (0 ≤ r.1 ∧ r.1 < 4) ∧ ¬ (0 ≤ r.2.2.1 ∧ r.2.2.1 < 32))) ∧ ∀ H', Kp (tabs K) No H H' → E (.ref (He.ga K c)) none H') ∨
      (tl = [] ∧ gs.length ≤ 1000 ∧ ∀ H', Kp (tabs K) No H H' → Q (lv (judgeM (fun i k => (pAt js i).shown k) (js.length + 1) (fun _ => 0) 0 gs)) H')) := by
    rcases hc with ⟨js, c, h1, h2, h3, ⟨gs, r, rest, h4, h5, h6⟩, h7⟩ | ⟨js, gs, h1, h2, h3, h4, h5, h6, h7⟩
    · exact ⟨js, _, gs, h1, h2, h3, h4, h5, .inl ⟨r, rest, c, rfl, h6, h7⟩⟩
    · exact ⟨js, [], gs, h1, h2, h3, by rw [h4, List.append_nil], h5, .inr ⟨rfl, h6, h7⟩⟩
  obtain ⟨js, tl, gs, hds, hok, hlj, hrs, hgok, hc3⟩ := hc2
  walk_at "run"
  refine judge_l1 (tl := []) hl1 hA hdi (by rw [hds, List.append_nil]) hok (.inl rfl) rfl fun _ m v3 H1 k1 => ?_
  have hl2' := k1.lst hl2 (fun z => z)
  walk_at "run"
  refine judge_l2 hl2' (hB.keep k1 hri) hrs hgok ?_ fun htl v4 v5 v6 v7 => ?_
  · rcases hc3 with ⟨r, rest, c, rfl, h1, h2⟩ | ⟨rfl, _⟩
    · exact .inr ⟨r, rest, c, rfl, h1, h2 H1 k1⟩
    · exact .inl rfl
  obtain ⟨hgl, hq⟩ : gs.length ≤ 1000 ∧ ∀ H', Kp (tabs K) No H H' → Q (lv (judgeM (fun i k => (pAt js i).shown k) (js.length + 1) (fun _ => 0) 0 gs)) H' := by
    rcases hc3 with ⟨r, rest, c, z, _⟩ | ⟨_, h1, h2⟩
    · rw [htl] at z; cases z
    · exact ⟨h1, h2⟩
  rw [htl, List.append_nil] at hrs
  subst hds hrs
  have hl1' := k1.lst hl1 (fun z => z)
  have hA1 := hA.keep k1 hdi
  have hB1 := hB.keep k1 hri
  walk_at "run"
  refine ⟨_, rfl, l1, xs, js, rfl, hl1', hA1, hok, hlj, fun tp as H2 k2 ntp htp hasl hget => ?_⟩
  have hl2'' := k2.lst hl2' (fun z => z)
  walk_at "run"
  intro sd hsd
  walk_at "run"
  refine s_forE ?_
  walk_at "run"
  have ks : Kp (tabs K) No H2 (upd H2 sd (.dK [])) := Kp.new hsd
  have hl3 := ks.lst hl2'' (fun z => z)
  refine ⟨l2, rfl, .inl ⟨ys, SqL.of hl3, ?_⟩⟩
  have hyl := hB.length
  rw [List.length_map] at hyl
  have ntd : tp ≠ sd := ne_of_none htp hsd
  refine forEL (xs := ys) (fun i σ' H' => ∃ v3 v4 v5 v6 v7 v10 kvs sf, σ' = [some (.ref l1), some (.ref l2), some (.int m), v3, v4, v5, v6, v7, some (.ref tp), some (.ref sd), v10] ∧ Kp (tabs K) No H2 H' ∧ H' sd = some (.dK kvs) ∧ DR H' kvs (fun h : Int => (sf h : Option Int).map PyData.int) ∧ (∀ h : Int, 0 ≤ (sf h).getD 0) ∧
    judgeM (fun i k => (pAt js i).shown k) (js.length + 1) (fun _ => 0) 0 gs = judgeM (fun i k => (pAt js i).shown k) (js.length + 1) (fun h => (sf h).getD 0) i (gs.drop i))
    ⟨_, _, _, _, _, _, [], fun _ => none, rfl, ks, upd_same, DR.nil, fun _ => Int.le_refl _, rfl⟩ (fun i σ' H' ⟨_, _, _, _, _, _, _, _, _, z, _⟩ => z.lst hl2'' (fun z => z)) ?_ ?_
  · rintro i x t σ' H' hx ⟨v3, v4, v5, v6, v7, v10, kvs, sf, rfl, kp, hs, hD, hpos, hj⟩ ht
    obtain ⟨_, hd1, hd2⟩ := hB.get hx
    obtain ⟨r, hr, rfl⟩ := map_get hd1
    have hro := hgok r (List.mem_of_getElem? hr)
    have kall : Kp (tabs K) No H H' := (k1.trans k2 fun _ z => z.elim).trans kp fun _ z => z.elim
    obtain ⟨u, u0, u1, u2, u3, rfl, hu, rfl, rfl, rfl, hu3⟩ := dt4.mp (Dt.keep kall di_rd hd2)
    obtain rfl := dt_oD.mp hu3
    have nut : u ≠ t := ne_of_none hu ht
    have nst : sd ≠ t := ne_of_none hs ht
    have htp2 : H' tp = some (.lst (as.map V.ref)) := kp.lst htp (fun z => z)
    have ntt : tp ≠ t := ne_of_none htp2 ht
    have kt : Kp (tabs K) No H' (upd H' t (.tup [.int (i : Nat), .ref u])) := Kp.new ht
    have hz : kvs.length ≤ 100 := by have := hD.len; omega
    rw [judgeM_at hr] at hj
    have gv : (valV kvs (.inl r.1)).getD (.int 0) = .int ((sf r.1).getD 0) := by
      cases e : sf r.1 with
      | none => rw [hD.non r.1 (by rw [e]; rfl)]; rfl
      | some q =>
        obtain ⟨v, e1, e2⟩ := hD.get r.1 (.int q) (by rw [e]; rfl)
        rw [e1]; exact e2
    walk_at "run"
    rw [gv]
    walk_at "run"
    have fail : ¬ (((sf r.1).getD 0 ≤ r.2.1 ∧ r.2.1 < (js.length + 1 : Nat)) ∧ (pAt js r.2.1.toNat).shown r.2.2.1 = r.2.2.2) → ∀ H3, Kp (tabs K) No H H3 → Q (.int (i : Nat)) H3 := fun hn H3 k3 => by
      rw [if_neg hn] at hj
      have := hq H3 k3
      rw [hj] at this; exact this
    refine if_d (fun h1 => ?_) (fun h1 => ?_)
    · walk_at "run"
      rw [List.length_map, hasl]
      refine if_nd (fun h2 => ?_) (fun h2 => ?_)
      · walk_at "run"
        exact fail (fun z => h2 z.1.2) _ (by walk_at "kp")
      · have hp0 := hpos r.1
        obtain ⟨a, ea⟩ : ∃ a, as[r.2.1.toNat]? = some a := ⟨_, List.getElem?_eq_getElem (by omega)⟩
        have hsl := kp.lst (hget _ a ea) (fun z => z)
        have nat : a ≠ t := ne_of_none hsl ht
        have at1 := at_page (k := r.2.1) ea (by omega)
        have at2 : atI (shownL (pAt js r.2.1.toNat)) r.2.2.1 = some (lv ((pAt js r.2.1.toNat).shown r.2.2.1)) := by
          refine at_nat hro.2.1 ?_
          unfold shownL rng
          rw [List.getElem?_map, List.getElem?_map, List.getElem?_range (by have := hro.2.2; omega)]
          show some (lv ((pAt js r.2.1.toNat).shown ((r.2.2.1.toNat : Nat) : Int))) = _
          rw [show ((r.2.2.1.toNat : Nat) : Int) = r.2.2.1 by have := hro.2.1; omega]
        walk_at "run"
        refine if_nd (fun h3 => ?_) (fun h3 => ?_)
        · walk_at "run"
          exact fail (fun z => h3 z.2) _ (by walk_at "kp")
        · walk_at "run"
          rw [if_pos ⟨⟨h1, h2⟩, h3⟩] at hj
          have kb : Kp (tabs K) (fun b => b = sd) H' (upd (upd H' t (.tup [.int (i : Nat), .ref u])) sd (.dK (putK kvs (.inl r.1) (.int r.2.1)))) := by walk_at "kp"
          refine ⟨_, _, _, _, _, _, _, fun h => if h = r.1 then some r.2.1 else sf h, rfl, kp.trans kb fun b z => .inr (by rw [z]; exact .inl hsd), upd_same, ?_, fun h => ?_, ?_⟩
          · refine ((hD.keep kb).put (k := r.1) (d := .int r.2.1) rfl Di.int hro.1.1 (by have := hro.1.2; omega)).congr fun j => ?_
            by_cases hjr : j = r.1
            · simp [hjr]
            · simp [hjr]
          · by_cases hjr : h = r.1
            · simp [hjr]; omega
            · simp [hjr]; exact hpos h
          · rw [hj]
            congr 1
            funext h
            by_cases hjr : h = r.1
            · simp [hjr]
            · simp [hjr]
    · walk_at "run"
      exact fail (fun z => h1 z.1.1) _ (by walk_at "kp")
  · rintro σ' H' ⟨v3, v4, v5, v6, v7, v10, kvs, sf, rfl, kp, hs, hD, hpos, hj⟩
    rw [hyl, List.drop_length] at hj
    walk_at "run"
    have := hq H' (by walk_at "kp")
    rw [hj] at this
    exact this
end
end W

end
section
/-! ### draws out of written lists -/
namespace W
open PySem PySem.Spec PyProof.Rows L2 Cm
def tInts : List Int → TA
  | [] => tNil
  | a :: as => tCons (tC (.int a)) (tInts as)
section
variable {K : PySem.W.Frag} {E : XK} {σ : L2.St} {H : Hp} {Q : VK} {b l : Addr} {i : Nat}
theorem run_ints {QA : List V → Hp → Prop} : ∀ {ns : List Int} {QA : List V → Hp → Prop}, QA (ns.map V.int) H → tInts ns σ H QA
  | [], QA, q => q
  | n :: ns, QA, q => run_ints (ns := ns) (QA := fun xs H2 => QA (.int n :: xs) H2) q
theorem take_c {m : Int} (hσ : σ[i]? = some (some (.ref b))) (B : BoxAt H b l) (h0 : 0 < m) (h1 : m < 2 ^ 64) (q : ∀ v H', 0 ≤ v → v < m → BoxAt H' b l → Kp (tabs K) (Bx b l) H H' → Q (.int v) H') : tCall (S_take_ K) [] E (tCons (tVar i) (tCons (tC (.int m)) tNil)) σ H Q :=
  ⟨.ref b, hσ, ⟨_, _, rfl, b, l, m, rfl, rfl, B, h0, h1, q⟩⟩
theorem pick_c {ns : List Int} {m : Int} (hσ : σ[i]? = some (some (.ref b))) (B : BoxAt H b l) (hm : m = ns.length) (hz : ns.length ≤ 100) (hp : ns ≠ []) (q : ∀ x H', x ∈ ns → BoxAt H' b l → Kp (tabs K) (Bx b l) H H' → Q (.int x) H') :
    tOp (rIxA K) (tLst (tInts ns)) (tCall (S_take_ K) [] E (tCons (tVar i) (tCons (tC (.int m)) tNil))) σ H Q := by
  have hl : 0 < ns.length := List.length_pos_iff.mpr hp
  refine e_op (e_lst (run_ints (QA := fun _ _ => True) (ns := ns) ⟨by rw [sizeLine_eq, List.length_map]; omega, fun p hp => ?_⟩))
  refine take_c hσ (B.new hp) (by omega) (by omega) fun v H1 v0 v1 B1 k1 => ?_
  have g1 : H1 p = some (.lst (ns.map V.int)) := k1.lst upd_same (out_bx (B.nb hp) (B.nl hp))
  obtain ⟨x, e, hx⟩ := at_pick (xs := ns.map V.int) v0 (by rw [List.length_map]; omega)
  obtain ⟨n, hn, rfl⟩ := List.mem_map.mp hx
  exact r_ixl g1 e (q n H1 hn B1 ((Kp.new hp).trans k1 fun a z => .inl z))
theorem take_pick {ns : List Int} {m M : Int} (hσ : σ[i]? = some (some (.ref b))) (B : BoxAt H b l) (hm : m = ns.length) (hz : ns.length ≤ 100) (hp : ns ≠ []) (hM : ∀ x ∈ ns, 0 < x ∧ x ≤ M) (hM2 : M < 2 ^ 64) (q : ∀ v H', 0 ≤ v → v < M → BoxAt H' b l → Kp (tabs K) (Bx b l) H H' → Q (.int v) H') :
    tCall (S_take_ K) [] E (tCons (tVar i) (tCons (tOp (rIxA K) (tLst (tInts ns)) (tCall (S_take_ K) [] E (tCons (tVar i) (tCons (tC (.int m)) tNil)))) tNil)) σ H Q := by
  refine e_call (e_cons (e_var hσ (e_cons (pick_c hσ B hm hz hp fun x H1 hx B1 k1 => e_nil ?_))))
  have := hM x hx
  refine ⟨_, _, rfl, b, l, x, rfl, rfl, B1, this.1, by omega, fun v H2 v0 v1 B2 k2 => q v H2 v0 (by omega) B2 (k1.trans k2 fun a z => .inl z)⟩
/-- a thing at a slot of a list that was written -/
theorem pick_at {xs : List V} {m : Int} {p : Addr} (hσ : σ[i]? = some (some (.ref b))) (B : BoxAt H b l) (hp : H p = some (.lst xs)) (h1 : b ≠ p) (h2 : l ≠ p) (hm : m = xs.length) (hz : xs.length ≤ 100) (hne : xs ≠ []) (q : ∀ x H', x ∈ xs → BoxAt H' b l → Kp (tabs K) (Bx b l) H H' → Q x H') :
    tCall (S_take_ K) [] E (tCons (tVar i) (tCons (tC (.int m)) tNil)) σ H fun y H2 => rIxA K (.ref p) y H2 Q := by
  have hl : 0 < xs.length := List.length_pos_iff.mpr hne
  refine take_c hσ B (by omega) (by omega) fun v H1 v0 v1 B1 k1 => ?_
  have g1 : H1 p = some (.lst xs) := k1.lst hp (out_bx h1 h2)
  obtain ⟨x, e, hx⟩ := at_pick (xs := xs) v0 (by omega)
  exact r_ixl g1 e (q x H1 hx B1 k1)
end
end W

end
section
/-! ### M0: words for walking through a reading (local) -/
local macro_rules | `(tactic| walk_at "st") => `(tactic| first
  | (with_reducible refine Cm.s_seq ?_) | (with_reducible refine Cm.s_asg ?_) | (with_reducible refine Cm.s_drop ?_) | (with_reducible refine Cm.s_ret ?_) | (with_reducible refine Cm.s_if ?_) | (with_reducible refine Cm.s_next ?_) | (with_reducible refine Cm.s_retN ?_) | (with_reducible refine Cm.s_rs ?_) | (with_reducible refine Cm.s_fld0 ?_)
  | ((with_reducible refine' Cm.e_var ?hv ?_); (case hv => exact rfl))
  | (with_reducible refine Cm.e_c ?_) | (with_reducible refine Cm.e_op ?_) | (with_reducible refine Cm.e_un ?_) | (with_reducible refine Cm.e_nil ?_) | (with_reducible refine Cm.e_cons ?_) | (with_reducible refine Cm.e_tup ?_) | (with_reducible refine Cm.e_lst ?_) | (with_reducible refine Cm.e_cb ?_) | (with_reducible refine Cm.e_call ?_) | (with_reducible refine Cm.e_if ?_)
  | (with_reducible refine Cm.e_andV ?_) | (with_reducible refine Cm.e_orV ?_) | (with_reducible refine Cm.e_notV ?_) | (with_reducible refine Cm.e_fld0 ?_) | (with_reducible refine Cm.e_meth0 ?_) | (with_reducible refine Cm.e_bm0 ?_) | (with_reducible refine Cm.e_bm ?_) | (with_reducible refine Cm.e_sl ?_) | (with_reducible refine Cm.o_none ?_) | (with_reducible refine Cm.o_some ?_) | (with_reducible refine Cm.e_dnew ?_)
  | (with_reducible refine Cm.e_test ?_) | (with_reducible refine Cm.e_tr ?_) | (with_reducible refine Cm.e_and ?_) | (with_reducible refine Cm.e_or ?_) | (with_reducible refine Cm.e_not ?_) | (with_reducible refine Cm.e_yes ?_) | (with_reducible refine Cm.e_chain ?_)
  | (with_reducible refine Cm.r_i0 ?_) | (with_reducible refine Cm.r_u ?_) | (with_reducible refine Cm.r_isNo ?_) | (with_reducible refine Cm.r_notNo ?_) | (with_reducible refine Cm.r_addI ?_) | (with_reducible refine Cm.r_int1b ?_) | (with_reducible refine Cm.r_max2 ?_)
  | ((with_reducible refine Cm.r_i ?hc ?_); (case hc => walk_at "num"))
  | ((with_reducible refine Cm.r_mulI ?hc ?_); (case hc => walk_at "num"))
  | ((with_reducible refine Cm.r_eqS ?hc ?_); (case hc => exact rfl))
  | ((with_reducible refine Cm.r_neS ?hc ?_); (case hc => exact rfl))
  | ((with_reducible refine' Cm.r_ixl ?h1 ?h2 ?_); (case h1 => walk_at "look"); (case h2 => walk_at "at"))
  | ((with_reducible refine' Cm.r_ixt ?h1 ?h2 ?_); (case h1 => walk_at "look"); (case h2 => walk_at "at"))
  | ((with_reducible refine' Cm.r_ixT ?h1 ?h2 ?_); (case h1 => walk_at "lookT"); (case h2 => walk_at "at"))
  | ((with_reducible refine' Cm.r_ixds ?h1 ?h2 ?_); (case h1 => walk_at "look"); (case h2 => walk_at "key"))
  | ((with_reducible refine' Cm.r_eqe ?h1 ?h2 ?_); (case h1 => walk_at "look"); (case h2 => walk_at "look"))
  | ((with_reducible refine' Cm.r_nee ?h1 ?h2 ?_); (case h1 => walk_at "look"); (case h2 => walk_at "look"))
  | ((with_reducible refine' Cm.r_lenl ?h1 ?_); (case h1 => walk_at "look"))
  | ((with_reducible refine' Cm.r_lent ?h1 ?_); (case h1 => walk_at "look"))
  | ((with_reducible refine' Cm.r_lenT ?h1 ?_); (case h1 => walk_at "lookT"))
  | ((with_reducible refine' Cm.r_listl ?h1 ?_); (case h1 => walk_at "look"); (intro _ _))
  | ((with_reducible refine' Cm.r_tupl ?h1 ?_); (case h1 => walk_at "look"); (intro _ _))
  | ((with_reducible refine' Cm.r_addL ?h1 ?h2 ?h3 ?_); (case h1 => walk_at "look"); (case h2 => walk_at "look"); (case h3 => walk_at "size"); (intro _ _))
  | ((with_reducible refine' Cm.m_append ?h1 ?h2 ?_); (case h1 => walk_at "look"); (case h2 => walk_at "size"))
  | ((with_reducible refine' Cm.m_clear ?h1 ?_); (case h1 => walk_at "look"))
  | ((with_reducible refine' Cm.g_setL ?h1 ?h2 ?_); (case h1 => walk_at "look"); (case h2 => walk_at "ix"))
  | ((with_reducible refine' Cm.g_setDs ?h1 ?h2 ?h3 ?_); (case h1 => walk_at "look"); (case h2 => walk_at "size"); (case h3 => walk_at "put"))
  | ((with_reducible refine' Cm.fld_at ?h1 ?h2 ?h3 ?h4 ?_); (case h1 => walk_at "look"); (case h2 => assumption); (case h3 => assumption); (case h4 => walk_at "key"))
  | ((with_reducible refine' Cm.fldset_at ?h1 ?h2 ?h3 ?h4 ?h5 ?_); (case h1 => walk_at "look"); (case h2 => assumption); (case h3 => assumption); (case h4 => walk_at "size"); (case h5 => walk_at "put"))
  | (with_reducible refine Cm.s_fldaug0 ?_)
  | ((with_reducible refine' Cm.aug_at ?h1 ?h2 ?h3 ?h4 ?_); (case h1 => walk_at "look"); (case h2 => assumption); (case h3 => assumption); (case h4 => walk_at "key"))
  | ((with_reducible refine' Cm.augset_at ?h1 ?h4 ?h5 ?_); (case h1 => walk_at "look"); (case h4 => walk_at "size"); (case h5 => walk_at "put"))
  | (with_reducible refine Cm.in_sub_at ?_) | (with_reducible refine Cm.in_add_at ?_)
  | ((with_reducible refine' Cm.meth_at ?h1 ?h2 ?_); (case h1 => walk_at "look"); (case h2 => walk_at "key"))
  | ((with_reducible refine Cm.new_at ?h1 ?_); (case h1 => walk_at "size"); (intro _ _))
  | ((with_reducible refine Cm.and_at (A := L2.tyV _ "list" _ _) ?h1 ?_); (case h1 => exact Cm.ty_lst (by walk_at "look")))
  | ((with_reducible refine' Cm.g_tupt ?h1 ?h2 ?_); (case h1 => walk_at "look"); (case h2 => exact rfl))
  | ((with_reducible refine' Cm.g_tup ?h1 ?h2 ?_); (case h1 => walk_at "lookT"); (case h2 => exact rfl))
  | (with_reducible refine Cm.g_name ?_) | (with_reducible refine Cm.g_sub ?_) | (with_reducible refine Cm.g_cons ?_) | (with_reducible refine Cm.g_nil ?_)
  | (with_reducible refine Cm.int_at ?_) | (with_reducible refine Cm.bl_at ?_) | (with_reducible refine Cm.tr_bl ?_) | (with_reducible refine Cm.tr_non ?_)
  | ((with_reducible refine' Cm.m_pop0 ?h1 ?_); (case h1 => walk_at "look"))
  | ((with_reducible refine' Cm.r_slTo ?h1 ?h2 ?_); (case h1 => walk_at "look"); (case h2 => walk_at "num2"); (intro _ _))
  | ((with_reducible refine' Cm.r_slFrom ?h1 ?h2 ?_); (case h1 => walk_at "look"); (case h2 => walk_at "num2"); (intro _ _))
  | ((with_reducible refine' Cm.at_forL ?h1 ?_); (case h1 => walk_at "look"))
  | ((with_reducible refine' Cm.at_forT ?h1 ?_); (case h1 => walk_at "look"))
  | ((with_reducible refine' Cm.at_forR ?h1 ?h2 ?_); (case h1 => walk_at "num2"); (case h2 => walk_at "num2"))
  | ((with_reducible refine' Cm.at_forZ ?h1 ?h2 ?_); (case h1 => walk_at "look"); (case h2 => walk_at "look"))
  | (with_reducible refine Cm.s_forZ ?_) | (with_reducible refine Cm.s_forR ?_)
  | ((with_reducible refine Cm.and_at (A := _ = _) ?h1 ?_); (case h1 => exact rfl))
  | ((with_reducible show L2.rIsi _ _ _ _); walk_at "isi")
  | (with_reducible refine Cm.ite_nt ?_) | (with_reducible refine Cm.ite_nf ?_)
  | (with_reducible refine L2.iteT ?_) | (with_reducible refine L2.iteF ?_)
  | dsimp only
  | fail)
local macro_rules | `(tactic| walk_at "run") => `(tactic| repeat (walk_at "st"))
local macro_rules | `(tactic| walk_at "num") => `(tactic| first
  | exact Or.inr ⟨by decide, by decide⟩ | exact Or.inl ⟨by decide, by decide⟩
  | exact Cm.wdiv (by first | decide | omega) (by first | decide | omega)
  | (show (0 : Int) < _; first | decide | omega)
  | exact ⟨by decide, by decide, by decide⟩
  | fail)
local macro_rules | `(tactic| walk_at "put") => `(tactic| exact rfl)
local macro_rules | `(tactic| walk_at "fl") => `(tactic| first | exact Cm.fl0 | (refine' Cm.flS ?hz; (case hz => walk_at "fl")) | fail)
local macro_rules | `(tactic| walk_at "size") => `(tactic| first | exact Cm.sz_lit rfl | exact Cm.sz_lt rfl | exact Cm.fs_lt rfl | decide | (refine' Nat.lt_of_le_of_lt ?ha ?hb; (case ha => walk_at "fl"); (case hb => decide)) | (simp only [List.length_cons, List.length_nil, List.length_append, List.length_map, List.length_set, List.length_replicate, PySem.sizeLine_eq]; omega) | (simp only [List.length_cons, List.length_nil, List.length_append, List.length_map, List.length_set, List.length_replicate, PySem.sizeLine_eq] at *; omega) | fail)
local macro_rules | `(tactic| walk_at "at") => `(tactic| first | assumption | (with_reducible exact Cm.at0) | (with_reducible exact Cm.at1) | (with_reducible exact Cm.at2) | (with_reducible exact Cm.at3) | (with_reducible exact Cm.at4) | (with_reducible exact Cm.at5) | (with_reducible exact Cm.at6) | (with_reducible exact Cm.at7) | (with_reducible exact Cm.at8) | (with_reducible exact Cm.at0s) | (with_reducible exact Cm.at1s) | (with_reducible exact Cm.at01s) | (with_reducible exact Cm.at10s) | fail)
local macro_rules | `(tactic| walk_at "ix") => `(tactic| first | exact Cm.ix0 (by walk_at "size") | exact Cm.ix1 (by walk_at "size") | assumption | fail)
local macro_rules | `(tactic| walk_at "key") => `(tactic| first | assumption | fail)
local macro_rules | `(tactic| walk_at "ne") => `(tactic| first
  | assumption
  | (refine Ne.symm ?_; assumption)
  | (refine' L2.ne_of_none ?h1 ?h2; (case h2 => assumption); (case h1 => walk_at "look"))
  | (refine' Ne.symm (L2.ne_of_none ?h1 ?h2); (case h2 => assumption); (case h1 => walk_at "look"))
  | fail)
local macro_rules | `(tactic| walk_at "lookT") => `(tactic| first
  | assumption
  | exact L2.SqT.of (by walk_at "look")
  | fail)
local macro_rules | `(tactic| walk_at "look") => `(tactic| first
  | assumption
  | exact L2.upd_same
  | ((fail_if_success (with_reducible refine Eq.trans L2.upd_same ?_)); (refine' Eq.trans (L2.upd_ne ?h1) ?h2); (case h1 => walk_at "ne"); (case h2 => walk_at "look"))
  | (refine' Cm.kp_look ?h1 ?h2 ?h3 ?h4; (case h1 => assumption); (case h2 => walk_at "look"); (case h3 => intro _ z; cases z); (case h4 => first | exact Or.inl rfl | exact Or.inr (by walk_at "out")))
  | fail)
local macro_rules | `(tactic| walk_at "out") => `(tactic| first
  | assumption
  | exact fun z => z
  | exact fun z => z.elim (fun e => absurd e (by walk_at "ne")) (fun e => absurd e (by walk_at "ne"))
  | exact fun e => absurd e (by walk_at "ne")
  | fail)
local macro_rules | `(tactic| walk_at "dom") => `(tactic| first
  | exact Cm.dm_refl
  | (refine Cm.dm_upd ?_; walk_at "dom")
  | (refine' Cm.dm_kp ?h1 ?h2; (case h2 => assumption); (case h1 => walk_at "dom"))
  | fail)
local macro_rules | `(tactic| walk_at "free") => `(tactic| first
  | assumption
  | exact Cm.nw_of (by assumption)
  | (refine' Cm.dm_use ?h1 ?h2; (case h2 => assumption); (case h1 => walk_at "dom"))
  | (refine' Cm.dm_use2 ?h1 ?h2; (case h2 => assumption); (case h1 => walk_at "dom"))
  | fail)
local macro_rules | `(tactic| walk_at "in") => `(tactic| first
  | exact Or.inl rfl | exact Or.inl (Or.inl rfl) | exact Or.inl (Or.inr rfl) | exact Or.inl (Or.inr (Or.inl rfl)) | exact Or.inl (Or.inr (Or.inr rfl))
  | exact Or.inl (by assumption)
  | exact Or.inr (by walk_at "free")
  | fail)
local macro_rules | `(tactic| walk_at "kp") => `(tactic| first
  | assumption
  | exact Cm.Kp.refl
  | (refine' Cm.Kp.new' ?h1 ?h2; (case h2 => assumption); (case h1 => walk_at "kp"))
  | (refine' Cm.Kp.setX' ?h1 ?h2 ?h4 ?h5 ?h3; (case h2 => walk_at "look"); (case h4 => exact rfl); (case h5 => intro _ z; cases z); (case h3 => walk_at "in"); (case h1 => walk_at "kp"))
  | (refine' Cm.kp_step ?h1 ?h2 ?h3; (case h2 => assumption); (case h3 => walk_at "sub"); (case h1 => walk_at "kp"))
  | fail)
local macro_rules | `(tactic| walk_at "sub") => `(tactic| first
  | exact fun _ z => z.elim
  | exact fun _ z => Or.inl z
  | (intro a z; rcases z with rfl | rfl <;> walk_at "in")
  | (intro a z; subst z; walk_at "in")
  | fail)
local macro_rules | `(tactic| walk_at "num2") => `(tactic| first | decide | omega | fail)

local macro_rules | `(tactic| walk_at "isi") => `(tactic| first | (with_reducible refine Cm.isi_non_bool ?_) | (with_reducible refine Cm.isi_non_int ?_) | (with_reducible refine Cm.isi_non_str ?_) | (with_reducible refine Cm.isi_non_tuple ?_) | (with_reducible refine Cm.isi_non_list ?_) | (with_reducible refine Cm.isi_bl_bool ?_) | (with_reducible refine Cm.isi_bl_int ?_) | (with_reducible refine Cm.isi_bl_str ?_) | (with_reducible refine Cm.isi_bl_tuple ?_) | (with_reducible refine Cm.isi_bl_list ?_) | (with_reducible refine Cm.isi_int_bool ?_) | (with_reducible refine Cm.isi_int_int ?_) | (with_reducible refine Cm.isi_int_str ?_) | (with_reducible refine Cm.isi_int_tuple ?_) | (with_reducible refine Cm.isi_int_list ?_) | (with_reducible refine Cm.isi_str_bool ?_) | (with_reducible refine Cm.isi_str_int ?_) | (with_reducible refine Cm.isi_str_str ?_) | (with_reducible refine Cm.isi_str_tuple ?_) | (with_reducible refine Cm.isi_str_list ?_) | ((with_reducible refine' Cm.isi_tup_bool ?h1 ?_); (case h1 => walk_at "look")) | ((with_reducible refine' Cm.isi_tup_int ?h1 ?_); (case h1 => walk_at "look")) | ((with_reducible refine' Cm.isi_tup_str ?h1 ?_); (case h1 => walk_at "look")) | ((with_reducible refine' Cm.isi_tup_tuple ?h1 ?_); (case h1 => walk_at "look")) | ((with_reducible refine' Cm.isi_tup_list ?h1 ?_); (case h1 => walk_at "look")) | ((with_reducible refine' Cm.isi_lst_bool ?h1 ?_); (case h1 => walk_at "look")) | ((with_reducible refine' Cm.isi_lst_int ?h1 ?_); (case h1 => walk_at "look")) | ((with_reducible refine' Cm.isi_lst_str ?h1 ?_); (case h1 => walk_at "look")) | ((with_reducible refine' Cm.isi_lst_tuple ?h1 ?_); (case h1 => walk_at "look")) | ((with_reducible refine' Cm.isi_lst_list ?h1 ?_); (case h1 => walk_at "look")) | fail)

/-! ### M1: more words -/
local macro_rules | `(tactic| walk_at "st") => `(tactic| first
  | ((with_reducible refine Cm.and_at (A := L2.tyV _ "dict" _ _) ?h1 ?_); (case h1 => exact Cm.ty_dic (by walk_at "look")))
  | (with_reducible refine Cm.e_dget2 ?_) | (with_reducible refine Cm.e_dpop2 ?_) | (with_reducible refine Cm.e_dpop1 ?_) | (with_reducible refine Cm.s_rx ?_)
  | ((with_reducible refine' Cm.isd_at ?h1 ?_); (case h1 => walk_at "look"))
  | ((with_reducible refine' Cm.get_at ?h1 ?_); (case h1 => walk_at "look"))
  | ((with_reducible refine' Cm.pop1_at ?h1 ?h2 ?_); (case h1 => walk_at "look"); (case h2 => assumption))
  | ((with_reducible refine' Cm.r_dictD ?h1 ?_); (case h1 => walk_at "look"); (intro _ _))
  | ((with_reducible refine' Cm.r_lenD ?h1 ?_); (case h1 => walk_at "look"))
  | ((with_reducible refine' Cm.r_ixdi ?h1 ?h2 ?_); (case h1 => walk_at "look"); (case h2 => assumption))
  | ((with_reducible refine' Cm.g_setdi ?h1 ?h2 ?_); (case h1 => walk_at "look"); (case h2 => first | assumption | omega))
  | (with_reducible refine Cm.r_min2 ?_)
  | (with_reducible refine W.r_eq_lv ?_) | (with_reducible refine W.r_ne_lv ?_) | (with_reducible refine W.r_isNo_lv ?_) | (with_reducible refine W.r_notNo_lv ?_)
  | fail)

namespace W
open PySem PySem.Spec PyProof.Rows L2 Cm
section
variable {w : World} {K : PySem.W.Frag} {mg : Str → Option Value}
theorem pure_alike_ {n : Nat} (vs : List V) (H : Hp) (Q : VK) (E : XK) (h : S_alike_ K (n + 1) vs H Q E) : t_alike_ K n E { nx := fun _ H' => Q .non H', rt := Q } (start N_alike_ vs) H := by
  obtain ⟨x, y, rfl, d, hx, hy, hd, k⟩ := h
  have k0 := k H Kp.refl
  unfold t_alike_
  cases d with
  | none =>
    obtain rfl : x = .non := hx
    obtain rfl : y = .non := hy
    walk_at "run"
    refine if_dT rfl ?_
    walk_at "run"
    exact q_dec rfl k0
  | bool b =>
    obtain rfl : x = .bl b := hx
    obtain rfl : y = .bl b := hy
    walk_at "run"
    refine if_dF (fun z => nomatch z) ?_
    walk_at "run"
    exact q_dec rfl k0
  | int b =>
    obtain rfl : x = .int b := hx
    obtain rfl : y = .int b := hy
    walk_at "run"
    refine if_dF (fun z => nomatch z) ?_
    walk_at "run"
    exact q_dec rfl k0
  | str b =>
    obtain rfl : x = .str b := hx
    obtain rfl : y = .str b := hy
    walk_at "run"
    refine if_dF (fun z => nomatch z) ?_
    walk_at "run"
    exact q_dec rfl k0
  | tuple ds =>
    cases n with
    | zero => cases hd
    | succ n =>
    obtain ⟨hz, hdd⟩ := id hd
    obtain ⟨a, xs, rfl, ha, hA⟩ := id hx
    obtain ⟨b, ys, rfl, hb, hB⟩ := id hy
    walk_at "run"
    refine if_dF (fun z => nomatch z) ?_
    walk_at "run"
    refine if_ndF rfl ?_
    walk_at "run"
    refine if_ndF rfl ?_
    have e1 := hA.length
    have e2 := hB.length
    walk_at "run"
    refine if_ndF (by rw [e1, e2]) ?_
    walk_at "run"
    refine forR (fun i σ' H' => ∃ v, σ' = [some (.ref a), some (.ref b), v] ∧ Kp (tabs K) No H H') ⟨none, rfl, Kp.refl⟩ ?_ ?_
    · rintro i σ' H' hi ⟨v, rfl, kp⟩
      obtain ⟨x1, hx1, hx2⟩ : ∃ x1, xs[i]? = some x1 ∧ True := ⟨_, List.getElem?_eq_getElem (by omega), trivial⟩
      obtain ⟨d, hd1, hd2⟩ := hA.get hx1
      obtain ⟨y1, hy1, hy2⟩ := hB.at hd1
      have at1 : atI xs (i : Int) = some x1 := atI_nat hx1
      have at2 : atI ys (i : Int) = some y1 := atI_nat hy1
      have hdn := hdd d (List.mem_of_getElem? hd1)
      walk_at "run"
      refine ⟨_, _, rfl, d, Dt.same kp hdn hd2, Dt.same kp hdn hy2, hdn, fun H2 k2 => ?_⟩
      walk_at "run"
      exact ⟨_, rfl, by walk_at "kp"⟩
    · rintro σ' H' ⟨v, rfl, kp⟩
      walk_at "run"
      exact k H' kp
  | list ds =>
    cases n with
    | zero => cases hd
    | succ n =>
    obtain ⟨hz, hdd⟩ := id hd
    obtain ⟨a, xs, rfl, ha, hA⟩ := id hx
    obtain ⟨b, ys, rfl, hb, hB⟩ := id hy
    walk_at "run"
    refine if_dF (fun z => nomatch z) ?_
    walk_at "run"
    refine if_ndF rfl ?_
    walk_at "run"
    refine if_ndF rfl ?_
    have e1 := hA.length
    have e2 := hB.length
    walk_at "run"
    refine if_ndF (by rw [e1, e2]) ?_
    walk_at "run"
    refine forR (fun i σ' H' => ∃ v, σ' = [some (.ref a), some (.ref b), v] ∧ Kp (tabs K) No H H') ⟨none, rfl, Kp.refl⟩ ?_ ?_
    · rintro i σ' H' hi ⟨v, rfl, kp⟩
      obtain ⟨x1, hx1, hx2⟩ : ∃ x1, xs[i]? = some x1 ∧ True := ⟨_, List.getElem?_eq_getElem (by omega), trivial⟩
      obtain ⟨d, hd1, hd2⟩ := hA.get hx1
      obtain ⟨y1, hy1, hy2⟩ := hB.at hd1
      have at1 : atI xs (i : Int) = some x1 := atI_nat hx1
      have at2 : atI ys (i : Int) = some y1 := atI_nat hy1
      have hdn := hdd d (List.mem_of_getElem? hd1)
      walk_at "run"
      refine ⟨_, _, rfl, d, Dt.same kp hdn hd2, Dt.same kp hdn hy2, hdn, fun H2 k2 => ?_⟩
      walk_at "run"
      exact ⟨_, rfl, by walk_at "kp"⟩
    · rintro σ' H' ⟨v, rfl, kp⟩
      walk_at "run"
      exact k H' kp
  | dict ds => exact hx.elim
end
end W

end
section
/-! ### M0: words for walking through a reading (local) -/
local macro_rules | `(tactic| walk_at "st") => `(tactic| first
  | (with_reducible refine Cm.s_seq ?_) | (with_reducible refine Cm.s_asg ?_) | (with_reducible refine Cm.s_drop ?_) | (with_reducible refine Cm.s_ret ?_) | (with_reducible refine Cm.s_if ?_) | (with_reducible refine Cm.s_next ?_) | (with_reducible refine Cm.s_retN ?_) | (with_reducible refine Cm.s_rs ?_) | (with_reducible refine Cm.s_fld0 ?_)
  | ((with_reducible refine' Cm.e_var ?hv ?_); (case hv => exact rfl))
  | (with_reducible refine Cm.e_c ?_) | (with_reducible refine Cm.e_op ?_) | (with_reducible refine Cm.e_un ?_) | (with_reducible refine Cm.e_nil ?_) | (with_reducible refine Cm.e_cons ?_) | (with_reducible refine Cm.e_tup ?_) | (with_reducible refine Cm.e_lst ?_) | (with_reducible refine Cm.e_cb ?_) | (with_reducible refine Cm.e_call ?_) | (with_reducible refine Cm.e_if ?_)
  | (with_reducible refine Cm.e_andV ?_) | (with_reducible refine Cm.e_orV ?_) | (with_reducible refine Cm.e_notV ?_) | (with_reducible refine Cm.e_fld0 ?_) | (with_reducible refine Cm.e_meth0 ?_) | (with_reducible refine Cm.e_bm0 ?_) | (with_reducible refine Cm.e_bm ?_) | (with_reducible refine Cm.e_sl ?_) | (with_reducible refine Cm.o_none ?_) | (with_reducible refine Cm.o_some ?_) | (with_reducible refine Cm.e_dnew ?_)
  | (with_reducible refine Cm.e_test ?_) | (with_reducible refine Cm.e_tr ?_) | (with_reducible refine Cm.e_and ?_) | (with_reducible refine Cm.e_or ?_) | (with_reducible refine Cm.e_not ?_) | (with_reducible refine Cm.e_yes ?_) | (with_reducible refine Cm.e_chain ?_)
  | (with_reducible refine Cm.r_i0 ?_) | (with_reducible refine Cm.r_u ?_) | (with_reducible refine Cm.r_isNo ?_) | (with_reducible refine Cm.r_notNo ?_) | (with_reducible refine Cm.r_addI ?_) | (with_reducible refine Cm.r_int1b ?_) | (with_reducible refine Cm.r_max2 ?_)
  | ((with_reducible refine Cm.r_i ?hc ?_); (case hc => walk_at "num"))
  | ((with_reducible refine Cm.r_mulI ?hc ?_); (case hc => walk_at "num"))
  | ((with_reducible refine Cm.r_eqS ?hc ?_); (case hc => exact rfl))
  | ((with_reducible refine Cm.r_neS ?hc ?_); (case hc => exact rfl))
  | ((with_reducible refine' Cm.r_ixl ?h1 ?h2 ?_); (case h1 => walk_at "look"); (case h2 => walk_at "at"))
  | ((with_reducible refine' Cm.r_ixt ?h1 ?h2 ?_); (case h1 => walk_at "look"); (case h2 => walk_at "at"))
  | ((with_reducible refine' Cm.r_ixT ?h1 ?h2 ?_); (case h1 => walk_at "lookT"); (case h2 => walk_at "at"))
  | ((with_reducible refine' Cm.r_ixds ?h1 ?h2 ?_); (case h1 => walk_at "look"); (case h2 => walk_at "key"))
  | ((with_reducible refine' Cm.r_eqe ?h1 ?h2 ?_); (case h1 => walk_at "look"); (case h2 => walk_at "look"))
  | ((with_reducible refine' Cm.r_nee ?h1 ?h2 ?_); (case h1 => walk_at "look"); (case h2 => walk_at "look"))
  | ((with_reducible refine' Cm.r_lenl ?h1 ?_); (case h1 => walk_at "look"))
  | ((with_reducible refine' Cm.r_lent ?h1 ?_); (case h1 => walk_at "look"))
  | ((with_reducible refine' Cm.r_lenT ?h1 ?_); (case h1 => walk_at "lookT"))
  | ((with_reducible refine' Cm.r_listl ?h1 ?_); (case h1 => walk_at "look"); (intro _ _))
  | ((with_reducible refine' Cm.r_tupl ?h1 ?_); (case h1 => walk_at "look"); (intro _ _))
  | ((with_reducible refine' Cm.r_addL ?h1 ?h2 ?h3 ?_); (case h1 => walk_at "look"); (case h2 => walk_at "look"); (case h3 => walk_at "size"); (intro _ _))
  | ((with_reducible refine' Cm.m_append ?h1 ?h2 ?_); (case h1 => walk_at "look"); (case h2 => walk_at "size"))
  | ((with_reducible refine' Cm.m_clear ?h1 ?_); (case h1 => walk_at "look"))
  | ((with_reducible refine' Cm.g_setL ?h1 ?h2 ?_); (case h1 => walk_at "look"); (case h2 => walk_at "ix"))
  | ((with_reducible refine' Cm.g_setDs ?h1 ?h2 ?h3 ?_); (case h1 => walk_at "look"); (case h2 => walk_at "size"); (case h3 => walk_at "put"))
  | ((with_reducible refine' Cm.fld_at ?h1 ?h2 ?h3 ?h4 ?_); (case h1 => walk_at "look"); (case h2 => assumption); (case h3 => assumption); (case h4 => walk_at "key"))
  | ((with_reducible refine' Cm.fldset_at ?h1 ?h2 ?h3 ?h4 ?h5 ?_); (case h1 => walk_at "look"); (case h2 => assumption); (case h3 => assumption); (case h4 => walk_at "size"); (case h5 => walk_at "put"))
  | (with_reducible refine Cm.s_fldaug0 ?_)
  | ((with_reducible refine' Cm.aug_at ?h1 ?h2 ?h3 ?h4 ?_); (case h1 => walk_at "look"); (case h2 => assumption); (case h3 => assumption); (case h4 => walk_at "key"))
  | ((with_reducible refine' Cm.augset_at ?h1 ?h4 ?h5 ?_); (case h1 => walk_at "look"); (case h4 => walk_at "size"); (case h5 => walk_at "put"))
  | (with_reducible refine Cm.in_sub_at ?_) | (with_reducible refine Cm.in_add_at ?_)
  | ((with_reducible refine' Cm.meth_at ?h1 ?h2 ?_); (case h1 => walk_at "look"); (case h2 => walk_at "key"))
  | ((with_reducible refine Cm.new_at ?h1 ?_); (case h1 => walk_at "size"); (intro _ _))
  | ((with_reducible refine Cm.and_at (A := L2.tyV _ "list" _ _) ?h1 ?_); (case h1 => exact Cm.ty_lst (by walk_at "look")))
  | ((with_reducible refine' Cm.g_tupt ?h1 ?h2 ?_); (case h1 => walk_at "look"); (case h2 => exact rfl))
  | ((with_reducible refine' Cm.g_tup ?h1 ?h2 ?_); (case h1 => walk_at "lookT"); (case h2 => exact rfl))
  | (with_reducible refine Cm.g_name ?_) | (with_reducible refine Cm.g_sub ?_) | (with_reducible refine Cm.g_cons ?_) | (with_reducible refine Cm.g_nil ?_)
  | (with_reducible refine Cm.int_at ?_) | (with_reducible refine Cm.bl_at ?_) | (with_reducible refine Cm.tr_bl ?_) | (with_reducible refine Cm.tr_non ?_)
  | ((with_reducible refine' Cm.m_pop0 ?h1 ?_); (case h1 => walk_at "look"))
  | ((with_reducible refine' Cm.r_slTo ?h1 ?h2 ?_); (case h1 => walk_at "look"); (case h2 => walk_at "num2"); (intro _ _))
  | ((with_reducible refine' Cm.r_slFrom ?h1 ?h2 ?_); (case h1 => walk_at "look"); (case h2 => walk_at "num2"); (intro _ _))
  | ((with_reducible refine' Cm.at_forL ?h1 ?_); (case h1 => walk_at "look"))
  | ((with_reducible refine' Cm.at_forT ?h1 ?_); (case h1 => walk_at "look"))
  | ((with_reducible refine' Cm.at_forR ?h1 ?h2 ?_); (case h1 => walk_at "num2"); (case h2 => walk_at "num2"))
  | ((with_reducible refine' Cm.at_forZ ?h1 ?h2 ?_); (case h1 => walk_at "look"); (case h2 => walk_at "look"))
  | (with_reducible refine Cm.s_forZ ?_) | (with_reducible refine Cm.s_forR ?_)
  | ((with_reducible refine Cm.and_at (A := _ = _) ?h1 ?_); (case h1 => exact rfl))
  | ((with_reducible show L2.rIsi _ _ _ _); walk_at "isi")
  | (with_reducible refine Cm.ite_nt ?_) | (with_reducible refine Cm.ite_nf ?_)
  | (with_reducible refine L2.iteT ?_) | (with_reducible refine L2.iteF ?_)
  | dsimp only
  | fail)
local macro_rules | `(tactic| walk_at "run") => `(tactic| repeat (walk_at "st"))
local macro_rules | `(tactic| walk_at "num") => `(tactic| first
  | exact Or.inr ⟨by decide, by decide⟩ | exact Or.inl ⟨by decide, by decide⟩
  | exact Cm.wdiv (by first | decide | omega) (by first | decide | omega)
  | (show (0 : Int) < _; first | decide | omega)
  | exact ⟨by decide, by decide, by decide⟩
  | fail)
local macro_rules | `(tactic| walk_at "put") => `(tactic| exact rfl)
local macro_rules | `(tactic| walk_at "fl") => `(tactic| first | exact Cm.fl0 | (refine' Cm.flS ?hz; (case hz => walk_at "fl")) | fail)
local macro_rules | `(tactic| walk_at "size") => `(tactic| first | exact Cm.sz_lit rfl | exact Cm.sz_lt rfl | exact Cm.fs_lt rfl | decide | (refine' Nat.lt_of_le_of_lt ?ha ?hb; (case ha => walk_at "fl"); (case hb => decide)) | (simp only [List.length_cons, List.length_nil, List.length_append, List.length_map, List.length_set, List.length_replicate, PySem.sizeLine_eq]; omega) | (simp only [List.length_cons, List.length_nil, List.length_append, List.length_map, List.length_set, List.length_replicate, PySem.sizeLine_eq] at *; omega) | fail)
local macro_rules | `(tactic| walk_at "at") => `(tactic| first | assumption | (with_reducible exact Cm.at0) | (with_reducible exact Cm.at1) | (with_reducible exact Cm.at2) | (with_reducible exact Cm.at3) | (with_reducible exact Cm.at4) | (with_reducible exact Cm.at5) | (with_reducible exact Cm.at6) | (with_reducible exact Cm.at7) | (with_reducible exact Cm.at8) | (with_reducible exact Cm.at0s) | (with_reducible exact Cm.at1s) | (with_reducible exact Cm.at01s) | (with_reducible exact Cm.at10s) | fail)
local macro_rules | `(tactic| walk_at "ix") => `(tactic| first | exact Cm.ix0 (by walk_at "size") | exact Cm.ix1 (by walk_at "size") | assumption | fail)
local macro_rules | `(tactic| walk_at "key") => `(tactic| first | assumption | fail)
local macro_rules | `(tactic| walk_at "ne") => `(tactic| first
  | assumption
  | (refine Ne.symm ?_; assumption)
  | (refine' L2.ne_of_none ?h1 ?h2; (case h2 => assumption); (case h1 => walk_at "look"))
  | (refine' Ne.symm (L2.ne_of_none ?h1 ?h2); (case h2 => assumption); (case h1 => walk_at "look"))
  | fail)
local macro_rules | `(tactic| walk_at "lookT") => `(tactic| first
  | assumption
  | exact L2.SqT.of (by walk_at "look")
  | fail)
local macro_rules | `(tactic| walk_at "look") => `(tactic| first
  | assumption
  | exact L2.upd_same
  | ((fail_if_success (with_reducible refine Eq.trans L2.upd_same ?_)); (refine' Eq.trans (L2.upd_ne ?h1) ?h2); (case h1 => walk_at "ne"); (case h2 => walk_at "look"))
  | (refine' Cm.kp_look ?h1 ?h2 ?h3 ?h4; (case h1 => assumption); (case h2 => walk_at "look"); (case h3 => intro _ z; cases z); (case h4 => first | exact Or.inl rfl | exact Or.inr (by walk_at "out")))
  | fail)
local macro_rules | `(tactic| walk_at "out") => `(tactic| first
  | assumption
  | exact fun z => z
  | exact fun z => z.elim (fun e => absurd e (by walk_at "ne")) (fun e => absurd e (by walk_at "ne"))
  | exact fun e => absurd e (by walk_at "ne")
  | fail)
local macro_rules | `(tactic| walk_at "dom") => `(tactic| first
  | exact Cm.dm_refl
  | (refine Cm.dm_upd ?_; walk_at "dom")
  | (refine' Cm.dm_kp ?h1 ?h2; (case h2 => assumption); (case h1 => walk_at "dom"))
  | fail)
local macro_rules | `(tactic| walk_at "free") => `(tactic| first
  | assumption
  | exact Cm.nw_of (by assumption)
  | (refine' Cm.dm_use ?h1 ?h2; (case h2 => assumption); (case h1 => walk_at "dom"))
  | (refine' Cm.dm_use2 ?h1 ?h2; (case h2 => assumption); (case h1 => walk_at "dom"))
  | fail)
local macro_rules | `(tactic| walk_at "in") => `(tactic| first
  | exact Or.inl rfl | exact Or.inl (Or.inl rfl) | exact Or.inl (Or.inr rfl) | exact Or.inl (Or.inr (Or.inl rfl)) | exact Or.inl (Or.inr (Or.inr rfl))
  | exact Or.inl (by assumption)
  | exact Or.inr (by walk_at "free")
  | fail)
local macro_rules | `(tactic| walk_at "kp") => `(tactic| first
  | assumption
  | exact Cm.Kp.refl
  | (refine' Cm.Kp.new' ?h1 ?h2; (case h2 => assumption); (case h1 => walk_at "kp"))
  | (refine' Cm.Kp.setX' ?h1 ?h2 ?h4 ?h5 ?h3; (case h2 => walk_at "look"); (case h4 => exact rfl); (case h5 => intro _ z; cases z); (case h3 => walk_at "in"); (case h1 => walk_at "kp"))
  | (refine' Cm.kp_step ?h1 ?h2 ?h3; (case h2 => assumption); (case h3 => walk_at "sub"); (case h1 => walk_at "kp"))
  | fail)
local macro_rules | `(tactic| walk_at "sub") => `(tactic| first
  | exact fun _ z => z.elim
  | exact fun _ z => Or.inl z
  | (intro a z; rcases z with rfl | rfl <;> walk_at "in")
  | (intro a z; subst z; walk_at "in")
  | fail)
local macro_rules | `(tactic| walk_at "num2") => `(tactic| first | decide | omega | fail)

local macro_rules | `(tactic| walk_at "isi") => `(tactic| first | (with_reducible refine Cm.isi_non_bool ?_) | (with_reducible refine Cm.isi_non_int ?_) | (with_reducible refine Cm.isi_non_str ?_) | (with_reducible refine Cm.isi_non_tuple ?_) | (with_reducible refine Cm.isi_non_list ?_) | (with_reducible refine Cm.isi_bl_bool ?_) | (with_reducible refine Cm.isi_bl_int ?_) | (with_reducible refine Cm.isi_bl_str ?_) | (with_reducible refine Cm.isi_bl_tuple ?_) | (with_reducible refine Cm.isi_bl_list ?_) | (with_reducible refine Cm.isi_int_bool ?_) | (with_reducible refine Cm.isi_int_int ?_) | (with_reducible refine Cm.isi_int_str ?_) | (with_reducible refine Cm.isi_int_tuple ?_) | (with_reducible refine Cm.isi_int_list ?_) | (with_reducible refine Cm.isi_str_bool ?_) | (with_reducible refine Cm.isi_str_int ?_) | (with_reducible refine Cm.isi_str_str ?_) | (with_reducible refine Cm.isi_str_tuple ?_) | (with_reducible refine Cm.isi_str_list ?_) | ((with_reducible refine' Cm.isi_tup_bool ?h1 ?_); (case h1 => walk_at "look")) | ((with_reducible refine' Cm.isi_tup_int ?h1 ?_); (case h1 => walk_at "look")) | ((with_reducible refine' Cm.isi_tup_str ?h1 ?_); (case h1 => walk_at "look")) | ((with_reducible refine' Cm.isi_tup_tuple ?h1 ?_); (case h1 => walk_at "look")) | ((with_reducible refine' Cm.isi_tup_list ?h1 ?_); (case h1 => walk_at "look")) | ((with_reducible refine' Cm.isi_lst_bool ?h1 ?_); (case h1 => walk_at "look")) | ((with_reducible refine' Cm.isi_lst_int ?h1 ?_); (case h1 => walk_at "look")) | ((with_reducible refine' Cm.isi_lst_str ?h1 ?_); (case h1 => walk_at "look")) | ((with_reducible refine' Cm.isi_lst_tuple ?h1 ?_); (case h1 => walk_at "look")) | ((with_reducible refine' Cm.isi_lst_list ?h1 ?_); (case h1 => walk_at "look")) | fail)

/-! ### M1: more words -/
local macro_rules | `(tactic| walk_at "st") => `(tactic| first
  | ((with_reducible refine Cm.and_at (A := L2.tyV _ "dict" _ _) ?h1 ?_); (case h1 => exact Cm.ty_dic (by walk_at "look")))
  | (with_reducible refine Cm.e_dget2 ?_) | (with_reducible refine Cm.e_dpop2 ?_) | (with_reducible refine Cm.e_dpop1 ?_) | (with_reducible refine Cm.s_rx ?_)
  | ((with_reducible refine' Cm.isd_at ?h1 ?_); (case h1 => walk_at "look"))
  | ((with_reducible refine' Cm.get_at ?h1 ?_); (case h1 => walk_at "look"))
  | ((with_reducible refine' Cm.pop1_at ?h1 ?h2 ?_); (case h1 => walk_at "look"); (case h2 => assumption))
  | ((with_reducible refine' Cm.r_dictD ?h1 ?_); (case h1 => walk_at "look"); (intro _ _))
  | ((with_reducible refine' Cm.r_lenD ?h1 ?_); (case h1 => walk_at "look"))
  | ((with_reducible refine' Cm.r_ixdi ?h1 ?h2 ?_); (case h1 => walk_at "look"); (case h2 => assumption))
  | ((with_reducible refine' Cm.g_setdi ?h1 ?h2 ?_); (case h1 => walk_at "look"); (case h2 => first | assumption | omega))
  | (with_reducible refine Cm.r_min2 ?_)
  | (with_reducible refine W.r_eq_lv ?_) | (with_reducible refine W.r_ne_lv ?_) | (with_reducible refine W.r_isNo_lv ?_) | (with_reducible refine W.r_notNo_lv ?_)
  | fail)

local macro_rules | `(tactic| walk_at "key") => `(tactic| first | exact W.tF_g_rows | exact W.tF_g_hands | exact W.tF_g_moment | exact W.tF_g_number | exact W.tF_n_row_at | exact W.tF_n_shown | exact W.tF_n_content | exact W.tF_n_put_page | exact W.tF_n_prune | exact W.tF_n_change | exact W.tF_n_whole)
local macro_rules | `(tactic| walk_at "put") => `(tactic| first | exact W.tF_p_rows | exact W.tF_p_hands | exact W.tF_p_moment | exact W.tF_p_number)
local macro_rules | `(tactic| walk_at "size") => `(tactic| (rw [W.tF_len]; decide))

local macro_rules | `(tactic| walk_at "key") => `(tactic| first | exact W.oS_g_rows | exact W.oS_g_hands | exact W.oS_g_moment | exact W.oS_g_number)
local macro_rules | `(tactic| walk_at "put") => `(tactic| first | exact W.oS_p_rows | exact W.oS_p_hands | exact W.oS_p_moment | exact W.oS_p_number)
local macro_rules | `(tactic| walk_at "size") => `(tactic| (rw [W.oS_len]; decide))

namespace W
open PySem PySem.Spec PyProof.Rows L2 Cm
theorem oRun_snoc : ∀ (js : List JE) (S : TB) (j : JE), oRun S (js ++ [j]) = ostep (oRun S js) j
  | [], _, _ => rfl
  | _ :: js, S, j => oRun_snoc js _ j
theorem deal_moment {S : TB} {h l : Int} {ds : List Deed} : (S.deal h l ds).moment = S.moment := by
  unfold TB.deal
  split
  · rfl
  · split <;> rfl
theorem oRun_moment : ∀ (js : List JE) (S : TB), (oRun S js).moment = endM S.moment js
  | [], _ => rfl
  | j :: js, S => by
    show (oRun (ostep S j) js).moment = endM (j.after S.moment) js
    rw [oRun_moment js]
    cases j with
    | tick t => rfl
    | deal h ds =>
      show endM (S.deal _ _ _).moment js = _
      rw [deal_moment]; rfl
theorem oAt_full {js : List JE} : oAt js js.length = oRun ts0 js := by unfold oAt; rw [List.take_length]
theorem oAll_last {js : List JE} : (oAll js)[js.length]? = some (oRun ts0 js) := by
  unfold oAll
  rw [List.getElem?_map, List.getElem?_range (by omega)]
  show some (oAt js js.length) = _
  rw [oAt_full]
theorem oAll_len {js : List JE} : (oAll js).length = js.length + 1 := by simp [oAll]
theorem oAll_snoc {js : List JE} {j : JE} : oAll (js ++ [j]) = oAll js ++ [ostep (oRun ts0 js) j] := by
  unfold oAll
  rw [List.length_append, List.length_singleton, List.range_succ, List.map_append]
  congr 1
  · refine List.map_congr_left fun i hi => ?_
    have := List.mem_range.mp hi
    unfold oAt
    rw [List.take_append_of_le_length (by omega)]
  · show [oAt (js ++ [j]) (js.length + 1)] = _
    rw [show js.length + 1 = (js ++ [j]).length by simp, oAt_full, oRun_snoc]
theorem okL_snoc : ∀ {js : List JE} {m : Int} {j : JE}, okL m js → j.Ok (endM m js) → okL m (js ++ [j])
  | [], _, _, _, h => ⟨h, trivial⟩
  | _ :: js, _, _, h, h' => ⟨h.1, okL_snoc h.2 h'⟩
theorem oRun_pos : ∀ (js : List JE) (S : TB), (∀ h q, S.hands h = some q → 0 ≤ q.1) → ∀ h q, (oRun S js).hands h = some q → 0 ≤ q.1
  | [], _, h0 => h0
  | j :: js, S, h0 => by
    refine oRun_pos js (ostep S j) ?_
    cases j with
    | tick t => exact h0
    | deal hn ds =>
      have h1 : 0 ≤ ((S.hands hn).map (·.1)).getD 0 := by
        cases e : S.hands hn with
        | none => exact Int.le_refl _
        | some q => exact h0 hn q e
      have up : ∀ n d h q, upf S.hands hn (some (((S.hands hn).map (·.1)).getD 0 + 1, n, d)) h = some q → 0 ≤ q.1 := fun n d h q e => by
        unfold upf at e
        split at e
        · cases e; show 0 ≤ _ + 1; omega
        · exact h0 h q e
      intro h q e
      have e : (S.deal hn (((S.hands hn).map (·.1)).getD 0 + 1) ds).hands h = some q := e
      unfold TB.deal at e
      rw [if_neg (by omega)] at e
      split at e
      · exact up _ _ h q e
      · exact up _ _ h q e
section
variable {w : World} {K : PySem.W.Frag} {mg : Str → Option Value}
def EntI (K : PySem.W.Frag) (H : Hp) (b l sl el : Addr) (i : Nat) (σ' : L2.St) (H' : Hp) : Prop := ∃ (v3 v4 v5 v6 : Option V) (js : List JE) (X : Addr → Prop) (xs : List V), σ' = [some (.ref b), some (.ref sl), some (.ref el), v3, v4, v5, v6] ∧ BoxAt H' b l ∧ Kp (tabs K) (Bx b l) H H' ∧ H' el = some (.lst xs) ∧ DtA H' xs (js.map JE.d) ∧ okL 0 js ∧ js.length = i ∧
  StoresAt H' sl (oAll js) X ∧ (∀ a, X a → Nw H a) ∧ Nw H el ∧ ¬ X el
def te_deal (K : PySem.W.Frag) (E : XK) : TS := (tSeq (tAsg (tCall (S_drawn_ K) [] E (tCons (tVar 0) (tCons (tVar 4) tNil))) (gName 5)) (tSeq (tAsg (tCall (S_take_ K) [] E (tCons (tVar 0) (tCons (tC (.int 4)) tNil))) (gName 6)) (tSeq (tDrop (tBM K "list" rAppend (tVar 2) (tCons (tTup (tCons (tC (.str "deal")) (tCons (tVar 6) (tCons (tVar 5) tNil)))) tNil))) (tDrop (tCall (S_deal_ K) [] E (tCons (tVar 4) (tCons (tVar 6) (tCons (tOp (rAddA K) (tOp (rIxA K) (tDGet2 (tOp (rIxA K) (tVar 4) (tC (.str "hands"))) (tVar 6) (tTup (tCons (tC (.int 0)) tNil))) (tC (.int 0))) (tC (.int 1))) (tCons (tVar 5) tNil)))))))))
theorem di_jes {js : List JE} (hok : okL 0 js) : ∀ d ∈ js.map JE.d, Di 6 d := fun d hd => by
  obtain ⟨j, hj, rfl⟩ := List.mem_map.mp hd
  obtain ⟨i, hi⟩ := List.getElem?_of_mem hj
  exact di_je (okL_get hok hi)
/-- the new table is put behind the others -/
theorem ent_fin {H H2 : Hp} {D : Ends} {b l sl el s : Addr} {i : Nat} {js : List JE} {j : JE} {X F : Addr → Prop} {xs : List V} {v3 v5 v6 : Option V} (hi : i ≤ 60) (B2 : BoxAt H2 b l) (kp : Kp (tabs K) (Bx b l) H H2) (hel : H2 el = some (.lst xs)) (hA : DtA H2 xs ((js ++ [j]).map JE.d)) (hok : okL 0 js) (hj : j.Ok (endM 0 js)) (hlen : js.length = i)
    (hS : StoresAt H2 sl (oAll js) X) (hX : ∀ a, X a → Nw H a) (nel : Nw H el) (nXel : ¬ X el) (hO : OwnAt H2 s (ostep (oRun ts0 js) j) F) (hF : ∀ a, F a → Nw H a) (nb : ¬ Nw H b) (nl : ¬ Nw H l)
    (hD : ∀ σ' H', EntI K H b l sl el (i + 1) σ' H' → D.nx σ' H') : tDrop (tBM K "list" rAppend (tVar 1) (tCons (tVar 4) tNil)) D [some (.ref b), some (.ref sl), some (.ref el), v3, some (.ref s), v5, v6] H2 := by
  obtain ⟨as, g1, g2, g3, g4, close⟩ := hS.opn
  have bsl : b ≠ sl := fun z => nb (hX b (by rw [z]; exact g3))
  have lsl : l ≠ sl := fun z => nl (hX l (by rw [z]; exact g3))
  have esl : el ≠ sl := fun z => nXel (by rw [z]; exact g3)
  have hz : (as.map V.ref).length < sizeLine := by rw [List.length_map, g2, oAll_len, sizeLine_eq]; omega
  walk_at "run"
  have kb : Kp (tabs K) (fun c => c = sl) H2 (upd H2 sl (.lst (as.map V.ref ++ [.ref s]))) := Kp.setL g1 rfl
  have hO2 := hO.keep kb (fun a ha z => hO.notlst g1 (by rw [← z]; exact ha))
  refine hD _ _ ⟨_, _, _, _, js ++ [j], fun c => X c ∨ F c, xs, rfl, B2.upd bsl lsl, kp.trans kb fun a z => .inr (by rw [z]; exact hX sl g3), by rw [upd_ne esl]; exact hel, hA.keep kb (di_jes (okL_snoc hok hj)), okL_snoc hok hj, by simp [hlen], ?_, fun a ha => ha.elim (hX a) (hF a), nel, ?_⟩
  · rw [oAll_snoc]
    exact close (tabs K) _ s _ F kb upd_same hO2
  · intro z
    rcases z with z | z
    · exact nXel z
    · exact hO.notlst hel z
theorem ent_fin' {H H2 : Hp} {b l sl el s : Addr} {i : Nat} {js : List JE} {j : JE} {X F : Addr → Prop} {xs : List V} {v3 v5 v6 : Option V} (hi : i ≤ 60) (B2 : BoxAt H2 b l) (kp : Kp (tabs K) (Bx b l) H H2) (hel : H2 el = some (.lst xs)) (hA : DtA H2 xs ((js ++ [j]).map JE.d)) (hok : okL 0 js) (hj : j.Ok (endM 0 js)) (hlen : js.length = i)
    (hS : StoresAt H2 sl (oAll js) X) (hX : ∀ a, X a → Nw H a) (nel : Nw H el) (nXel : ¬ X el) (hO : OwnAt H2 s (ostep (oRun ts0 js) j) F) (hF : ∀ a, F a → Nw H a) (nb : ¬ Nw H b) (nl : ¬ Nw H l) :
    L2.tyV K "list" (V.ref sl) H2 ∧ tCons (tVar 4) tNil [some (.ref b), some (.ref sl), some (.ref el), v3, some (.ref s), v5, v6] H2 fun xs H3 => rAppend (.ref sl) xs H3 fun _ H4 => EntI K H b l sl el (i + 1) [some (.ref b), some (.ref sl), some (.ref el), v3, some (.ref s), v5, v6] H4 := by
  obtain ⟨as, g1, g2, g3, g4, close⟩ := hS.opn
  have bsl : b ≠ sl := fun z => nb (hX b (by rw [z]; exact g3))
  have lsl : l ≠ sl := fun z => nl (hX l (by rw [z]; exact g3))
  have esl : el ≠ sl := fun z => nXel (by rw [z]; exact g3)
  have hz : (as.map V.ref).length < sizeLine := by rw [List.length_map, g2, oAll_len, sizeLine_eq]; omega
  walk_at "run"
  have kb : Kp (tabs K) (fun c => c = sl) H2 (upd H2 sl (.lst (as.map V.ref ++ [.ref s]))) := Kp.setL g1 rfl
  have hO2 := hO.keep kb (fun a ha z => hO.notlst g1 (by rw [← z]; exact ha))
  refine ⟨_, _, _, _, js ++ [j], fun c => X c ∨ F c, xs, rfl, B2.upd bsl lsl, kp.trans kb fun a z => .inr (by rw [z]; exact hX sl g3), by rw [upd_ne esl]; exact hel, hA.keep kb (di_jes (okL_snoc hok hj)), okL_snoc hok hj, by simp [hlen], ?_, fun a ha => ha.elim (hX a) (hF a), nel, ?_⟩
  · rw [oAll_snoc]
    exact close (tabs K) _ s _ F kb upd_same hO2
  · intro z
    rcases z with z | z
    · exact nXel z
    · exact hO.notlst hel z
theorem pure_entries_ (vs : List V) (H : Hp) (Q : VK) (E : XK) (h : S_entries_ K vs H Q E) : t_entries_ K E { nx := fun _ H' => Q .non H', rt := Q } (start N_entries_ vs) H := by
  obtain ⟨_, rfl, b, l, rfl, B, k⟩ := h
  have nb : ¬ Nw H b := by
    obtain ⟨_, _, e, _⟩ := B
    exact fun z => nw_no z e (fun _ z => nomatch z)
  have nl : ¬ Nw H l := by
    obtain ⟨_, _, _, e, _⟩ := B
    exact fun z => nw_no z e (fun _ z => nomatch z)
  unfold t_entries_
  walk_at "run"
  refine ⟨rfl, fun s0 H1 F0 hO k1 hF0 => ?_⟩
  have B1 := B.keep k1 (fun z => z) (fun z => z)
  walk_at "run"
  rename_i sl hsl el hel pl hpl
  have B2 := (B1.new (o := .lst [.ref s0]) hsl).new (o := .lst []) hel
  have kk : Kp (tabs K) No H (upd (upd H1 sl (.lst [.ref s0])) el (.lst [])) := by walk_at "kp"
  have nsl : Nw H sl := k1.free hsl
  have nel : Nw H el := by walk_at "free"
  have esl : sl ≠ el := by walk_at "ne"
  have k12 : Kp (tabs K) No H1 (upd (upd H1 sl (.lst [.ref s0])) el (.lst [])) := by walk_at "kp"
  have hO2 := hO.keep k12 (fun _ _ z => z)
  have hsl2 : (upd (upd H1 sl (.lst [.ref s0])) el (.lst [])) sl = some (.lst [.ref s0]) := by walk_at "look"
  have hel2 : (upd (upd H1 sl (.lst [.ref s0])) el (.lst [])) el = some (.lst []) := upd_same
  have hS0 : StoresAt (upd (upd H1 sl (.lst [.ref s0])) el (.lst [])) sl (oAll []) (fun c => c = sl ∨ F0 c) := by
    refine ⟨[s0], hsl2, rfl, .inl rfl, fun c hc hn => ?_, fun i a S e1 e2 => ?_⟩
    · rcases hc with rfl | hc
      · exact nw_no hn hsl2 (fun _ z => nomatch z)
      · exact hO2.dom hc hn
    · cases i with
      | zero =>
        have e1 : s0 = a := by simpa using e1
        have e2 : ts0 = S := Option.some.inj e2
        subst e1 e2
        exact ⟨F0, hO2, fun c hc => .inr hc⟩
      | succ i => simp at e1
  revert kk hS0 B2 hel2 hpl
  generalize upd (upd H1 sl (.lst [.ref s0])) el (.lst []) = H2
  intro hpl B2 kk hel2 hS0
  have ns0 : ∀ a, (a = sl ∨ F0 a) → Nw H a := fun a ha => ha.elim (fun z => by rw [z]; exact nsl) (hF0 a)
  have nel0 : ¬ (el = sl ∨ F0 el) := fun z => z.elim (fun z => esl z.symm) fun z => hO.dom z (by
    have := hel
    by_cases q : el = sl
    · exact (esl q.symm).elim
    · rw [upd_ne q] at this; exact .inl this)
  refine ⟨_, _, rfl, b, l, 2, rfl, rfl, B2.new hpl, by decide, by decide, fun x1 Hx x10 x11 Bx1 kx => ?_⟩
  obtain ⟨x, e1, hx⟩ := at_pick (xs := [.int 8, .int 40]) x10 x11
  obtain ⟨m, rfl, hm0, hm1⟩ : ∃ m : Int, x = .int m ∧ 0 < m ∧ m ≤ 40 := by
    simp only [List.mem_cons, List.not_mem_nil, or_false] at hx
    rcases hx with rfl | rfl <;> exact ⟨_, rfl, by decide, by decide⟩
  have gx : Hx pl = some (.lst [.int 8, .int 40]) := kx.lst upd_same (out_bx (B2.nb hpl) (B2.nl hpl))
  walk_at "run"
  refine ⟨_, _, rfl, b, l, m, rfl, rfl, Bx1, hm0, by omega, fun n H3 n0 n1 B3 k3' => ?_⟩
  have k3 : Kp (tabs K) (Bx b l) H2 H3 := ((Kp.new hpl).trans kx fun a z => .inl z).trans k3' fun a z => .inl z
  clear k3' kx Bx1 gx
  walk_at "run"
  have nbl : ∀ {Y : Addr → Prop}, (∀ a, Y a → Nw H a) → ∀ a, Y a → ¬ Bx b l a := fun hY a ha z => z.elim (fun e => nb (by rw [← e]; exact hY a ha)) fun e => nl (by rw [← e]; exact hY a ha)
  have kk3 : Kp (tabs K) (Bx b l) H H3 := (kk.mono fun _ z => z.elim).trans k3 fun a z => .inl z
  have obe : ¬ Bx b l el := fun z => z.elim (fun e => nb (by rw [← e]; exact nel)) fun e => nl (by rw [← e]; exact nel)
  refine forR (EntI K H b l sl el) ⟨none, none, none, none, [], _, [], rfl, B3, kk3, k3.lst hel2 obe, rfl, trivial, rfl, hS0.keep k3 (nbl ns0), ns0, nel, nel0⟩ ?_ ?_
  · rintro i σ' H' hi ⟨v3, v4, v5, v6, js, X, xs, rfl, B', kp, he, hA, hok, hlen, hS, hX, _, nXel⟩
    obtain ⟨as, a, F, g1, g2, g3, g4, g5⟩ := hS.get (oAll_last (js := js))
    have hlast : atI (as.map V.ref) (-1) = some (.ref a) := at_last (i := js.length) (by rw [List.getElem?_map, g3]; rfl) (by rw [List.length_map, g2, oAll_len])
    have hxl := hA.length
    rw [List.length_map] at hxl
    have hxz : xs.length < sizeLine := by rw [sizeLine_eq]; omega
    walk_at "run"
    refine ⟨_, rfl, a, _, F, rfl, g4, fun s H4 F4 hO4 k4 hF4 => ?_⟩
    have B4 := B'.keep k4 (fun z => z) (fun z => z)
    have kp4 : Kp (tabs K) (Bx b l) H H4 := kp.trans k4 fun _ z => z.elim
    have hS4 := hS.keep k4 (fun _ _ z => z)
    have he4 := k4.lst he (fun z => z)
    have hA4 := hA.keep k4 (di_jes hok)
    have hF4' : ∀ c, F4 c → Nw H c := fun c hc => kp.dom c (hF4 c hc)
    have hXF : ∀ c, X c → ¬ F4 c := fun c hc z => by
      obtain ⟨_, _, _, _, hXd, _⟩ := id hS
      exact hXd c hc (hF4 c z)
    clear B' kp hS he hA g1 g4
    walk_at "run"
    refine ⟨_, _, rfl, b, l, 4, rfl, rfl, B4, by decide, by decide, fun t1 H5 _ _ B5 k5 => ?_⟩
    have hO5 := hO4.keep k5 (nbl hF4')
    have kp5 : Kp (tabs K) (Bx b l) H H5 := kp4.trans k5 fun a z => .inl z
    have hS5 := hS4.keep k5 (nbl hX)
    have he5 := k5.lst he4 obe
    have hA5 := hA4.keep k5 (di_jes hok)
    clear B4 kp4 hS4 he4 hA4 hO4
    have hm : (oRun ts0 js).moment = endM 0 js := oRun_moment js ts0
    obtain ⟨r, h0, hk, c1, c2, c3, c4, c5, c6, close⟩ := id hO5.cell
    -- a deal
    have deal : ∀ (D : Ends), (∀ σ' H', EntI K H b l sl el (i + 1) σ' H' → D.nx σ' H') → te_deal K E
        { D with nx := tDrop (tBM K "list" rAppend (tVar 1) (tCons (tVar 4) tNil)) D } [some (.ref b), some (.ref sl), some (.ref el), some (.int (i : Nat)), some (.ref s), v5, v6] H5 := by
      intro D hD
      unfold te_deal
      walk_at "run"
      refine ⟨_, _, rfl, b, l, s, _, F4, rfl, rfl, B5, hO5, fun z => nb (hF4' b z), fun z => nl (hF4' l z), fun v ds H6 hv hds hd0 hd4 B6 k6 => ?_⟩
      have hO6 := hO5.keep k6 (nbl hF4')
      have kp6 : Kp (tabs K) (Bx b l) H H6 := kp5.trans k6 fun a z => .inl z
      have hS6 := hS5.keep k6 (nbl hX)
      have he6 := k6.lst he5 obe
      have hA6 := hA5.keep k6 (di_jes hok)
      walk_at "run"
      refine ⟨_, _, rfl, b, l, 4, rfl, rfl, B6, by decide, by decide, fun hn H7 hn0 hn1 B7 k7 => ?_⟩
      have hO7 := hO6.keep k7 (nbl hF4')
      have kp7 : Kp (tabs K) (Bx b l) H H7 := kp6.trans k7 fun a z => .inl z
      have hS7 := hS6.keep k7 (nbl hX)
      have he7 := k7.lst he6 obe
      have hA7 := hA6.keep k7 (di_jes hok)
      have hv7 := Dt.keep k7 (n := 2) (di_deal (by omega)) hv
      clear hO6 kp6 hS6 he6 hA6 B6 k6 k7
      walk_at "run"
      rename_i t ht
      have et : el ≠ t := ne_of_none he7 ht
      have kt : Kp (tabs K) (fun c => c = el) H7 (upd (upd H7 t (.tup [.str "deal", .int hn, v])) el (.lst (xs ++ [.ref t]))) := by walk_at "kp"
      have nbe : b ≠ el := fun z => nb (by rw [z]; exact nel)
      have nle : l ≠ el := fun z => nl (by rw [z]; exact nel)
      have B8 := (B7.new (o := .tup [.str "deal", .int hn, v]) ht).upd (p := el) (o := .lst (xs ++ [.ref t])) nbe nle
      have hO8 := hO7.keep kt (fun a ha z => hO7.notlst he7 (by rw [← z]; exact ha))
      have kp8 : Kp (tabs K) (Bx b l) H (upd (upd H7 t (.tup [.str "deal", .int hn, v])) el (.lst (xs ++ [.ref t]))) := kp7.trans kt fun a z => .inr (by rw [z]; exact nel)
      have hS8 := hS7.keep kt (fun a ha z => nXel (by rw [← z]; exact ha))
      have hv8 := Dt.keep kt (n := 2) (di_deal (by omega)) hv7
      have hA8 : DtA (upd (upd H7 t (.tup [.str "deal", .int hn, v])) el (.lst (xs ++ [.ref t]))) (xs ++ [.ref t]) ((js ++ [JE.deal hn ds]).map JE.d) := by
        rw [List.map_append]
        exact (hA7.keep kt (di_jes hok)).snoc (dt3.mpr ⟨t, _, _, _, rfl, by walk_at "look", rfl, rfl, hv8⟩)
      have he8 : (upd (upd H7 t (.tup [.str "deal", .int hn, v])) el (.lst (xs ++ [.ref t]))) el = some (.lst (xs ++ [.ref t])) := upd_same
      clear hO7 kp7 hS7 hA7 B7 hv7 kt
      revert B8 hO8 kp8 hS8 hv8 hA8 he8
      generalize upd (upd H7 t (.tup [.str "deal", .int hn, v])) el (.lst (xs ++ [.ref t])) = H8
      intro B8 hO8 kp8 hS8 hv8 hA8 he8
      obtain ⟨r, h0, hk, c1, c2, c3, c4, c5, c6, _⟩ := id hO8.cell
      walk_at "run"
      rename_i u hu
      have ku : Kp (tabs K) No H8 (upd H8 u (.tup [.int 0])) := Kp.new hu
      -- the letter
      have go : ∀ lt : Int, 1 ≤ lt → lt = (((oRun ts0 js).hands hn).map (·.1)).getD 0 + 1 → S_deal_ K [.ref s, .int hn, .int lt, v] (upd H8 u (.tup [.int 0])) (fun _ H9 => tDrop (tBM K "list" rAppend (tVar 1) (tCons (tVar 4) tNil)) D [some (.ref b), some (.ref sl), some (.ref el), some (.int (i : Nat)), some (.ref s), some v, some (.int hn)] H9) E := by
        intro lt hlt hle
        refine ⟨_, _, _, _, rfl, s, _, F4, hn, lt, ds, rfl, hO8.keep ku (fun _ _ z => z), rfl, ⟨hn0, hn1⟩, rfl, hlt, Dt.keep ku (n := 2) (di_deal (by omega)) hv8, hds, hd4, fun _ _ H9 F9 _ _ hO9 st9 => ?_⟩
        have nF4e : ¬ F4 el := hO8.notlst he8
        have k89 : Kp (tabs K) F4 H8 H9 := (ku.mono fun _ z => z.elim).trans st9.kp fun a z => .inl z
        have e9 : (ostep (oRun ts0 js) (.deal hn ds)) = (oRun ts0 js).deal hn lt ds := by rw [hle]; rfl
        refine ent_fin (F := F9) (j := .deal hn ds) (by omega) (B8.keep k89 (fun z => nb (hF4' b z)) (fun z => nl (hF4' l z))) (kp8.trans k89 fun a z => .inr (hF4' a z)) (k89.lst he8 nF4e) (hA8.keep k89 (di_jes (okL_snoc hok ⟨⟨hn0, hn1⟩, hds, hd0, hd4⟩))) hok ⟨⟨hn0, hn1⟩, hds, hd0, hd4⟩ hlen
          (hS8.keep k89 hXF) hX nel nXel (by rw [e9]; exact hO9) (fun a ha => ?_) nb nl hD
        rcases st9.sub a ha with z | z
        · exact hF4' a z
        · exact kp8.dom a (ku.dom a z)
      cases hf : (oRun ts0 js).hands hn with
      | none =>
        have e1 : valV hk (.inl hn) = none := c3.non hn (by unfold hdf; rw [hf]; rfl)
        rw [e1, Option.getD_none]
        walk_at "run"
        exact go _ (by decide) (by rw [hf]; rfl)
      | some q =>
        obtain ⟨v', e1, e2⟩ := c3.get hn (handD q) (by unfold hdf; rw [hf]; rfl)
        obtain ⟨u', u0, u1, u2, rfl, hu', rfl, rfl, rfl⟩ := dt3.mp e2
        have nuu : u' ≠ u := ne_of_none hu' hu
        rw [e1, Option.getD_some]
        walk_at "run"
        refine go _ ?_ (by rw [hf]; rfl)
        have := oRun_pos js ts0 (fun h q z => by cases z) hn q hf
        omega
    walk_at "run"
    refine if_d (fun h1 => ?_) (fun h1 => ?_)
    · walk_at "run"
      refine if_d (fun h2 => ?_) (fun h2 => ?_)
      · walk_at "run"
        rename_i pl2 hpl2
        refine ⟨_, _, rfl, b, l, 2, rfl, rfl, B5.new hpl2, by decide, by decide, fun x1 Hx x10 x11 Bx1 kx => ?_⟩
        obtain ⟨x, e1, hx⟩ := at_pick (xs := [.int 3, .int 900]) x10 x11
        obtain ⟨m2, rfl, hm20, hm21⟩ : ∃ m : Int, x = .int m ∧ 0 < m ∧ m ≤ 900 := by
          simp only [List.mem_cons, List.not_mem_nil, or_false] at hx
          rcases hx with rfl | rfl <;> exact ⟨_, rfl, by decide, by decide⟩
        have gx : Hx pl2 = some (.lst [.int 3, .int 900]) := kx.lst upd_same (out_bx (B5.nb hpl2) (B5.nl hpl2))
        walk_at "run"
        refine ⟨_, _, rfl, b, l, m2, rfl, rfl, Bx1, hm20, by omega, fun n2 H6 n20 n21 B6 k6' => ?_⟩
        have k6 : Kp (tabs K) (Bx b l) H5 H6 := ((Kp.new hpl2).trans kx fun a z => .inl z).trans k6' fun a z => .inl z
        clear k6' kx Bx1 gx
        have hO6 := hO5.keep k6 (nbl hF4')
        have kp6 : Kp (tabs K) (Bx b l) H H6 := kp5.trans k6 fun a z => .inl z
        have hS6 := hS5.keep k6 (nbl hX)
        have he6 := k6.lst he5 obe
        have hA6 := hA5.keep k6 (di_jes hok)
        obtain ⟨r, h0, hk, d1, d2, d3, d4, d5, d6, close⟩ := hO6.cell
        have nes : el ≠ s := fun z => hO6.notlst he6 (by rw [z]; exact d4)
        walk_at "run"
        rename_i t ht
        have et : el ≠ t := by walk_at "ne"
        have hm2 : (oRun ts0 js).moment < 900000 := by
          have e : (9 : Int) * 10 ^ (5 : Int).toNat = 900000 := by decide
          rw [e] at h2; exact h2
        have nse : s ≠ t := by walk_at "ne"
        generalize ht0 : (oRun ts0 js).moment + 1 + n2 = tm at *
        have kt : Kp (tabs K) (fun c => c = s) H6 (upd (upd H6 s (.dK (oS r h0 tm (oRun ts0 js).number))) s (.dK (oS r h0 tm ((oRun ts0 js).number + 1)))) := by walk_at "kp"
        have hO7 := close (tabs K) _ tm ((oRun ts0 js).number + 1) kt upd_same
        have kt2 : Kp (tabs K) (fun c => c = el) (upd (upd H6 s (.dK (oS r h0 tm (oRun ts0 js).number))) s (.dK (oS r h0 tm ((oRun ts0 js).number + 1)))) (upd (upd (upd (upd H6 s (.dK (oS r h0 tm (oRun ts0 js).number))) s (.dK (oS r h0 tm ((oRun ts0 js).number + 1)))) t (.tup [.str "tick", .int tm])) el (.lst (xs ++ [.ref t]))) := by walk_at "kp"
        have he7 : (upd (upd H6 s (.dK (oS r h0 tm (oRun ts0 js).number))) s (.dK (oS r h0 tm ((oRun ts0 js).number + 1)))) el = some (.lst xs) := by walk_at "look"
        have jok : (JE.tick tm).Ok (endM 0 js) := ⟨by rw [← hm]; omega, by omega⟩
        refine ent_fin' (F := F4) (j := .tick tm) (by omega) ?_ ?_ upd_same ?_ hok jok hlen ((hS6.keep kt fun a ha z => hXF a ha (by rw [z]; exact d4)).keep kt2 fun a ha z => nXel (by rw [← z]; exact ha)) hX nel nXel (hO7.keep kt2 fun a ha z => hO7.notlst he7 (by rw [← z]; exact ha)) hF4' nb nl
        · refine (B6.keep kt (fun z => nb (hF4' b (by rw [z]; exact d4))) (fun z => nl (hF4' l (by rw [z]; exact d4)))).keep kt2 (fun z => nb (by rw [z]; exact nel)) (fun z => nl (by rw [z]; exact nel))
        · exact (kp6.trans kt fun a z => .inr (by rw [z]; exact hF4' s d4)).trans kt2 fun a z => .inr (by rw [z]; exact nel)
        · rw [List.map_append]
          exact ((hA6.keep kt (di_jes hok)).keep kt2 (di_jes hok)).snoc (dt2.mpr ⟨t, _, _, rfl, by walk_at "look", rfl, rfl⟩)
      · exact deal _ (fun _ _ z => z)
    · exact deal _ (fun _ _ z => z)
  · rintro σ' H' ⟨v3, v4, v5, v6, js, X, xs, rfl, B', kp, he, hA, hok, hlen, hS, hX, _, nXel⟩
    walk_at "run"
    rename_i t ht
    have kt : Kp (tabs K) No H' (upd H' t (.tup [.ref el, .ref sl])) := Kp.new ht
    exact k t el sl xs js X _ upd_same (kt.lst he (fun z => z)) (hA.keep kt (di_jes hok)) hok (by omega) (hS.keep kt (fun _ _ z => z)) hX nel nXel (B'.new ht) (kp.new' ht)
end
end W

end
section
/-! ### M0: words for walking through a reading (local) -/
local macro_rules | `(tactic| walk_at "st") => `(tactic| first
  | (with_reducible refine Cm.s_seq ?_) | (with_reducible refine Cm.s_asg ?_) | (with_reducible refine Cm.s_drop ?_) | (with_reducible refine Cm.s_ret ?_) | (with_reducible refine Cm.s_if ?_) | (with_reducible refine Cm.s_next ?_) | (with_reducible refine Cm.s_retN ?_) | (with_reducible refine Cm.s_rs ?_) | (with_reducible refine Cm.s_fld0 ?_)
  | ((with_reducible refine' Cm.e_var ?hv ?_); (case hv => exact rfl))
  | (with_reducible refine Cm.e_c ?_) | (with_reducible refine Cm.e_op ?_) | (with_reducible refine Cm.e_un ?_) | (with_reducible refine Cm.e_nil ?_) | (with_reducible refine Cm.e_cons ?_) | (with_reducible refine Cm.e_tup ?_) | (with_reducible refine Cm.e_lst ?_) | (with_reducible refine Cm.e_cb ?_) | (with_reducible refine Cm.e_call ?_) | (with_reducible refine Cm.e_if ?_)
  | (with_reducible refine Cm.e_andV ?_) | (with_reducible refine Cm.e_orV ?_) | (with_reducible refine Cm.e_notV ?_) | (with_reducible refine Cm.e_fld0 ?_) | (with_reducible refine Cm.e_meth0 ?_) | (with_reducible refine Cm.e_bm0 ?_) | (with_reducible refine Cm.e_bm ?_) | (with_reducible refine Cm.e_sl ?_) | (with_reducible refine Cm.o_none ?_) | (with_reducible refine Cm.o_some ?_) | (with_reducible refine Cm.e_dnew ?_)
  | (with_reducible refine Cm.e_test ?_) | (with_reducible refine Cm.e_tr ?_) | (with_reducible refine Cm.e_and ?_) | (with_reducible refine Cm.e_or ?_) | (with_reducible refine Cm.e_not ?_) | (with_reducible refine Cm.e_yes ?_) | (with_reducible refine Cm.e_chain ?_)
  | (with_reducible refine Cm.r_i0 ?_) | (with_reducible refine Cm.r_u ?_) | (with_reducible refine Cm.r_isNo ?_) | (with_reducible refine Cm.r_notNo ?_) | (with_reducible refine Cm.r_addI ?_) | (with_reducible refine Cm.r_int1b ?_) | (with_reducible refine Cm.r_max2 ?_)
  | ((with_reducible refine Cm.r_i ?hc ?_); (case hc => walk_at "num"))
  | ((with_reducible refine Cm.r_mulI ?hc ?_); (case hc => walk_at "num"))
  | ((with_reducible refine Cm.r_eqS ?hc ?_); (case hc => exact rfl))
  | ((with_reducible refine Cm.r_neS ?hc ?_); (case hc => exact rfl))
  | ((with_reducible refine' Cm.r_ixl ?h1 ?h2 ?_); (case h1 => walk_at "look"); (case h2 => walk_at "at"))
  | ((with_reducible refine' Cm.r_ixt ?h1 ?h2 ?_); (case h1 => walk_at "look"); (case h2 => walk_at "at"))
  | ((with_reducible refine' Cm.r_ixT ?h1 ?h2 ?_); (case h1 => walk_at "lookT"); (case h2 => walk_at "at"))
  | ((with_reducible refine' Cm.r_ixds ?h1 ?h2 ?_); (case h1 => walk_at "look"); (case h2 => walk_at "key"))
  | ((with_reducible refine' Cm.r_eqe ?h1 ?h2 ?_); (case h1 => walk_at "look"); (case h2 => walk_at "look"))
  | ((with_reducible refine' Cm.r_nee ?h1 ?h2 ?_); (case h1 => walk_at "look"); (case h2 => walk_at "look"))
  | ((with_reducible refine' Cm.r_lenl ?h1 ?_); (case h1 => walk_at "look"))
  | ((with_reducible refine' Cm.r_lent ?h1 ?_); (case h1 => walk_at "look"))
  | ((with_reducible refine' Cm.r_lenT ?h1 ?_); (case h1 => walk_at "lookT"))
  | ((with_reducible refine' Cm.r_listl ?h1 ?_); (case h1 => walk_at "look"); (intro _ _))
  | ((with_reducible refine' Cm.r_tupl ?h1 ?_); (case h1 => walk_at "look"); (intro _ _))
  | ((with_reducible refine' Cm.r_addL ?h1 ?h2 ?h3 ?_); (case h1 => walk_at "look"); (case h2 => walk_at "look"); (case h3 => walk_at "size"); (intro _ _))
  | ((with_reducible refine' Cm.m_append ?h1 ?h2 ?_); (case h1 => walk_at "look"); (case h2 => walk_at "size"))
  | ((with_reducible refine' Cm.m_clear ?h1 ?_); (case h1 => walk_at "look"))
  | ((with_reducible refine' Cm.g_setL ?h1 ?h2 ?_); (case h1 => walk_at "look"); (case h2 => walk_at "ix"))
  | ((with_reducible refine' Cm.g_setDs ?h1 ?h2 ?h3 ?_); (case h1 => walk_at "look"); (case h2 => walk_at "size"); (case h3 => walk_at "put"))
  | ((with_reducible refine' Cm.fld_at ?h1 ?h2 ?h3 ?h4 ?_); (case h1 => walk_at "look"); (case h2 => assumption); (case h3 => assumption); (case h4 => walk_at "key"))
  | ((with_reducible refine' Cm.fldset_at ?h1 ?h2 ?h3 ?h4 ?h5 ?_); (case h1 => walk_at "look"); (case h2 => assumption); (case h3 => assumption); (case h4 => walk_at "size"); (case h5 => walk_at "put"))
  | (with_reducible refine Cm.s_fldaug0 ?_)
  | ((with_reducible refine' Cm.aug_at ?h1 ?h2 ?h3 ?h4 ?_); (case h1 => walk_at "look"); (case h2 => assumption); (case h3 => assumption); (case h4 => walk_at "key"))
  | ((with_reducible refine' Cm.augset_at ?h1 ?h4 ?h5 ?_); (case h1 => walk_at "look"); (case h4 => walk_at "size"); (case h5 => walk_at "put"))
  | (with_reducible refine Cm.in_sub_at ?_) | (with_reducible refine Cm.in_add_at ?_)
  | ((with_reducible refine' Cm.meth_at ?h1 ?h2 ?_); (case h1 => walk_at "look"); (case h2 => walk_at "key"))
  | ((with_reducible refine Cm.new_at ?h1 ?_); (case h1 => walk_at "size"); (intro _ _))
  | ((with_reducible refine Cm.and_at (A := L2.tyV _ "list" _ _) ?h1 ?_); (case h1 => exact Cm.ty_lst (by walk_at "look")))
  | ((with_reducible refine' Cm.g_tupt ?h1 ?h2 ?_); (case h1 => walk_at "look"); (case h2 => exact rfl))
  | ((with_reducible refine' Cm.g_tup ?h1 ?h2 ?_); (case h1 => walk_at "lookT"); (case h2 => exact rfl))
  | (with_reducible refine Cm.g_name ?_) | (with_reducible refine Cm.g_sub ?_) | (with_reducible refine Cm.g_cons ?_) | (with_reducible refine Cm.g_nil ?_)
  | (with_reducible refine Cm.int_at ?_) | (with_reducible refine Cm.bl_at ?_) | (with_reducible refine Cm.tr_bl ?_) | (with_reducible refine Cm.tr_non ?_)
  | ((with_reducible refine' Cm.m_pop0 ?h1 ?_); (case h1 => walk_at "look"))
  | ((with_reducible refine' Cm.r_slTo ?h1 ?h2 ?_); (case h1 => walk_at "look"); (case h2 => walk_at "num2"); (intro _ _))
  | ((with_reducible refine' Cm.r_slFrom ?h1 ?h2 ?_); (case h1 => walk_at "look"); (case h2 => walk_at "num2"); (intro _ _))
  | ((with_reducible refine' Cm.at_forL ?h1 ?_); (case h1 => walk_at "look"))
  | ((with_reducible refine' Cm.at_forT ?h1 ?_); (case h1 => walk_at "look"))
  | ((with_reducible refine' Cm.at_forR ?h1 ?h2 ?_); (case h1 => walk_at "num2"); (case h2 => walk_at "num2"))
  | ((with_reducible refine' Cm.at_forZ ?h1 ?h2 ?_); (case h1 => walk_at "look"); (case h2 => walk_at "look"))
  | (with_reducible refine Cm.s_forZ ?_) | (with_reducible refine Cm.s_forR ?_)
  | ((with_reducible refine Cm.and_at (A := _ = _) ?h1 ?_); (case h1 => exact rfl))
  | ((with_reducible show L2.rIsi _ _ _ _); walk_at "isi")
  | (with_reducible refine Cm.ite_nt ?_) | (with_reducible refine Cm.ite_nf ?_)
  | (with_reducible refine L2.iteT ?_) | (with_reducible refine L2.iteF ?_)
  | dsimp only
  | fail)
local macro_rules | `(tactic| walk_at "run") => `(tactic| repeat (walk_at "st"))
local macro_rules | `(tactic| walk_at "num") => `(tactic| first
  | exact Or.inr ⟨by decide, by decide⟩ | exact Or.inl ⟨by decide, by decide⟩
  | exact Cm.wdiv (by first | decide | omega) (by first | decide | omega)
  | (show (0 : Int) < _; first | decide | omega)
  | exact ⟨by decide, by decide, by decide⟩
  | fail)
local macro_rules | `(tactic| walk_at "put") => `(tactic| exact rfl)
local macro_rules | `(tactic| walk_at "fl") => `(tactic| first | exact Cm.fl0 | (refine' Cm.flS ?hz; (case hz => walk_at "fl")) | fail)
local macro_rules | `(tactic| walk_at "size") => `(tactic| first | exact Cm.sz_lit rfl | exact Cm.sz_lt rfl | exact Cm.fs_lt rfl | decide | (refine' Nat.lt_of_le_of_lt ?ha ?hb; (case ha => walk_at "fl"); (case hb => decide)) | (simp only [List.length_cons, List.length_nil, List.length_append, List.length_map, List.length_set, List.length_replicate, PySem.sizeLine_eq]; omega) | (simp only [List.length_cons, List.length_nil, List.length_append, List.length_map, List.length_set, List.length_replicate, PySem.sizeLine_eq] at *; omega) | fail)
local macro_rules | `(tactic| walk_at "at") => `(tactic| first | assumption | (with_reducible exact Cm.at0) | (with_reducible exact Cm.at1) | (with_reducible exact Cm.at2) | (with_reducible exact Cm.at3) | (with_reducible exact Cm.at4) | (with_reducible exact Cm.at5) | (with_reducible exact Cm.at6) | (with_reducible exact Cm.at7) | (with_reducible exact Cm.at8) | (with_reducible exact Cm.at0s) | (with_reducible exact Cm.at1s) | (with_reducible exact Cm.at01s) | (with_reducible exact Cm.at10s) | fail)
local macro_rules | `(tactic| walk_at "ix") => `(tactic| first | exact Cm.ix0 (by walk_at "size") | exact Cm.ix1 (by walk_at "size") | assumption | fail)
local macro_rules | `(tactic| walk_at "key") => `(tactic| first | assumption | fail)
local macro_rules | `(tactic| walk_at "ne") => `(tactic| first
  | assumption
  | (refine Ne.symm ?_; assumption)
  | (refine' L2.ne_of_none ?h1 ?h2; (case h2 => assumption); (case h1 => walk_at "look"))
  | (refine' Ne.symm (L2.ne_of_none ?h1 ?h2); (case h2 => assumption); (case h1 => walk_at "look"))
  | fail)
local macro_rules | `(tactic| walk_at "lookT") => `(tactic| first
  | assumption
  | exact L2.SqT.of (by walk_at "look")
  | fail)
local macro_rules | `(tactic| walk_at "look") => `(tactic| first
  | assumption
  | exact L2.upd_same
  | ((fail_if_success (with_reducible refine Eq.trans L2.upd_same ?_)); (refine' Eq.trans (L2.upd_ne ?h1) ?h2); (case h1 => walk_at "ne"); (case h2 => walk_at "look"))
  | (refine' Cm.kp_look ?h1 ?h2 ?h3 ?h4; (case h1 => assumption); (case h2 => walk_at "look"); (case h3 => intro _ z; cases z); (case h4 => first | exact Or.inl rfl | exact Or.inr (by walk_at "out")))
  | fail)
local macro_rules | `(tactic| walk_at "out") => `(tactic| first
  | assumption
  | exact fun z => z
  | exact fun z => z.elim (fun e => absurd e (by walk_at "ne")) (fun e => absurd e (by walk_at "ne"))
  | exact fun e => absurd e (by walk_at "ne")
  | fail)
local macro_rules | `(tactic| walk_at "dom") => `(tactic| first
  | exact Cm.dm_refl
  | (refine Cm.dm_upd ?_; walk_at "dom")
  | (refine' Cm.dm_kp ?h1 ?h2; (case h2 => assumption); (case h1 => walk_at "dom"))
  | fail)
local macro_rules | `(tactic| walk_at "free") => `(tactic| first
  | assumption
  | exact Cm.nw_of (by assumption)
  | (refine' Cm.dm_use ?h1 ?h2; (case h2 => assumption); (case h1 => walk_at "dom"))
  | (refine' Cm.dm_use2 ?h1 ?h2; (case h2 => assumption); (case h1 => walk_at "dom"))
  | fail)
local macro_rules | `(tactic| walk_at "in") => `(tactic| first
  | exact Or.inl rfl | exact Or.inl (Or.inl rfl) | exact Or.inl (Or.inr rfl) | exact Or.inl (Or.inr (Or.inl rfl)) | exact Or.inl (Or.inr (Or.inr rfl))
  | exact Or.inl (by assumption)
  | exact Or.inr (by walk_at "free")
  | fail)
local macro_rules | `(tactic| walk_at "kp") => `(tactic| first
  | assumption
  | exact Cm.Kp.refl
  | (refine' Cm.Kp.new' ?h1 ?h2; (case h2 => assumption); (case h1 => walk_at "kp"))
  | (refine' Cm.Kp.setX' ?h1 ?h2 ?h4 ?h5 ?h3; (case h2 => walk_at "look"); (case h4 => exact rfl); (case h5 => intro _ z; cases z); (case h3 => walk_at "in"); (case h1 => walk_at "kp"))
  | (refine' Cm.kp_step ?h1 ?h2 ?h3; (case h2 => assumption); (case h3 => walk_at "sub"); (case h1 => walk_at "kp"))
  | fail)
local macro_rules | `(tactic| walk_at "sub") => `(tactic| first
  | exact fun _ z => z.elim
  | exact fun _ z => Or.inl z
  | (intro a z; rcases z with rfl | rfl <;> walk_at "in")
  | (intro a z; subst z; walk_at "in")
  | fail)
local macro_rules | `(tactic| walk_at "num2") => `(tactic| first | decide | omega | fail)

local macro_rules | `(tactic| walk_at "isi") => `(tactic| first | (with_reducible refine Cm.isi_non_bool ?_) | (with_reducible refine Cm.isi_non_int ?_) | (with_reducible refine Cm.isi_non_str ?_) | (with_reducible refine Cm.isi_non_tuple ?_) | (with_reducible refine Cm.isi_non_list ?_) | (with_reducible refine Cm.isi_bl_bool ?_) | (with_reducible refine Cm.isi_bl_int ?_) | (with_reducible refine Cm.isi_bl_str ?_) | (with_reducible refine Cm.isi_bl_tuple ?_) | (with_reducible refine Cm.isi_bl_list ?_) | (with_reducible refine Cm.isi_int_bool ?_) | (with_reducible refine Cm.isi_int_int ?_) | (with_reducible refine Cm.isi_int_str ?_) | (with_reducible refine Cm.isi_int_tuple ?_) | (with_reducible refine Cm.isi_int_list ?_) | (with_reducible refine Cm.isi_str_bool ?_) | (with_reducible refine Cm.isi_str_int ?_) | (with_reducible refine Cm.isi_str_str ?_) | (with_reducible refine Cm.isi_str_tuple ?_) | (with_reducible refine Cm.isi_str_list ?_) | ((with_reducible refine' Cm.isi_tup_bool ?h1 ?_); (case h1 => walk_at "look")) | ((with_reducible refine' Cm.isi_tup_int ?h1 ?_); (case h1 => walk_at "look")) | ((with_reducible refine' Cm.isi_tup_str ?h1 ?_); (case h1 => walk_at "look")) | ((with_reducible refine' Cm.isi_tup_tuple ?h1 ?_); (case h1 => walk_at "look")) | ((with_reducible refine' Cm.isi_tup_list ?h1 ?_); (case h1 => walk_at "look")) | ((with_reducible refine' Cm.isi_lst_bool ?h1 ?_); (case h1 => walk_at "look")) | ((with_reducible refine' Cm.isi_lst_int ?h1 ?_); (case h1 => walk_at "look")) | ((with_reducible refine' Cm.isi_lst_str ?h1 ?_); (case h1 => walk_at "look")) | ((with_reducible refine' Cm.isi_lst_tuple ?h1 ?_); (case h1 => walk_at "look")) | ((with_reducible refine' Cm.isi_lst_list ?h1 ?_); (case h1 => walk_at "look")) | fail)

/-! ### M1: more words -/
local macro_rules | `(tactic| walk_at "st") => `(tactic| first
  | ((with_reducible refine Cm.and_at (A := L2.tyV _ "dict" _ _) ?h1 ?_); (case h1 => exact Cm.ty_dic (by walk_at "look")))
  | (with_reducible refine Cm.e_dget2 ?_) | (with_reducible refine Cm.e_dpop2 ?_) | (with_reducible refine Cm.e_dpop1 ?_) | (with_reducible refine Cm.s_rx ?_)
  | ((with_reducible refine' Cm.isd_at ?h1 ?_); (case h1 => walk_at "look"))
  | ((with_reducible refine' Cm.get_at ?h1 ?_); (case h1 => walk_at "look"))
  | ((with_reducible refine' Cm.pop1_at ?h1 ?h2 ?_); (case h1 => walk_at "look"); (case h2 => assumption))
  | ((with_reducible refine' Cm.r_dictD ?h1 ?_); (case h1 => walk_at "look"); (intro _ _))
  | ((with_reducible refine' Cm.r_lenD ?h1 ?_); (case h1 => walk_at "look"))
  | ((with_reducible refine' Cm.r_ixdi ?h1 ?h2 ?_); (case h1 => walk_at "look"); (case h2 => assumption))
  | ((with_reducible refine' Cm.g_setdi ?h1 ?h2 ?_); (case h1 => walk_at "look"); (case h2 => first | assumption | omega))
  | (with_reducible refine Cm.r_min2 ?_)
  | (with_reducible refine W.r_eq_lv ?_) | (with_reducible refine W.r_ne_lv ?_) | (with_reducible refine W.r_isNo_lv ?_) | (with_reducible refine W.r_notNo_lv ?_)
  | fail)

local macro_rules | `(tactic| walk_at "key") => `(tactic| first | exact W.tF_g_rows | exact W.tF_g_hands | exact W.tF_g_moment | exact W.tF_g_number | exact W.tF_n_row_at | exact W.tF_n_shown | exact W.tF_n_content | exact W.tF_n_put_page | exact W.tF_n_prune | exact W.tF_n_change | exact W.tF_n_whole)
local macro_rules | `(tactic| walk_at "put") => `(tactic| first | exact W.tF_p_rows | exact W.tF_p_hands | exact W.tF_p_moment | exact W.tF_p_number)
local macro_rules | `(tactic| walk_at "size") => `(tactic| (rw [W.tF_len]; decide))

local macro_rules | `(tactic| walk_at "key") => `(tactic| first | exact W.oS_g_rows | exact W.oS_g_hands | exact W.oS_g_moment | exact W.oS_g_number)
local macro_rules | `(tactic| walk_at "put") => `(tactic| first | exact W.oS_p_rows | exact W.oS_p_hands | exact W.oS_p_moment | exact W.oS_p_number)
local macro_rules | `(tactic| walk_at "size") => `(tactic| (rw [W.oS_len]; decide))

namespace W
open PySem PySem.Spec PyProof.Rows L2 Cm
section
variable {w : World} {K : PySem.W.Frag} {mg : Str → Option Value}
/-- the greatest number of a hand's readings ahead, or nought -/
def topR (h : Int) : List Rdg → Int
  | [] => 0
  | r :: rs => if r.1 = h then max r.2.1 (topR h rs) else topR h rs
theorem pure_due_ (vs : List V) (H : Hp) (Q : VK) (E : XK) (h : S_due_ K vs H Q E) : t_due_ K E { nx := fun _ H' => Q .non H', rt := Q } (start N_due_ vs) H := by
  obtain ⟨_, _, rfl, sl, p, Ss, X, xs, gs, rfl, rfl, hS, hp, hA, hgl, hSl, q⟩ := h
  have hxl := hA.length
  rw [List.length_map] at hxl
  unfold t_due_
  walk_at "run"
  refine forR (fun i σ' H' => ∃ v2 v3 v4 v5 v6 v7 v8 sf, σ' = [some (.ref sl), some (.ref p), v2, v3, v4, v5, v6, v7, v8] ∧ Kp (tabs K) No H H' ∧ (∀ (h : Int), 0 ≤ sf h ∧ (∀ r ∈ gs.take i, r.1 = h → r.2.1 ≤ sf h) ∧ (sf h = 0 ∨ ∃ r ∈ gs.take i, r.1 = h ∧ r.2.1 = sf h)) ∧
    judgeM (fun i k => (Ss.getD i ts0).shown k) Ss.length (fun _ => 0) 0 gs = judgeM (fun i k => (Ss.getD i ts0).shown k) Ss.length sf i (gs.drop i))
    ⟨none, none, none, none, none, none, none, fun _ => 0, rfl, Kp.refl, fun h => ⟨Int.le_refl _, fun r hr => by simp at hr, .inl rfl⟩, rfl⟩ ?_ ?_
  · rintro i σ' H' hi ⟨v2, v3, v4, v5, v6, v7, v8, sf, rfl, kp, hsf, hj⟩
    have hil : i < gs.length := by omega
    have hr : gs[i]? = some gs[i] := List.getElem?_eq_getElem hil
    revert hr
    generalize gs[i] = r
    intro hr
    obtain ⟨x, hx1, hx2⟩ := hA.at (d := rdD r) (i := i) (by rw [List.getElem?_map, hr]; rfl)
    have hp' := kp.lst hp (fun z => z)
    obtain ⟨u, u0, u1, u2, u3, rfl, hu, rfl, rfl, rfl, hu3⟩ := dt4.mp (Dt.keep kp di_rd hx2)
    obtain rfl := dt_oD.mp hu3
    have at1 : atI xs ((i : Nat) : Int) = some (.ref u) := atI_nat hx1
    rw [judgeM_at hr] at hj
    walk_at "run"
    refine lcL ?_
    walk_at "run"
    rename_i tl htl
    intro Dl hDl
    have etl : tl ≠ Dl := by walk_at "ne"
    refine coreL (xs := xs.take ((i : Nat) : Int).toNat) (fun n acc H2 => Kp (tabs K) No H' H2 ∧ H2 tl = some (.lst (xs.take ((i : Nat) : Int).toNat)) ∧ ∃ ms : List Int, acc = ms.map V.int ∧ ms = (((gs.take i).take n).filter fun g => decide (g.1 = r.1)).map fun g => g.2.1) ⟨by walk_at "kp", by walk_at "look", [], rfl, rfl⟩ (fun n acc H2 z => z.2.1) (fun n x acc H2 hx hn hl z e => ?_) (fun acc H2 hl z e => ?_)
    · obtain ⟨kp2, g1, ms, rfl, hms⟩ := z
      have hxi : xs[n]? = some x := by
        rw [Int.toNat_natCast, List.getElem?_take] at hx
        split at hx
        · exact hx
        · cases hx
      have hni : n < i := by rw [List.length_take] at hn; omega
      obtain ⟨_, hd1, hd2⟩ := hA.get hxi
      obtain ⟨g, hg, rfl⟩ := map_get hd1
      have kall : Kp (tabs K) No H H2 := by walk_at "kp"
      obtain ⟨y, y0, y1, y2, y3, rfl, hy, rfl, rfl, rfl, hy3⟩ := dt4.mp (Dt.keep kall di_rd hd2)
      have hg2 : (gs.take i)[n]? = some g := by rw [List.getElem?_take, if_pos hni]; exact hg
      unfold CStep
      walk_at "run"
      refine if_d (fun h1 => ?_) (fun h1 => ?_)
      · have h1 : g.1 = r.1 := by injection h1
        walk_at "run"
        refine c_put e hl (by have := hn; rw [List.length_take] at this; omega) ⟨by walk_at "kp", by walk_at "look", ms ++ [g.2.1], by rw [List.map_append]; rfl, ?_⟩
        rw [take_succ hg2, List.filter_append, List.map_append, hms]
        simp [h1]
      · have h1 : g.1 ≠ r.1 := fun z => h1 (by rw [z])
        refine c_skip e hl ⟨kp2, g1, ms, rfl, ?_⟩
        rw [take_succ hg2, List.filter_append, List.map_append, hms]
        simp [h1]
    · obtain ⟨kp2, g1, ms, rfl, hms⟩ := z
      have e9 : (xs.take ((i : Nat) : Int).toNat).length = i := by rw [Int.toNat_natCast, List.length_take]; omega
      rw [e9, List.take_of_length_le (by rw [List.length_take]; omega)] at hms
      have kall : Kp (tabs K) No H H2 := by walk_at "kp"
      obtain ⟨as, hsl, hasl⟩ := (hS.keep kall (fun _ _ z => z)).len
      have fail : ∀ H3, Kp (tabs K) No H H3 → ¬ ((sf r.1 ≤ r.2.1 ∧ r.2.1 < Ss.length) ∧ (Ss.getD r.2.1.toNat ts0).shown r.2.2.1 = r.2.2.2) → Q (.int (i : Nat)) H3 := fun H3 k3 hn => by
        rw [if_neg hn] at hj
        have := q H3 k3
        rw [hj] at this; exact this
      obtain ⟨s0, s1, s2⟩ := hsf r.1
      walk_at "run"
      refine if_d (fun h1 => ?_) (fun h1 => ?_)
      · walk_at "run"
        exact fail H2 kall (fun z => by have := z.1.1; omega)
      · walk_at "run"
        refine if_d (fun h2 => ?_) (fun h2 => ?_)
        · rw [List.length_map, hasl] at h2
          walk_at "run"
          exact fail H2 kall (fun z => by have := z.1.2; omega)
        · rw [List.length_map, hasl] at h2
          have el2 : ms.length ≤ 30 := by
            rw [hms, List.length_map]
            exact Nat.le_trans (List.length_filter_le _ _) (by rw [List.length_take]; omega)
          walk_at "run"
          rename_i o1 ho1 o2 ho2
          refine ⟨o2, 0 :: ms, rfl, SqL.of upd_same, Nat.succ_pos _, fun m hm1 hm2 => ?_⟩
          have hmax : m = sf r.1 := by
            have h3 : m ≤ sf r.1 := by
              rcases List.mem_cons.mp hm1 with rfl | hm1
              · exact s0
              · rw [hms] at hm1
                obtain ⟨g, hg, rfl⟩ := List.mem_map.mp hm1
                obtain ⟨hg1, hg2⟩ := List.mem_filter.mp hg
                exact s1 g hg1 (of_decide_eq_true hg2)
            have h4 : sf r.1 ≤ m := by
              rcases s2 with s2 | ⟨g, hg1, hg2, hg3⟩
              · rw [s2]; exact hm2 0 List.mem_cons_self
              · rw [← hg3]
                refine hm2 _ (List.mem_cons_of_mem _ ?_)
                rw [hms]
                exact List.mem_map.mpr ⟨g, List.mem_filter.mpr ⟨hg1, decide_eq_true hg2⟩, rfl⟩
            omega
          subst hmax
          have kall2 : Kp (tabs K) No H (upd (upd H2 o1 (.lst [.int 0])) o2 (.lst ([.int 0] ++ ms.map V.int))) := by walk_at "kp"
          walk_at "run"
          refine if_d (fun h3 => ?_) (fun h3 => ?_)
          · walk_at "run"
            exact fail _ kall2 (fun z => by have := z.1.1; omega)
          · obtain ⟨as', a, F, b1, b2, b3, b4, b5⟩ := (hS.keep kall2 (fun _ _ z => z)).get (i := r.2.1.toNat) (S := Ss.getD r.2.1.toNat ts0) (by
              rw [List.getD_eq_getElem?_getD, List.getElem?_eq_getElem (by omega)]; rfl)
            have at2 := at_page (k := r.2.1) b3 (by omega)
            walk_at "run"
            refine ⟨_, _, rfl, a, _, F, r.2.2.1, rfl, b4, rfl, fun H4 k4 => ?_⟩
            have kall4 : Kp (tabs K) No H H4 := by walk_at "kp"
            walk_at "run"
            refine if_nd (fun h4 => ?_) (fun h4 => ?_)
            · walk_at "run"
              exact fail _ kall4 (fun z => h4 z.2)
            · walk_at "run"
              rw [if_pos ⟨⟨by omega, by omega⟩, h4⟩] at hj
              refine ⟨_, _, _, _, _, _, _, fun h => if h = r.1 then r.2.1 else sf h, rfl, kall4, fun h => ?_, hj⟩
              rw [take_succ hr]
              by_cases hh : h = r.1
              · subst hh
                simp only [if_pos]
                refine ⟨by omega, fun g hg e => ?_, .inr ⟨r, List.mem_append_right _ List.mem_cons_self, rfl, rfl⟩⟩
                rcases List.mem_append.mp hg with hg | hg
                · have := s1 g hg e; omega
                · rw [List.mem_singleton.mp hg]; exact Int.le_refl _
              · simp only [if_neg hh]
                obtain ⟨t0, t1, t2⟩ := hsf h
                refine ⟨t0, fun g hg e => ?_, ?_⟩
                · rcases List.mem_append.mp hg with hg | hg
                  · exact t1 g hg e
                  · rw [List.mem_singleton.mp hg] at e; exact (hh e.symm).elim
                · rcases t2 with t2 | ⟨g, g1, g2⟩
                  · exact .inl t2
                  · exact .inr ⟨g, List.mem_append_left _ g1, g2⟩
  · rintro σ' H' ⟨v2, v3, v4, v5, v6, v7, v8, sf, rfl, kp, hsf, hj⟩
    have e : ((xs.length : Nat) : Int).toNat = gs.length := by rw [Int.toNat_natCast, hxl]
    rw [e, List.drop_length] at hj
    walk_at "run"
    have := q H' kp
    rw [hj] at this
    exact this
end
end W

end
section
/-! ### M0: words for walking through a reading (local) -/
local macro_rules | `(tactic| walk_at "st") => `(tactic| first
  | (with_reducible refine Cm.s_seq ?_) | (with_reducible refine Cm.s_asg ?_) | (with_reducible refine Cm.s_drop ?_) | (with_reducible refine Cm.s_ret ?_) | (with_reducible refine Cm.s_if ?_) | (with_reducible refine Cm.s_next ?_) | (with_reducible refine Cm.s_retN ?_) | (with_reducible refine Cm.s_rs ?_) | (with_reducible refine Cm.s_fld0 ?_)
  | ((with_reducible refine' Cm.e_var ?hv ?_); (case hv => exact rfl))
  | (with_reducible refine Cm.e_c ?_) | (with_reducible refine Cm.e_op ?_) | (with_reducible refine Cm.e_un ?_) | (with_reducible refine Cm.e_nil ?_) | (with_reducible refine Cm.e_cons ?_) | (with_reducible refine Cm.e_tup ?_) | (with_reducible refine Cm.e_lst ?_) | (with_reducible refine Cm.e_cb ?_) | (with_reducible refine Cm.e_call ?_) | (with_reducible refine Cm.e_if ?_)
  | (with_reducible refine Cm.e_andV ?_) | (with_reducible refine Cm.e_orV ?_) | (with_reducible refine Cm.e_notV ?_) | (with_reducible refine Cm.e_fld0 ?_) | (with_reducible refine Cm.e_meth0 ?_) | (with_reducible refine Cm.e_bm0 ?_) | (with_reducible refine Cm.e_bm ?_) | (with_reducible refine Cm.e_sl ?_) | (with_reducible refine Cm.o_none ?_) | (with_reducible refine Cm.o_some ?_) | (with_reducible refine Cm.e_dnew ?_)
  | (with_reducible refine Cm.e_test ?_) | (with_reducible refine Cm.e_tr ?_) | (with_reducible refine Cm.e_and ?_) | (with_reducible refine Cm.e_or ?_) | (with_reducible refine Cm.e_not ?_) | (with_reducible refine Cm.e_yes ?_) | (with_reducible refine Cm.e_chain ?_)
  | (with_reducible refine Cm.r_i0 ?_) | (with_reducible refine Cm.r_u ?_) | (with_reducible refine Cm.r_isNo ?_) | (with_reducible refine Cm.r_notNo ?_) | (with_reducible refine Cm.r_addI ?_) | (with_reducible refine Cm.r_int1b ?_) | (with_reducible refine Cm.r_max2 ?_)
  | ((with_reducible refine Cm.r_i ?hc ?_); (case hc => walk_at "num"))
  | ((with_reducible refine Cm.r_mulI ?hc ?_); (case hc => walk_at "num"))
  | ((with_reducible refine Cm.r_eqS ?hc ?_); (case hc => exact rfl))
  | ((with_reducible refine Cm.r_neS ?hc ?_); (case hc => exact rfl))
  | ((with_reducible refine' Cm.r_ixl ?h1 ?h2 ?_); (case h1 => walk_at "look"); (case h2 => walk_at "at"))
  | ((with_reducible refine' Cm.r_ixt ?h1 ?h2 ?_); (case h1 => walk_at "look"); (case h2 => walk_at "at"))
  | ((with_reducible refine' Cm.r_ixT ?h1 ?h2 ?_); (case h1 => walk_at "lookT"); (case h2 => walk_at "at"))
  | ((with_reducible refine' Cm.r_ixds ?h1 ?h2 ?_); (case h1 => walk_at "look"); (case h2 => walk_at "key"))
  | ((with_reducible refine' Cm.r_eqe ?h1 ?h2 ?_); (case h1 => walk_at "look"); (case h2 => walk_at "look"))
  | ((with_reducible refine' Cm.r_nee ?h1 ?h2 ?_); (case h1 => walk_at "look"); (case h2 => walk_at "look"))
  | ((with_reducible refine' Cm.r_lenl ?h1 ?_); (case h1 => walk_at "look"))
  | ((with_reducible refine' Cm.r_lent ?h1 ?_); (case h1 => walk_at "look"))
  | ((with_reducible refine' Cm.r_lenT ?h1 ?_); (case h1 => walk_at "lookT"))
  | ((with_reducible refine' Cm.r_listl ?h1 ?_); (case h1 => walk_at "look"); (intro _ _))
  | ((with_reducible refine' Cm.r_tupl ?h1 ?_); (case h1 => walk_at "look"); (intro _ _))
  | ((with_reducible refine' Cm.r_addL ?h1 ?h2 ?h3 ?_); (case h1 => walk_at "look"); (case h2 => walk_at "look"); (case h3 => walk_at "size"); (intro _ _))
  | ((with_reducible refine' Cm.m_append ?h1 ?h2 ?_); (case h1 => walk_at "look"); (case h2 => walk_at "size"))
  | ((with_reducible refine' Cm.m_clear ?h1 ?_); (case h1 => walk_at "look"))
  | ((with_reducible refine' Cm.g_setL ?h1 ?h2 ?_); (case h1 => walk_at "look"); (case h2 => walk_at "ix"))
  | ((with_reducible refine' Cm.g_setDs ?h1 ?h2 ?h3 ?_); (case h1 => walk_at "look"); (case h2 => walk_at "size"); (case h3 => walk_at "put"))
  | ((with_reducible refine' Cm.fld_at ?h1 ?h2 ?h3 ?h4 ?_); (case h1 => walk_at "look"); (case h2 => assumption); (case h3 => assumption); (case h4 => walk_at "key"))
  | ((with_reducible refine' Cm.fldset_at ?h1 ?h2 ?h3 ?h4 ?h5 ?_); (case h1 => walk_at "look"); (case h2 => assumption); (case h3 => assumption); (case h4 => walk_at "size"); (case h5 => walk_at "put"))
  | (with_reducible refine Cm.s_fldaug0 ?_)
  | ((with_reducible refine' Cm.aug_at ?h1 ?h2 ?h3 ?h4 ?_); (case h1 => walk_at "look"); (case h2 => assumption); (case h3 => assumption); (case h4 => walk_at "key"))
  | ((with_reducible refine' Cm.augset_at ?h1 ?h4 ?h5 ?_); (case h1 => walk_at "look"); (case h4 => walk_at "size"); (case h5 => walk_at "put"))
  | (with_reducible refine Cm.in_sub_at ?_) | (with_reducible refine Cm.in_add_at ?_)
  | ((with_reducible refine' Cm.meth_at ?h1 ?h2 ?_); (case h1 => walk_at "look"); (case h2 => walk_at "key"))
  | ((with_reducible refine Cm.new_at ?h1 ?_); (case h1 => walk_at "size"); (intro _ _))
  | ((with_reducible refine Cm.and_at (A := L2.tyV _ "list" _ _) ?h1 ?_); (case h1 => exact Cm.ty_lst (by walk_at "look")))
  | ((with_reducible refine' Cm.g_tupt ?h1 ?h2 ?_); (case h1 => walk_at "look"); (case h2 => exact rfl))
  | ((with_reducible refine' Cm.g_tup ?h1 ?h2 ?_); (case h1 => walk_at "lookT"); (case h2 => exact rfl))
  | (with_reducible refine Cm.g_name ?_) | (with_reducible refine Cm.g_sub ?_) | (with_reducible refine Cm.g_cons ?_) | (with_reducible refine Cm.g_nil ?_)
  | (with_reducible refine Cm.int_at ?_) | (with_reducible refine Cm.bl_at ?_) | (with_reducible refine Cm.tr_bl ?_) | (with_reducible refine Cm.tr_non ?_)
  | ((with_reducible refine' Cm.m_pop0 ?h1 ?_); (case h1 => walk_at "look"))
  | ((with_reducible refine' Cm.r_slTo ?h1 ?h2 ?_); (case h1 => walk_at "look"); (case h2 => walk_at "num2"); (intro _ _))
  | ((with_reducible refine' Cm.r_slFrom ?h1 ?h2 ?_); (case h1 => walk_at "look"); (case h2 => walk_at "num2"); (intro _ _))
  | ((with_reducible refine' Cm.at_forL ?h1 ?_); (case h1 => walk_at "look"))
  | ((with_reducible refine' Cm.at_forT ?h1 ?_); (case h1 => walk_at "look"))
  | ((with_reducible refine' Cm.at_forR ?h1 ?h2 ?_); (case h1 => walk_at "num2"); (case h2 => walk_at "num2"))
  | ((with_reducible refine' Cm.at_forZ ?h1 ?h2 ?_); (case h1 => walk_at "look"); (case h2 => walk_at "look"))
  | (with_reducible refine Cm.s_forZ ?_) | (with_reducible refine Cm.s_forR ?_)
  | ((with_reducible refine Cm.and_at (A := _ = _) ?h1 ?_); (case h1 => exact rfl))
  | ((with_reducible show L2.rIsi _ _ _ _); walk_at "isi")
  | (with_reducible refine Cm.ite_nt ?_) | (with_reducible refine Cm.ite_nf ?_)
  | (with_reducible refine L2.iteT ?_) | (with_reducible refine L2.iteF ?_)
  | dsimp only
  | fail)
local macro_rules | `(tactic| walk_at "run") => `(tactic| repeat (walk_at "st"))
local macro_rules | `(tactic| walk_at "num") => `(tactic| first
  | exact Or.inr ⟨by decide, by decide⟩ | exact Or.inl ⟨by decide, by decide⟩
  | exact Cm.wdiv (by first | decide | omega) (by first | decide | omega)
  | (show (0 : Int) < _; first | decide | omega)
  | exact ⟨by decide, by decide, by decide⟩
  | fail)
local macro_rules | `(tactic| walk_at "put") => `(tactic| exact rfl)
local macro_rules | `(tactic| walk_at "fl") => `(tactic| first | exact Cm.fl0 | (refine' Cm.flS ?hz; (case hz => walk_at "fl")) | fail)
local macro_rules | `(tactic| walk_at "size") => `(tactic| first | exact Cm.sz_lit rfl | exact Cm.sz_lt rfl | exact Cm.fs_lt rfl | decide | (refine' Nat.lt_of_le_of_lt ?ha ?hb; (case ha => walk_at "fl"); (case hb => decide)) | (simp only [List.length_cons, List.length_nil, List.length_append, List.length_map, List.length_set, List.length_replicate, PySem.sizeLine_eq]; omega) | (simp only [List.length_cons, List.length_nil, List.length_append, List.length_map, List.length_set, List.length_replicate, PySem.sizeLine_eq] at *; omega) | fail)
local macro_rules | `(tactic| walk_at "at") => `(tactic| first | assumption | (with_reducible exact Cm.at0) | (with_reducible exact Cm.at1) | (with_reducible exact Cm.at2) | (with_reducible exact Cm.at3) | (with_reducible exact Cm.at4) | (with_reducible exact Cm.at5) | (with_reducible exact Cm.at6) | (with_reducible exact Cm.at7) | (with_reducible exact Cm.at8) | (with_reducible exact Cm.at0s) | (with_reducible exact Cm.at1s) | (with_reducible exact Cm.at01s) | (with_reducible exact Cm.at10s) | fail)
local macro_rules | `(tactic| walk_at "ix") => `(tactic| first | exact Cm.ix0 (by walk_at "size") | exact Cm.ix1 (by walk_at "size") | assumption | fail)
local macro_rules | `(tactic| walk_at "key") => `(tactic| first | assumption | fail)
local macro_rules | `(tactic| walk_at "ne") => `(tactic| first
  | assumption
  | (refine Ne.symm ?_; assumption)
  | (refine' L2.ne_of_none ?h1 ?h2; (case h2 => assumption); (case h1 => walk_at "look"))
  | (refine' Ne.symm (L2.ne_of_none ?h1 ?h2); (case h2 => assumption); (case h1 => walk_at "look"))
  | fail)
local macro_rules | `(tactic| walk_at "lookT") => `(tactic| first
  | assumption
  | exact L2.SqT.of (by walk_at "look")
  | fail)
local macro_rules | `(tactic| walk_at "look") => `(tactic| first
  | assumption
  | exact L2.upd_same
  | ((fail_if_success (with_reducible refine Eq.trans L2.upd_same ?_)); (refine' Eq.trans (L2.upd_ne ?h1) ?h2); (case h1 => walk_at "ne"); (case h2 => walk_at "look"))
  | (refine' Cm.kp_look ?h1 ?h2 ?h3 ?h4; (case h1 => assumption); (case h2 => walk_at "look"); (case h3 => intro _ z; cases z); (case h4 => first | exact Or.inl rfl | exact Or.inr (by walk_at "out")))
  | fail)
local macro_rules | `(tactic| walk_at "out") => `(tactic| first
  | assumption
  | exact fun z => z
  | exact fun z => z.elim (fun e => absurd e (by walk_at "ne")) (fun e => absurd e (by walk_at "ne"))
  | exact fun e => absurd e (by walk_at "ne")
  | fail)
local macro_rules | `(tactic| walk_at "dom") => `(tactic| first
  | exact Cm.dm_refl
  | (refine Cm.dm_upd ?_; walk_at "dom")
  | (refine' Cm.dm_kp ?h1 ?h2; (case h2 => assumption); (case h1 => walk_at "dom"))
  | fail)
local macro_rules | `(tactic| walk_at "free") => `(tactic| first
  | assumption
  | exact Cm.nw_of (by assumption)
  | (refine' Cm.dm_use ?h1 ?h2; (case h2 => assumption); (case h1 => walk_at "dom"))
  | (refine' Cm.dm_use2 ?h1 ?h2; (case h2 => assumption); (case h1 => walk_at "dom"))
  | fail)
local macro_rules | `(tactic| walk_at "in") => `(tactic| first
  | exact Or.inl rfl | exact Or.inl (Or.inl rfl) | exact Or.inl (Or.inr rfl) | exact Or.inl (Or.inr (Or.inl rfl)) | exact Or.inl (Or.inr (Or.inr rfl))
  | exact Or.inl (by assumption)
  | exact Or.inr (by walk_at "free")
  | fail)
local macro_rules | `(tactic| walk_at "kp") => `(tactic| first
  | assumption
  | exact Cm.Kp.refl
  | (refine' Cm.Kp.new' ?h1 ?h2; (case h2 => assumption); (case h1 => walk_at "kp"))
  | (refine' Cm.Kp.setX' ?h1 ?h2 ?h4 ?h5 ?h3; (case h2 => walk_at "look"); (case h4 => exact rfl); (case h5 => intro _ z; cases z); (case h3 => walk_at "in"); (case h1 => walk_at "kp"))
  | (refine' Cm.kp_step ?h1 ?h2 ?h3; (case h2 => assumption); (case h3 => walk_at "sub"); (case h1 => walk_at "kp"))
  | fail)
local macro_rules | `(tactic| walk_at "sub") => `(tactic| first
  | exact fun _ z => z.elim
  | exact fun _ z => Or.inl z
  | (intro a z; rcases z with rfl | rfl <;> walk_at "in")
  | (intro a z; subst z; walk_at "in")
  | fail)
local macro_rules | `(tactic| walk_at "num2") => `(tactic| first | decide | omega | fail)

local macro_rules | `(tactic| walk_at "isi") => `(tactic| first | (with_reducible refine Cm.isi_non_bool ?_) | (with_reducible refine Cm.isi_non_int ?_) | (with_reducible refine Cm.isi_non_str ?_) | (with_reducible refine Cm.isi_non_tuple ?_) | (with_reducible refine Cm.isi_non_list ?_) | (with_reducible refine Cm.isi_bl_bool ?_) | (with_reducible refine Cm.isi_bl_int ?_) | (with_reducible refine Cm.isi_bl_str ?_) | (with_reducible refine Cm.isi_bl_tuple ?_) | (with_reducible refine Cm.isi_bl_list ?_) | (with_reducible refine Cm.isi_int_bool ?_) | (with_reducible refine Cm.isi_int_int ?_) | (with_reducible refine Cm.isi_int_str ?_) | (with_reducible refine Cm.isi_int_tuple ?_) | (with_reducible refine Cm.isi_int_list ?_) | (with_reducible refine Cm.isi_str_bool ?_) | (with_reducible refine Cm.isi_str_int ?_) | (with_reducible refine Cm.isi_str_str ?_) | (with_reducible refine Cm.isi_str_tuple ?_) | (with_reducible refine Cm.isi_str_list ?_) | ((with_reducible refine' Cm.isi_tup_bool ?h1 ?_); (case h1 => walk_at "look")) | ((with_reducible refine' Cm.isi_tup_int ?h1 ?_); (case h1 => walk_at "look")) | ((with_reducible refine' Cm.isi_tup_str ?h1 ?_); (case h1 => walk_at "look")) | ((with_reducible refine' Cm.isi_tup_tuple ?h1 ?_); (case h1 => walk_at "look")) | ((with_reducible refine' Cm.isi_tup_list ?h1 ?_); (case h1 => walk_at "look")) | ((with_reducible refine' Cm.isi_lst_bool ?h1 ?_); (case h1 => walk_at "look")) | ((with_reducible refine' Cm.isi_lst_int ?h1 ?_); (case h1 => walk_at "look")) | ((with_reducible refine' Cm.isi_lst_str ?h1 ?_); (case h1 => walk_at "look")) | ((with_reducible refine' Cm.isi_lst_tuple ?h1 ?_); (case h1 => walk_at "look")) | ((with_reducible refine' Cm.isi_lst_list ?h1 ?_); (case h1 => walk_at "look")) | fail)

/-! ### M1: more words -/
local macro_rules | `(tactic| walk_at "st") => `(tactic| first
  | ((with_reducible refine Cm.and_at (A := L2.tyV _ "dict" _ _) ?h1 ?_); (case h1 => exact Cm.ty_dic (by walk_at "look")))
  | (with_reducible refine Cm.e_dget2 ?_) | (with_reducible refine Cm.e_dpop2 ?_) | (with_reducible refine Cm.e_dpop1 ?_) | (with_reducible refine Cm.s_rx ?_)
  | ((with_reducible refine' Cm.isd_at ?h1 ?_); (case h1 => walk_at "look"))
  | ((with_reducible refine' Cm.get_at ?h1 ?_); (case h1 => walk_at "look"))
  | ((with_reducible refine' Cm.pop1_at ?h1 ?h2 ?_); (case h1 => walk_at "look"); (case h2 => assumption))
  | ((with_reducible refine' Cm.r_dictD ?h1 ?_); (case h1 => walk_at "look"); (intro _ _))
  | ((with_reducible refine' Cm.r_lenD ?h1 ?_); (case h1 => walk_at "look"))
  | ((with_reducible refine' Cm.r_ixdi ?h1 ?h2 ?_); (case h1 => walk_at "look"); (case h2 => assumption))
  | ((with_reducible refine' Cm.g_setdi ?h1 ?h2 ?_); (case h1 => walk_at "look"); (case h2 => first | assumption | omega))
  | (with_reducible refine Cm.r_min2 ?_)
  | (with_reducible refine W.r_eq_lv ?_) | (with_reducible refine W.r_ne_lv ?_) | (with_reducible refine W.r_isNo_lv ?_) | (with_reducible refine W.r_notNo_lv ?_)
  | fail)

local macro_rules | `(tactic| walk_at "key") => `(tactic| first | exact W.tF_g_rows | exact W.tF_g_hands | exact W.tF_g_moment | exact W.tF_g_number | exact W.tF_n_row_at | exact W.tF_n_shown | exact W.tF_n_content | exact W.tF_n_put_page | exact W.tF_n_prune | exact W.tF_n_change | exact W.tF_n_whole)
local macro_rules | `(tactic| walk_at "put") => `(tactic| first | exact W.tF_p_rows | exact W.tF_p_hands | exact W.tF_p_moment | exact W.tF_p_number)
local macro_rules | `(tactic| walk_at "size") => `(tactic| (rw [W.tF_len]; decide))

local macro_rules | `(tactic| walk_at "key") => `(tactic| first | exact W.oS_g_rows | exact W.oS_g_hands | exact W.oS_g_moment | exact W.oS_g_number)
local macro_rules | `(tactic| walk_at "put") => `(tactic| first | exact W.oS_p_rows | exact W.oS_p_hands | exact W.oS_p_moment | exact W.oS_p_number)
local macro_rules | `(tactic| walk_at "size") => `(tactic| (rw [W.oS_len]; decide))

namespace W
open PySem PySem.Spec PyProof.Rows L2 Cm
section
variable {w : World} {K : PySem.W.Frag} {mg : Str → Option Value}
def RdI (K : PySem.W.Frag) (H : Hp) (b l sl fl sn : Addr) (n : Int) (i : Nat) (σ' : L2.St) (H' : Hp) : Prop := ∃ (v5 v6 v7 v8 v9 : Option V) (m : Int) (gs : List Rdg) (xs : List V) (ns : List Int), σ' = [some (.ref b), some (.ref sl), some (.ref fl), some (.ref sn), some (.int m), v5, v6, v7, v8, v9] ∧ BoxAt H' b l ∧ Kp (tabs K) (Bx b l) H H' ∧ H' fl = some (.lst xs) ∧ DtA H' xs (gs.map rdD) ∧ (∀ g ∈ gs, rdOk g) ∧ gs.length = i ∧
  H' sn = some (.lst (ns.map V.int)) ∧ ns.length = 4 ∧ (∀ x ∈ ns, 0 ≤ x ∧ x < n) ∧ 0 < m ∧ m < 2 ^ 64
theorem di_rds {gs : List Rdg} : ∀ d ∈ gs.map rdD, Di 6 d := fun d hd => by
  obtain ⟨g, _, rfl⟩ := List.mem_map.mp hd
  exact di_rd
theorem rd_fin {H H2 : Hp} {b l sl fl sn t : Addr} {n m hn key num : Int} {wo : Option Int} {i : Nat} {gs : List Rdg} {xs : List V} {ns : List Int} {v5 : Option V} (B2 : BoxAt H2 b l) (kp : Kp (tabs K) (Bx b l) H H2) (hfl : H2 fl = some (.lst xs)) (hA : DtA H2 xs (gs.map rdD)) (hok : ∀ g ∈ gs, rdOk g) (hlen : gs.length = i) (hsn : H2 sn = some (.lst (ns.map V.int))) (hn4 : ns.length = 4) (hns : ∀ x ∈ ns, 0 ≤ x ∧ x < n) (hm0 : 0 < m) (hm1 : m < 2 ^ 64)
    (nfl : Nw H fl) (nb : ¬ Nw H b) (nl : ¬ Nw H l) (fs : fl ≠ sn) (h1 : 0 ≤ hn ∧ hn < 4) (h2 : 0 ≤ key ∧ key < 32) (ht : H2 t = none) :
    RdI K H b l sl fl sn n (i + 1) [some (.ref b), some (.ref sl), some (.ref fl), some (.ref sn), some (.int m), v5, some (.int hn), some (.int num), some (.int key), some (lv wo)] (upd (upd H2 t (.tup [.int hn, .int num, .int key, lv wo])) fl (.lst (xs ++ [.ref t]))) := by
  have ft : fl ≠ t := ne_of_none hfl ht
  have st : sn ≠ t := ne_of_none hsn ht
  have kb : Kp (tabs K) (fun c => c = fl) H2 (upd (upd H2 t (.tup [.int hn, .int num, .int key, lv wo])) fl (.lst (xs ++ [.ref t]))) := by walk_at "kp"
  refine ⟨_, _, _, _, _, m, gs ++ [(hn, num, key, wo)], xs ++ [.ref t], ns, rfl, ?_, kp.trans kb fun a z => .inr (by rw [z]; exact nfl), upd_same, ?_, fun g hg => ?_, by simp [hlen], ?_, hn4, hns, hm0, hm1⟩
  · exact B2.keep kb (fun z => nb (by rw [z]; exact nfl)) (fun z => nl (by rw [z]; exact nfl))
  · rw [List.map_append]
    exact (hA.keep kb di_rds).snoc (dt4.mpr ⟨t, _, _, _, _, rfl, by walk_at "look", rfl, rfl, rfl, dt_oD.mpr rfl⟩)
  · rcases List.mem_append.mp hg with hg | hg
    · exact hok g hg
    · rw [List.mem_singleton.mp hg]; exact ⟨h1, h2⟩
  · rw [upd_ne (Ne.symm fs), upd_ne st]; exact hsn
theorem pure_readings_ (vs : List V) (H : Hp) (Q : VK) (E : XK) (h : S_readings_ K vs H Q E) : t_readings_ K E { nx := fun _ H' => Q .non H', rt := Q } (start N_readings_ vs) H := by
  obtain ⟨_, _, rfl, b, l, sl, Ss, X, rfl, rfl, B, hS, nXb, nXl, hS0, hS1, k⟩ := h
  have nb : ¬ Nw H b := by
    obtain ⟨_, _, e, _⟩ := B
    exact fun z => nw_no z e (fun _ z => nomatch z)
  have nl : ¬ Nw H l := by
    obtain ⟨_, _, _, e, _⟩ := B
    exact fun z => nw_no z e (fun _ z => nomatch z)
  have nX : ∀ a, X a → ¬ Bx b l a := fun a ha z => z.elim (fun e => nXb (by rw [← e]; exact ha)) fun e => nXl (by rw [← e]; exact ha)
  unfold t_readings_
  walk_at "run"
  rename_i fl hfl sn hsn pl hpl
  have fs : fl ≠ sn := by walk_at "ne"
  have nfl : Nw H fl := .inl hfl
  have nsn : Nw H sn := by walk_at "free"
  have k0 : Kp (tabs K) No H (upd (upd H fl (.lst [])) sn (.lst [.int 0, .int 0, .int 0, .int 0])) := by walk_at "kp"
  have B0 : BoxAt (upd (upd H fl (.lst [])) sn (.lst [.int 0, .int 0, .int 0, .int 0])) b l := (B.new hfl).new hsn
  have g1 : (upd (upd H fl (.lst [])) sn (.lst [.int 0, .int 0, .int 0, .int 0])) fl = some (.lst []) := by walk_at "look"
  have g2 : (upd (upd H fl (.lst [])) sn (.lst [.int 0, .int 0, .int 0, .int 0])) sn = some (.lst [.int 0, .int 0, .int 0, .int 0]) := upd_same
  revert hpl k0 B0 g1 g2
  generalize upd (upd H fl (.lst [])) sn (.lst [.int 0, .int 0, .int 0, .int 0]) = H0
  intro hpl k0 B0 g1 g2
  have ofl : ¬ Bx b l fl := fun z => z.elim (fun e => nb (by rw [← e]; exact nfl)) fun e => nl (by rw [← e]; exact nfl)
  have osn : ¬ Bx b l sn := fun z => z.elim (fun e => nb (by rw [← e]; exact nsn)) fun e => nl (by rw [← e]; exact nsn)
  refine ⟨_, _, rfl, b, l, 3, rfl, rfl, B0.new hpl, by decide, by decide, fun x1 H1 x10 x11 B1 k1' => ?_⟩
  obtain ⟨x, e1, hx⟩ := at_pick (xs := [.int 3, .int 12, .int (10 ^ (6 : Int).toNat)]) x10 x11
  obtain ⟨m, rfl, hm0, hm1⟩ : ∃ m : Int, x = .int m ∧ 0 < m ∧ m < 2 ^ 64 := by
    simp only [List.mem_cons, List.not_mem_nil, or_false] at hx
    rcases hx with rfl | rfl | rfl <;> exact ⟨_, rfl, by decide, by decide⟩
  have gx : H1 pl = some (.lst [.int 3, .int 12, .int (10 ^ (6 : Int).toNat)]) := k1'.lst upd_same (out_bx (B0.nb hpl) (B0.nl hpl))
  have k1 : Kp (tabs K) (Bx b l) H0 H1 := (Kp.new hpl).trans k1' fun a z => .inl z
  walk_at "run"
  refine ⟨_, _, rfl, b, l, 31, rfl, rfl, B1, by decide, by decide, fun n H2 n0 n1 B2 k2 => ?_⟩
  have k02 : Kp (tabs K) (Bx b l) H0 H2 := k1.trans k2 fun a z => .inl z
  have kk2 : Kp (tabs K) (Bx b l) H H2 := (k0.mono fun _ z => z.elim).trans k02 fun a z => .inl z
  have g12 := k02.lst g1 ofl
  have g22 := k02.lst g2 osn
  clear k1 k1' k2 gx B1
  walk_at "run"
  refine forR (RdI K H b l sl fl sn Ss.length) ⟨none, none, none, none, none, m, [], [], [0, 0, 0, 0], rfl, B2, kk2, g12, rfl, fun _ z => (nomatch z), rfl, g22, rfl, fun x hx => ?_, hm0, hm1⟩ ?_ ?_
  · simp only [List.mem_cons, List.not_mem_nil, or_false, or_self] at hx
    rw [hx]; omega
  · rintro i σ' H' hi ⟨v5, v6, v7, v8, v9, m, gs, xs, ns, rfl, B', kp, hf, hA, hok, hlen, hs, hn4, hns, hm0, hm1⟩
    have hxl := hA.length
    rw [List.length_map] at hxl
    have hz : xs.length < sizeLine := by rw [sizeLine_eq]; omega
    walk_at "run"
    refine ⟨_, _, rfl, b, l, 4, rfl, rfl, B', by decide, by decide, fun hn H1 hn0 hn1 B1 c1 => ?_⟩
    have hs1 := c1.lst hs osn
    obtain ⟨sv, esv, hsv⟩ := at_pick (xs := ns.map V.int) hn0 (by rw [List.length_map, hn4]; exact hn1)
    obtain ⟨s, hsm, rfl⟩ := List.mem_map.mp hsv
    obtain ⟨s0, s1⟩ := hns s hsm
    obtain ⟨as1, hsl1, hasl1⟩ := (hS.keep (kp.trans c1 fun a z => .inl z) nX).len
    walk_at "run"
    rw [List.length_map, hasl1]
    have hmin : 0 < (if (Ss.length : Int) - s < 4 then (Ss.length : Int) - s else 4) ∧ (if (Ss.length : Int) - s < 4 then (Ss.length : Int) - s else 4) ≤ (Ss.length : Int) - s ∧ (if (Ss.length : Int) - s < 4 then (Ss.length : Int) - s else 4) ≤ 4 := by
      split <;> omega
    refine ⟨_, _, rfl, b, l, _, rfl, rfl, B1, hmin.1, by omega, fun d H2 d0 d1 B2 c2 => ?_⟩
    obtain ⟨num, hnum⟩ : ∃ num, num = s + d := ⟨_, rfl⟩
    have hn0' : 0 ≤ num ∧ num < Ss.length := by omega
    clear hmin
    walk_at "run"
    rename_i p1 hp1
    refine ⟨_, _, rfl, b, l, 2, rfl, rfl, B2.new hp1, by decide, by decide, fun y1 H3 y10 y11 B3 c3' => ?_⟩
    obtain ⟨x, e1, hx⟩ := at_pick (xs := [.int 6, .int 32]) y10 y11
    obtain ⟨m2, rfl, hm20, hm21⟩ : ∃ m : Int, x = .int m ∧ 0 < m ∧ m ≤ 32 := by
      simp only [List.mem_cons, List.not_mem_nil, or_false] at hx
      rcases hx with rfl | rfl <;> exact ⟨_, rfl, by decide, by decide⟩
    have gx : H3 p1 = some (.lst [.int 6, .int 32]) := c3'.lst upd_same (out_bx (B2.nb hp1) (B2.nl hp1))
    have c3 : Kp (tabs K) (Bx b l) H' H3 := ((c1.trans c2 fun a z => .inl z).new' hp1).trans c3' fun a z => .inl z
    walk_at "run"
    refine ⟨_, _, rfl, b, l, m2, rfl, rfl, B3, hm20, by omega, fun key H4 key0 key1 B4 c4' => ?_⟩
    have c4 : Kp (tabs K) (Bx b l) H' H4 := c3.trans c4' fun a z => .inl z
    clear c4' c3 c3' gx c2 c1 B3 B2 B1 hs1 hsl1 e1 hx
    have hS4 := hS.keep (kp.trans c4 fun a z => .inl z) nX
    obtain ⟨as, a, F, q1, q2, q3, q4, q5⟩ := hS4.get (i := num.toNat) (S := Ss.getD num.toNat ts0) (by rw [List.getD_eq_getElem?_getD, List.getElem?_eq_getElem (by omega)]; rfl)
    have at1 := at_page (k := s + d) q3 (by omega)
    walk_at "run"
    refine ⟨_, _, rfl, a, _, F, key, rfl, q4, rfl, fun H5 c5' => ?_⟩
    have c5 : Kp (tabs K) (Bx b l) H' H5 := c4.trans c5' fun a z => z.elim
    have B5 := B4.keep c5' (fun z => z) (fun z => z)
    generalize hwo : (Ss.getD num.toNat ts0).shown key = wo
    rw [← hnum]
    have hkey : 0 ≤ key ∧ key < 32 := ⟨key0, by omega⟩
    clear c5' c4 hS4 q1 q4 at1 B4
    -- behind all
    have fin : ∀ (H6 : Hp) (num : Int) (wo : Option Int) (ns' : List Int) (t : Addr), BoxAt H6 b l → Kp (tabs K) (Bx b l) H H6 → H6 fl = some (.lst xs) → DtA H6 xs (gs.map rdD) → H6 sn = some (.lst (ns'.map V.int)) → ns'.length = 4 → (∀ x ∈ ns', 0 ≤ x ∧ x < (Ss.length : Int)) → H6 t = none → RdI K H b l sl fl sn Ss.length (i + 1) [some (.ref b), some (.ref sl), some (.ref fl), some (.ref sn), some (.int m), some (.int (i : Nat)), some (.int hn), some (.int num), some (.int key), some (lv wo)] (upd (upd H6 t (.tup [.int hn, .int num, .int key, lv wo])) fl (.lst (xs ++ [.ref t]))) :=
      fun H6 num wo ns' t B6 k6 f6 A6 s6 l6 b6 t6 => rd_fin B6 k6 f6 A6 hok hlen s6 l6 b6 hm0 hm1 nfl nb nl fs ⟨hn0, hn1⟩ hkey t6
    walk_at "run"
    refine ⟨_, _, rfl, b, l, m, rfl, rfl, B5, hm0, hm1, fun z1 H6 _ _ B6 c6' => ?_⟩
    have c6 : Kp (tabs K) (Bx b l) H' H6 := c5.trans c6' fun a z => .inl z
    clear c6' c5 B5
    walk_at "run"
    refine if_d (fun h1 => ?_) (fun h1 => ?_)
    · -- another number, another worth
      walk_at "run"
      refine ⟨_, _, rfl, b, l, 3, rfl, rfl, B6, by decide, by decide, fun a1 H7 _ _ B7 c7' => ?_⟩
      obtain ⟨as7, hsl7, hasl7⟩ := (hS.keep ((kp.trans c6 fun a z => .inl z).trans c7' fun a z => .inl z) nX).len
      walk_at "run"
      rw [List.length_map, hasl7]
      refine ⟨_, _, rfl, b, l, 3, rfl, rfl, B7, by decide, by decide, fun a2 H8 _ _ B8 c8' => ?_⟩
      have c8 : Kp (tabs K) (Bx b l) H' H8 := (c6.trans c7' fun a z => .inl z).trans c8' fun a z => .inl z
      clear c8' c7' hsl7 B7 c6 B6
      walk_at "run"
      rename_i p2 hp2
      refine ⟨_, _, rfl, b, l, 3, rfl, rfl, B8.new hp2, by decide, by decide, fun a3 H9 a30 a31 B9 c9' => ?_⟩
      obtain ⟨x, e1, hx⟩ := at_pick (xs := [.int (num - 1 - a1), .int ((Ss.length : Int) + a2), .int num]) a30 a31
      obtain ⟨num2, rfl⟩ : ∃ m : Int, x = .int m := by
        simp only [List.mem_cons, List.not_mem_nil, or_false] at hx
        rcases hx with rfl | rfl | rfl <;> exact ⟨_, rfl⟩
      have gx : H9 p2 = some (.lst [.int (num - 1 - a1), .int ((Ss.length : Int) + a2), .int num]) := c9'.lst upd_same (out_bx (B8.nb hp2) (B8.nl hp2))
      have c9 : Kp (tabs K) (Bx b l) H' H9 := (c8.new' hp2).trans c9' fun a z => .inl z
      clear c9' c8 B8 hx
      walk_at "run"
      refine ⟨_, _, rfl, b, l, 1000, rfl, rfl, B9, by decide, by decide, fun a4 H10 _ _ B10 c10' => ?_⟩
      have c10 : Kp (tabs K) (Bx b l) H' H10 := c9.trans c10' fun a z => .inl z
      clear c10' c9 gx B9
      walk_at "run"
      rename_i p3 hp3
      refine ⟨_, _, rfl, b, l, 3, rfl, rfl, B10.new hp3, by decide, by decide, fun a5 H11 a50 a51 B11 c11' => ?_⟩
      obtain ⟨x, e2, hx⟩ := at_pick (xs := [lv wo, .non, .int a4]) a50 a51
      obtain ⟨wo2, rfl⟩ : ∃ m : Option Int, x = lv m := by
        simp only [List.mem_cons, List.not_mem_nil, or_false] at hx
        rcases hx with rfl | rfl | rfl
        · exact ⟨_, rfl⟩
        · exact ⟨none, rfl⟩
        · exact ⟨some a4, rfl⟩
      have gx : H11 p3 = some (.lst [lv wo, .non, .int a4]) := c11'.lst upd_same (out_bx (B10.nb hp3) (B10.nl hp3))
      have c11 : Kp (tabs K) (Bx b l) H' H11 := (c10.new' hp3).trans c11' fun a z => .inl z
      clear c11' c10 B10 hx
      have end_ : ∀ (H12 : Hp) (wo : Option Int) (t : Addr), BoxAt H12 b l → Kp (tabs K) (Bx b l) H' H12 → H12 t = none → RdI K H b l sl fl sn Ss.length (i + 1) [some (.ref b), some (.ref sl), some (.ref fl), some (.ref sn), some (.int m), some (.int (i : Nat)), some (.int hn), some (.int num2), some (.int key), some (lv wo)] (upd (upd H12 t (.tup [.int hn, .int num2, .int key, lv wo])) fl (.lst (xs ++ [.ref t]))) :=
        fun H12 wo t B12 c12 ht => fin H12 num2 wo ns t B12 (kp.trans c12 fun a z => .inl z) (c12.lst hf ofl) (hA.keep c12 di_rds) (c12.lst hs osn) hn4 hns ht
      have hf11 := c11.lst hf ofl
      obtain ⟨as11, hsl11, hasl11⟩ := (hS.keep (kp.trans c11 fun a z => .inl z) nX).len
      walk_at "run"
      refine if_d (fun h2 => ?_) (fun h2 => ?_)
      · walk_at "run"
        rw [List.length_map, hasl11]
        refine if_d (fun h3 => ?_) (fun h3 => ?_)
        · walk_at "run"
          refine ⟨_, _, rfl, b, l, 2, rfl, rfl, B11, by decide, by decide, fun a6 H12 _ _ B12 c12' => ?_⟩
          have c12 : Kp (tabs K) (Bx b l) H' H12 := c11.trans c12' fun a z => .inl z
          have hf12 := c12.lst hf ofl
          clear c12' c11 gx hf11 hsl11
          walk_at "run"
          refine if_d (fun h4 => ?_) (fun h4 => ?_)
          · obtain ⟨as', a', F', r1, r2, r3, r4, r5⟩ := (hS.keep (kp.trans c12 fun a z => .inl z) nX).get (i := num2.toNat) (S := Ss.getD num2.toNat ts0) (by rw [List.getD_eq_getElem?_getD, List.getElem?_eq_getElem (by omega)]; rfl)
            have at2 := at_page (k := num2) r3 (by omega)
            walk_at "run"
            refine ⟨_, _, rfl, a', _, F', key, rfl, r4, rfl, fun H13 c13' => ?_⟩
            have c13 : Kp (tabs K) (Bx b l) H' H13 := c12.trans c13' fun a z => z.elim
            have B13 := B12.keep c13' (fun z => z) (fun z => z)
            have hf13 := c13.lst hf ofl
            clear c13' c12 hf12 r1 r4
            walk_at "run"
            rename_i t ht
            exact end_ H13 _ t B13 c13 ht
          · walk_at "run"
            rename_i t ht
            exact end_ H12 _ t B12 c12 ht
        · walk_at "run"
          rename_i t ht
          exact end_ H11 _ t B11 c11 ht
      · walk_at "run"
        rename_i t ht
        exact end_ H11 _ t B11 c11 ht
    · walk_at "run"
      refine ⟨_, _, rfl, b, l, 2, rfl, rfl, B6, by decide, by decide, fun a1 H7 _ _ B7 c7' => ?_⟩
      have c7 : Kp (tabs K) (Bx b l) H' H7 := c6.trans c7' fun a z => .inl z
      have hf7 := c7.lst hf ofl
      have hs7 := c7.lst hs osn
      clear c7' c6 B6
      walk_at "run"
      refine if_d (fun h2 => ?_) (fun h2 => ?_)
      · have hix : ixN (ns.map V.int).length hn = some hn.toNat := ix_nat hn0 (by rw [List.length_map, hn4]; exact hn1)
        have hbs : b ≠ sn := fun z => nb (by rw [z]; exact nsn)
        have hls : l ≠ sn := fun z => nl (by rw [z]; exact nsn)
        walk_at "run"
        rename_i t ht
        have e5 : (ns.map V.int).set hn.toNat (.int num) = (ns.set hn.toNat num).map V.int := by rw [List.map_set]
        have kb : Kp (tabs K) (fun c => c = sn) H7 (upd H7 sn (.lst ((ns.map V.int).set hn.toNat (.int num)))) := Kp.setL hs7 rfl
        refine fin _ num wo (ns.set hn.toNat num) t (B7.upd hbs hls) ((kp.trans c7 fun a z => .inl z).trans kb fun a z => .inr (by rw [z]; exact nsn)) (by walk_at "look") ((hA.keep c7 di_rds).keep kb di_rds) (by rw [upd_same, e5]) (by rw [List.length_set]; exact hn4) (fun x hx => ?_) ht
        rcases List.mem_or_eq_of_mem_set hx with hx | rfl
        · exact hns x hx
        · exact hn0'
      · walk_at "run"
        rename_i t ht
        exact fin H7 num wo ns t B7 (kp.trans c7 fun a z => .inl z) hf7 (hA.keep c7 di_rds) hs7 hn4 hns ht
  · rintro σ' H' ⟨v5, v6, v7, v8, v9, m, gs, xs, ns, rfl, B', kp, hf, hA, hok, hlen, hs, hn4, hns, hm0, hm1⟩
    walk_at "run"
    exact k fl xs gs H' hf hA hok (by omega) nfl B' kp
end
end W

end
section
/-! ### written data: what an expression of constants, tuples, lists tells -/
namespace W
open PySem PySem.Spec PyProof.Rows L2 Cm
section
variable {K : PySem.W.Frag} {σ : L2.St} {H : Hp}
def DE (K : PySem.W.Frag) (t : TE) (σ : L2.St) (H : Hp) (d : PyData) : Prop := ∀ H1, Kp (tabs K) No H H1 → ∀ Q : VK, (∀ v H', Kp (tabs K) No H1 H' → Dt H' v d → Q v H') → t σ H1 Q
def DAs (K : PySem.W.Frag) (t : TA) (σ : L2.St) (H : Hp) (ds : List PyData) : Prop := ∀ H1, Kp (tabs K) No H H1 → ∀ QA : List V → Hp → Prop, (∀ xs H', Kp (tabs K) No H1 H' → DtA H' xs ds → QA xs H') → t σ H1 QA
def DL (K : PySem.W.Frag) (t : TE) (σ : L2.St) (H : Hp) (ds : List PyData) (N : Addr → Prop) : Prop := ∀ H1, Kp (tabs K) No H H1 → ∀ Q : VK, (∀ p xs H', Kp (tabs K) No H1 H' → H' p = some (.lst xs) → DtA H' xs ds → N p → Q (.ref p) H') → t σ H1 Q
theorem ktr {H H1 H2 : Hp} (a : Kp (tabs K) No H H1) (b : Kp (tabs K) No H1 H2) : Kp (tabs K) No H H2 := a.trans b fun _ z => z.elim
theorem de_int {i : Int} : DE K (tC (.int i)) σ H (.int i) := fun H1 _ Q q => q _ H1 Kp.refl rfl
theorem de_str {s : Str} : DE K (tC (.str s)) σ H (.str s) := fun H1 _ Q q => q _ H1 Kp.refl rfl
theorem de_bl {s : Bool} : DE K (tC (.bl s)) σ H (.bool s) := fun H1 _ Q q => q _ H1 Kp.refl rfl
theorem de_non : DE K (tC .non) σ H .none := fun H1 _ Q q => q _ H1 Kp.refl rfl
theorem de_var {i n : Nat} {v : V} {d : PyData} (h : σ[i]? = some (some v)) (hv : Dt H v d) (hd : Di n d) : DE K (tVar i) σ H d := fun H1 k Q q => ⟨v, h, q v H1 Kp.refl (Dt.keep k hd hv)⟩
theorem de_add {ta tb : TE} {i j : Int} (ha : DE K ta σ H (.int i)) (hb : DE K tb σ H (.int j)) : DE K (tOp (rAddA K) ta tb) σ H (.int (i + j)) := fun H1 k Q q =>
  ha H1 k _ fun v H2 k2 hv => hb H2 (ktr k k2) _ fun u H3 k3 hu => by
    obtain rfl : v = .int i := hv
    obtain rfl : u = .int j := hu
    exact r_addI (q _ H3 (ktr k2 k3) rfl)
theorem de_pow {i j : Int} (h : CPow i j) : DE K (tOp (rI CPow fun i j => .int (i ^ j.toNat)) (tC (.int i)) (tC (.int j))) σ H (.int (i ^ j.toNat)) := fun H1 _ Q q => ⟨i, j, rfl, rfl, h, q _ H1 Kp.refl rfl⟩
theorem de_neg {i : Int} : DE K (tUn (rU fun i => .int (-i)) (tC (.int i))) σ H (.int (-i)) := fun H1 _ Q q => ⟨i, rfl, q _ H1 Kp.refl rfl⟩
theorem das_nil : DAs K tNil σ H [] := fun H1 _ Q q => q [] H1 Kp.refl rfl
theorem das_cons {te : TE} {tr : TA} {n : Nat} {d : PyData} {ds : List PyData} (he : DE K te σ H d) (hd : Di n d) (hr : DAs K tr σ H ds) : DAs K (tCons te tr) σ H (d :: ds) := fun H1 k Q q =>
  he H1 k _ fun v H2 k2 hv => hr H2 (ktr k k2) _ fun xs H3 k3 hx => q _ H3 (ktr k2 k3) (.cons (Dt.keep k3 hd hv) hx)
theorem de_tup {ta : TA} {n : Nat} {ds : List PyData} (h : DAs K ta σ H ds) (hd : ∀ d ∈ ds, Di n d) (hl : ds.length ≤ 1000) : DE K (tTup ta) σ H (.tuple ds) := fun H1 k Q q =>
  h H1 k _ fun xs H2 k2 hx => ⟨by rw [hx.length, sizeLine_eq]; omega, fun p hp => q _ _ (k2.new' hp) ⟨p, xs, rfl, upd_same, hx.keep (Kp.new (T := tabs K) (S := No) hp) hd⟩⟩
theorem dl_lst {ta : TA} {n : Nat} {ds : List PyData} {N : Addr → Prop} (h : DAs K ta σ H ds) (hd : ∀ d ∈ ds, Di n d) (hl : ds.length ≤ 1000) (hN : ∀ p, Nw H p → N p) : DL K (tLst ta) σ H ds N := fun H1 k Q q =>
  h H1 k _ fun xs H2 k2 hx => ⟨by rw [hx.length, sizeLine_eq]; omega, fun p hp => q _ xs _ (k2.new' hp) upd_same (hx.keep (Kp.new (T := tabs K) (S := No) hp) hd) (hN p ((ktr k k2).free hp))⟩
theorem dl_var {i n : Nat} {p : Addr} {xs : List V} {ds : List PyData} {N : Addr → Prop} (h : σ[i]? = some (some (.ref p))) (hp : H p = some (.lst xs)) (hA : DtA H xs ds) (hd : ∀ d ∈ ds, Di n d) (hN : N p) : DL K (tVar i) σ H ds N := fun H1 k Q q =>
  ⟨_, h, q p xs H1 Kp.refl (k.lst hp fun z => z) (hA.keep k hd) hN⟩
theorem dl_add {ta tb : TE} {n : Nat} {ds es : List PyData} {N N1 N2 : Addr → Prop} (ha : DL K ta σ H ds N1) (hb : DL K tb σ H es N2) (hd : ∀ d ∈ ds, Di n d) (he : ∀ d ∈ es, Di n d) (hl : ds.length + es.length ≤ 1000) (hN : ∀ p, Nw H p → N p) : DL K (tOp (rAddA K) ta tb) σ H (ds ++ es) N := fun H1 k Q q =>
  ha H1 k _ fun p xs H2 k2 hp hx _ => hb H2 (ktr k k2) _ fun p' ys H3 k3 hp' hy _ =>
    r_addL (k3.lst hp fun z => z) hp' (by rw [hx.length, hy.length, sizeLine_eq]; omega) fun r hr =>
      q r (xs ++ ys) _ ((ktr k2 k3).new' hr) upd_same (((hx.keep k3 hd).append hy).keep (Kp.new (T := tabs K) (S := No) hr) fun d h => (List.mem_append.mp h).elim (hd d) (he d)) (hN r ((ktr (ktr k k2) k3).free hr))
theorem dl_to {i j n : Nat} {p : Addr} {m : Int} {xs : List V} {ds : List PyData} {N : Addr → Prop} (h : σ[i]? = some (some (.ref p))) (hj : σ[j]? = some (some (.int m))) (hm : 0 ≤ m) (hp : H p = some (.lst xs)) (hA : DtA H xs ds) (hd : ∀ d ∈ ds, Di n d) (hN : ∀ p, Nw H p → N p) : DL K (tSl (rSlAny K) (tVar i) tNoPart (tPart (tVar j))) σ H (ds.take m.toNat) N := fun H1 k Q q =>
  ⟨_, h, _, hj, m, rfl, r_slTo (k.lst hp fun z => z) hm fun l hl => q l _ _ (Kp.new hl) upd_same (((hA.keep k hd).take (i := m.toNat)).keep (Kp.new (T := tabs K) (S := No) hl) fun d h => hd d (List.mem_of_mem_take h)) (hN l (k.free hl))⟩
theorem dl_from {i j n : Nat} {p : Addr} {m : Int} {xs : List V} {ds : List PyData} {N : Addr → Prop} (h : σ[i]? = some (some (.ref p))) (hj : σ[j]? = some (some (.int m))) (hm : 0 ≤ m) (hp : H p = some (.lst xs)) (hA : DtA H xs ds) (hd : ∀ d ∈ ds, Di n d) (hN : ∀ p, Nw H p → N p) : DL K (tSl (rSlAny K) (tVar i) (tPart (tVar j)) tNoPart) σ H (ds.drop m.toNat) N := fun H1 k Q q =>
  ⟨_, h, _, hj, m, rfl, r_slFrom (k.lst hp fun z => z) hm fun l hl => q l _ _ (Kp.new hl) upd_same (((hA.keep k hd).drop (i := m.toNat)).keep (Kp.new (T := tabs K) (S := No) hl) fun d h => hd d (List.mem_of_mem_drop h)) (hN l (k.free hl))⟩
/-- an item of a list, of a tuple -/
theorem de_ixl {ti : TE} {i : Nat} {n : Nat} {p : Addr} {m : Int} {xs : List V} {ds : List PyData} {d : PyData} (h : σ[i]? = some (some (.ref p))) (ht : DE K ti σ H (.int m)) (hm : 0 ≤ m) (hp : H p = some (.lst xs)) (hA : DtA H xs ds) (hd : ∀ d ∈ ds, Di n d) (e : ds[m.toNat]? = some d) : DE K (tOp (rIxA K) (tVar i) ti) σ H d := fun H1 k Q q =>
  ⟨_, h, ht H1 k _ fun v H2 k2 hv => by
    obtain rfl : v = .int m := hv
    obtain ⟨x, e1, e2⟩ := (hA.keep (ktr k k2) hd).at e
    exact r_ixl ((ktr k k2).lst hp fun z => z) (at_nat hm e1) (q x H2 k2 e2)⟩
theorem de_ixt {t : TE} {n : Nat} {m : Int} {ds : List PyData} {d : PyData} (ht : DE K t σ H (.tuple ds)) (hm : 0 ≤ m) (e : ds[m.toNat]? = some d) : DE K (tOp (rIxA K) t (tC (.int m))) σ H d := fun H1 k Q q =>
  ht H1 k _ fun v H2 k2 hv => by
    obtain ⟨a, xs, rfl, ha, hA⟩ := hv
    obtain ⟨x, e1, e2⟩ := hA.at e
    exact r_ixt ha (at_nat hm e1) (q x H2 k2 e2)
end
end W

end
section
namespace W
open PySem PySem.Spec PyProof.Rows L2 Cm
def ticks : List JE → List Int
  | [] => []
  | .tick t :: js => t :: ticks js
  | .deal _ _ :: js => ticks js
theorem ticks_snoc : ∀ (js : List JE) (j : JE), ticks (js ++ [j]) = ticks js ++ ticks [j]
  | [], j => by cases j <;> rfl
  | .tick t :: js, j => by show t :: ticks (js ++ [j]) = _; rw [ticks_snoc js]; rfl
  | .deal _ _ :: js, j => ticks_snoc js j
theorem ticks_len : ∀ js : List JE, (ticks js).length ≤ js.length
  | [] => Nat.le_refl _
  | .tick t :: js => by show (ticks js).length + 1 ≤ js.length + 1; have := ticks_len js; omega
  | .deal _ _ :: js => by show (ticks js).length ≤ js.length + 1; have := ticks_len js; omega
theorem ticks_max : ∀ {js : List JE} {m : Int}, okL m js → endM m js ∈ m :: ticks js ∧ ∀ y ∈ m :: ticks js, y ≤ endM m js
  | [], m, _ => ⟨List.mem_cons_self, fun y hy => by rw [List.mem_singleton.mp hy]; exact Int.le_refl _⟩
  | .tick t :: js, m, h => by
    obtain ⟨h1, h2⟩ := ticks_max (js := js) (m := t) h.2
    have ht : m < t := h.1.1
    refine ⟨List.mem_cons_of_mem _ h1, fun y hy => ?_⟩
    rcases List.mem_cons.mp hy with rfl | hy
    · have := h2 t List.mem_cons_self
      show _ ≤ endM t js; omega
    · exact h2 y hy
  | .deal _ _ :: js, m, h => ticks_max (js := js) (m := m) h.2
theorem okL_take : ∀ {js : List JE} {m : Int} (i : Nat), okL m js → okL m (js.take i)
  | [], _, i, _ => by simp; trivial
  | _ :: js, _, 0, _ => trivial
  | _ :: js, _, i + 1, h => ⟨h.1, okL_take i h.2⟩
/-- what can't be, and how it is told -/
def oddE (m : Int) : List (PyData × JR) := [(.tuple [.str "tick", .int m], .bad "BadEntry"), (.tuple [.str "tick", .int (10 ^ (6 : Int).toNat + 1)], .bad "BadEntry"), (.tuple [], .bad "BadEntry"), (.tuple [.str "tick"], .bad "BadEntry"),
  (.tuple [.str "Deal", .int 0, .tuple [.tuple [.str "drop", .int 0]]], .bad "BadEntry"), (.tuple [.str "deal", .int 4, .tuple []], .bad "BadHand"), (.tuple [.str "deal", .int 0, .tuple []], .deal 0), (.tuple [.str "deal", .int 1, .tuple [.tuple [.str "drop", .int 0], .tuple [.str "drop", .int 32]]], .deal 1)]
def oddP (q : PyData × JR) : PyData := .tuple [q.1, dueD q.2]
theorem odd_at {m : Int} {i : Nat} {q : PyData × JR} (h : (oddE m)[i]? = some q) : NeedE m q.1 q.2 ∧ (∀ m, q.2 ≠ .ok m) ∧ Di 6 q.1 := by
  have hm := List.mem_of_getElem? h
  simp only [oddE, List.mem_cons, List.not_mem_nil, or_false] at hm
  have d2 : ∀ {a b : PyData} {n : Nat}, Di n a → Di n b → Di (n + 1) (.tuple [a, b]) := fun ha hb => di_tup (Nat.le_of_ble_eq_true rfl) fun d hd => by
    simp only [List.mem_cons, List.not_mem_nil, or_false] at hd
    rcases hd with rfl | rfl
    · exact ha
    · exact hb
  have d1 : ∀ {a : PyData} {n : Nat}, Di n a → Di (n + 1) (.tuple [a]) := fun ha => di_tup (Nat.le_of_ble_eq_true rfl) fun d hd => by rw [List.mem_singleton.mp hd]; exact ha
  have d3 : ∀ {a b c : PyData} {n : Nat}, Di n a → Di n b → Di n c → Di (n + 1) (.tuple [a, b, c]) := fun ha hb hc => di_tup (Nat.le_of_ble_eq_true rfl) fun d hd => by
    simp only [List.mem_cons, List.not_mem_nil, or_false] at hd
    rcases hd with rfl | rfl | rfl
    · exact ha
    · exact hb
    · exact hc
  have d0 : ∀ {n : Nat}, Di (n + 1) (.tuple []) := ⟨Nat.zero_le _, fun _ z => (nomatch z)⟩
  rcases hm with rfl | rfl | rfl | rfl | rfl | rfl | rfl | rfl
  · exact ⟨.inl ⟨rfl, .inl ⟨m, rfl, fun z => by omega⟩⟩, fun _ z => (nomatch z), d2 Di.str Di.int⟩
  · exact ⟨.inl ⟨rfl, .inl ⟨_, rfl, fun z => absurd z.2 (by decide)⟩⟩, fun _ z => (nomatch z), d2 Di.str Di.int⟩
  · exact ⟨.inl ⟨rfl, .inr (.inl ⟨[], rfl, by decide, by decide⟩)⟩, fun _ z => (nomatch z), d0⟩
  · exact ⟨.inl ⟨rfl, .inr (.inl ⟨_, rfl, by simp, by simp⟩)⟩, fun _ z => (nomatch z), d1 Di.str⟩
  · exact ⟨.inl ⟨rfl, .inr (.inr ⟨_, _, _, rfl, by decide⟩)⟩, fun _ z => (nomatch z), d3 Di.str Di.int (d1 (d2 Di.str Di.int))⟩
  · exact ⟨.inr ⟨rfl, 4, [], rfl, by decide⟩, fun _ z => (nomatch z), d3 Di.str Di.int d0⟩
  · exact ⟨⟨0, [], rfl, by decide, .inl ⟨rfl, rfl⟩⟩, fun _ z => (nomatch z), d3 Di.str Di.int d0⟩
  · refine ⟨⟨1, _, rfl, by decide, .inr ⟨_, rfl, fun i hi => ?_, .inr ⟨_, rfl, .inr ⟨_, _, _, rfl, by decide, .inl ⟨.inr (by decide), rfl⟩⟩⟩⟩⟩, fun _ z => (nomatch z), d3 Di.str Di.int (d2 (d2 Di.str Di.int) (d2 Di.str Di.int))⟩
    have : i = 0 := by omega
    subst this
    exact ⟨by decide, _, rfl, _, rfl, .inr ⟨_, _, _, rfl, by decide, .inr ⟨by decide, .inr (.inr (.inl ⟨rfl, rfl⟩))⟩⟩⟩
end W

end
section
/-! ### M0: words for walking through a reading (local) -/
local macro_rules | `(tactic| walk_at "st") => `(tactic| first
  | (with_reducible refine Cm.s_seq ?_) | (with_reducible refine Cm.s_asg ?_) | (with_reducible refine Cm.s_drop ?_) | (with_reducible refine Cm.s_ret ?_) | (with_reducible refine Cm.s_if ?_) | (with_reducible refine Cm.s_next ?_) | (with_reducible refine Cm.s_retN ?_) | (with_reducible refine Cm.s_rs ?_) | (with_reducible refine Cm.s_fld0 ?_)
  | ((with_reducible refine' Cm.e_var ?hv ?_); (case hv => exact rfl))
  | (with_reducible refine Cm.e_c ?_) | (with_reducible refine Cm.e_op ?_) | (with_reducible refine Cm.e_un ?_) | (with_reducible refine Cm.e_nil ?_) | (with_reducible refine Cm.e_cons ?_) | (with_reducible refine Cm.e_tup ?_) | (with_reducible refine Cm.e_lst ?_) | (with_reducible refine Cm.e_cb ?_) | (with_reducible refine Cm.e_call ?_) | (with_reducible refine Cm.e_if ?_)
  | (with_reducible refine Cm.e_andV ?_) | (with_reducible refine Cm.e_orV ?_) | (with_reducible refine Cm.e_notV ?_) | (with_reducible refine Cm.e_fld0 ?_) | (with_reducible refine Cm.e_meth0 ?_) | (with_reducible refine Cm.e_bm0 ?_) | (with_reducible refine Cm.e_bm ?_) | (with_reducible refine Cm.e_sl ?_) | (with_reducible refine Cm.o_none ?_) | (with_reducible refine Cm.o_some ?_) | (with_reducible refine Cm.e_dnew ?_)
  | (with_reducible refine Cm.e_test ?_) | (with_reducible refine Cm.e_tr ?_) | (with_reducible refine Cm.e_and ?_) | (with_reducible refine Cm.e_or ?_) | (with_reducible refine Cm.e_not ?_) | (with_reducible refine Cm.e_yes ?_) | (with_reducible refine Cm.e_chain ?_)
  | (with_reducible refine Cm.r_i0 ?_) | (with_reducible refine Cm.r_u ?_) | (with_reducible refine Cm.r_isNo ?_) | (with_reducible refine Cm.r_notNo ?_) | (with_reducible refine Cm.r_addI ?_) | (with_reducible refine Cm.r_int1b ?_) | (with_reducible refine Cm.r_max2 ?_)
  | ((with_reducible refine Cm.r_i ?hc ?_); (case hc => walk_at "num"))
  | ((with_reducible refine Cm.r_mulI ?hc ?_); (case hc => walk_at "num"))
  | ((with_reducible refine Cm.r_eqS ?hc ?_); (case hc => exact rfl))
  | ((with_reducible refine Cm.r_neS ?hc ?_); (case hc => exact rfl))
  | ((with_reducible refine' Cm.r_ixl ?h1 ?h2 ?_); (case h1 => walk_at "look"); (case h2 => walk_at "at"))
  | ((with_reducible refine' Cm.r_ixt ?h1 ?h2 ?_); (case h1 => walk_at "look"); (case h2 => walk_at "at"))
  | ((with_reducible refine' Cm.r_ixT ?h1 ?h2 ?_); (case h1 => walk_at "lookT"); (case h2 => walk_at "at"))
  | ((with_reducible refine' Cm.r_ixds ?h1 ?h2 ?_); (case h1 => walk_at "look"); (case h2 => walk_at "key"))
  | ((with_reducible refine' Cm.r_eqe ?h1 ?h2 ?_); (case h1 => walk_at "look"); (case h2 => walk_at "look"))
  | ((with_reducible refine' Cm.r_nee ?h1 ?h2 ?_); (case h1 => walk_at "look"); (case h2 => walk_at "look"))
  | ((with_reducible refine' Cm.r_lenl ?h1 ?_); (case h1 => walk_at "look"))
  | ((with_reducible refine' Cm.r_lent ?h1 ?_); (case h1 => walk_at "look"))
  | ((with_reducible refine' Cm.r_lenT ?h1 ?_); (case h1 => walk_at "lookT"))
  | ((with_reducible refine' Cm.r_listl ?h1 ?_); (case h1 => walk_at "look"); (intro _ _))
  | ((with_reducible refine' Cm.r_tupl ?h1 ?_); (case h1 => walk_at "look"); (intro _ _))
  | ((with_reducible refine' Cm.r_addL ?h1 ?h2 ?h3 ?_); (case h1 => walk_at "look"); (case h2 => walk_at "look"); (case h3 => walk_at "size"); (intro _ _))
  | ((with_reducible refine' Cm.m_append ?h1 ?h2 ?_); (case h1 => walk_at "look"); (case h2 => walk_at "size"))
  | ((with_reducible refine' Cm.m_clear ?h1 ?_); (case h1 => walk_at "look"))
  | ((with_reducible refine' Cm.g_setL ?h1 ?h2 ?_); (case h1 => walk_at "look"); (case h2 => walk_at "ix"))
  | ((with_reducible refine' Cm.g_setDs ?h1 ?h2 ?h3 ?_); (case h1 => walk_at "look"); (case h2 => walk_at "size"); (case h3 => walk_at "put"))
  | ((with_reducible refine' Cm.fld_at ?h1 ?h2 ?h3 ?h4 ?_); (case h1 => walk_at "look"); (case h2 => assumption); (case h3 => assumption); (case h4 => walk_at "key"))
  | ((with_reducible refine' Cm.fldset_at ?h1 ?h2 ?h3 ?h4 ?h5 ?_); (case h1 => walk_at "look"); (case h2 => assumption); (case h3 => assumption); (case h4 => walk_at "size"); (case h5 => walk_at "put"))
  | (with_reducible refine Cm.s_fldaug0 ?_)
  | ((with_reducible refine' Cm.aug_at ?h1 ?h2 ?h3 ?h4 ?_); (case h1 => walk_at "look"); (case h2 => assumption); (case h3 => assumption); (case h4 => walk_at "key"))
  | ((with_reducible refine' Cm.augset_at ?h1 ?h4 ?h5 ?_); (case h1 => walk_at "look"); (case h4 => walk_at "size"); (case h5 => walk_at "put"))
  | (with_reducible refine Cm.in_sub_at ?_) | (with_reducible refine Cm.in_add_at ?_)
  | ((with_reducible refine' Cm.meth_at ?h1 ?h2 ?_); (case h1 => walk_at "look"); (case h2 => walk_at "key"))
  | ((with_reducible refine Cm.new_at ?h1 ?_); (case h1 => walk_at "size"); (intro _ _))
  | ((with_reducible refine Cm.and_at (A := L2.tyV _ "list" _ _) ?h1 ?_); (case h1 => exact Cm.ty_lst (by walk_at "look")))
  | ((with_reducible refine' Cm.g_tupt ?h1 ?h2 ?_); (case h1 => walk_at "look"); (case h2 => exact rfl))
  | ((with_reducible refine' Cm.g_tup ?h1 ?h2 ?_); (case h1 => walk_at "lookT"); (case h2 => exact rfl))
  | (with_reducible refine Cm.g_name ?_) | (with_reducible refine Cm.g_sub ?_) | (with_reducible refine Cm.g_cons ?_) | (with_reducible refine Cm.g_nil ?_)
  | (with_reducible refine Cm.int_at ?_) | (with_reducible refine Cm.bl_at ?_) | (with_reducible refine Cm.tr_bl ?_) | (with_reducible refine Cm.tr_non ?_)
  | ((with_reducible refine' Cm.m_pop0 ?h1 ?_); (case h1 => walk_at "look"))
  | ((with_reducible refine' Cm.r_slTo ?h1 ?h2 ?_); (case h1 => walk_at "look"); (case h2 => walk_at "num2"); (intro _ _))
  | ((with_reducible refine' Cm.r_slFrom ?h1 ?h2 ?_); (case h1 => walk_at "look"); (case h2 => walk_at "num2"); (intro _ _))
  | ((with_reducible refine' Cm.at_forL ?h1 ?_); (case h1 => walk_at "look"))
  | ((with_reducible refine' Cm.at_forT ?h1 ?_); (case h1 => walk_at "look"))
  | ((with_reducible refine' Cm.at_forR ?h1 ?h2 ?_); (case h1 => walk_at "num2"); (case h2 => walk_at "num2"))
  | ((with_reducible refine' Cm.at_forZ ?h1 ?h2 ?_); (case h1 => walk_at "look"); (case h2 => walk_at "look"))
  | (with_reducible refine Cm.s_forZ ?_) | (with_reducible refine Cm.s_forR ?_)
  | ((with_reducible refine Cm.and_at (A := _ = _) ?h1 ?_); (case h1 => exact rfl))
  | ((with_reducible show L2.rIsi _ _ _ _); walk_at "isi")
  | (with_reducible refine Cm.ite_nt ?_) | (with_reducible refine Cm.ite_nf ?_)
  | (with_reducible refine L2.iteT ?_) | (with_reducible refine L2.iteF ?_)
  | dsimp only
  | fail)
local macro_rules | `(tactic| walk_at "run") => `(tactic| repeat (walk_at "st"))
local macro_rules | `(tactic| walk_at "num") => `(tactic| first
  | exact Or.inr ⟨by decide, by decide⟩ | exact Or.inl ⟨by decide, by decide⟩
  | exact Cm.wdiv (by first | decide | omega) (by first | decide | omega)
  | (show (0 : Int) < _; first | decide | omega)
  | exact ⟨by decide, by decide, by decide⟩
  | fail)
local macro_rules | `(tactic| walk_at "put") => `(tactic| exact rfl)
local macro_rules | `(tactic| walk_at "fl") => `(tactic| first | exact Cm.fl0 | (refine' Cm.flS ?hz; (case hz => walk_at "fl")) | fail)
local macro_rules | `(tactic| walk_at "size") => `(tactic| first | exact Cm.sz_lit rfl | exact Cm.sz_lt rfl | exact Cm.fs_lt rfl | decide | (refine' Nat.lt_of_le_of_lt ?ha ?hb; (case ha => walk_at "fl"); (case hb => decide)) | (simp only [List.length_cons, List.length_nil, List.length_append, List.length_map, List.length_set, List.length_replicate, PySem.sizeLine_eq]; omega) | (simp only [List.length_cons, List.length_nil, List.length_append, List.length_map, List.length_set, List.length_replicate, PySem.sizeLine_eq] at *; omega) | fail)
local macro_rules | `(tactic| walk_at "at") => `(tactic| first | assumption | (with_reducible exact Cm.at0) | (with_reducible exact Cm.at1) | (with_reducible exact Cm.at2) | (with_reducible exact Cm.at3) | (with_reducible exact Cm.at4) | (with_reducible exact Cm.at5) | (with_reducible exact Cm.at6) | (with_reducible exact Cm.at7) | (with_reducible exact Cm.at8) | (with_reducible exact Cm.at0s) | (with_reducible exact Cm.at1s) | (with_reducible exact Cm.at01s) | (with_reducible exact Cm.at10s) | fail)
local macro_rules | `(tactic| walk_at "ix") => `(tactic| first | exact Cm.ix0 (by walk_at "size") | exact Cm.ix1 (by walk_at "size") | assumption | fail)
local macro_rules | `(tactic| walk_at "key") => `(tactic| first | assumption | fail)
local macro_rules | `(tactic| walk_at "ne") => `(tactic| first
  | assumption
  | (refine Ne.symm ?_; assumption)
  | (refine' L2.ne_of_none ?h1 ?h2; (case h2 => assumption); (case h1 => walk_at "look"))
  | (refine' Ne.symm (L2.ne_of_none ?h1 ?h2); (case h2 => assumption); (case h1 => walk_at "look"))
  | fail)
local macro_rules | `(tactic| walk_at "lookT") => `(tactic| first
  | assumption
  | exact L2.SqT.of (by walk_at "look")
  | fail)
local macro_rules | `(tactic| walk_at "look") => `(tactic| first
  | assumption
  | exact L2.upd_same
  | ((fail_if_success (with_reducible refine Eq.trans L2.upd_same ?_)); (refine' Eq.trans (L2.upd_ne ?h1) ?h2); (case h1 => walk_at "ne"); (case h2 => walk_at "look"))
  | (refine' Cm.kp_look ?h1 ?h2 ?h3 ?h4; (case h1 => assumption); (case h2 => walk_at "look"); (case h3 => intro _ z; cases z); (case h4 => first | exact Or.inl rfl | exact Or.inr (by walk_at "out")))
  | fail)
local macro_rules | `(tactic| walk_at "out") => `(tactic| first
  | assumption
  | exact fun z => z
  | exact fun z => z.elim (fun e => absurd e (by walk_at "ne")) (fun e => absurd e (by walk_at "ne"))
  | exact fun e => absurd e (by walk_at "ne")
  | fail)
local macro_rules | `(tactic| walk_at "dom") => `(tactic| first
  | exact Cm.dm_refl
  | (refine Cm.dm_upd ?_; walk_at "dom")
  | (refine' Cm.dm_kp ?h1 ?h2; (case h2 => assumption); (case h1 => walk_at "dom"))
  | fail)
local macro_rules | `(tactic| walk_at "free") => `(tactic| first
  | assumption
  | exact Cm.nw_of (by assumption)
  | (refine' Cm.dm_use ?h1 ?h2; (case h2 => assumption); (case h1 => walk_at "dom"))
  | (refine' Cm.dm_use2 ?h1 ?h2; (case h2 => assumption); (case h1 => walk_at "dom"))
  | fail)
local macro_rules | `(tactic| walk_at "in") => `(tactic| first
  | exact Or.inl rfl | exact Or.inl (Or.inl rfl) | exact Or.inl (Or.inr rfl) | exact Or.inl (Or.inr (Or.inl rfl)) | exact Or.inl (Or.inr (Or.inr rfl))
  | exact Or.inl (by assumption)
  | exact Or.inr (by walk_at "free")
  | fail)
local macro_rules | `(tactic| walk_at "kp") => `(tactic| first
  | assumption
  | exact Cm.Kp.refl
  | (refine' Cm.Kp.new' ?h1 ?h2; (case h2 => assumption); (case h1 => walk_at "kp"))
  | (refine' Cm.Kp.setX' ?h1 ?h2 ?h4 ?h5 ?h3; (case h2 => walk_at "look"); (case h4 => exact rfl); (case h5 => intro _ z; cases z); (case h3 => walk_at "in"); (case h1 => walk_at "kp"))
  | (refine' Cm.kp_step ?h1 ?h2 ?h3; (case h2 => assumption); (case h3 => walk_at "sub"); (case h1 => walk_at "kp"))
  | fail)
local macro_rules | `(tactic| walk_at "sub") => `(tactic| first
  | exact fun _ z => z.elim
  | exact fun _ z => Or.inl z
  | (intro a z; rcases z with rfl | rfl <;> walk_at "in")
  | (intro a z; subst z; walk_at "in")
  | fail)
local macro_rules | `(tactic| walk_at "num2") => `(tactic| first | decide | omega | fail)

local macro_rules | `(tactic| walk_at "isi") => `(tactic| first | (with_reducible refine Cm.isi_non_bool ?_) | (with_reducible refine Cm.isi_non_int ?_) | (with_reducible refine Cm.isi_non_str ?_) | (with_reducible refine Cm.isi_non_tuple ?_) | (with_reducible refine Cm.isi_non_list ?_) | (with_reducible refine Cm.isi_bl_bool ?_) | (with_reducible refine Cm.isi_bl_int ?_) | (with_reducible refine Cm.isi_bl_str ?_) | (with_reducible refine Cm.isi_bl_tuple ?_) | (with_reducible refine Cm.isi_bl_list ?_) | (with_reducible refine Cm.isi_int_bool ?_) | (with_reducible refine Cm.isi_int_int ?_) | (with_reducible refine Cm.isi_int_str ?_) | (with_reducible refine Cm.isi_int_tuple ?_) | (with_reducible refine Cm.isi_int_list ?_) | (with_reducible refine Cm.isi_str_bool ?_) | (with_reducible refine Cm.isi_str_int ?_) | (with_reducible refine Cm.isi_str_str ?_) | (with_reducible refine Cm.isi_str_tuple ?_) | (with_reducible refine Cm.isi_str_list ?_) | ((with_reducible refine' Cm.isi_tup_bool ?h1 ?_); (case h1 => walk_at "look")) | ((with_reducible refine' Cm.isi_tup_int ?h1 ?_); (case h1 => walk_at "look")) | ((with_reducible refine' Cm.isi_tup_str ?h1 ?_); (case h1 => walk_at "look")) | ((with_reducible refine' Cm.isi_tup_tuple ?h1 ?_); (case h1 => walk_at "look")) | ((with_reducible refine' Cm.isi_tup_list ?h1 ?_); (case h1 => walk_at "look")) | ((with_reducible refine' Cm.isi_lst_bool ?h1 ?_); (case h1 => walk_at "look")) | ((with_reducible refine' Cm.isi_lst_int ?h1 ?_); (case h1 => walk_at "look")) | ((with_reducible refine' Cm.isi_lst_str ?h1 ?_); (case h1 => walk_at "look")) | ((with_reducible refine' Cm.isi_lst_tuple ?h1 ?_); (case h1 => walk_at "look")) | ((with_reducible refine' Cm.isi_lst_list ?h1 ?_); (case h1 => walk_at "look")) | fail)

/-! ### M1: more words -/
local macro_rules | `(tactic| walk_at "st") => `(tactic| first
  | ((with_reducible refine Cm.and_at (A := L2.tyV _ "dict" _ _) ?h1 ?_); (case h1 => exact Cm.ty_dic (by walk_at "look")))
  | (with_reducible refine Cm.e_dget2 ?_) | (with_reducible refine Cm.e_dpop2 ?_) | (with_reducible refine Cm.e_dpop1 ?_) | (with_reducible refine Cm.s_rx ?_)
  | ((with_reducible refine' Cm.isd_at ?h1 ?_); (case h1 => walk_at "look"))
  | ((with_reducible refine' Cm.get_at ?h1 ?_); (case h1 => walk_at "look"))
  | ((with_reducible refine' Cm.pop1_at ?h1 ?h2 ?_); (case h1 => walk_at "look"); (case h2 => assumption))
  | ((with_reducible refine' Cm.r_dictD ?h1 ?_); (case h1 => walk_at "look"); (intro _ _))
  | ((with_reducible refine' Cm.r_lenD ?h1 ?_); (case h1 => walk_at "look"))
  | ((with_reducible refine' Cm.r_ixdi ?h1 ?h2 ?_); (case h1 => walk_at "look"); (case h2 => assumption))
  | ((with_reducible refine' Cm.g_setdi ?h1 ?h2 ?_); (case h1 => walk_at "look"); (case h2 => first | assumption | omega))
  | (with_reducible refine Cm.r_min2 ?_)
  | (with_reducible refine W.r_eq_lv ?_) | (with_reducible refine W.r_ne_lv ?_) | (with_reducible refine W.r_isNo_lv ?_) | (with_reducible refine W.r_notNo_lv ?_)
  | fail)

local macro_rules | `(tactic| walk_at "key") => `(tactic| first | exact W.tF_g_rows | exact W.tF_g_hands | exact W.tF_g_moment | exact W.tF_g_number | exact W.tF_n_row_at | exact W.tF_n_shown | exact W.tF_n_content | exact W.tF_n_put_page | exact W.tF_n_prune | exact W.tF_n_change | exact W.tF_n_whole)
local macro_rules | `(tactic| walk_at "put") => `(tactic| first | exact W.tF_p_rows | exact W.tF_p_hands | exact W.tF_p_moment | exact W.tF_p_number)
local macro_rules | `(tactic| walk_at "size") => `(tactic| (rw [W.tF_len]; decide))

local macro_rules | `(tactic| walk_at "key") => `(tactic| first | exact W.oS_g_rows | exact W.oS_g_hands | exact W.oS_g_moment | exact W.oS_g_number)
local macro_rules | `(tactic| walk_at "put") => `(tactic| first | exact W.oS_p_rows | exact W.oS_p_hands | exact W.oS_p_moment | exact W.oS_p_number)
local macro_rules | `(tactic| walk_at "size") => `(tactic| (rw [W.oS_len]; decide))

namespace W
open PySem PySem.Spec PyProof.Rows L2 Cm
section
variable {w : World} {K : PySem.W.Frag} {mg : Str → Option Value}
theorem di2 {a b : PyData} {n : Nat} (ha : Di n a) (hb : Di n b) : ∀ d ∈ [a, b], Di n d := fun d hd => by
  simp only [List.mem_cons, List.not_mem_nil, or_false] at hd
  rcases hd with rfl | rfl
  · exact ha
  · exact hb
theorem di1 {a : PyData} {n : Nat} (ha : Di n a) : ∀ d ∈ [a], Di n d := fun d hd => by rw [List.mem_singleton.mp hd]; exact ha
theorem di3 {a b c : PyData} {n : Nat} (ha : Di n a) (hb : Di n b) (hc : Di n c) : ∀ d ∈ [a, b, c], Di n d := fun d hd => by
  simp only [List.mem_cons, List.not_mem_nil, or_false] at hd
  rcases hd with rfl | rfl | rfl
  · exact ha
  · exact hb
  · exact hc
theorem di4 {a b c e : PyData} {n : Nat} (ha : Di n a) (hb : Di n b) (hc : Di n c) (he : Di n e) : ∀ d ∈ [a, b, c, e], Di n d := fun d hd => by
  simp only [List.mem_cons, List.not_mem_nil, or_false] at hd
  rcases hd with rfl | rfl | rfl | rfl
  · exact ha
  · exact hb
  · exact hc
  · exact he
theorem di0 {n : Nat} : ∀ d ∈ ([] : List PyData), Di n d := fun _ z => (nomatch z)
theorem dit {n : Nat} {ds : List PyData} (h : ∀ d ∈ ds, Di n d) (hl : ds.length ≤ 100000) : Di (n + 1) (.tuple ds) := ⟨hl, h⟩
theorem diT0 {n : Nat} : Di (n + 1) (.tuple []) := dit di0 (Nat.le_of_ble_eq_true rfl)
section
variable {σ : L2.St} {H : Hp} {ta tb tc td : TE} {a b c d : PyData} {n : Nat}
theorem lt1 (ha : DE K ta σ H a) (da : Di n a) : DE K (tTup (tCons ta tNil)) σ H (.tuple [a]) ∧ Di (n + 1) (.tuple [a]) := ⟨de_tup (das_cons ha da das_nil) (di1 da) (Nat.le_of_ble_eq_true rfl), dit (di1 da) (Nat.le_of_ble_eq_true rfl)⟩
theorem lt2 (ha : DE K ta σ H a) (da : Di n a) (hb : DE K tb σ H b) (db : Di n b) : DE K (tTup (tCons ta (tCons tb tNil))) σ H (.tuple [a, b]) ∧ Di (n + 1) (.tuple [a, b]) := ⟨de_tup (das_cons ha da (das_cons hb db das_nil)) (di2 da db) (Nat.le_of_ble_eq_true rfl), dit (di2 da db) (Nat.le_of_ble_eq_true rfl)⟩
theorem lt3 (ha : DE K ta σ H a) (da : Di n a) (hb : DE K tb σ H b) (db : Di n b) (hc : DE K tc σ H c) (dc : Di n c) : DE K (tTup (tCons ta (tCons tb (tCons tc tNil)))) σ H (.tuple [a, b, c]) ∧ Di (n + 1) (.tuple [a, b, c]) := ⟨de_tup (das_cons ha da (das_cons hb db (das_cons hc dc das_nil))) (di3 da db dc) (Nat.le_of_ble_eq_true rfl), dit (di3 da db dc) (Nat.le_of_ble_eq_true rfl)⟩
theorem lt4 (ha : DE K ta σ H a) (da : Di n a) (hb : DE K tb σ H b) (db : Di n b) (hc : DE K tc σ H c) (dc : Di n c) (hd : DE K td σ H d) (dd : Di n d) : DE K (tTup (tCons ta (tCons tb (tCons tc (tCons td tNil))))) σ H (.tuple [a, b, c, d]) ∧ Di (n + 1) (.tuple [a, b, c, d]) := ⟨de_tup (das_cons ha da (das_cons hb db (das_cons hc dc (das_cons hd dd das_nil)))) (di4 da db dc dd) (Nat.le_of_ble_eq_true rfl), dit (di4 da db dc dd) (Nat.le_of_ble_eq_true rfl)⟩
theorem lt0 : DE K (tTup tNil) σ H (.tuple []) ∧ Di (n + 1) (.tuple []) := ⟨de_tup das_nil (di0 (n := n)) (Nat.le_of_ble_eq_true rfl), dit di0 (Nat.le_of_ble_eq_true rfl)⟩
/-- a pair of data and its refusal -/
theorem lpr {t : TE} {x : PyData} {s : Str} {i : Int} (h : DE K t σ H x ∧ Di 6 x) : DE K (tTup (tCons t (tCons (tTup (tCons (tC (.str s)) (tCons (tC (.int i)) tNil))) tNil))) σ H (.tuple [x, .tuple [.str s, .int i]]) ∧ Di 7 (.tuple [x, .tuple [.str s, .int i]]) :=
  have q := lt2 (K := K) (σ := σ) (H := H) (n := 5) (de_str (s := s)) Di.str (de_int (i := i)) Di.int
  lt2 h.1 h.2 q.1 (q.2.up (by decide))
end
theorem s_par {σ : L2.St} {H : Hp} {D : Ends} {i j : Nat} {ta : TA} (q : ta σ H fun vs H1 => ∃ v w, vs = [v, w] ∧ D.nx ((σ.set i (some v)).set j (some w)) H1) : tPar i j ta D σ H := q
/-- behind the list of odd things -/
def tOddB (K : PySem.W.Frag) (E : XK) : TS := (tSeq (tPar 7 8 (tCons (tCall (S_take_ K) [] E (tCons (tVar 0) (tCons (tC (.int 11)) tNil))) (tCons (tOp (rAddA K) (tC (.int 1)) (tCall (S_take_ K) [] E (tCons (tVar 0) (tCons (tOp (rIxA K) (tLst (tCons (tC (.int 3)) (tCons (tOp (rI CPow fun i j => .int (i ^ j.toNat)) (tC (.int 10)) (tC (.int 18))) tNil))) (tCall (S_take_ K) [] E (tCons (tVar 0) (tCons (tC (.int 2)) tNil)))) tNil)))) tNil))) (tSeq (tIfS (tTest (tOp (rI0 fun i j => .bl (decide (i < j))) (tVar 7) (tC (.int 8)))) (tSeq (tAsg (tOp (rIxA K) (tLst (tCons (tOp (rAddA K) (tSl (rSlAny K) (tVar 1) (tPart (tVar 3)) tNoPart) (tLst (tCons (tTup tNil) tNil))) (tCons (tLst tNil) tNil))) (tCall (S_take_ K) [] E (tCons (tVar 0) (tCons (tC (.int 2)) tNil)))) (gName 9)) (tRet (tTup (tCons (tOp (rAddA K) (tOp (rAddA K) (tSl (rSlAny K) (tVar 1) tNoPart (tPart (tVar 3))) (tLst (tCons (tOp (rIxA K) (tOp (rIxA K) (tVar 6) (tVar 7)) (tC (.int 0))) tNil))) (tVar 9)) (tCons (tOp (rAddA K) (tVar 2) (tLst (tCons (tTup (tCons (tC (.int 9)) (tCons (tC (.int 0)) (tCons (tC (.int 99)) (tCons (tC (.int 0)) tNil))))) tNil))) (tCons (tOp (rIxA K) (tOp (rIxA K) (tVar 6) (tVar 7)) (tC (.int 1))) tNil)))))) tNext) (tSeq (tIfS (tTest (tOp (rEqA K) (tVar 7) (tC (.int 10)))) (tRet (tTup (tCons (tOp (rAddA K) (tVar 1) (tLst (tCons (tTup (tCons (tC (.str "tick")) (tCons (tOp (rAddA K) (tOp (rI CPow fun i j => .int (i ^ j.toNat)) (tC (.int 10)) (tC (.int 6))) (tVar 8)) tNil))) tNil))) (tCons (tOp (rAddA K) (tVar 2) (tLst (tCons (tTup (tCons (tC (.int 9)) (tCons (tC (.int 0)) (tCons (tC (.int 99)) (tCons (tC (.int 0)) tNil))))) tNil))) (tCons (tTup (tCons (tC (.str "BadEntry")) (tCons (tC (.int 0)) tNil))) tNil))))) tNext) (tSeq (tAsg (tCall (S_take_ K) [] E (tCons (tVar 0) (tCons (tOp (rAddA K) (tCB (rLenA K) (tCons (tVar 2) tNil)) (tC (.int 1))) tNil))) (gName 10)) (tSeq (tAsg (tOp (rIxA K) (tLst (tCons (tTup (tCons (tTup (tCons (tC (.int 4)) (tCons (tC (.int 0)) (tCons (tC (.int 99)) (tCons (tC (.int 0)) tNil))))) (tCons (tTup (tCons (tC (.str "BadHand")) (tCons (tC (.int 0)) tNil))) tNil))) (tCons (tTup (tCons (tTup (tCons (tC (.int 0)) (tCons (tC (.int 0)) (tCons (tC (.int 32)) (tCons (tC (.int 0)) tNil))))) (tCons (tTup (tCons (tC (.str "BadKey")) (tCons (tC (.int 0)) tNil))) tNil))) tNil))) (tOp (rI0 fun i j => .int (i - j)) (tVar 7) (tC (.int 8)))) (gName 11)) (tRet (tTup (tCons (tVar 1) (tCons (tOp (rAddA K) (tOp (rAddA K) (tOp (rAddA K) (tSl (rSlAny K) (tVar 2) tNoPart (tPart (tVar 10))) (tLst (tCons (tOp (rIxA K) (tVar 11) (tC (.int 0))) tNil))) (tSl (rSlAny K) (tVar 2) (tPart (tVar 10)) tNoPart)) (tLst (tCons (tTup (tCons (tUn (rU fun i => .int (-i)) (tC (.int 1))) (tCons (tC (.int 0)) (tCons (tUn (rU fun i => .int (-i)) (tC (.int 1))) (tCons (tC (.int 0)) tNil))))) tNil))) (tCons (tOp (rIxA K) (tVar 11) (tC (.int 1))) tNil))))))))))
theorem odd_b {E : XK} {Q : VK} {H H0 : Hp} {b l el rl ol : Addr} {xs ys os : List V} {js : List JE} {gs : List Rdg} {at_ m : Int} {v5 : Option V} (B : BoxAt H b l) (hel : H el = some (.lst xs)) (hA : DtA H xs (js.map JE.d)) (hok : okL 0 js) (hjl : js.length ≤ 40) (hrl : H rl = some (.lst ys)) (hG : DtA H ys (gs.map rdD)) (hgok : ∀ g ∈ gs, rdOk g) (hgl : gs.length ≤ 30) (eb : el ≠ b) (ee : el ≠ l) (rb : rl ≠ b) (re : rl ≠ l)
    (hol : H ol = some (.lst os)) (hO : DtA H os ((oddE m).map oddP)) (ob : ol ≠ b) (oe : ol ≠ l) (ha0 : 0 ≤ at_) (ha1 : at_ ≤ js.length) (hm : m = endM 0 (js.take at_.toNat)) (kp0 : Kp (tabs K) (Bx b l) H0 H) (nb : ¬ Nw H0 b) (nl : ¬ Nw H0 l)
    (k : ∀ t l1 l2 v xs' ys' ds rs r H', H' t = some (.tup [.ref l1, .ref l2, v]) → H' l1 = some (.lst xs') → H' l2 = some (.lst ys') → DtA H' xs' ds → DtA H' ys' rs → (∀ d ∈ ds, Di 6 d) → (∀ d ∈ rs, Di 6 d) → Dt H' v (dueD r) → (∀ m, r ≠ .ok m) →
      (BadEs ds r ∨ ∃ js c, ds = js.map JE.d ∧ okL 0 js ∧ js.length ≤ 1000 ∧ BadRs rs c ∧ r = .bad c ∧ (c = "BadHand" ∨ c = "BadKey")) → l1 ≠ b → l1 ≠ l → l2 ≠ b → l2 ≠ l → BoxAt H' b l → Kp (tabs K) (Bx b l) H0 H' → Q (.ref t) H') :
    tOddB K E { nx := fun _ H' => Q .non H', rt := Q } [some (.ref b), some (.ref el), some (.ref rl), some (.int at_), some (.int m), v5, some (.ref ol), none, none, none, none, none] H := by
  have hodi : ∀ d ∈ (oddE m).map oddP, Di 7 d := fun d hd => by
    obtain ⟨q, hq, rfl⟩ := List.mem_map.mp hd
    obtain ⟨i, hi⟩ := List.getElem?_of_mem hq
    obtain ⟨_, h2, h3⟩ := odd_at hi
    refine dit (di2 h3 ?_) (Nat.le_of_ble_eq_true rfl)
    cases hq2 : q.2 with
    | ok m => exact (h2 m hq2).elim
    | bad c => exact dit (n := 5) (di2 Di.str Di.int) (Nat.le_of_ble_eq_true rfl)
    | deal p => exact dit (n := 5) (di2 Di.str Di.int) (Nat.le_of_ble_eq_true rfl)
  have nw : ∀ {H' : Hp}, Kp (tabs K) (Bx b l) H0 H' → ∀ p, Nw H' p → p ≠ b ∧ p ≠ l := fun k p hp => ⟨fun z => nb (by rw [← z]; exact k.dom p hp), fun z => nl (by rw [← z]; exact k.dom p hp)⟩
  unfold tOddB
  refine s_seq (s_par (e_cons (take_c rfl B (by decide) (by decide) fun kk H1 kk0 kk1 B1 k1 => ?_)))
  refine e_cons (e_op (e_c ?_))
  walk_at "run"
  rename_i pl hpl
  refine ⟨_, _, rfl, b, l, 2, rfl, rfl, B1.new hpl, by decide, by decide, fun x1 H2 x10 x11 B2 k2' => ?_⟩
  obtain ⟨x, e1, hx⟩ := at_pick (xs := [.int 3, .int (10 ^ (18 : Int).toNat)]) x10 x11
  obtain ⟨M, rfl, hM0, hM1⟩ : ∃ m : Int, x = .int m ∧ 0 < m ∧ m < 2 ^ 64 := by
    simp only [List.mem_cons, List.not_mem_nil, or_false] at hx
    rcases hx with rfl | rfl <;> exact ⟨_, rfl, by decide, by decide⟩
  have gx : H2 pl = some (.lst [.int 3, .int (10 ^ (18 : Int).toNat)]) := k2'.lst upd_same (out_bx (B1.nb hpl) (B1.nl hpl))
  walk_at "run"
  refine ⟨_, _, rfl, b, l, M, rfl, rfl, B2, hM0, hM1, fun fa H3 fa0 fa1 B3 k3' => ?_⟩
  have k3 : Kp (tabs K) (Bx b l) H H3 := ((k1.new' hpl).trans k2' fun a z => .inl z).trans k3' fun a z => .inl z
  have kp3 : Kp (tabs K) (Bx b l) H0 H3 := kp0.trans k3 fun a z => .inl z
  have hel3 := k3.lst hel (fun z => z.elim eb ee)
  have hA3 := hA.keep k3 (di_jes hok)
  have hrl3 := k3.lst hrl (fun z => z.elim rb re)
  have hG3 := hG.keep k3 di_rds
  have hol3 := k3.lst hol (fun z => z.elim ob oe)
  have hO3 := hO.keep k3 hodi
  clear k3' k2' gx B2 B1 k1 hel hA hrl hG hol hO B k3 kp0
  refine r_addI (e_nil ⟨_, _, rfl, ?_⟩)
  walk_at "run"
  refine if_d (fun h8 => ?_) (fun h8 => ?_)
  · -- an entry that can't be
    obtain ⟨q, hq⟩ : ∃ q, (oddE m)[kk.toNat]? = some q := ⟨_, List.getElem?_eq_getElem (by show kk.toNat < 8; omega)⟩
    obtain ⟨hq1, hq2, hq3⟩ := odd_at hq
    have hqd : Di 7 (oddP q) := hodi _ (List.mem_map_of_mem (List.mem_of_getElem? hq))
    have dL : DL K (tOp (rAddA K) (tSl (rSlAny K) (tVar 1) (tPart (tVar 3)) tNoPart) (tLst (tCons (tTup tNil) tNil))) [some (.ref b), some (.ref el), some (.ref rl), some (.int at_), some (.int m), v5, some (.ref ol), some (.int kk), some (.int (1 + fa)), none, none, none] H3 ((js.map JE.d).drop at_.toNat ++ [.tuple []]) (fun p => p ≠ b ∧ p ≠ l) :=
      dl_add (N1 := fun _ => True) (N2 := fun _ => True) (n := 6) (dl_from rfl rfl ha0 hel3 hA3 (di_jes hok) fun _ _ => trivial) (dl_lst (n := 6) (das_cons (n := 6) (lt0 (n := 0)).1 diT0 das_nil) (di1 diT0) (by decide) fun _ _ => trivial) (fun d h => di_jes hok d (List.mem_of_mem_drop h)) (di1 diT0) (by simp; omega) (nw kp3)
    refine s_seq (s_asg (e_op (e_lst (e_cons (dL H3 Kp.refl _ fun p1 xs1 H4 k4 hp1 hA1 hn1 => ?_)))))
    walk_at "run"
    rename_i p2 hp2 p3 hp3
    have k43 : Kp (tabs K) No H3 (upd (upd H4 p2 (.lst [])) p3 (.lst [.ref p1, .ref p2])) := by walk_at "kp"
    have e23 : p2 ≠ p3 := by walk_at "ne"
    have np2 := nw (kp3.trans k4 fun _ z => z.elim) p2 (.inl hp2)
    have np3 := nw ((kp3.trans k4 fun _ z => z.elim).new' (o := .lst []) hp2) p3 (.inl hp3)
    have g1 : (upd (upd H4 p2 (.lst [])) p3 (.lst [.ref p1, .ref p2])) p1 = some (.lst xs1) := by walk_at "look"
    have gA : DtA (upd (upd H4 p2 (.lst [])) p3 (.lst [.ref p1, .ref p2])) xs1 ((js.map JE.d).drop at_.toNat ++ [.tuple []]) := (hA1.keep (Kp.new (T := tabs K) (S := No) hp2) (n := 6) fun d h => ?dd).keep (Kp.new (T := tabs K) (S := No) hp3) (n := 6) fun d h => ?dd2
    case dd =>
      rcases List.mem_append.mp h with h | h
      · exact di_jes hok d (List.mem_of_mem_drop h)
      · rw [List.mem_singleton.mp h]; exact diT0
    case dd2 =>
      rcases List.mem_append.mp h with h | h
      · exact di_jes hok d (List.mem_of_mem_drop h)
      · rw [List.mem_singleton.mp h]; exact diT0
    have g2 : (upd (upd H4 p2 (.lst [])) p3 (.lst [.ref p1, .ref p2])) p2 = some (.lst []) := by walk_at "look"
    have B4 := B3.keep k43 (fun z => z) (fun z => z)
    have hel4 := k43.lst hel3 (fun z => z)
    have hA4 := hA3.keep k43 (di_jes hok)
    have hrl4 := k43.lst hrl3 (fun z => z)
    have hG4 := hG3.keep k43 di_rds
    have hol4 := k43.lst hol3 (fun z => z)
    have hO4 := hO3.keep k43 hodi
    have kp4 : Kp (tabs K) (Bx b l) H0 (upd (upd H4 p2 (.lst [])) p3 (.lst [.ref p1, .ref p2])) := kp3.trans k43 fun _ z => z.elim
    refine ⟨_, _, rfl, b, l, 2, rfl, rfl, B4, by decide, by decide, fun y H5 y0 y1 B5 k5 => ?_⟩
    obtain ⟨x, e1, hx⟩ := at_pick (xs := [.ref p1, .ref p2]) y0 y1
    have g35 : H5 p3 = some (.lst [.ref p1, .ref p2]) := k5.lst upd_same (fun z => z.elim np3.1 np3.2)
    have kp5 : Kp (tabs K) (Bx b l) H0 H5 := kp4.trans k5 fun a z => .inl z
    obtain ⟨p9, xs9, ds9, rfl, h9, hA9, hd9, hl9, hn9⟩ : ∃ p9 xs9 ds9, x = .ref p9 ∧ H5 p9 = some (.lst xs9) ∧ DtA H5 xs9 ds9 ∧ (∀ d ∈ ds9, Di 6 d) ∧ ds9.length ≤ 100 ∧ (p9 ≠ b ∧ p9 ≠ l) := by
      simp only [List.mem_cons, List.not_mem_nil, or_false] at hx
      rcases hx with rfl | rfl
      · refine ⟨p1, xs1, _, rfl, k5.lst g1 (fun z => z.elim hn1.1 hn1.2), gA.keep k5 (n := 6) ?_, ?_, by simp; omega, hn1⟩
        all_goals
          intro d h
          rcases List.mem_append.mp h with h | h
          · exact di_jes hok d (List.mem_of_mem_drop h)
          · rw [List.mem_singleton.mp h]; exact diT0
      · exact ⟨p2, [], [], rfl, k5.lst g2 (fun z => z.elim np2.1 np2.2), rfl, fun _ z => (nomatch z), by decide, np2⟩
    have hel5 := k5.lst hel4 (fun z => z.elim eb ee)
    have hA5 := hA4.keep k5 (di_jes hok)
    have hrl5 := k5.lst hrl4 (fun z => z.elim rb re)
    have hG5 := hG4.keep k5 di_rds
    have hol5 := k5.lst hol4 (fun z => z.elim ob oe)
    have hO5 := hO4.keep k5 hodi
    clear k5 hel4 hA4 hrl4 hG4 hol4 hO4 B4 k43 kp4 g1 g2 gA kp3 hel3 hA3 hrl3 hG3 hol3 hO3 B3 k4 hp1 hA1 hx
    refine r_ixl g35 e1 ?_
    refine g_name ?_
    refine s_ret (e_tup ?_)
    have tm : ∀ d ∈ (js.map JE.d).take at_.toNat, Di 6 d := fun d h => di_jes hok d (List.mem_of_mem_take h)
    have ix : DE K (tOp (rIxA K) (tVar 6) (tVar 7)) (List.set [some (.ref b), some (.ref el), some (.ref rl), some (.int at_), some (.int m), v5, some (.ref ol), some (.int kk), some (.int (1 + fa)), none, none, none] 9 (some (.ref p9))) H5 (oddP q) := de_ixl (m := kk) rfl (de_var (n := 0) rfl rfl Di.int) kk0 hol5 hO5 hodi (by rw [List.getElem?_map, hq]; rfl)
    have D1 : DL K (tOp (rAddA K) (tOp (rAddA K) (tSl (rSlAny K) (tVar 1) tNoPart (tPart (tVar 3))) (tLst (tCons (tOp (rIxA K) (tOp (rIxA K) (tVar 6) (tVar 7)) (tC (.int 0))) tNil))) (tVar 9)) (List.set [some (.ref b), some (.ref el), some (.ref rl), some (.int at_), some (.int m), v5, some (.ref ol), some (.int kk), some (.int (1 + fa)), none, none, none] 9 (some (.ref p9))) H5 (((js.map JE.d).take at_.toNat ++ [q.1]) ++ ds9) (fun p => p ≠ b ∧ p ≠ l) := by
      refine dl_add (N1 := fun _ => True) (N2 := fun _ => True) (n := 6) (dl_add (N1 := fun _ => True) (N2 := fun _ => True) (n := 6) (dl_to rfl rfl ha0 hel5 hA5 (di_jes hok) fun _ _ => trivial) (dl_lst (n := 6) (das_cons (n := 6) (de_ixt (n := 0) ix (by decide) rfl) hq3 das_nil) (di1 hq3) (Nat.le_of_ble_eq_true rfl) fun _ _ => trivial) tm (di1 hq3) (by simp; omega) fun _ _ => trivial)
        (dl_var (n := 6) rfl h9 hA9 hd9 trivial) (fun d h => ?_) hd9 (by simp; omega) (nw kp5)
      rcases List.mem_append.mp h with h | h
      · exact tm d h
      · rw [List.mem_singleton.mp h]; exact hq3
    have D2 : DL K (tOp (rAddA K) (tVar 2) (tLst (tCons (tTup (tCons (tC (.int 9)) (tCons (tC (.int 0)) (tCons (tC (.int 99)) (tCons (tC (.int 0)) tNil))))) tNil))) (List.set [some (.ref b), some (.ref el), some (.ref rl), some (.int at_), some (.int m), v5, some (.ref ol), some (.int kk), some (.int (1 + fa)), none, none, none] 9 (some (.ref p9))) H5 (gs.map rdD ++ [.tuple [.int 9, .int 0, .int 99, .int 0]]) (fun p => p ≠ b ∧ p ≠ l) := by
      have z := lt4 (K := K) (σ := List.set [some (.ref b), some (.ref el), some (.ref rl), some (.int at_), some (.int m), v5, some (.ref ol), some (.int kk), some (.int (1 + fa)), none, none, none] 9 (some (.ref p9))) (H := H5) (n := 5) (de_int (i := 9)) Di.int (de_int (i := 0)) Di.int (de_int (i := 99)) Di.int (de_int (i := 0)) Di.int
      exact dl_add (N1 := fun _ => True) (N2 := fun _ => True) (n := 6) (dl_var rfl hrl5 hG5 di_rds trivial) (dl_lst (n := 6) (das_cons z.1 z.2 das_nil) (di1 z.2) (by decide) fun _ _ => trivial) di_rds (di1 z.2) (by simp; omega) (nw kp5)
    have dd2 : ∀ d ∈ gs.map rdD ++ [.tuple [.int 9, .int 0, .int 99, .int 0]], Di 6 d := fun d h => by
      rcases List.mem_append.mp h with h | h
      · exact di_rds d h
      · rw [List.mem_singleton.mp h]; exact dit (di4 Di.int Di.int Di.int Di.int) (Nat.le_of_ble_eq_true rfl)
    have dd1 : ∀ d ∈ ((js.map JE.d).take at_.toNat ++ [q.1]) ++ ds9, Di 6 d := fun d h => by
      rcases List.mem_append.mp h with h | h
      · rcases List.mem_append.mp h with h | h
        · exact tm d h
        · rw [List.mem_singleton.mp h]; exact hq3
      · exact hd9 d h
    refine e_cons (D1 H5 Kp.refl _ fun l1 ys1 H6 k6 hl1 hA1 hn1 => e_cons (D2 H6 k6 _ fun l2 ys2 H7 k7 hl2 hA2 hn2 => e_cons (de_ixt (n := 0) ix (by decide) rfl H7 (ktr k6 k7) _ fun v H8 k8 hv => e_nil ⟨sz_lit rfl, fun t ht => ?_⟩)))
    have kt : Kp (tabs K) No H8 (upd H8 t (.tup [.ref l1, .ref l2, v])) := Kp.new ht
    have k7t : Kp (tabs K) No H7 (upd H8 t (.tup [.ref l1, .ref l2, v])) := ktr k8 kt
    have k6t : Kp (tabs K) No H6 (upd H8 t (.tup [.ref l1, .ref l2, v])) := ktr k7 k7t
    refine k t l1 l2 v ys1 ys2 _ _ q.2 _ upd_same (k6t.lst hl1 fun z => z) (k7t.lst hl2 fun z => z) (hA1.keep k6t dd1) (hA2.keep k7t dd2) dd1 dd2 (Dt.keep kt (n := 7) ?_ hv) hq2 (.inl ⟨js.take at_.toNat, q.1, ds9, ?_, okL_take _ hok, by rw [List.length_take]; omega, by rw [← hm]; exact hq1, hq2⟩) hn1.1 hn1.2 hn2.1 hn2.2 ((B5.keep k6 (fun z => z) (fun z => z)).keep k6t (fun z => z) (fun z => z)) ((kp5.trans k6 fun _ z => z.elim).trans k6t fun _ z => z.elim)
    · exact hqd.2 _ (by simp) |>.up (by decide)
    · rw [← List.map_take]; simp
  · walk_at "run"
    refine if_d (fun h10 => ?_) (fun h10 => ?_)
    · -- a moment too far
      refine s_ret (e_tup ?_)
      have zt := lt2 (K := K) (σ := [some (.ref b), some (.ref el), some (.ref rl), some (.int at_), some (.int m), v5, some (.ref ol), some (.int kk), some (.int (1 + fa)), none, none, none]) (H := H3) (n := 5) (de_str (s := "tick")) Di.str (de_add (de_pow (i := 10) (j := 6) ⟨by decide, by decide, by decide⟩) (de_var (i := 8) (n := 0) rfl rfl Di.int)) Di.int
      have D1 : DL K (tOp (rAddA K) (tVar 1) (tLst (tCons (tTup (tCons (tC (.str "tick")) (tCons (tOp (rAddA K) (tOp (rI CPow fun i j => .int (i ^ j.toNat)) (tC (.int 10)) (tC (.int 6))) (tVar 8)) tNil))) tNil))) [some (.ref b), some (.ref el), some (.ref rl), some (.int at_), some (.int m), v5, some (.ref ol), some (.int kk), some (.int (1 + fa)), none, none, none] H3 (js.map JE.d ++ [.tuple [.str "tick", .int (10 ^ (6 : Int).toNat + (1 + fa))]]) (fun p => p ≠ b ∧ p ≠ l) :=
        dl_add (N1 := fun _ => True) (N2 := fun _ => True) (n := 6) (dl_var rfl hel3 hA3 (di_jes hok) trivial) (dl_lst (n := 6) (das_cons zt.1 zt.2 das_nil) (di1 zt.2) (Nat.le_of_ble_eq_true rfl) fun _ _ => trivial) (di_jes hok) (di1 zt.2) (by simp; omega) (nw kp3)
      have D2 : DL K (tOp (rAddA K) (tVar 2) (tLst (tCons (tTup (tCons (tC (.int 9)) (tCons (tC (.int 0)) (tCons (tC (.int 99)) (tCons (tC (.int 0)) tNil))))) tNil))) [some (.ref b), some (.ref el), some (.ref rl), some (.int at_), some (.int m), v5, some (.ref ol), some (.int kk), some (.int (1 + fa)), none, none, none] H3 (gs.map rdD ++ [.tuple [.int 9, .int 0, .int 99, .int 0]]) (fun p => p ≠ b ∧ p ≠ l) := by
        have z := lt4 (K := K) (σ := [some (.ref b), some (.ref el), some (.ref rl), some (.int at_), some (.int m), v5, some (.ref ol), some (.int kk), some (.int (1 + fa)), none, none, none]) (H := H3) (n := 5) (de_int (i := 9)) Di.int (de_int (i := 0)) Di.int (de_int (i := 99)) Di.int (de_int (i := 0)) Di.int
        exact dl_add (N1 := fun _ => True) (N2 := fun _ => True) (n := 6) (dl_var rfl hrl3 hG3 di_rds trivial) (dl_lst (n := 6) (das_cons z.1 z.2 das_nil) (di1 z.2) (by decide) fun _ _ => trivial) di_rds (di1 z.2) (by simp; omega) (nw kp3)
      have dd2 : ∀ d ∈ gs.map rdD ++ [.tuple [.int 9, .int 0, .int 99, .int 0]], Di 6 d := fun d h => by
        rcases List.mem_append.mp h with h | h
        · exact di_rds d h
        · rw [List.mem_singleton.mp h]; exact dit (di4 Di.int Di.int Di.int Di.int) (Nat.le_of_ble_eq_true rfl)
      have dd1 : ∀ d ∈ js.map JE.d ++ [.tuple [.str "tick", .int (10 ^ (6 : Int).toNat + (1 + fa))]], Di 6 d := fun d h => by
        rcases List.mem_append.mp h with h | h
        · exact di_jes hok d h
        · rw [List.mem_singleton.mp h]; exact zt.2
      have zd := lt2 (K := K) (σ := [some (.ref b), some (.ref el), some (.ref rl), some (.int at_), some (.int m), v5, some (.ref ol), some (.int kk), some (.int (1 + fa)), none, none, none]) (H := H3) (n := 5) (de_str (s := "BadEntry")) Di.str (de_int (i := 0)) Di.int
      refine e_cons (D1 H3 Kp.refl _ fun l1 ys1 H6 k6 hl1 hA1 hn1 => e_cons (D2 H6 k6 _ fun l2 ys2 H7 k7 hl2 hA2 hn2 => e_cons (zd.1 H7 (ktr k6 k7) _ fun v H8 k8 hv => e_nil ⟨sz_lit rfl, fun t ht => ?_⟩)))
      have kt : Kp (tabs K) No H8 (upd H8 t (.tup [.ref l1, .ref l2, v])) := Kp.new ht
      have k7t : Kp (tabs K) No H7 (upd H8 t (.tup [.ref l1, .ref l2, v])) := ktr k8 kt
      have k6t : Kp (tabs K) No H6 (upd H8 t (.tup [.ref l1, .ref l2, v])) := ktr k7 k7t
      refine k t l1 l2 v ys1 ys2 _ _ (.bad "BadEntry") _ upd_same (k6t.lst hl1 fun z => z) (k7t.lst hl2 fun z => z) (hA1.keep k6t dd1) (hA2.keep k7t dd2) dd1 dd2 (Dt.keep kt zd.2 hv) (fun _ z => (nomatch z)) (.inl ⟨js, _, [], rfl, hok, by omega, .inl ⟨rfl, .inl ⟨_, rfl, fun z => ?_⟩⟩, fun _ z => (nomatch z)⟩) hn1.1 hn1.2 hn2.1 hn2.2 ((B3.keep k6 (fun z => z) (fun z => z)).keep k6t (fun z => z) (fun z => z)) ((kp3.trans k6 fun _ z => z.elim).trans k6t fun _ z => z.elim)
      have e6 : (10 : Int) ^ (6 : Int).toNat = 1000000 := by decide
      rw [e6] at z
      have := z.2
      omega
    · -- a reading that can't be
      have hkk : kk = 8 ∨ kk = 9 := by
        have : kk ≠ 10 := fun z => h10 (by rw [z])
        omega
      have hyl := hG3.length
      rw [List.length_map] at hyl
      walk_at "run"
      rw [hyl]
      refine ⟨_, _, rfl, b, l, _, rfl, rfl, B3, by omega, by omega, fun pc H4 pc0 pc1 B4 k4 => ?_⟩
      have kp4 : Kp (tabs K) (Bx b l) H0 H4 := kp3.trans k4 fun a z => .inl z
      have hel4 := k4.lst hel3 (fun z => z.elim eb ee)
      have hA4 := hA3.keep k4 (di_jes hok)
      have hrl4 := k4.lst hrl3 (fun z => z.elim rb re)
      have hG4 := hG3.keep k4 di_rds
      refine g_name ?_
      refine s_seq (s_asg ?_)
      have L : ∀ σ1 : L2.St, DL K (tLst (tCons (tTup (tCons (tTup (tCons (tC (.int 4)) (tCons (tC (.int 0)) (tCons (tC (.int 99)) (tCons (tC (.int 0)) tNil))))) (tCons (tTup (tCons (tC (.str "BadHand")) (tCons (tC (.int 0)) tNil))) tNil))) (tCons (tTup (tCons (tTup (tCons (tC (.int 0)) (tCons (tC (.int 0)) (tCons (tC (.int 32)) (tCons (tC (.int 0)) tNil))))) (tCons (tTup (tCons (tC (.str "BadKey")) (tCons (tC (.int 0)) tNil))) tNil))) tNil))) σ1 H4 [PyData.tuple [.tuple [.int 4, .int 0, .int 99, .int 0], .tuple [.str "BadHand", .int 0]], .tuple [.tuple [.int 0, .int 0, .int 32, .int 0], .tuple [.str "BadKey", .int 0]]] (fun p => p ≠ b ∧ p ≠ l) := fun σ1 => by
        have z1 := lt4 (K := K) (σ := σ1) (H := H4) (n := 5) (de_int (i := 4)) Di.int (de_int (i := 0)) Di.int (de_int (i := 99)) Di.int (de_int (i := 0)) Di.int
        have z2 := lt4 (K := K) (σ := σ1) (H := H4) (n := 5) (de_int (i := 0)) Di.int (de_int (i := 0)) Di.int (de_int (i := 32)) Di.int (de_int (i := 0)) Di.int
        have y1 := lpr (s := "BadHand") (i := 0) z1
        have y2 := lpr (s := "BadKey") (i := 0) z2
        exact dl_lst (K := K) (N := fun p => p ≠ b ∧ p ≠ l) (das_cons y1.1 y1.2 (das_cons y2.1 y2.2 das_nil)) (di2 y1.2 y2.2) (by decide) (nw kp4)
      refine e_op (L _ H4 Kp.refl _ fun bl bs H5 k5 hbl hbA hbn => ?_)
      obtain ⟨c, rr, hc, hr⟩ : ∃ (c : Str) (rr : Rdg), [PyData.tuple [.tuple [.int 4, .int 0, .int 99, .int 0], .tuple [.str "BadHand", .int 0]], .tuple [.tuple [.int 0, .int 0, .int 32, .int 0], .tuple [.str "BadKey", .int 0]]][(kk - 8).toNat]? = some (.tuple [rdD rr, dueD (.bad c)]) ∧ ((c = "BadHand" ∧ ¬ (0 ≤ rr.1 ∧ rr.1 < 4)) ∨ (c = "BadKey" ∧ (0 ≤ rr.1 ∧ rr.1 < 4) ∧ ¬ (0 ≤ rr.2.2.1 ∧ rr.2.2.1 < 32))) := by
        rcases hkk with rfl | rfl
        · exact ⟨"BadHand", (4, 0, 99, some 0), rfl, .inl ⟨rfl, by decide⟩⟩
        · exact ⟨"BadKey", (0, 0, 32, some 0), rfl, .inr ⟨rfl, by decide, by decide⟩⟩
      obtain ⟨x, e1, hx⟩ := hbA.at hc
      have hbt := atI_nat e1
      rw [show (((kk - 8).toNat : Nat) : Int) = kk - 8 by omega] at hbt
      refine e_op (e_var rfl (e_c (r_i0 ?_)))
      refine r_ixl hbl hbt (g_name ?_)
      dsimp only
      refine s_ret (e_tup ?_)
      have kp5 : Kp (tabs K) (Bx b l) H0 H5 := kp4.trans k5 fun _ z => z.elim
      have hel5 := k5.lst hel4 (fun z => z)
      have hA5 := hA4.keep k5 (di_jes hok)
      have hrl5 := k5.lst hrl4 (fun z => z)
      have hG5 := hG4.keep k5 di_rds
      have B5 := B4.keep k5 (fun z => z) (fun z => z)
      refine e_cons (e_var rfl ?_)
      have drr : Di 7 (.tuple [rdD rr, dueD (.bad c)]) := dit (di2 di_rd (dit (n := 5) (di2 Di.str Di.int) (Nat.le_of_ble_eq_true rfl))) (Nat.le_of_ble_eq_true rfl)
      have tk : ∀ d ∈ (gs.map rdD).take pc.toNat, Di 6 d := fun d h => di_rds d (List.mem_of_mem_take h)
      have dk : ∀ d ∈ (gs.map rdD).drop pc.toNat, Di 6 d := fun d h => di_rds d (List.mem_of_mem_drop h)
      have zd : Di 6 (.tuple [.int (-1), .int 0, .int (-1), .int 0]) := dit (n := 5) (di4 Di.int Di.int Di.int Di.int) (Nat.le_of_ble_eq_true rfl)
      have D2 := fun (σ1 : L2.St) (i2 : σ1[2]? = some (some (.ref rl))) (i10 : σ1[10]? = some (some (.int pc))) (i11 : σ1[11]? = some (some x)) => dl_add (K := K) (N := fun p => p ≠ b ∧ p ≠ l) (N1 := fun _ => True) (N2 := fun _ => True) (n := 6) (dl_add (N := fun _ => True) (N1 := fun _ => True) (N2 := fun _ => True) (n := 6) (dl_add (N := fun _ => True) (N1 := fun _ => True) (N2 := fun _ => True) (n := 6) (dl_to (σ := σ1) i2 i10 pc0 hrl5 hG5 di_rds fun _ _ => trivial) (dl_lst (n := 6) (das_cons (de_ixt (n := 0) (de_var i11 hx drr) (m := 0) (by decide) rfl) di_rd das_nil) (di1 di_rd) (Nat.le_of_ble_eq_true rfl) fun _ _ => trivial) tk (di1 di_rd) (by simp; omega) fun _ _ => trivial)
        (dl_from (σ := σ1) i2 i10 pc0 hrl5 hG5 di_rds fun _ _ => trivial) (fun d h => (List.mem_append.mp h).elim (tk d) (di1 di_rd d)) dk (by simp; omega) fun _ _ => trivial)
        (dl_lst (n := 6) (das_cons (lt4 (K := K) (σ := σ1) (H := H5) (n := 5) (de_neg (i := 1)) Di.int (de_int (i := 0)) Di.int (de_neg (i := 1)) Di.int (de_int (i := 0)) Di.int).1 zd das_nil) (di1 zd) (by decide) fun _ _ => trivial) (fun d h => (List.mem_append.mp h).elim (fun h => (List.mem_append.mp h).elim (tk d) (di1 di_rd d)) (dk d)) (di1 zd) (by simp; omega) (nw kp5)
      have dd2 : ∀ d ∈ (gs.map rdD).take pc.toNat ++ [rdD rr] ++ (gs.map rdD).drop pc.toNat ++ [.tuple [.int (-1), .int 0, .int (-1), .int 0]], Di 6 d := fun d h => (List.mem_append.mp h).elim (fun h => (List.mem_append.mp h).elim (fun h => (List.mem_append.mp h).elim (tk d) (di1 di_rd d)) (dk d)) (di1 zd d)
      refine e_cons (D2 _ rfl rfl rfl H5 Kp.refl _ fun l2 ys2 H7 k7 hl2 hA2 hn2 => e_cons (de_ixt (n := 0) (de_var (i := 11) rfl hx drr) (m := 1) (by decide) rfl H7 k7 _ fun v H8 k8 hv => e_nil ⟨sz_lit rfl, fun t ht => ?_⟩))
      have kt : Kp (tabs K) No H8 (upd H8 t (.tup [.ref el, .ref l2, v])) := Kp.new ht
      have k7t : Kp (tabs K) No H7 (upd H8 t (.tup [.ref el, .ref l2, v])) := ktr k8 kt
      have k5t : Kp (tabs K) No H5 (upd H8 t (.tup [.ref el, .ref l2, v])) := ktr k7 k7t
      refine k t el l2 v xs ys2 _ _ (.bad c) _ upd_same (k5t.lst hel5 fun z => z) (k7t.lst hl2 fun z => z) (hA5.keep k5t (di_jes hok)) (hA2.keep k7t dd2) (di_jes hok) dd2 (Dt.keep kt (n := 7) (dit (n := 6) (di2 Di.str Di.int) (Nat.le_of_ble_eq_true rfl)) hv) (fun _ z => (nomatch z)) (.inr ⟨js, c, rfl, hok, by omega, ⟨gs.take pc.toNat, rr, (gs.drop pc.toNat).map rdD ++ [.tuple [.int (-1), .int 0, .int (-1), .int 0]], ?_, fun g hg => hgok g (List.mem_of_mem_take hg), hr⟩, rfl, hr.imp (·.1) (·.1)⟩) eb ee hn2.1 hn2.2 (B5.keep k5t (fun z => z) (fun z => z)) (kp5.trans k5t fun _ z => z.elim)
      rw [List.map_take, List.map_drop]
      simp
end
end W

end
section
/-! ### M0: words for walking through a reading (local) -/
local macro_rules | `(tactic| walk_at "st") => `(tactic| first
  | (with_reducible refine Cm.s_seq ?_) | (with_reducible refine Cm.s_asg ?_) | (with_reducible refine Cm.s_drop ?_) | (with_reducible refine Cm.s_ret ?_) | (with_reducible refine Cm.s_if ?_) | (with_reducible refine Cm.s_next ?_) | (with_reducible refine Cm.s_retN ?_) | (with_reducible refine Cm.s_rs ?_) | (with_reducible refine Cm.s_fld0 ?_)
  | ((with_reducible refine' Cm.e_var ?hv ?_); (case hv => exact rfl))
  | (with_reducible refine Cm.e_c ?_) | (with_reducible refine Cm.e_op ?_) | (with_reducible refine Cm.e_un ?_) | (with_reducible refine Cm.e_nil ?_) | (with_reducible refine Cm.e_cons ?_) | (with_reducible refine Cm.e_tup ?_) | (with_reducible refine Cm.e_lst ?_) | (with_reducible refine Cm.e_cb ?_) | (with_reducible refine Cm.e_call ?_) | (with_reducible refine Cm.e_if ?_)
  | (with_reducible refine Cm.e_andV ?_) | (with_reducible refine Cm.e_orV ?_) | (with_reducible refine Cm.e_notV ?_) | (with_reducible refine Cm.e_fld0 ?_) | (with_reducible refine Cm.e_meth0 ?_) | (with_reducible refine Cm.e_bm0 ?_) | (with_reducible refine Cm.e_bm ?_) | (with_reducible refine Cm.e_sl ?_) | (with_reducible refine Cm.o_none ?_) | (with_reducible refine Cm.o_some ?_) | (with_reducible refine Cm.e_dnew ?_)
  | (with_reducible refine Cm.e_test ?_) | (with_reducible refine Cm.e_tr ?_) | (with_reducible refine Cm.e_and ?_) | (with_reducible refine Cm.e_or ?_) | (with_reducible refine Cm.e_not ?_) | (with_reducible refine Cm.e_yes ?_) | (with_reducible refine Cm.e_chain ?_)
  | (with_reducible refine Cm.r_i0 ?_) | (with_reducible refine Cm.r_u ?_) | (with_reducible refine Cm.r_isNo ?_) | (with_reducible refine Cm.r_notNo ?_) | (with_reducible refine Cm.r_addI ?_) | (with_reducible refine Cm.r_int1b ?_) | (with_reducible refine Cm.r_max2 ?_)
  | ((with_reducible refine Cm.r_i ?hc ?_); (case hc => walk_at "num"))
  | ((with_reducible refine Cm.r_mulI ?hc ?_); (case hc => walk_at "num"))
  | ((with_reducible refine Cm.r_eqS ?hc ?_); (case hc => exact rfl))
  | ((with_reducible refine Cm.r_neS ?hc ?_); (case hc => exact rfl))
  | ((with_reducible refine' Cm.r_ixl ?h1 ?h2 ?_); (case h1 => walk_at "look"); (case h2 => walk_at "at"))
  | ((with_reducible refine' Cm.r_ixt ?h1 ?h2 ?_); (case h1 => walk_at "look"); (case h2 => walk_at "at"))
  | ((with_reducible refine' Cm.r_ixT ?h1 ?h2 ?_); (case h1 => walk_at "lookT"); (case h2 => walk_at "at"))
  | ((with_reducible refine' Cm.r_ixds ?h1 ?h2 ?_); (case h1 => walk_at "look"); (case h2 => walk_at "key"))
  | ((with_reducible refine' Cm.r_eqe ?h1 ?h2 ?_); (case h1 => walk_at "look"); (case h2 => walk_at "look"))
  | ((with_reducible refine' Cm.r_nee ?h1 ?h2 ?_); (case h1 => walk_at "look"); (case h2 => walk_at "look"))
  | ((with_reducible refine' Cm.r_lenl ?h1 ?_); (case h1 => walk_at "look"))
  | ((with_reducible refine' Cm.r_lent ?h1 ?_); (case h1 => walk_at "look"))
  | ((with_reducible refine' Cm.r_lenT ?h1 ?_); (case h1 => walk_at "lookT"))
  | ((with_reducible refine' Cm.r_listl ?h1 ?_); (case h1 => walk_at "look"); (intro _ _))
  | ((with_reducible refine' Cm.r_tupl ?h1 ?_); (case h1 => walk_at "look"); (intro _ _))
  | ((with_reducible refine' Cm.r_addL ?h1 ?h2 ?h3 ?_); (case h1 => walk_at "look"); (case h2 => walk_at "look"); (case h3 => walk_at "size"); (intro _ _))
  | ((with_reducible refine' Cm.m_append ?h1 ?h2 ?_); (case h1 => walk_at "look"); (case h2 => walk_at "size"))
  | ((with_reducible refine' Cm.m_clear ?h1 ?_); (case h1 => walk_at "look"))
  | ((with_reducible refine' Cm.g_setL ?h1 ?h2 ?_); (case h1 => walk_at "look"); (case h2 => walk_at "ix"))
  | ((with_reducible refine' Cm.g_setDs ?h1 ?h2 ?h3 ?_); (case h1 => walk_at "look"); (case h2 => walk_at "size"); (case h3 => walk_at "put"))
  | ((with_reducible refine' Cm.fld_at ?h1 ?h2 ?h3 ?h4 ?_); (case h1 => walk_at "look"); (case h2 => assumption); (case h3 => assumption); (case h4 => walk_at "key"))
  | ((with_reducible refine' Cm.fldset_at ?h1 ?h2 ?h3 ?h4 ?h5 ?_); (case h1 => walk_at "look"); (case h2 => assumption); (case h3 => assumption); (case h4 => walk_at "size"); (case h5 => walk_at "put"))
  | (with_reducible refine Cm.s_fldaug0 ?_)
  | ((with_reducible refine' Cm.aug_at ?h1 ?h2 ?h3 ?h4 ?_); (case h1 => walk_at "look"); (case h2 => assumption); (case h3 => assumption); (case h4 => walk_at "key"))
  | ((with_reducible refine' Cm.augset_at ?h1 ?h4 ?h5 ?_); (case h1 => walk_at "look"); (case h4 => walk_at "size"); (case h5 => walk_at "put"))
  | (with_reducible refine Cm.in_sub_at ?_) | (with_reducible refine Cm.in_add_at ?_)
  | ((with_reducible refine' Cm.meth_at ?h1 ?h2 ?_); (case h1 => walk_at "look"); (case h2 => walk_at "key"))
  | ((with_reducible refine Cm.new_at ?h1 ?_); (case h1 => walk_at "size"); (intro _ _))
  | ((with_reducible refine Cm.and_at (A := L2.tyV _ "list" _ _) ?h1 ?_); (case h1 => exact Cm.ty_lst (by walk_at "look")))
  | ((with_reducible refine' Cm.g_tupt ?h1 ?h2 ?_); (case h1 => walk_at "look"); (case h2 => exact rfl))
  | ((with_reducible refine' Cm.g_tup ?h1 ?h2 ?_); (case h1 => walk_at "lookT"); (case h2 => exact rfl))
  | (with_reducible refine Cm.g_name ?_) | (with_reducible refine Cm.g_sub ?_) | (with_reducible refine Cm.g_cons ?_) | (with_reducible refine Cm.g_nil ?_)
  | (with_reducible refine Cm.int_at ?_) | (with_reducible refine Cm.bl_at ?_) | (with_reducible refine Cm.tr_bl ?_) | (with_reducible refine Cm.tr_non ?_)
  | ((with_reducible refine' Cm.m_pop0 ?h1 ?_); (case h1 => walk_at "look"))
  | ((with_reducible refine' Cm.r_slTo ?h1 ?h2 ?_); (case h1 => walk_at "look"); (case h2 => walk_at "num2"); (intro _ _))
  | ((with_reducible refine' Cm.r_slFrom ?h1 ?h2 ?_); (case h1 => walk_at "look"); (case h2 => walk_at "num2"); (intro _ _))
  | ((with_reducible refine' Cm.at_forL ?h1 ?_); (case h1 => walk_at "look"))
  | ((with_reducible refine' Cm.at_forT ?h1 ?_); (case h1 => walk_at "look"))
  | ((with_reducible refine' Cm.at_forR ?h1 ?h2 ?_); (case h1 => walk_at "num2"); (case h2 => walk_at "num2"))
  | ((with_reducible refine' Cm.at_forZ ?h1 ?h2 ?_); (case h1 => walk_at "look"); (case h2 => walk_at "look"))
  | (with_reducible refine Cm.s_forZ ?_) | (with_reducible refine Cm.s_forR ?_)
  | ((with_reducible refine Cm.and_at (A := _ = _) ?h1 ?_); (case h1 => exact rfl))
  | ((with_reducible show L2.rIsi _ _ _ _); walk_at "isi")
  | (with_reducible refine Cm.ite_nt ?_) | (with_reducible refine Cm.ite_nf ?_)
  | (with_reducible refine L2.iteT ?_) | (with_reducible refine L2.iteF ?_)
  | dsimp only
  | fail)
local macro_rules | `(tactic| walk_at "run") => `(tactic| repeat (walk_at "st"))
local macro_rules | `(tactic| walk_at "num") => `(tactic| first
  | exact Or.inr ⟨by decide, by decide⟩ | exact Or.inl ⟨by decide, by decide⟩
  | exact Cm.wdiv (by first | decide | omega) (by first | decide | omega)
  | (show (0 : Int) < _; first | decide | omega)
  | exact ⟨by decide, by decide, by decide⟩
  | fail)
local macro_rules | `(tactic| walk_at "put") => `(tactic| exact rfl)
local macro_rules | `(tactic| walk_at "fl") => `(tactic| first | exact Cm.fl0 | (refine' Cm.flS ?hz; (case hz => walk_at "fl")) | fail)
local macro_rules | `(tactic| walk_at "size") => `(tactic| first | exact Cm.sz_lit rfl | exact Cm.sz_lt rfl | exact Cm.fs_lt rfl | decide | (refine' Nat.lt_of_le_of_lt ?ha ?hb; (case ha => walk_at "fl"); (case hb => decide)) | (simp only [List.length_cons, List.length_nil, List.length_append, List.length_map, List.length_set, List.length_replicate, PySem.sizeLine_eq]; omega) | (simp only [List.length_cons, List.length_nil, List.length_append, List.length_map, List.length_set, List.length_replicate, PySem.sizeLine_eq] at *; omega) | fail)
local macro_rules | `(tactic| walk_at "at") => `(tactic| first | assumption | (with_reducible exact Cm.at0) | (with_reducible exact Cm.at1) | (with_reducible exact Cm.at2) | (with_reducible exact Cm.at3) | (with_reducible exact Cm.at4) | (with_reducible exact Cm.at5) | (with_reducible exact Cm.at6) | (with_reducible exact Cm.at7) | (with_reducible exact Cm.at8) | (with_reducible exact Cm.at0s) | (with_reducible exact Cm.at1s) | (with_reducible exact Cm.at01s) | (with_reducible exact Cm.at10s) | fail)
local macro_rules | `(tactic| walk_at "ix") => `(tactic| first | exact Cm.ix0 (by walk_at "size") | exact Cm.ix1 (by walk_at "size") | assumption | fail)
local macro_rules | `(tactic| walk_at "key") => `(tactic| first | assumption | fail)
local macro_rules | `(tactic| walk_at "ne") => `(tactic| first
  | assumption
  | (refine Ne.symm ?_; assumption)
  | (refine' L2.ne_of_none ?h1 ?h2; (case h2 => assumption); (case h1 => walk_at "look"))
  | (refine' Ne.symm (L2.ne_of_none ?h1 ?h2); (case h2 => assumption); (case h1 => walk_at "look"))
  | fail)
local macro_rules | `(tactic| walk_at "lookT") => `(tactic| first
  | assumption
  | exact L2.SqT.of (by walk_at "look")
  | fail)
local macro_rules | `(tactic| walk_at "look") => `(tactic| first
  | assumption
  | exact L2.upd_same
  | ((fail_if_success (with_reducible refine Eq.trans L2.upd_same ?_)); (refine' Eq.trans (L2.upd_ne ?h1) ?h2); (case h1 => walk_at "ne"); (case h2 => walk_at "look"))
  | (refine' Cm.kp_look ?h1 ?h2 ?h3 ?h4; (case h1 => assumption); (case h2 => walk_at "look"); (case h3 => intro _ z; cases z); (case h4 => first | exact Or.inl rfl | exact Or.inr (by walk_at "out")))
  | fail)
local macro_rules | `(tactic| walk_at "out") => `(tactic| first
  | assumption
  | exact fun z => z
  | exact fun z => z.elim (fun e => absurd e (by walk_at "ne")) (fun e => absurd e (by walk_at "ne"))
  | exact fun e => absurd e (by walk_at "ne")
  | fail)
local macro_rules | `(tactic| walk_at "dom") => `(tactic| first
  | exact Cm.dm_refl
  | (refine Cm.dm_upd ?_; walk_at "dom")
  | (refine' Cm.dm_kp ?h1 ?h2; (case h2 => assumption); (case h1 => walk_at "dom"))
  | fail)
local macro_rules | `(tactic| walk_at "free") => `(tactic| first
  | assumption
  | exact Cm.nw_of (by assumption)
  | (refine' Cm.dm_use ?h1 ?h2; (case h2 => assumption); (case h1 => walk_at "dom"))
  | (refine' Cm.dm_use2 ?h1 ?h2; (case h2 => assumption); (case h1 => walk_at "dom"))
  | fail)
local macro_rules | `(tactic| walk_at "in") => `(tactic| first
  | exact Or.inl rfl | exact Or.inl (Or.inl rfl) | exact Or.inl (Or.inr rfl) | exact Or.inl (Or.inr (Or.inl rfl)) | exact Or.inl (Or.inr (Or.inr rfl))
  | exact Or.inl (by assumption)
  | exact Or.inr (by walk_at "free")
  | fail)
local macro_rules | `(tactic| walk_at "kp") => `(tactic| first
  | assumption
  | exact Cm.Kp.refl
  | (refine' Cm.Kp.new' ?h1 ?h2; (case h2 => assumption); (case h1 => walk_at "kp"))
  | (refine' Cm.Kp.setX' ?h1 ?h2 ?h4 ?h5 ?h3; (case h2 => walk_at "look"); (case h4 => exact rfl); (case h5 => intro _ z; cases z); (case h3 => walk_at "in"); (case h1 => walk_at "kp"))
  | (refine' Cm.kp_step ?h1 ?h2 ?h3; (case h2 => assumption); (case h3 => walk_at "sub"); (case h1 => walk_at "kp"))
  | fail)
local macro_rules | `(tactic| walk_at "sub") => `(tactic| first
  | exact fun _ z => z.elim
  | exact fun _ z => Or.inl z
  | (intro a z; rcases z with rfl | rfl <;> walk_at "in")
  | (intro a z; subst z; walk_at "in")
  | fail)
local macro_rules | `(tactic| walk_at "num2") => `(tactic| first | decide | omega | fail)

local macro_rules | `(tactic| walk_at "isi") => `(tactic| first | (with_reducible refine Cm.isi_non_bool ?_) | (with_reducible refine Cm.isi_non_int ?_) | (with_reducible refine Cm.isi_non_str ?_) | (with_reducible refine Cm.isi_non_tuple ?_) | (with_reducible refine Cm.isi_non_list ?_) | (with_reducible refine Cm.isi_bl_bool ?_) | (with_reducible refine Cm.isi_bl_int ?_) | (with_reducible refine Cm.isi_bl_str ?_) | (with_reducible refine Cm.isi_bl_tuple ?_) | (with_reducible refine Cm.isi_bl_list ?_) | (with_reducible refine Cm.isi_int_bool ?_) | (with_reducible refine Cm.isi_int_int ?_) | (with_reducible refine Cm.isi_int_str ?_) | (with_reducible refine Cm.isi_int_tuple ?_) | (with_reducible refine Cm.isi_int_list ?_) | (with_reducible refine Cm.isi_str_bool ?_) | (with_reducible refine Cm.isi_str_int ?_) | (with_reducible refine Cm.isi_str_str ?_) | (with_reducible refine Cm.isi_str_tuple ?_) | (with_reducible refine Cm.isi_str_list ?_) | ((with_reducible refine' Cm.isi_tup_bool ?h1 ?_); (case h1 => walk_at "look")) | ((with_reducible refine' Cm.isi_tup_int ?h1 ?_); (case h1 => walk_at "look")) | ((with_reducible refine' Cm.isi_tup_str ?h1 ?_); (case h1 => walk_at "look")) | ((with_reducible refine' Cm.isi_tup_tuple ?h1 ?_); (case h1 => walk_at "look")) | ((with_reducible refine' Cm.isi_tup_list ?h1 ?_); (case h1 => walk_at "look")) | ((with_reducible refine' Cm.isi_lst_bool ?h1 ?_); (case h1 => walk_at "look")) | ((with_reducible refine' Cm.isi_lst_int ?h1 ?_); (case h1 => walk_at "look")) | ((with_reducible refine' Cm.isi_lst_str ?h1 ?_); (case h1 => walk_at "look")) | ((with_reducible refine' Cm.isi_lst_tuple ?h1 ?_); (case h1 => walk_at "look")) | ((with_reducible refine' Cm.isi_lst_list ?h1 ?_); (case h1 => walk_at "look")) | fail)

/-! ### M1: more words -/
local macro_rules | `(tactic| walk_at "st") => `(tactic| first
  | ((with_reducible refine Cm.and_at (A := L2.tyV _ "dict" _ _) ?h1 ?_); (case h1 => exact Cm.ty_dic (by walk_at "look")))
  | (with_reducible refine Cm.e_dget2 ?_) | (with_reducible refine Cm.e_dpop2 ?_) | (with_reducible refine Cm.e_dpop1 ?_) | (with_reducible refine Cm.s_rx ?_)
  | ((with_reducible refine' Cm.isd_at ?h1 ?_); (case h1 => walk_at "look"))
  | ((with_reducible refine' Cm.get_at ?h1 ?_); (case h1 => walk_at "look"))
  | ((with_reducible refine' Cm.pop1_at ?h1 ?h2 ?_); (case h1 => walk_at "look"); (case h2 => assumption))
  | ((with_reducible refine' Cm.r_dictD ?h1 ?_); (case h1 => walk_at "look"); (intro _ _))
  | ((with_reducible refine' Cm.r_lenD ?h1 ?_); (case h1 => walk_at "look"))
  | ((with_reducible refine' Cm.r_ixdi ?h1 ?h2 ?_); (case h1 => walk_at "look"); (case h2 => assumption))
  | ((with_reducible refine' Cm.g_setdi ?h1 ?h2 ?_); (case h1 => walk_at "look"); (case h2 => first | assumption | omega))
  | (with_reducible refine Cm.r_min2 ?_)
  | (with_reducible refine W.r_eq_lv ?_) | (with_reducible refine W.r_ne_lv ?_) | (with_reducible refine W.r_isNo_lv ?_) | (with_reducible refine W.r_notNo_lv ?_)
  | fail)

local macro_rules | `(tactic| walk_at "key") => `(tactic| first | exact W.tF_g_rows | exact W.tF_g_hands | exact W.tF_g_moment | exact W.tF_g_number | exact W.tF_n_row_at | exact W.tF_n_shown | exact W.tF_n_content | exact W.tF_n_put_page | exact W.tF_n_prune | exact W.tF_n_change | exact W.tF_n_whole)
local macro_rules | `(tactic| walk_at "put") => `(tactic| first | exact W.tF_p_rows | exact W.tF_p_hands | exact W.tF_p_moment | exact W.tF_p_number)
local macro_rules | `(tactic| walk_at "size") => `(tactic| (rw [W.tF_len]; decide))

local macro_rules | `(tactic| walk_at "key") => `(tactic| first | exact W.oS_g_rows | exact W.oS_g_hands | exact W.oS_g_moment | exact W.oS_g_number)
local macro_rules | `(tactic| walk_at "put") => `(tactic| first | exact W.oS_p_rows | exact W.oS_p_hands | exact W.oS_p_moment | exact W.oS_p_number)
local macro_rules | `(tactic| walk_at "size") => `(tactic| (rw [W.oS_len]; decide))

namespace W
open PySem PySem.Spec PyProof.Rows L2 Cm
section
variable {w : World} {K : PySem.W.Frag} {mg : Str → Option Value}
theorem pure_odd_ (vs : List V) (H : Hp) (Q : VK) (E : XK) (h : S_odd_ K vs H Q E) : t_odd_ K E { nx := fun _ H' => Q .non H', rt := Q } (start N_odd_ vs) H := by
  obtain ⟨_, _, _, rfl, b, l, el, rl, xs, ys, js, gs, rfl, rfl, rfl, B, hel, hA, hok, hjl, hrl, hG, hgok, hgl, eb, ee, rb, re, k⟩ := h
  have nb : ¬ Nw H b := by
    obtain ⟨_, _, e, _⟩ := B
    exact fun z => nw_no z e (fun _ z => nomatch z)
  have nl : ¬ Nw H l := by
    obtain ⟨_, _, _, e, _⟩ := B
    exact fun z => nw_no z e (fun _ z => nomatch z)
  have hxl := hA.length
  rw [List.length_map] at hxl
  unfold t_odd_
  walk_at "run"
  rw [hxl]
  refine ⟨_, _, rfl, b, l, _, rfl, rfl, B, by omega, by omega, fun at_ H1 at0 at1 B1 k1 => ?_⟩
  have hel1 := k1.lst hel (fun z => z.elim eb ee)
  have hA1 := hA.keep k1 (di_jes hok)
  have hrl1 := k1.lst hrl (fun z => z.elim rb re)
  have hG1 := hG.keep k1 di_rds
  refine g_name ?_
  try dsimp only
  -- the moment
  refine s_seq (s_asg (e_cb (e_cons (e_op ?_))))
  walk_at "run"
  rename_i o1 ho1
  refine lcL ?_
  walk_at "run"
  rename_i tl htl
  intro Dl hDl
  have eo : o1 ≠ tl := by walk_at "ne"
  have eo2 : o1 ≠ Dl := by walk_at "ne"
  have etl : tl ≠ Dl := by walk_at "ne"
  refine coreL (xs := xs.take at_.toNat) (fun n acc H2 => Kp (tabs K) No H1 H2 ∧ H2 tl = some (.lst (xs.take at_.toNat)) ∧ H2 o1 = some (.lst [.int 0]) ∧ acc = (ticks ((js.take at_.toNat).take n)).map V.int) ⟨by walk_at "kp", by walk_at "look", by walk_at "look", rfl⟩ (fun n acc H2 z => z.2.1) (fun n x acc H2 hx hn hl z e => ?_) (fun acc H2 hl z e => ?_)
  · obtain ⟨kp2, g1, g0, rfl⟩ := z
    have hni : n < at_.toNat := by rw [List.length_take] at hn; omega
    have hxi : xs[n]? = some x := by
      rw [List.getElem?_take, if_pos hni] at hx
      exact hx
    obtain ⟨_, hd1, hd2⟩ := hA1.get hxi
    obtain ⟨j, hj, rfl⟩ := map_get hd1
    have hj2 : (js.take at_.toNat)[n]? = some j := by rw [List.getElem?_take, if_pos hni]; exact hj
    have hd3 := Dt.keep kp2 (di_je (okL_get hok hj)) hd2
    unfold CStep
    cases j with
    | tick t =>
      obtain ⟨u, u0, u1, rfl, hu, rfl, rfl⟩ := dt2.mp hd3
      walk_at "run"
      refine if_dT rfl ?_
      walk_at "run"
      refine c_put e hl (by rw [List.length_take] at hn; omega) ⟨by walk_at "kp", by walk_at "look", by walk_at "look", ?_⟩
      rw [take_succ hj2, ticks_snoc, List.map_append]; rfl
    | deal hn2 ds =>
      obtain ⟨u, u0, u1, u2, rfl, hu, rfl, rfl, _⟩ := dt3.mp hd3
      walk_at "run"
      refine if_dF (by decide) ?_
      refine c_skip e hl ⟨kp2, g1, g0, ?_⟩
      rw [take_succ hj2, ticks_snoc, List.map_append]
      show _ = _ ++ []
      rw [List.append_nil]
  · obtain ⟨kp2, g1, g0, rfl⟩ := z
    have e9 : (xs.take at_.toNat).length = at_.toNat := by rw [List.length_take]; omega
    rw [e9, List.take_of_length_le (l := js.take at_.toNat) (by rw [List.length_take]; omega)] at e hl
    have htl2 : (ticks (js.take at_.toNat)).length ≤ 40 := Nat.le_trans (ticks_len _) (by rw [List.length_take]; omega)
    refine r_addL (xs := [.int 0]) (ys := (ticks (js.take at_.toNat)).map V.int) g0 e (by rw [sizeLine_eq]; simp; omega) fun o2 ho2 => ?_
    refine e_nil ⟨o2, 0 :: ticks (js.take at_.toNat), rfl, SqL.of upd_same, Nat.succ_pos _, fun m hm1 hm2 => ?_⟩
    have hmx := ticks_max (okL_take at_.toNat hok)
    have hmm : m = endM 0 (js.take at_.toNat) := by
      have h3 := hmx.2 m hm1
      have h4 := hm2 _ hmx.1
      omega
    have kp3 : Kp (tabs K) No H1 (upd H2 o2 (.lst ([.int 0] ++ (ticks (js.take at_.toNat)).map V.int))) := by walk_at "kp"
    have B3 := B1.keep kp3 (fun z => z) (fun z => z)
    have hel3 := kp3.lst hel1 (fun z => z)
    have hA3 := hA1.keep kp3 (di_jes hok)
    have hrl3 := kp3.lst hrl1 (fun z => z)
    have hG3 := hG1.keep kp3 di_rds
    have kk3 : Kp (tabs K) (Bx b l) H (upd H2 o2 (.lst ([.int 0] ++ (ticks (js.take at_.toNat)).map V.int))) := k1.trans kp3 fun _ z => z.elim
    revert B3 hel3 hA3 hrl3 hG3 kk3
    generalize upd H2 o2 (.lst ([.int 0] ++ (ticks (js.take at_.toNat)).map V.int)) = H3
    intro B3 hel3 hA3 hrl3 hG3 kk3
    clear kp3 ho2 g0 g1 e kp2 etl eo2 eo hDl htl ho1 hA1 hel1 hrl1 hG1 B1 k1
    have nw : ∀ {H' : Hp}, Kp (tabs K) (Bx b l) H H' → ∀ p, Nw H' p → p ≠ b ∧ p ≠ l := fun k p hp => ⟨fun z => nb (by rw [← z]; exact k.dom p hp), fun z => nl (by rw [← z]; exact k.dom p hp)⟩
    refine g_name ?_
    try dsimp only
    -- the first three
    have L1 : ∀ σ1 : L2.St, σ1[4]? = some (some (.int m)) → DL K (tLst (tCons (tTup (tCons (tTup (tCons (tC (.str "tick")) (tCons (tVar 4) tNil))) (tCons (tTup (tCons (tC (.str "BadEntry")) (tCons (tC (.int 0)) tNil))) tNil))) (tCons (tTup (tCons (tTup (tCons (tC (.str "tick")) (tCons (tOp (rAddA K) (tOp (rI CPow fun i j => .int (i ^ j.toNat)) (tC (.int 10)) (tC (.int 6))) (tC (.int 1))) tNil))) (tCons (tTup (tCons (tC (.str "BadEntry")) (tCons (tC (.int 0)) tNil))) tNil))) (tCons (tTup (tCons (tTup tNil) (tCons (tTup (tCons (tC (.str "BadEntry")) (tCons (tC (.int 0)) tNil))) tNil))) tNil)))) σ1 H3 (((oddE m).take 3).map oddP) (fun p => p ≠ b ∧ p ≠ l) := fun σ1 i4 => by
      have y1 := lpr (K := K) (σ := σ1) (H := H3) (s := "BadEntry") (i := 0) (lt2 (n := 5) (de_str (s := "tick")) Di.str (de_var (n := 0) i4 (d := .int m) rfl Di.int) Di.int)
      have y2 := lpr (K := K) (σ := σ1) (H := H3) (s := "BadEntry") (i := 0) (lt2 (n := 5) (de_str (s := "tick")) Di.str (de_add (de_pow (i := 10) (j := 6) ⟨by decide, by decide, by decide⟩) (de_int (i := 1))) Di.int)
      have y3 := lpr (K := K) (σ := σ1) (H := H3) (s := "BadEntry") (i := 0) (lt0 (n := 5))
      exact dl_lst (N := fun p => p ≠ b ∧ p ≠ l) (das_cons y1.1 y1.2 (das_cons y2.1 y2.2 (das_cons y3.1 y3.2 das_nil))) (di3 y1.2 y2.2 y3.2) (Nat.le_of_ble_eq_true rfl) (nw kk3)
    refine s_seq (s_asg (L1 _ rfl H3 Kp.refl _ fun q1 w1 H4 k4 hq1 hw1 nq1 => g_name ?_))
    try dsimp only
    have hodi : ∀ d ∈ (oddE m).map oddP, Di 7 d := fun d hd => by
      obtain ⟨q, hq, rfl⟩ := List.mem_map.mp hd
      obtain ⟨i, hi⟩ := List.getElem?_of_mem hq
      obtain ⟨_, h2, h3⟩ := odd_at hi
      refine dit (di2 h3 ?_) (Nat.le_of_ble_eq_true rfl)
      cases hq2 : q.2 with
      | ok m => exact (h2 m hq2).elim
      | bad c => exact dit (n := 5) (di2 Di.str Di.int) (Nat.le_of_ble_eq_true rfl)
      | deal p => exact dit (n := 5) (di2 Di.str Di.int) (Nat.le_of_ble_eq_true rfl)
    have hodt : ∀ n, ∀ d ∈ ((oddE m).take n).map oddP, Di 7 d := fun n d hd => by
      obtain ⟨q, hq, rfl⟩ := List.mem_map.mp hd
      exact hodi _ (List.mem_map_of_mem (List.mem_of_mem_take hq))
    have kk4 : Kp (tabs K) (Bx b l) H H4 := kk3.trans k4 fun _ z => z.elim
    -- two more
    have L2b : ∀ σ1 : L2.St, σ1[6]? = some (some (.ref q1)) → DL K (tOp (rAddA K) (tVar 6) (tLst (tCons (tTup (tCons (tTup (tCons (tC (.str "tick")) tNil)) (tCons (tTup (tCons (tC (.str "BadEntry")) (tCons (tC (.int 0)) tNil))) tNil))) (tCons (tTup (tCons (tTup (tCons (tC (.str "Deal")) (tCons (tC (.int 0)) (tCons (tTup (tCons (tTup (tCons (tC (.str "drop")) (tCons (tC (.int 0)) tNil))) tNil)) tNil)))) (tCons (tTup (tCons (tC (.str "BadEntry")) (tCons (tC (.int 0)) tNil))) tNil))) tNil)))) σ1 H4 (((oddE m).take 5).map oddP) (fun p => p ≠ b ∧ p ≠ l) := fun σ1 i6 => by
      have z0 := lt2 (K := K) (σ := σ1) (H := H4) (n := 3) (de_str (s := "drop")) Di.str (de_int (i := 0)) Di.int
      have z1 := lt1 z0.1 z0.2
      have y1 := lpr (K := K) (σ := σ1) (H := H4) (s := "BadEntry") (i := 0) (lt1 (n := 5) (de_str (s := "tick")) Di.str)
      have y2 := lpr (K := K) (σ := σ1) (H := H4) (s := "BadEntry") (i := 0) (lt3 (n := 5) (de_str (s := "Deal")) Di.str (de_int (i := 0)) Di.int z1.1 z1.2)
      exact dl_add (ds := ((oddE m).take 3).map oddP) (N1 := fun _ => True) (N2 := fun _ => True) (n := 7) (dl_var i6 hq1 hw1 (hodt 3) trivial) (dl_lst (das_cons y1.1 y1.2 (das_cons y2.1 y2.2 das_nil)) (di2 y1.2 y2.2) (Nat.le_of_ble_eq_true rfl) fun _ _ => trivial) (hodt 3) (di2 y1.2 y2.2) (Nat.le_of_ble_eq_true rfl) (nw kk4)
    refine s_seq (s_asg (L2b _ rfl H4 Kp.refl _ fun q2 w2 H5 k5 hq2 hw2 nq2 => g_name ?_))
    try dsimp only
    have kk5 : Kp (tabs K) (Bx b l) H H5 := kk4.trans k5 fun _ z => z.elim
    have L3 : ∀ σ1 : L2.St, σ1[6]? = some (some (.ref q2)) → DL K (tOp (rAddA K) (tVar 6) (tLst (tCons (tTup (tCons (tTup (tCons (tC (.str "deal")) (tCons (tC (.int 4)) (tCons (tTup tNil) tNil)))) (tCons (tTup (tCons (tC (.str "BadHand")) (tCons (tC (.int 0)) tNil))) tNil))) (tCons (tTup (tCons (tTup (tCons (tC (.str "deal")) (tCons (tC (.int 0)) (tCons (tTup tNil) tNil)))) (tCons (tTup (tCons (tC (.str "BadDeal")) (tCons (tC (.int 0)) tNil))) tNil))) tNil)))) σ1 H5 (((oddE m).take 7).map oddP) (fun p => (p ≠ b ∧ p ≠ l) ∧ (p ≠ el ∧ p ≠ rl) ∧ Nw H p) := fun σ1 i6 => by
      have z0 := lt0 (K := K) (σ := σ1) (H := H5) (n := 4)
      have y1 := lpr (K := K) (σ := σ1) (H := H5) (s := "BadHand") (i := 0) (lt3 (n := 5) (de_str (s := "deal")) Di.str (de_int (i := 4)) Di.int z0.1 z0.2)
      have y2 := lpr (K := K) (σ := σ1) (H := H5) (s := "BadDeal") (i := 0) (lt3 (n := 5) (de_str (s := "deal")) Di.str (de_int (i := 0)) Di.int z0.1 z0.2)
      exact dl_add (ds := ((oddE m).take 5).map oddP) (N1 := fun _ => True) (N2 := fun _ => True) (n := 7) (dl_var i6 hq2 hw2 (hodt 5) trivial) (dl_lst (das_cons y1.1 y1.2 (das_cons y2.1 y2.2 das_nil)) (di2 y1.2 y2.2) (Nat.le_of_ble_eq_true rfl) fun _ _ => trivial) (hodt 5) (di2 y1.2 y2.2) (Nat.le_of_ble_eq_true rfl) (fun p hp => ⟨nw kk5 p hp, ⟨(fun z => nw_no (o := .lst xs) (kk5.dom p hp) (z ▸ hel) (fun _ z => nomatch z)), (fun z => nw_no (o := .lst ys) (kk5.dom p hp) (z ▸ hrl) (fun _ z => nomatch z))⟩, kk5.dom p hp⟩)
    refine s_seq (s_asg (L3 _ rfl H5 Kp.refl _ fun q3 w3 H6 k6 hq3 hw3 nq3 => g_name ?_))
    try dsimp only
    have kk6 : Kp (tabs K) (Bx b l) H H6 := kk5.trans k6 fun _ z => z.elim
    have L4 : ∀ σ1 : L2.St, DE K (tTup (tCons (tTup (tCons (tC (.str "deal")) (tCons (tC (.int 1)) (tCons (tTup (tCons (tTup (tCons (tC (.str "drop")) (tCons (tC (.int 0)) tNil))) (tCons (tTup (tCons (tC (.str "drop")) (tCons (tC (.int 32)) tNil))) tNil))) tNil)))) (tCons (tTup (tCons (tC (.str "BadDeal")) (tCons (tC (.int 1)) tNil))) tNil))) σ1 H6 (.tuple [.tuple [.str "deal", .int 1, .tuple [.tuple [.str "drop", .int 0], .tuple [.str "drop", .int 32]]], .tuple [.str "BadDeal", .int 1]]) := fun σ1 => by
      have z0 := lt2 (K := K) (σ := σ1) (H := H6) (n := 3) (de_str (s := "drop")) Di.str (de_int (i := 0)) Di.int
      have z1 := lt2 (K := K) (σ := σ1) (H := H6) (n := 3) (de_str (s := "drop")) Di.str (de_int (i := 32)) Di.int
      have z2 := lt2 z0.1 z0.2 z1.1 z1.2
      exact (lpr (K := K) (σ := σ1) (H := H6) (s := "BadDeal") (i := 1) (lt3 (n := 5) (de_str (s := "deal")) Di.str (de_int (i := 1)) Di.int z2.1 z2.2)).1
    refine s_seq (s_drop (e_bm (e_var rfl (and_at (ty_lst hq3) (e_cons (L4 _ H6 Kp.refl _ fun v H7 k7 hv => e_nil ?_))))))
    have hq7 := k7.lst hq3 (fun z => z)
    have hw3l := hw3.length
    have hl7 : w3.length < sizeLine := by rw [hw3l, sizeLine_eq]; exact Nat.lt_of_le_of_lt (Nat.le_of_ble_eq_true (m := 100) rfl) (by decide)
    refine m_append hq7 hl7 ?_
    have kb : Kp (tabs K) (fun c => c = q3) H7 (upd H7 q3 (.lst (w3 ++ [v]))) := Kp.setL hq7 rfl
    have k37 : Kp (tabs K) No H3 H7 := ktr (ktr (ktr k4 k5) k6) k7
    try dsimp only
    have kk7 : Kp (tabs K) (Bx b l) H H7 := kk6.trans k7 fun _ z => z.elim
    have hel7 : (upd H7 q3 (.lst (w3 ++ [v]))) el = some (.lst xs) := by rw [upd_ne (Ne.symm nq3.2.1.1)]; exact k37.lst hel3 (fun z => z)
    have hrl7 : (upd H7 q3 (.lst (w3 ++ [v]))) rl = some (.lst ys) := by rw [upd_ne (Ne.symm nq3.2.1.2)]; exact k37.lst hrl3 (fun z => z)
    have hO : DtA (upd H7 q3 (.lst (w3 ++ [v]))) (w3 ++ [v]) ((oddE m).map oddP) := by
      have e : (oddE m).map oddP = ((oddE m).take 7).map oddP ++ [.tuple [.tuple [.str "deal", .int 1, .tuple [.tuple [.str "drop", .int 0], .tuple [.str "drop", .int 32]]], .tuple [.str "BadDeal", .int 1]]] := rfl
      rw [e]
      exact ((hw3.keep k7 (hodt 7)).snoc hv).keep kb fun d h => by rw [← e] at h; exact hodi d h
    have B8 : BoxAt (upd H7 q3 (.lst (w3 ++ [v]))) b l := (B3.keep k37 (fun z => z) (fun z => z)).upd (Ne.symm nq3.1.1) (Ne.symm nq3.1.2)
    exact odd_b B8 hel7 ((hA3.keep k37 (di_jes hok)).keep kb (di_jes hok)) hok hjl hrl7 ((hG3.keep k37 di_rds).keep kb di_rds) hgok hgl eb ee rb re upd_same hO nq3.1.1 nq3.1.2 at0 (by omega) hmm (kk7.trans kb fun a z => .inr (by rw [z]; exact nq3.2.2)) nb nl k
end
end W

end
section
namespace W
open PySem PySem.Spec PyProof.Rows L2 Cm
/-! plain law -/
structure PO (P O : TB) : Prop where
  m : P.moment = O.moment
  r : Agr O.moment P.rows O.rows
theorem PO.shown {P O : TB} (h : PO P O) (k : Int) : P.shown k = O.shown k := by
  unfold TB.shown
  rw [h.m]
  exact h.r.psh k
theorem PO.step {P O : TB} {n : Int} {j : JE} (h : PO P O) (hj : j.Ok O.moment) : PO (pstep P n j) (ostep O j) := by
  cases j with
  | tick t => exact ⟨rfl, h.r.later (m' := t) (by have := hj.1; omega)⟩
  | deal hn ds =>
    have e1 : pstep P n (.deal hn ds) = { P with rows := appE P.rows (effR P.rows P.moment ds).2, hands := upf P.hands hn (some (0, n, (effR P.rows P.moment ds).1)) } :=
      chgs_deal fun q hq => ((effR_ok (f := P.rows) (m := P.moment) hj.2.1).2 q hq).1
    have e2 : ostep O (.deal hn ds) = O.deal hn (((O.hands hn).map (·.1)).getD 0 + 1) ds := rfl
    rw [e1, e2]
    unfold TB.deal
    rw [if_neg (by omega)]
    have hr : Agr P.moment P.rows O.rows := by rw [h.m]; exact h.r
    rcases deal_agr hj.2.1 hr with ⟨h1, h2⟩ | ⟨g, h1, h2, h3⟩
    · rw [h.m] at h2
      rw [h2, h1]
      exact ⟨h.m, h.r⟩
    · rw [h.m] at h2 h3
      rw [h2, h.m]
      exact ⟨rfl, h3⟩
theorem PO.run : ∀ {js : List JE} {P O : TB} {n : Int}, PO P O → okL O.moment js → PO (pRun P n js) (oRun O js)
  | [], _, _, _, h, _ => h
  | j :: js, P, O, n, h, hok => by
    refine PO.run (js := js) (h.step hok.1) ?_
    have e : (ostep O j).moment = j.after O.moment := by
      cases j with
      | tick t => rfl
      | deal hn ds => exact deal_moment
    rw [e]; exact hok.2
theorem PO.at {js : List JE} (hok : okL 0 js) (i : Nat) : PO (pAt js i) (oAt js i) := PO.run ⟨rfl, Agr.refl⟩ (okL_take i hok)
theorem judgeM_congr {sh sh' : Nat → Int → Option Int} {n : Nat} (h : ∀ i k, i < n → sh i k = sh' i k) : ∀ {gs : List Rdg} {seen : Int → Int} {i : Nat}, (∀ x, 0 ≤ seen x) → judgeM sh n seen i gs = judgeM sh' n seen i gs
  | [], _, _, _ => rfl
  | r :: gs, seen, i, hs => by
    show (if (seen r.1 ≤ r.2.1 ∧ r.2.1 < n) ∧ sh r.2.1.toNat r.2.2.1 = r.2.2.2 then judgeM sh n (fun h => if h = r.1 then r.2.1 else seen h) (i + 1) gs else some (i : Int)) =
      (if (seen r.1 ≤ r.2.1 ∧ r.2.1 < n) ∧ sh' r.2.1.toNat r.2.2.1 = r.2.2.2 then judgeM sh' n (fun h => if h = r.1 then r.2.1 else seen h) (i + 1) gs else some (i : Int))
    have h0 := hs r.1
    by_cases h1 : seen r.1 ≤ r.2.1 ∧ r.2.1 < n
    · rw [h r.2.1.toNat r.2.2.1 (by omega)]
      by_cases h2 : sh' r.2.1.toNat r.2.2.1 = r.2.2.2
      · rw [if_pos ⟨h1, h2⟩, if_pos ⟨h1, h2⟩]
        exact judgeM_congr h fun x => by
          show 0 ≤ if x = r.1 then r.2.1 else seen x
          split
          · omega
          · exact hs x
      · rw [if_neg (fun z => h2 z.2), if_neg (fun z => h2 z.2)]
    · rw [if_neg (fun z => h1 z.1), if_neg (fun z => h1 z.1)]
theorem judge_own {js : List JE} (hok : okL 0 js) {gs : List Rdg} : judgeM (fun i k => (pAt js i).shown k) (js.length + 1) (fun _ => 0) 0 gs = judgeM (fun i k => ((oAll js).getD i ts0).shown k) (oAll js).length (fun _ => 0) 0 gs := by
  rw [oAll_len]
  refine judgeM_congr (fun i k hi => ?_) fun _ => Int.le_refl _
  have e : (oAll js).getD i ts0 = oAt js i := by
    unfold oAll
    rw [List.getD_eq_getElem?_getD, List.getElem?_map, List.getElem?_range hi]; rfl
  show (pAt js i).shown k = ((oAll js).getD i ts0).shown k
  rw [e]
  exact (PO.at hok i).shown k
end W

end
section
/-! ### M0: words for walking through a reading (local) -/
local macro_rules | `(tactic| walk_at "st") => `(tactic| first
  | (with_reducible refine Cm.s_seq ?_) | (with_reducible refine Cm.s_asg ?_) | (with_reducible refine Cm.s_drop ?_) | (with_reducible refine Cm.s_ret ?_) | (with_reducible refine Cm.s_if ?_) | (with_reducible refine Cm.s_next ?_) | (with_reducible refine Cm.s_retN ?_) | (with_reducible refine Cm.s_rs ?_) | (with_reducible refine Cm.s_fld0 ?_)
  | ((with_reducible refine' Cm.e_var ?hv ?_); (case hv => exact rfl))
  | (with_reducible refine Cm.e_c ?_) | (with_reducible refine Cm.e_op ?_) | (with_reducible refine Cm.e_un ?_) | (with_reducible refine Cm.e_nil ?_) | (with_reducible refine Cm.e_cons ?_) | (with_reducible refine Cm.e_tup ?_) | (with_reducible refine Cm.e_lst ?_) | (with_reducible refine Cm.e_cb ?_) | (with_reducible refine Cm.e_call ?_) | (with_reducible refine Cm.e_if ?_)
  | (with_reducible refine Cm.e_andV ?_) | (with_reducible refine Cm.e_orV ?_) | (with_reducible refine Cm.e_notV ?_) | (with_reducible refine Cm.e_fld0 ?_) | (with_reducible refine Cm.e_meth0 ?_) | (with_reducible refine Cm.e_bm0 ?_) | (with_reducible refine Cm.e_bm ?_) | (with_reducible refine Cm.e_sl ?_) | (with_reducible refine Cm.o_none ?_) | (with_reducible refine Cm.o_some ?_) | (with_reducible refine Cm.e_dnew ?_)
  | (with_reducible refine Cm.e_test ?_) | (with_reducible refine Cm.e_tr ?_) | (with_reducible refine Cm.e_and ?_) | (with_reducible refine Cm.e_or ?_) | (with_reducible refine Cm.e_not ?_) | (with_reducible refine Cm.e_yes ?_) | (with_reducible refine Cm.e_chain ?_)
  | (with_reducible refine Cm.r_i0 ?_) | (with_reducible refine Cm.r_u ?_) | (with_reducible refine Cm.r_isNo ?_) | (with_reducible refine Cm.r_notNo ?_) | (with_reducible refine Cm.r_addI ?_) | (with_reducible refine Cm.r_int1b ?_) | (with_reducible refine Cm.r_max2 ?_)
  | ((with_reducible refine Cm.r_i ?hc ?_); (case hc => walk_at "num"))
  | ((with_reducible refine Cm.r_mulI ?hc ?_); (case hc => walk_at "num"))
  | ((with_reducible refine Cm.r_eqS ?hc ?_); (case hc => exact rfl))
  | ((with_reducible refine Cm.r_neS ?hc ?_); (case hc => exact rfl))
  | ((with_reducible refine' Cm.r_ixl ?h1 ?h2 ?_); (case h1 => walk_at "look"); (case h2 => walk_at "at"))
  | ((with_reducible refine' Cm.r_ixt ?h1 ?h2 ?_); (case h1 => walk_at "look"); (case h2 => walk_at "at"))
  | ((with_reducible refine' Cm.r_ixT ?h1 ?h2 ?_); (case h1 => walk_at "lookT"); (case h2 => walk_at "at"))
  | ((with_reducible refine' Cm.r_ixds ?h1 ?h2 ?_); (case h1 => walk_at "look"); (case h2 => walk_at "key"))
  | ((with_reducible refine' Cm.r_eqe ?h1 ?h2 ?_); (case h1 => walk_at "look"); (case h2 => walk_at "look"))
  | ((with_reducible refine' Cm.r_nee ?h1 ?h2 ?_); (case h1 => walk_at "look"); (case h2 => walk_at "look"))
  | ((with_reducible refine' Cm.r_lenl ?h1 ?_); (case h1 => walk_at "look"))
  | ((with_reducible refine' Cm.r_lent ?h1 ?_); (case h1 => walk_at "look"))
  | ((with_reducible refine' Cm.r_lenT ?h1 ?_); (case h1 => walk_at "lookT"))
  | ((with_reducible refine' Cm.r_listl ?h1 ?_); (case h1 => walk_at "look"); (intro _ _))
  | ((with_reducible refine' Cm.r_tupl ?h1 ?_); (case h1 => walk_at "look"); (intro _ _))
  | ((with_reducible refine' Cm.r_addL ?h1 ?h2 ?h3 ?_); (case h1 => walk_at "look"); (case h2 => walk_at "look"); (case h3 => walk_at "size"); (intro _ _))
  | ((with_reducible refine' Cm.m_append ?h1 ?h2 ?_); (case h1 => walk_at "look"); (case h2 => walk_at "size"))
  | ((with_reducible refine' Cm.m_clear ?h1 ?_); (case h1 => walk_at "look"))
  | ((with_reducible refine' Cm.g_setL ?h1 ?h2 ?_); (case h1 => walk_at "look"); (case h2 => walk_at "ix"))
  | ((with_reducible refine' Cm.g_setDs ?h1 ?h2 ?h3 ?_); (case h1 => walk_at "look"); (case h2 => walk_at "size"); (case h3 => walk_at "put"))
  | ((with_reducible refine' Cm.fld_at ?h1 ?h2 ?h3 ?h4 ?_); (case h1 => walk_at "look"); (case h2 => assumption); (case h3 => assumption); (case h4 => walk_at "key"))
  | ((with_reducible refine' Cm.fldset_at ?h1 ?h2 ?h3 ?h4 ?h5 ?_); (case h1 => walk_at "look"); (case h2 => assumption); (case h3 => assumption); (case h4 => walk_at "size"); (case h5 => walk_at "put"))
  | (with_reducible refine Cm.s_fldaug0 ?_)
  | ((with_reducible refine' Cm.aug_at ?h1 ?h2 ?h3 ?h4 ?_); (case h1 => walk_at "look"); (case h2 => assumption); (case h3 => assumption); (case h4 => walk_at "key"))
  | ((with_reducible refine' Cm.augset_at ?h1 ?h4 ?h5 ?_); (case h1 => walk_at "look"); (case h4 => walk_at "size"); (case h5 => walk_at "put"))
  | (with_reducible refine Cm.in_sub_at ?_) | (with_reducible refine Cm.in_add_at ?_)
  | ((with_reducible refine' Cm.meth_at ?h1 ?h2 ?_); (case h1 => walk_at "look"); (case h2 => walk_at "key"))
  | ((with_reducible refine Cm.new_at ?h1 ?_); (case h1 => walk_at "size"); (intro _ _))
  | ((with_reducible refine Cm.and_at (A := L2.tyV _ "list" _ _) ?h1 ?_); (case h1 => exact Cm.ty_lst (by walk_at "look")))
  | ((with_reducible refine' Cm.g_tupt ?h1 ?h2 ?_); (case h1 => walk_at "look"); (case h2 => exact rfl))
  | ((with_reducible refine' Cm.g_tup ?h1 ?h2 ?_); (case h1 => walk_at "lookT"); (case h2 => exact rfl))
  | (with_reducible refine Cm.g_name ?_) | (with_reducible refine Cm.g_sub ?_) | (with_reducible refine Cm.g_cons ?_) | (with_reducible refine Cm.g_nil ?_)
  | (with_reducible refine Cm.int_at ?_) | (with_reducible refine Cm.bl_at ?_) | (with_reducible refine Cm.tr_bl ?_) | (with_reducible refine Cm.tr_non ?_)
  | ((with_reducible refine' Cm.m_pop0 ?h1 ?_); (case h1 => walk_at "look"))
  | ((with_reducible refine' Cm.r_slTo ?h1 ?h2 ?_); (case h1 => walk_at "look"); (case h2 => walk_at "num2"); (intro _ _))
  | ((with_reducible refine' Cm.r_slFrom ?h1 ?h2 ?_); (case h1 => walk_at "look"); (case h2 => walk_at "num2"); (intro _ _))
  | ((with_reducible refine' Cm.at_forL ?h1 ?_); (case h1 => walk_at "look"))
  | ((with_reducible refine' Cm.at_forT ?h1 ?_); (case h1 => walk_at "look"))
  | ((with_reducible refine' Cm.at_forR ?h1 ?h2 ?_); (case h1 => walk_at "num2"); (case h2 => walk_at "num2"))
  | ((with_reducible refine' Cm.at_forZ ?h1 ?h2 ?_); (case h1 => walk_at "look"); (case h2 => walk_at "look"))
  | (with_reducible refine Cm.s_forZ ?_) | (with_reducible refine Cm.s_forR ?_)
  | ((with_reducible refine Cm.and_at (A := _ = _) ?h1 ?_); (case h1 => exact rfl))
  | ((with_reducible show L2.rIsi _ _ _ _); walk_at "isi")
  | (with_reducible refine Cm.ite_nt ?_) | (with_reducible refine Cm.ite_nf ?_)
  | (with_reducible refine L2.iteT ?_) | (with_reducible refine L2.iteF ?_)
  | dsimp only
  | fail)
local macro_rules | `(tactic| walk_at "run") => `(tactic| repeat (walk_at "st"))
local macro_rules | `(tactic| walk_at "num") => `(tactic| first
  | exact Or.inr ⟨by decide, by decide⟩ | exact Or.inl ⟨by decide, by decide⟩
  | exact Cm.wdiv (by first | decide | omega) (by first | decide | omega)
  | (show (0 : Int) < _; first | decide | omega)
  | exact ⟨by decide, by decide, by decide⟩
  | fail)
local macro_rules | `(tactic| walk_at "put") => `(tactic| exact rfl)
local macro_rules | `(tactic| walk_at "fl") => `(tactic| first | exact Cm.fl0 | (refine' Cm.flS ?hz; (case hz => walk_at "fl")) | fail)
local macro_rules | `(tactic| walk_at "size") => `(tactic| first | exact Cm.sz_lit rfl | exact Cm.sz_lt rfl | exact Cm.fs_lt rfl | decide | (refine' Nat.lt_of_le_of_lt ?ha ?hb; (case ha => walk_at "fl"); (case hb => decide)) | (simp only [List.length_cons, List.length_nil, List.length_append, List.length_map, List.length_set, List.length_replicate, PySem.sizeLine_eq]; omega) | (simp only [List.length_cons, List.length_nil, List.length_append, List.length_map, List.length_set, List.length_replicate, PySem.sizeLine_eq] at *; omega) | fail)
local macro_rules | `(tactic| walk_at "at") => `(tactic| first | assumption | (with_reducible exact Cm.at0) | (with_reducible exact Cm.at1) | (with_reducible exact Cm.at2) | (with_reducible exact Cm.at3) | (with_reducible exact Cm.at4) | (with_reducible exact Cm.at5) | (with_reducible exact Cm.at6) | (with_reducible exact Cm.at7) | (with_reducible exact Cm.at8) | (with_reducible exact Cm.at0s) | (with_reducible exact Cm.at1s) | (with_reducible exact Cm.at01s) | (with_reducible exact Cm.at10s) | fail)
local macro_rules | `(tactic| walk_at "ix") => `(tactic| first | exact Cm.ix0 (by walk_at "size") | exact Cm.ix1 (by walk_at "size") | assumption | fail)
local macro_rules | `(tactic| walk_at "key") => `(tactic| first | assumption | fail)
local macro_rules | `(tactic| walk_at "ne") => `(tactic| first
  | assumption
  | (refine Ne.symm ?_; assumption)
  | (refine' L2.ne_of_none ?h1 ?h2; (case h2 => assumption); (case h1 => walk_at "look"))
  | (refine' Ne.symm (L2.ne_of_none ?h1 ?h2); (case h2 => assumption); (case h1 => walk_at "look"))
  | fail)
local macro_rules | `(tactic| walk_at "lookT") => `(tactic| first
  | assumption
  | exact L2.SqT.of (by walk_at "look")
  | fail)
local macro_rules | `(tactic| walk_at "look") => `(tactic| first
  | assumption
  | exact L2.upd_same
  | ((fail_if_success (with_reducible refine Eq.trans L2.upd_same ?_)); (refine' Eq.trans (L2.upd_ne ?h1) ?h2); (case h1 => walk_at "ne"); (case h2 => walk_at "look"))
  | (refine' Cm.kp_look ?h1 ?h2 ?h3 ?h4; (case h1 => assumption); (case h2 => walk_at "look"); (case h3 => intro _ z; cases z); (case h4 => first | exact Or.inl rfl | exact Or.inr (by walk_at "out")))
  | fail)
local macro_rules | `(tactic| walk_at "out") => `(tactic| first
  | assumption
  | exact fun z => z
  | exact fun z => z.elim (fun e => absurd e (by walk_at "ne")) (fun e => absurd e (by walk_at "ne"))
  | exact fun e => absurd e (by walk_at "ne")
  | fail)
local macro_rules | `(tactic| walk_at "dom") => `(tactic| first
  | exact Cm.dm_refl
  | (refine Cm.dm_upd ?_; walk_at "dom")
  | (refine' Cm.dm_kp ?h1 ?h2; (case h2 => assumption); (case h1 => walk_at "dom"))
  | fail)
local macro_rules | `(tactic| walk_at "free") => `(tactic| first
  | assumption
  | exact Cm.nw_of (by assumption)
  | (refine' Cm.dm_use ?h1 ?h2; (case h2 => assumption); (case h1 => walk_at "dom"))
  | (refine' Cm.dm_use2 ?h1 ?h2; (case h2 => assumption); (case h1 => walk_at "dom"))
  | fail)
local macro_rules | `(tactic| walk_at "in") => `(tactic| first
  | exact Or.inl rfl | exact Or.inl (Or.inl rfl) | exact Or.inl (Or.inr rfl) | exact Or.inl (Or.inr (Or.inl rfl)) | exact Or.inl (Or.inr (Or.inr rfl))
  | exact Or.inl (by assumption)
  | exact Or.inr (by walk_at "free")
  | fail)
local macro_rules | `(tactic| walk_at "kp") => `(tactic| first
  | assumption
  | exact Cm.Kp.refl
  | (refine' Cm.Kp.new' ?h1 ?h2; (case h2 => assumption); (case h1 => walk_at "kp"))
  | (refine' Cm.Kp.setX' ?h1 ?h2 ?h4 ?h5 ?h3; (case h2 => walk_at "look"); (case h4 => exact rfl); (case h5 => intro _ z; cases z); (case h3 => walk_at "in"); (case h1 => walk_at "kp"))
  | (refine' Cm.kp_step ?h1 ?h2 ?h3; (case h2 => assumption); (case h3 => walk_at "sub"); (case h1 => walk_at "kp"))
  | fail)
local macro_rules | `(tactic| walk_at "sub") => `(tactic| first
  | exact fun _ z => z.elim
  | exact fun _ z => Or.inl z
  | (intro a z; rcases z with rfl | rfl <;> walk_at "in")
  | (intro a z; subst z; walk_at "in")
  | fail)
local macro_rules | `(tactic| walk_at "num2") => `(tactic| first | decide | omega | fail)

local macro_rules | `(tactic| walk_at "isi") => `(tactic| first | (with_reducible refine Cm.isi_non_bool ?_) | (with_reducible refine Cm.isi_non_int ?_) | (with_reducible refine Cm.isi_non_str ?_) | (with_reducible refine Cm.isi_non_tuple ?_) | (with_reducible refine Cm.isi_non_list ?_) | (with_reducible refine Cm.isi_bl_bool ?_) | (with_reducible refine Cm.isi_bl_int ?_) | (with_reducible refine Cm.isi_bl_str ?_) | (with_reducible refine Cm.isi_bl_tuple ?_) | (with_reducible refine Cm.isi_bl_list ?_) | (with_reducible refine Cm.isi_int_bool ?_) | (with_reducible refine Cm.isi_int_int ?_) | (with_reducible refine Cm.isi_int_str ?_) | (with_reducible refine Cm.isi_int_tuple ?_) | (with_reducible refine Cm.isi_int_list ?_) | (with_reducible refine Cm.isi_str_bool ?_) | (with_reducible refine Cm.isi_str_int ?_) | (with_reducible refine Cm.isi_str_str ?_) | (with_reducible refine Cm.isi_str_tuple ?_) | (with_reducible refine Cm.isi_str_list ?_) | ((with_reducible refine' Cm.isi_tup_bool ?h1 ?_); (case h1 => walk_at "look")) | ((with_reducible refine' Cm.isi_tup_int ?h1 ?_); (case h1 => walk_at "look")) | ((with_reducible refine' Cm.isi_tup_str ?h1 ?_); (case h1 => walk_at "look")) | ((with_reducible refine' Cm.isi_tup_tuple ?h1 ?_); (case h1 => walk_at "look")) | ((with_reducible refine' Cm.isi_tup_list ?h1 ?_); (case h1 => walk_at "look")) | ((with_reducible refine' Cm.isi_lst_bool ?h1 ?_); (case h1 => walk_at "look")) | ((with_reducible refine' Cm.isi_lst_int ?h1 ?_); (case h1 => walk_at "look")) | ((with_reducible refine' Cm.isi_lst_str ?h1 ?_); (case h1 => walk_at "look")) | ((with_reducible refine' Cm.isi_lst_tuple ?h1 ?_); (case h1 => walk_at "look")) | ((with_reducible refine' Cm.isi_lst_list ?h1 ?_); (case h1 => walk_at "look")) | fail)

/-! ### M1: more words -/
local macro_rules | `(tactic| walk_at "st") => `(tactic| first
  | ((with_reducible refine Cm.and_at (A := L2.tyV _ "dict" _ _) ?h1 ?_); (case h1 => exact Cm.ty_dic (by walk_at "look")))
  | (with_reducible refine Cm.e_dget2 ?_) | (with_reducible refine Cm.e_dpop2 ?_) | (with_reducible refine Cm.e_dpop1 ?_) | (with_reducible refine Cm.s_rx ?_)
  | ((with_reducible refine' Cm.isd_at ?h1 ?_); (case h1 => walk_at "look"))
  | ((with_reducible refine' Cm.get_at ?h1 ?_); (case h1 => walk_at "look"))
  | ((with_reducible refine' Cm.pop1_at ?h1 ?h2 ?_); (case h1 => walk_at "look"); (case h2 => assumption))
  | ((with_reducible refine' Cm.r_dictD ?h1 ?_); (case h1 => walk_at "look"); (intro _ _))
  | ((with_reducible refine' Cm.r_lenD ?h1 ?_); (case h1 => walk_at "look"))
  | ((with_reducible refine' Cm.r_ixdi ?h1 ?h2 ?_); (case h1 => walk_at "look"); (case h2 => assumption))
  | ((with_reducible refine' Cm.g_setdi ?h1 ?h2 ?_); (case h1 => walk_at "look"); (case h2 => first | assumption | omega))
  | (with_reducible refine Cm.r_min2 ?_)
  | (with_reducible refine W.r_eq_lv ?_) | (with_reducible refine W.r_ne_lv ?_) | (with_reducible refine W.r_isNo_lv ?_) | (with_reducible refine W.r_notNo_lv ?_)
  | fail)

local macro_rules | `(tactic| walk_at "key") => `(tactic| first | exact W.tF_g_rows | exact W.tF_g_hands | exact W.tF_g_moment | exact W.tF_g_number | exact W.tF_n_row_at | exact W.tF_n_shown | exact W.tF_n_content | exact W.tF_n_put_page | exact W.tF_n_prune | exact W.tF_n_change | exact W.tF_n_whole)
local macro_rules | `(tactic| walk_at "put") => `(tactic| first | exact W.tF_p_rows | exact W.tF_p_hands | exact W.tF_p_moment | exact W.tF_p_number)
local macro_rules | `(tactic| walk_at "size") => `(tactic| (rw [W.tF_len]; decide))

local macro_rules | `(tactic| walk_at "key") => `(tactic| first | exact W.oS_g_rows | exact W.oS_g_hands | exact W.oS_g_moment | exact W.oS_g_number)
local macro_rules | `(tactic| walk_at "put") => `(tactic| first | exact W.oS_p_rows | exact W.oS_p_hands | exact W.oS_p_moment | exact W.oS_p_number)
local macro_rules | `(tactic| walk_at "size") => `(tactic| (rw [W.oS_len]; decide))

namespace W
open PySem PySem.Spec PyProof.Rows L2 Cm
section
variable {w : World} {K : PySem.W.Frag} {mg : Str → Option Value}
theorem can_je {j : JE} : j.d.canLay0 = true := by
  cases j with
  | tick t => simp [JE.d, PyData.canLay0, PyData.canLayAll0]; decide +kernel
  | deal h ds => simp only [JE.d, PyData.canLay0, PyData.canLayAll0, can_deal]; decide +kernel
theorem can_rd {r : Rdg} : (rdD r).canLay0 = true := by
  simp only [rdD, PyData.canLay0, PyData.canLayAll0, can_oD]; rfl
theorem dn_list {n : Nat} {ds : List PyData} (h : ∀ d ∈ ds, Di n d) (hl : ds.length ≤ 100000) : Dn (n + 1) (.list ds) := ⟨hl, fun d hd => (h d hd).dn⟩
theorem dn7 {d : PyData} (h : Di 7 d) : Dn 8 d := (h.up (m := 8) (by decide)).dn
def LawI (K : PySem.W.Frag) (a b l el sl : Addr) (xs : List V) (js : List JE) (X : Addr → Prop) (σ' : L2.St) (H' : Hp) : Prop := ∃ v4 v5 v6 v7 v8 v9 v10 v11 : Option V, σ' = [some (.ref a), some (.ref b), some (.ref el), some (.ref sl), v4, v5, v6, v7, v8, v9, v10, v11] ∧ BoxAt H' b l ∧ LamX.Tabs (tabs K) H' ∧ H' el = some (.lst xs) ∧ DtA H' xs (js.map JE.d) ∧ StoresAt H' sl (oAll js) X
theorem pure_law (T : Tx w K mg) (vs : List V) (H : Hp) (Q : VK) (E : XK) (h : S_law K vs H Q E) : t_law K E { nx := fun _ H' => Q .non H', rt := Q } (start N_law vs) H := by
  obtain ⟨_, rfl, a, ns, rfl, hS, hl, hT, k⟩ := h
  unfold t_law
  walk_at "run"
  refine ⟨_, rfl, a, ns, rfl, hS, hl, fun b l H1 B1 nb1 nl1 k1 => ?_⟩
  have T1 := k1.tab hT
  walk_at "run"
  refine ⟨_, rfl, b, l, rfl, B1, fun t el sl xs js X H2 ht he hA hok hjl hSt hX nel nXel B2 k2 => ?_⟩
  have T2 := k2.tab T1
  have nb : ¬ Nw H1 b := by
    obtain ⟨_, _, e, _⟩ := B1
    exact fun z => nw_no z e (fun _ z => nomatch z)
  have nl : ¬ Nw H1 l := by
    obtain ⟨_, _, _, e, _⟩ := B1
    exact fun z => nw_no z e (fun _ z => nomatch z)
  have nXb : ¬ X b := fun z => nb (hX b z)
  have nXl : ¬ X l := fun z => nl (hX l z)
  have nX : ∀ c, X c → ¬ Bx b l c := fun c hc z => z.elim (fun e => nXb (by rw [← e]; exact hc)) fun e => nXl (by rw [← e]; exact hc)
  have eb : el ≠ b := fun z => nb (by rw [← z]; exact nel)
  have ee : el ≠ l := fun z => nl (by rw [← z]; exact nel)
  have oe : ¬ Bx b l el := fun z => z.elim eb ee
  have hxl := hA.length
  rw [List.length_map] at hxl
  walk_at "run"
  refine forR (fun _ => LawI K a b l el sl xs js X) ⟨_, _, _, _, _, _, _, _, rfl, B2, T2, he, hA, hSt⟩ ?_ ?_
  · rintro i σ' H' hi ⟨v4, v5, v6, v7, v8, v9, v10, v11, rfl, B', T', he', hA', hS'⟩
    walk_at "run"
    refine ⟨_, _, rfl, b, l, sl, oAll js, X, rfl, rfl, B', hS', nXb, nXl, by rw [oAll_len]; omega, by rw [oAll_len]; omega, fun p ys gs H3 hp hG hgok hgl np B3 k3 => ?_⟩
    have T3 := k3.tab T'
    have he3 := k3.lst he' oe
    have hA3 := hA'.keep k3 (di_jes hok)
    have hS3 := hS'.keep k3 nX
    have pb : p ≠ b := fun z => by
      obtain ⟨_, _, e, _⟩ := B'
      have e' := z ▸ e
      exact nw_no np e' (fun _ z => nomatch z)
    have pl : p ≠ l := fun z => by
      obtain ⟨_, _, _, e, _⟩ := B'
      have e' := z ▸ e
      exact nw_no np e' (fun _ z => nomatch z)
    have hyl := hG.length
    rw [List.length_map] at hyl
    walk_at "run"
    rename_i q1 hq1 q2 hq2 hd hhd
    have e12 : q1 ≠ q2 := by walk_at "ne"
    have e1h : q1 ≠ hd := by walk_at "ne"
    have e2h : q2 ≠ hd := by walk_at "ne"
    have kh : Kp (tabs K) No H3 (upd (upd (upd H3 q1 (.lst xs)) q2 (.lst ys)) hd (.tup [.ref q1, .ref q2])) := by walk_at "kp"
    have g1 : (upd (upd (upd H3 q1 (.lst xs)) q2 (.lst ys)) hd (.tup [.ref q1, .ref q2])) q1 = some (.lst xs) := by walk_at "look"
    have g2 : (upd (upd (upd H3 q1 (.lst xs)) q2 (.lst ys)) hd (.tup [.ref q1, .ref q2])) q2 = some (.lst ys) := by walk_at "look"
    have gh : (upd (upd (upd H3 q1 (.lst xs)) q2 (.lst ys)) hd (.tup [.ref q1, .ref q2])) hd = some (.tup [.ref q1, .ref q2]) := upd_same
    revert kh g1 g2 gh
    generalize upd (upd (upd H3 q1 (.lst xs)) q2 (.lst ys)) hd (.tup [.ref q1, .ref q2]) = H4
    intro kh g1 g2 gh
    have B4 := B3.keep kh (fun z => z) (fun z => z)
    have T4 := kh.tab T3
    have he4 := kh.lst he3 (fun z => z)
    have hA4 := hA3.keep kh (di_jes hok)
    have hS4 := hS3.keep kh (fun _ _ z => z)
    have hp4 := kh.lst hp (fun z => z)
    have hG4 := hG.keep kh di_rds
    clear hhd hq2 hq1
    refine forR (fun _ σ' H' => ∃ v7 v8 : Option V, σ' = [some (.ref a), some (.ref b), some (.ref el), some (.ref sl), some (.int (i : Nat)), some (.ref p), some (.ref hd), v7, v8, v9, v10, v11] ∧ Kp (tabs K) No H4 H') ⟨_, _, rfl, Kp.refl⟩ ?_ ?_
    · rintro n σ' H5 hn ⟨v7, v8, rfl, k5⟩
      have gh5 := k5.tup gh
      have g15 := k5.lst g1 (fun z => z)
      have g25 := k5.lst g2 (fun z => z)
      have hA5 := hA4.keep k5 (di_jes hok)
      have hG5 := hG4.keep k5 di_rds
      walk_at "run"
      refine ⟨_, _, rfl, q1, q2, xs, ys, _, _, rfl, rfl, g15, g25, hA5, hG5, di_jes hok, di_rds, .inr (.inr ⟨js, gs, rfl, hok, by omega, rfl, hgok, by omega, fun H6 k6 => ?_⟩)⟩
      have k46 : Kp (tabs K) No H4 H6 := k5.trans k6 fun _ z => z.elim
      have hS6 := hS4.keep k46 (fun _ _ z => z)
      have hp6 := k46.lst hp4 (fun z => z)
      have hG6 := hG4.keep k46 di_rds
      rw [judge_own hok]
      obtain ⟨o, ho⟩ : ∃ o, o = judgeM (fun i k => ((oAll js).getD i ts0).shown k) (oAll js).length (fun _ => 0) 0 gs := ⟨_, rfl⟩
      rw [← ho]
      walk_at "run"
      refine ⟨_, _, rfl, sl, p, oAll js, X, ys, gs, rfl, rfl, hS6, hp6, hG6, hgl, by rw [oAll_len]; omega, fun H7 k7 => ?_⟩
      rw [← ho]
      walk_at "run"
      refine ⟨_, _, rfl, oD o, dt_oD.mpr rfl, dt_oD.mpr rfl, dn_oD, fun H8 k8 => ?_⟩
      have k48 : Kp (tabs K) No H4 H8 := (k46.trans k7 fun _ z => z.elim).trans k8 fun _ z => z.elim
      have gh8 := k48.tup gh
      have g18 := k48.lst g1 (fun z => z)
      have g28 := k48.lst g2 (fun z => z)
      have he8 := k48.lst he4 (fun z => z)
      have hp8 := k48.lst hp4 (fun z => z)
      have hA8 := hA4.keep k48 (di_jes hok)
      have hG8 := hG4.keep k48 di_rds
      walk_at "run"
      rename_i t2 ht2
      have kt : Kp (tabs K) No H8 (upd H8 t2 (.tup [.ref el, .ref p])) := Kp.new ht2
      have dn1 : Dn 7 (.list (js.map JE.d)) := dn_list (di_jes hok) (by simp; omega)
      have dn2 : Dn 7 (.list (gs.map rdD)) := dn_list di_rds (by simp; omega)
      have dnt : Dn 8 (.tuple [.list (js.map JE.d), .list (gs.map rdD)]) := ⟨Nat.le_of_ble_eq_true rfl, fun d hd => by
        simp only [List.mem_cons, List.not_mem_nil, or_false] at hd
        rcases hd with rfl | rfl
        · exact dn1
        · exact dn2⟩
      have hl1 : Dt H8 (.ref q1) (.list (js.map JE.d)) := ⟨q1, xs, rfl, g18, hA8⟩
      have hl2 : Dt H8 (.ref q2) (.list (gs.map rdD)) := ⟨q2, ys, rfl, g28, hG8⟩
      have hl3 : Dt H8 (.ref el) (.list (js.map JE.d)) := ⟨el, xs, rfl, he8, hA8⟩
      have hl4 : Dt H8 (.ref p) (.list (gs.map rdD)) := ⟨p, ys, rfl, hp8, hG8⟩
      refine r_neSame (n := 8) (d := .tuple [.list (js.map JE.d), .list (gs.map rdD)]) (dt2.mpr ⟨hd, _, _, rfl, kt.tup gh8, Dt.same kt dn1 hl1, Dt.same kt dn2 hl2⟩) (dt2.mpr ⟨t2, _, _, rfl, upd_same, Dt.same kt dn1 hl3, Dt.same kt dn2 hl4⟩) dnt (by decide) ?_ ?_
      · show PyData.canLayAll0 _ = true
        refine canL fun d hd => ?_
        simp only [List.mem_cons, List.not_mem_nil, or_false] at hd
        rcases hd with rfl | rfl
        · exact canL fun d hd => by obtain ⟨j, _, rfl⟩ := List.mem_map.mp hd; exact can_je
        · exact canL fun d hd => by obtain ⟨j, _, rfl⟩ := List.mem_map.mp hd; exact can_rd
      · walk_at "run"
        exact ⟨_, _, rfl, by walk_at "kp"⟩
    · rintro σ' H5 ⟨v7, v8, rfl, k5⟩
      have B5 := B4.keep k5 (fun z => z) (fun z => z)
      have T5 := k5.tab T4
      have he5 := k5.lst he4 (fun z => z)
      have hA5 := hA4.keep k5 (di_jes hok)
      have hS5 := hS4.keep k5 (fun _ _ z => z)
      have hp5 := k5.lst hp4 (fun z => z)
      have hG5 := hG4.keep k5 di_rds
      clear k5
      walk_at "run"
      refine ⟨_, _, _, rfl, b, l, el, p, xs, ys, js, gs, rfl, rfl, rfl, B5, he5, hA5, hok, hjl, hp5, hG5, hgok, hgl, eb, ee, pb, pl, fun t l1 l2 v xs' ys' ds rs r H6 ht6 hl1 hl2 hA6 hG6 hdi hri hv hr hbad a1 a2 a3 a4 B6 k6 => ?_⟩
      have T6 := k6.tab T5
      have he6 := k6.lst he5 oe
      have hAe6 := hA5.keep k6 (di_jes hok)
      have hS6 := hS5.keep k6 nX
      have dud : Di 7 (dueD r) := by
        cases r with
        | ok m => exact (hr m rfl).elim
        | bad c => exact dit (n := 6) (di2 Di.str Di.int) (Nat.le_of_ble_eq_true rfl)
        | deal q => exact dit (n := 6) (di2 Di.str Di.int) (Nat.le_of_ble_eq_true rfl)
      walk_at "run"
      refine ⟨T6, fun H7 ext T7 => ?_⟩
      have k7 : Kp (tabs K) No H6 H7 := kp_lam ext T7
      unfold TT_refused_
      have g7 := k7.lst hl1 (fun z => z)
      have g8 := k7.lst hl2 (fun z => z)
      have hA7 := hA6.keep k7 hdi
      have hG7 := hG6.keep k7 hri
      show tCall (S_judge K) [] _ _ _ _ _
      walk_at "run"
      refine ⟨_, _, rfl, l1, l2, xs', ys', ds, rs, rfl, rfl, g7, g8, hA7, hG7, hdi, hri, ?_⟩
      rcases hbad with hbad | ⟨js2, c, h1, h2, h3, h4, rfl, h5⟩
      · refine .inl ⟨r, hbad, fun c hc H8 k8 => ?_, fun q hq H8 d k8 hd8 nd8 => ?_⟩
        · have hck : c = "BadEntry" ∨ c = "BadHand" := by
            obtain ⟨_, _, _, _, _, _, h1, _⟩ := hbad
            rw [hc] at h1
            exact h1.imp (·.1) (·.1)
          have e : dueD r = .tuple [.str c, .int 0] := by rw [hc]; rfl
          refine ⟨c, by rcases hck with rfl | rfl <;> decide, rfl, .inl ⟨rfl, by rcases hck with rfl | rfl <;> decide, fun t9 H9 _ k9' ht9 => ?_⟩⟩
          have k9 : Kp (tabs K) No H7 H9 := ktr k8 k9'
          walk_at "run"
          refine ⟨_, _, rfl, dueD r, by rw [e]; exact dt2.mpr ⟨t9, _, _, rfl, ht9, rfl, rfl⟩, Dt.keep (ktr k7 k9) dud hv, dn7 dud, fun H10 k10 => ?_⟩
          have k610 : Kp (tabs K) No H6 H10 := ktr (ktr k7 k9) k10
          walk_at "run"
          exact ⟨_, _, _, _, _, _, _, _, rfl, B6.keep k610 (fun z => z) (fun z => z), k610.tab T6, k610.lst he6 (fun z => z), hAe6.keep k610 (di_jes hok), hS6.keep k610 (fun _ _ z => z)⟩
        · have e : dueD r = .tuple [.str "BadDeal", .int q] := by rw [hq]; rfl
          refine ⟨"BadDeal", by decide, rfl, .inr ⟨d, "place", q, rfl, by decide, hd8, fun t9 H9 _ k9' ht9 => ?_⟩⟩
          have k9 : Kp (tabs K) No H7 H9 := ktr k8 k9'
          walk_at "run"
          refine ⟨_, _, rfl, dueD r, by rw [e]; exact dt2.mpr ⟨t9, _, _, rfl, ht9, rfl, rfl⟩, Dt.keep (ktr k7 k9) dud hv, dn7 dud, fun H10 k10 => ?_⟩
          have k610 : Kp (tabs K) No H6 H10 := ktr (ktr k7 k9) k10
          walk_at "run"
          exact ⟨_, _, _, _, _, _, _, _, rfl, B6.keep k610 (fun z => z) (fun z => z), k610.tab T6, k610.lst he6 (fun z => z), hAe6.keep k610 (di_jes hok), hS6.keep k610 (fun _ _ z => z)⟩
      · refine .inr (.inl ⟨js2, c, h1, h2, h3, h4, fun H8 k8 => ?_⟩)
        have e : dueD (.bad c) = .tuple [.str c, .int 0] := rfl
        refine ⟨c, by rcases h5 with rfl | rfl <;> decide, rfl, .inl ⟨rfl, by rcases h5 with rfl | rfl <;> decide, fun t9 H9 _ k9' ht9 => ?_⟩⟩
        have k9 : Kp (tabs K) No H7 H9 := ktr k8 k9'
        walk_at "run"
        refine ⟨_, _, rfl, dueD (.bad c), by rw [e]; exact dt2.mpr ⟨t9, _, _, rfl, ht9, rfl, rfl⟩, Dt.keep (ktr k7 k9) dud hv, dn7 dud, fun H10 k10 => ?_⟩
        have k610 : Kp (tabs K) No H6 H10 := ktr (ktr k7 k9) k10
        walk_at "run"
        exact ⟨_, _, _, _, _, _, _, _, rfl, B6.keep k610 (fun z => z) (fun z => z), k610.tab T6, k610.lst he6 (fun z => z), hAe6.keep k610 (di_jes hok), hS6.keep k610 (fun _ _ z => z)⟩
  · rintro σ' H' ⟨v4, v5, v6, v7, v8, v9, v10, v11, rfl, B', T', he', hA', hS'⟩
    walk_at "run"
    exact k H'
end
end W

end
section
namespace W
open PySem PySem.Spec PyProof.Rows L2 Cm
section
variable {P : Program} {w : World} {K : PySem.W.Frag} {mg : Str → Option Value} {base : Heap}
theorem ok_BadDeal_init (T : Tx w K mg) : DOk P w K mg base 1 ("BadDeal", some "__init__") ["self", "place"] (S_BadDeal_init K) := by
  refine dok_of (T.dfn 1 (d := d_BadDeal_init) rfl) sc_BadDeal_init (fun _ _ _ _ _ _ us hl => match us, hl with | [_, _], _ => rfl) len2 (fun cdv A outer s H vs Q E hr h => ⟨t_BadDeal_init K E, ?_, pure_BadDeal_init T vs H Q E h⟩)
  exact (pss_cons (ps_expr (pe_seinit (by rfl) T.g_StillError T.ini (pa_cons (pv 0) (pa_cons pe_str pa_nil))))
      (pss_one (ps_ost (pv 0) (pv 1))))
theorem ok_is_from (T : Tx w K mg) : DOk P w K mg base 1 ("is_from", none) ["number", "least", "most"] (S_is_from K) := by
  refine dok_of (T.dfn 4 (d := d_is_from) rfl) sc_is_from (fun _ _ _ _ _ _ us hl => match us, hl with | [_, _, _], _ => rfl) len3 (fun cdv A outer s H vs Q E hr h => ⟨t_is_from K E, ?_, pure_is_from vs H Q E h⟩)
  exact (pss_one (ps_ret (pe_chain op_le op_le (pv 1) (pv 0) (pv 2))))
theorem ok_is_put (T : Tx w K mg) : DOk P w K mg base 2 ("is_put", none) ["deed"] (S_is_put K) := by
  obtain ⟨fd_is_from, b_is_from, k_is_from, G_is_from, _⟩ := ok_is_from (P := P) (base := base) T
  obtain ⟨t_MOST_LIFE_, g_MOST_LIFE⟩ := T.i_MOST_LIFE
  obtain ⟨t_MOST_WORTH_, g_MOST_WORTH⟩ := T.i_MOST_WORTH
  refine dok_of (T.dfn 5 (d := d_is_put) rfl) sc_is_put (fun _ _ _ _ _ _ us hl => match us, hl with | [_], _ => rfl) len1 (fun cdv A outer s H vs Q E hr h => ⟨t_is_put K E, ?_, pure_is_put vs H Q E h⟩)
  exact (pss_one (ps_ret (pe_and (pe_cmpR (op_eqA hr.units) (pe_callB call_lenA (by rfl) T.n_len bt_len (pa_cons (pv 0) pa_nil)) pe_int (nomark _)) (pe_and (pe_call G_is_from (hr.mono (by omega)) (by rfl) T.g_is_from k_is_from b_is_from .nil (psG rfl rfl rfl rfl) (pa_cons (pe_ix (ix_any (hu_of hr)) (pv 0) pe_int (fun _ _ => rfl)) (pa_cons pe_int (pa_cons (pe_glob (by rfl) g_MOST_WORTH ⟨_, rfl⟩) pa_nil)))) (pe_one (pe_call G_is_from (hr.mono (by omega)) (by rfl) T.g_is_from k_is_from b_is_from .nil (psG rfl rfl rfl rfl) (pa_cons (pe_ix (ix_any (hu_of hr)) (pv 0) pe_int (fun _ _ => rfl)) (pa_cons pe_int (pa_cons (pe_glob (by rfl) g_MOST_LIFE ⟨_, rfl⟩) pa_nil)))))))))
theorem ok_is_if (T : Tx w K mg) : DOk P w K mg base 2 ("is_if", none) ["deed"] (S_is_if K) := by
  obtain ⟨fd_is_from, b_is_from, k_is_from, G_is_from, _⟩ := ok_is_from (P := P) (base := base) T
  obtain ⟨t_MOST_WORTH_, g_MOST_WORTH⟩ := T.i_MOST_WORTH
  refine dok_of (T.dfn 6 (d := d_is_if) rfl) sc_is_if (fun _ _ _ _ _ _ us hl => match us, hl with | [_], _ => rfl) len1 (fun cdv A outer s H vs Q E hr h => ⟨t_is_if K E, ?_, pure_is_if vs H Q E h⟩)
  exact (pss_one (ps_ret (pe_and (pe_cmpR (op_eqA hr.units) (pe_callB call_lenA (by rfl) T.n_len bt_len (pa_cons (pv 0) pa_nil)) pe_int (nomark _)) (pe_one (pe_or (pe_cmpR op_isNo (pe_ix (ix_any (hu_of hr)) (pv 0) pe_int (fun _ _ => rfl)) pe_non (nomark _)) (pe_one (pe_call G_is_from (hr.mono (by omega)) (by rfl) T.g_is_from k_is_from b_is_from .nil (psG rfl rfl rfl rfl) (pa_cons (pe_ix (ix_any (hu_of hr)) (pv 0) pe_int (fun _ _ => rfl)) (pa_cons pe_int (pa_cons (pe_glob (by rfl) g_MOST_WORTH ⟨_, rfl⟩) pa_nil))))))))))
theorem ok_is_deed (T : Tx w K mg) : DOk P w K mg base 3 ("is_deed", none) ["deed"] (S_is_deed K) := by
  obtain ⟨fd_is_from, b_is_from, k_is_from, G_is_from, _⟩ := ok_is_from (P := P) (base := base) T
  obtain ⟨fd_is_if, b_is_if, k_is_if, G_is_if, _⟩ := ok_is_if (P := P) (base := base) T
  obtain ⟨fd_is_put, b_is_put, k_is_put, G_is_put, _⟩ := ok_is_put (P := P) (base := base) T
  obtain ⟨t_KEYS_, g_KEYS⟩ := T.i_KEYS
  obtain ⟨t_MOST_WORTH_, g_MOST_WORTH⟩ := T.i_MOST_WORTH
  refine dok_of (T.dfn 7 (d := d_is_deed) rfl) sc_is_deed (fun _ _ _ _ _ _ us hl => match us, hl with | [_], _ => rfl) len1 (fun cdv A outer s H vs Q E hr h => ⟨t_is_deed K E, ?_, pure_is_deed vs H Q E h⟩)
  exact (pss_cons (ps_if (PW.pt (pw_or (pt_cmpR op_lt (pe_callB call_lenA (by rfl) T.n_len bt_len (pa_cons (pv 0) pa_nil)) pe_int (nomark _)) (pw_or (pt_cmpR (op_notInA hr.units) (pe_ix (ix_any (hu_of hr)) (pv 0) pe_int (fun _ _ => rfl)) (pe_tup (pa_cons pe_str (pa_cons pe_str (pa_cons pe_str (pa_cons pe_str pa_nil))))) (by rfl)) (pw_or1 (pt_not (pt_truth (pe_call G_is_from (hr.mono (by omega)) (by rfl) T.g_is_from k_is_from b_is_from .nil (psG rfl rfl rfl rfl) (pa_cons (pe_ix (ix_any (hu_of hr)) (pv 0) pe_int (fun _ _ => rfl)) (pa_cons pe_int (pa_cons (pe_op op_sub (pe_glob (by rfl) g_KEYS ⟨_, rfl⟩) pe_int) pa_nil)))) (by intro _; rfl))))))) (pss_one (ps_ret pe_bl)) pss_nil)
      (pss_cons (ps_if (pt_cmpR (op_eqA hr.units) (pe_ix (ix_any (hu_of hr)) (pv 0) pe_int (fun _ _ => rfl)) pe_str (nomark _)) (pss_one (ps_ret (pe_call G_is_put (hr.mono (by omega)) (by rfl) T.g_is_put k_is_put b_is_put .nil (psG rfl rfl rfl rfl) (pa_cons (pv 0) pa_nil)))) pss_nil)
      (pss_cons (ps_if (pt_cmpR (op_eqA hr.units) (pe_ix (ix_any (hu_of hr)) (pv 0) pe_int (fun _ _ => rfl)) pe_str (nomark _)) (pss_one (ps_ret (pe_call G_is_if (hr.mono (by omega)) (by rfl) T.g_is_if k_is_if b_is_if .nil (psG rfl rfl rfl rfl) (pa_cons (pv 0) pa_nil)))) pss_nil)
      (pss_cons (ps_if (pt_cmpR (op_eqA hr.units) (pe_ix (ix_any (hu_of hr)) (pv 0) pe_int (fun _ _ => rfl)) pe_str (nomark _)) (pss_one (ps_ret (pe_cmpR (op_eqA hr.units) (pe_callB call_lenA (by rfl) T.n_len bt_len (pa_cons (pv 0) pa_nil)) pe_int (nomark _)))) pss_nil)
      (pss_one (ps_ret (pe_and (pe_cmpR (op_eqA hr.units) (pe_callB call_lenA (by rfl) T.n_len bt_len (pa_cons (pv 0) pa_nil)) pe_int (nomark _)) (pe_one (pe_call G_is_from (hr.mono (by omega)) (by rfl) T.g_is_from k_is_from b_is_from .nil (psG rfl rfl rfl rfl) (pa_cons (pe_ix (ix_any (hu_of hr)) (pv 0) pe_int (fun _ _ => rfl)) (pa_cons (pe_op op_sub pe_int (pe_glob (by rfl) g_MOST_WORTH ⟨_, rfl⟩)) (pa_cons (pe_glob (by rfl) g_MOST_WORTH ⟨_, rfl⟩) pa_nil))))))))))))
theorem ok_need_deal (T : Tx w K mg) : DOk P w K mg base 4 ("need_deal", none) ["deeds"] (S_need_deal K) := by
  obtain ⟨fd_BadDeal_init, b_BadDeal_init, k_BadDeal_init, G_BadDeal_init, _⟩ := ok_BadDeal_init (P := P) (base := base) T
  obtain ⟨fd_is_deed, b_is_deed, k_is_deed, G_is_deed, _⟩ := ok_is_deed (P := P) (base := base) T
  obtain ⟨t_MOST_DEEDS_, g_MOST_DEEDS⟩ := T.i_MOST_DEEDS
  refine dok_of (T.dfn 8 (d := d_need_deal) rfl) sc_need_deal (fun _ _ _ _ _ _ us hl => match us, hl with | [_], _ => rfl) len1 (fun cdv A outer s H vs Q E hr h => ⟨t_need_deal K E, ?_, pure_need_deal vs H Q E h⟩)
  exact (pss_cons (ps_for (passes_of rfl) rfl (pi_enumA (by rfl) T.n_enumerate (pa_cons (pv 0) pa_nil)) (pg_tup (by rfl) (pgs_cons (pg_name (i := 1) sc_need_deal.nd rfl (by first | exact Or.inl rfl | exact Or.inr rfl)) (pgs_cons (pg_name (i := 2) sc_need_deal.nd rfl (by first | exact Or.inl rfl | exact Or.inr rfl)) pgs_nil))) (pss_one (ps_if (PW.pt (pw_or (pt_cmpR op_ge (pv 1) (pe_glob (by rfl) g_MOST_DEEDS ⟨_, rfl⟩) (nomark _)) (pw_or1 (pt_not (pt_truth (pe_call G_is_deed (hr.mono (by omega)) (by rfl) T.g_is_deed k_is_deed b_is_deed .nil (psG rfl rfl rfl rfl) (pa_cons (pv 2) pa_nil)) (by intro _; rfl)))))) (pss_one (L2N.ps_raise rfl (L2N.takes_of rfl rfl rfl rfl) (pmkN_oex T.x_BadDeal.ox T.x_BadDeal.iC T.x_BadDeal.tI G_BadDeal_init (hr.mono (by omega)) b_BadDeal_init psN (by rfl) T.g_BadDeal (pa_cons (pv 1) pa_nil)))) pss_nil)))
      (pss_one (ps_if (pt_cmpR (op_eqA hr.units) (pe_callB call_lenA (by rfl) T.n_len bt_len (pa_cons (pv 0) pa_nil)) pe_int (nomark _)) (pss_one (L2N.ps_raise rfl (L2N.takes_of rfl rfl rfl rfl) (pmkN_oex T.x_BadDeal.ox T.x_BadDeal.iC T.x_BadDeal.tI G_BadDeal_init (hr.mono (by omega)) b_BadDeal_init psN (by rfl) T.g_BadDeal (pa_cons pe_int pa_nil)))) pss_nil)))
theorem ok_need_hand (T : Tx w K mg) : DOk P w K mg base 2 ("need_hand", none) ["hand"] (S_need_hand K) := by
  obtain ⟨fd_is_from, b_is_from, k_is_from, G_is_from, _⟩ := ok_is_from (P := P) (base := base) T
  obtain ⟨t_HANDS_, g_HANDS⟩ := T.i_HANDS
  refine dok_of (T.dfn 9 (d := d_need_hand) rfl) sc_need_hand (fun _ _ _ _ _ _ us hl => match us, hl with | [_], _ => rfl) len1 (fun cdv A outer s H vs Q E hr h => ⟨t_need_hand K E, ?_, pure_need_hand vs H Q E h⟩)
  exact (pss_one (ps_if (pt_not (pt_truth (pe_call G_is_from (hr.mono (by omega)) (by rfl) T.g_is_from k_is_from b_is_from .nil (psG rfl rfl rfl rfl) (pa_cons (pv 0) (pa_cons pe_int (pa_cons (pe_op op_sub (pe_glob (by rfl) g_HANDS ⟨_, rfl⟩) pe_int) pa_nil)))) (by intro _; rfl))) (pss_one (L2N.ps_raise rfl (L2N.takes_of rfl rfl rfl rfl) (L2N.pmk_own PySem.F.excBase_ValueError T.x_BadHand T.g_BadHand T.k_BadHand (raises_own T.xb_BadHand T.xt_BadHand) (by rfl)))) pss_nil))
theorem ok_need_key (T : Tx w K mg) : DOk P w K mg base 2 ("need_key", none) ["key"] (S_need_key K) := by
  obtain ⟨fd_is_from, b_is_from, k_is_from, G_is_from, _⟩ := ok_is_from (P := P) (base := base) T
  obtain ⟨t_KEYS_, g_KEYS⟩ := T.i_KEYS
  refine dok_of (T.dfn 10 (d := d_need_key) rfl) sc_need_key (fun _ _ _ _ _ _ us hl => match us, hl with | [_], _ => rfl) len1 (fun cdv A outer s H vs Q E hr h => ⟨t_need_key K E, ?_, pure_need_key vs H Q E h⟩)
  exact (pss_one (ps_if (pt_not (pt_truth (pe_call G_is_from (hr.mono (by omega)) (by rfl) T.g_is_from k_is_from b_is_from .nil (psG rfl rfl rfl rfl) (pa_cons (pv 0) (pa_cons pe_int (pa_cons (pe_op op_sub (pe_glob (by rfl) g_KEYS ⟨_, rfl⟩) pe_int) pa_nil)))) (by intro _; rfl))) (pss_one (L2N.ps_raise rfl (L2N.takes_of rfl rfl rfl rfl) (L2N.pmk_own PySem.F.excBase_ValueError T.x_BadKey T.g_BadKey T.k_BadKey (raises_own T.xb_BadKey T.xt_BadKey) (by rfl)))) pss_nil))
theorem ok_shown_row (T : Tx w K mg) : DOk P w K mg base 1 ("shown_row", none) ["row", "moment"] (S_shown_row K) := by
  refine dok_of (T.dfn 11 (d := d_shown_row) rfl) sc_shown_row (fun _ _ _ _ _ _ us hl => match us, hl with | [_, _], _ => rfl) len2 (fun cdv A outer s H vs Q E hr h => ⟨t_shown_row K E, ?_, pure_shown_row vs H Q E h⟩)
  exact (pss_cons (ps_if (PW.pt (pw_or (pt_cmpR op_isNo (pv 0) pe_non (nomark _)) (pw_or1 (pt_cmpR op_isNo (pe_ix (ix_any (hu_of hr)) (pv 0) pe_int (fun _ _ => rfl)) pe_non (nomark _))))) (pss_one (ps_ret pe_non)) pss_nil)
      (pss_one (ps_ret (pe_ifExp (PW.pt (pw_or (pt_cmpR (op_eqA hr.units) (pe_ix (ix_any (hu_of hr)) (pv 0) pe_int (fun _ _ => rfl)) pe_int (nomark _)) (pw_or1 (pt_cmpR op_gt (pe_ix (ix_any (hu_of hr)) (pv 0) pe_int (fun _ _ => rfl)) (pv 1) (nomark _))))) (pe_ix (ix_any (hu_of hr)) (pv 0) pe_int (fun _ _ => rfl)) pe_non))))
theorem ok_row_behind (T : Tx w K mg) : DOk P w K mg base 2 ("row_behind", none) ["deed", "row", "moment"] (S_row_behind K) := by
  obtain ⟨fd_is_from, b_is_from, k_is_from, G_is_from, _⟩ := ok_is_from (P := P) (base := base) T
  obtain ⟨fd_shown_row, b_shown_row, k_shown_row, G_shown_row, _⟩ := ok_shown_row (P := P) (base := base) T
  obtain ⟨t_MOST_WORTH_, g_MOST_WORTH⟩ := T.i_MOST_WORTH
  refine dok_of (T.dfn 12 (d := d_row_behind) rfl) sc_row_behind (fun _ _ _ _ _ _ us hl => match us, hl with | [_, _, _], _ => rfl) len3 (fun cdv A outer s H vs Q E hr h => ⟨t_row_behind K E, ?_, pure_row_behind vs H Q E h⟩)
  exact (pss_cons (ps_set (i := 3) sc_row_behind.nd rfl (by first | exact Or.inl rfl | exact Or.inr rfl) (pe_call G_shown_row (hr.mono (by omega)) (by rfl) T.g_shown_row k_shown_row b_shown_row .nil (psG rfl rfl rfl rfl) (pa_cons (pv 1) (pa_cons (pv 2) pa_nil))))
      (pss_cons (ps_if (pt_cmpR (op_eqA hr.units) (pe_ix (ix_any (hu_of hr)) (pv 0) pe_int (fun _ _ => rfl)) pe_str (nomark _)) (pss_one (ps_ret (pe_tup (pa_cons (pe_ix (ix_any (hu_of hr)) (pv 0) pe_int (fun _ _ => rfl)) (pa_cons (pe_ifExp (pt_cmpR op_gt (pe_ix (ix_any (hu_of hr)) (pv 0) pe_int (fun _ _ => rfl)) pe_int (nomark _)) (pe_op op_addA (pv 2) (pe_ix (ix_any (hu_of hr)) (pv 0) pe_int (fun _ _ => rfl))) pe_int) pa_nil))))) pss_nil)
      (pss_cons (ps_if (pt_cmpR (op_eqA hr.units) (pe_ix (ix_any (hu_of hr)) (pv 0) pe_int (fun _ _ => rfl)) pe_str (nomark _)) (pss_one (ps_ret (pe_tup (pa_cons pe_non (pa_cons pe_int pa_nil))))) pss_nil)
      (pss_cons (ps_if (pt_cmpR (op_eqA hr.units) (pe_ix (ix_any (hu_of hr)) (pv 0) pe_int (fun _ _ => rfl)) pe_str (nomark _)) (pss_one (ps_ret (pe_ifExp (pt_cmpR (op_eqA hr.units) (pv 3) (pe_ix (ix_any (hu_of hr)) (pv 0) pe_int (fun _ _ => rfl)) (nomark _)) (pe_ifExp (pt_cmpR op_notNo (pv 1) pe_non (nomark _)) (pv 1) (pe_tup (pa_cons pe_non (pa_cons pe_int pa_nil)))) pe_non))) pss_nil)
      (pss_cons (ps_if (PW.pt (pw_or (pt_cmpR op_isNo (pv 3) pe_non (nomark _)) (pw_or1 (pt_not (pt_truth (pe_call G_is_from (hr.mono (by omega)) (by rfl) T.g_is_from k_is_from b_is_from .nil (psG rfl rfl rfl rfl) (pa_cons (pe_op op_addA (pv 3) (pe_ix (ix_any (hu_of hr)) (pv 0) pe_int (fun _ _ => rfl))) (pa_cons pe_int (pa_cons (pe_glob (by rfl) g_MOST_WORTH ⟨_, rfl⟩) pa_nil)))) (by intro _; rfl)))))) (pss_one (ps_ret pe_non)) pss_nil)
      (pss_one (ps_ret (pe_tup (pa_cons (pe_op op_addA (pv 3) (pe_ix (ix_any (hu_of hr)) (pv 0) pe_int (fun _ _ => rfl))) (pa_cons (pe_ix (ix_any (hu_of hr)) (pv 1) pe_int (fun _ _ => rfl)) pa_nil))))))))))
theorem ok_page_of (T : Tx w K mg) : DOk P w K mg base 1 ("page_of", none) ["key"] (S_page_of K) := by
  obtain ⟨t_PER_PAGE_, g_PER_PAGE⟩ := T.i_PER_PAGE
  refine dok_of (T.dfn 14 (d := d_page_of) rfl) sc_page_of (fun _ _ _ _ _ _ us hl => match us, hl with | [_], _ => rfl) len1 (fun cdv A outer s H vs Q E hr h => ⟨t_page_of K E, ?_, pure_page_of vs H Q E h⟩)
  exact (pss_one (ps_ret (pe_op op_fdivW (pv 0) (pe_glob (by rfl) g_PER_PAGE ⟨_, rfl⟩))))
theorem ok_pages_of (T : Tx w K mg) : DOk P w K mg base 2 ("pages_of", none) ["entry"] (S_pages_of K) := by
  obtain ⟨fd_page_of, b_page_of, k_page_of, G_page_of, _⟩ := ok_page_of (P := P) (base := base) T
  obtain ⟨t_HANDS_PAGE_, g_HANDS_PAGE⟩ := T.i_HANDS_PAGE
  refine dok_of (T.dfn 15 (d := d_pages_of) rfl) sc_pages_of (fun _ _ _ _ _ _ us hl => match us, hl with | [_], _ => rfl) len1 (fun cdv A outer s H vs Q E hr h => ⟨t_pages_of K w E, ?_, pure_pages_of vs H Q E h⟩)
  exact (pss_cons (ps_if (pt_cmpR (op_eqA hr.units) (pe_ix (ix_any (hu_of hr)) (pv 0) pe_int (fun _ _ => rfl)) pe_str (nomark _)) (pss_one (ps_ret (pe_lst (pa_cons (pe_glob (by rfl) g_HANDS_PAGE ⟨_, rfl⟩) pa_nil)))) pss_nil)
      (pss_one (ps_ret (pe_op op_addA (pe_callB (cr_sortedSet rfl) (by rfl) T.n_sorted bt_sorted (pa_cons (pe_callTy (call_setL rfl) (by rfl) T.n_set bt_set (pa_cons (pe_lc (own := [("row", 1)]) (g := (gName 1)) (tt := tYes) (by rfl) sc_pages_of.nd (pi_seq (pe_ix (ix_any (hu_of hr)) (pv 0) pe_int (fun _ _ => rfl))) (blkOk_by (own := [("row", 1)]) (N := N_pages_of) (sc := defScope s_pages_of) (by decide +kernel)) (fun _ _ _ _ _ => (pg_name (i := 1) sc_pages_of.nd rfl (by first | exact Or.inl rfl | exact Or.inr rfl))) (fun _ _ _ _ _ => pts_nil) (fun _ _ _ _ _ => (pe_call G_page_of (hr.mono (by omega)) (by rfl) T.g_page_of k_page_of b_page_of .nil psN (pa_cons (pe_ix (ix_any (hu_of hr)) (pv 1) pe_int (fun _ _ => rfl)) pa_nil)))) pa_nil)) pa_nil)) (pe_lst (pa_cons (pe_glob (by rfl) g_HANDS_PAGE ⟨_, rfl⟩) pa_nil))))))
theorem ok_Table_init (T : Tx w K mg) : DOk P w K mg base 1 ("Table", some "__init__") ["self"] (S_Table_init K) := by
  obtain ⟨t_ROW_PAGES_, g_ROW_PAGES⟩ := T.i_ROW_PAGES
  refine dok_of (T.dfn 16 (d := d_Table_init) rfl) sc_Table_init (fun _ _ _ _ _ _ us hl => match us, hl with | [_], _ => rfl) len1 (fun cdv A outer s H vs Q E hr h => ⟨t_Table_init K E, ?_, pure_Table_init T vs H Q E h⟩)
  exact (pss_cons (ps_fld (pv 0) (pe_lc (own := [("page", 1)]) (g := (gName 1)) (tt := tYes) (by rfl) sc_Table_init.nd (pi_range1 (by rfl) T.n_range (pa_cons (pe_glob (by rfl) g_ROW_PAGES ⟨_, rfl⟩) pa_nil)) (blkOk_by (own := [("page", 1)]) (N := N_Table_init) (sc := defScope s_Table_init) (by decide +kernel)) (fun _ _ _ _ _ => (pg_name (i := 1) sc_Table_init.nd rfl (by first | exact Or.inl rfl | exact Or.inr rfl))) (fun _ _ _ _ _ => pts_nil) (fun _ _ _ _ _ => pe_dnewK)) rfl)
      (pss_cons (ps_fld (pv 0) pe_dnewK rfl)
      (pss_cons (ps_fld (pv 0) pe_int rfl)
      (pss_one (ps_fld (pv 0) pe_int rfl)))))
theorem ok_Table_row_at (T : Tx w K mg) : DOk P w K mg base 2 ("Table", some "row_at") ["self", "key"] (S_Table_row_at K) := by
  obtain ⟨fd_page_of, b_page_of, k_page_of, G_page_of, _⟩ := ok_page_of (P := P) (base := base) T
  refine dok_of (T.dfn 17 (d := d_Table_row_at) rfl) sc_Table_row_at (fun _ _ _ _ _ _ us hl => match us, hl with | [_, _], _ => rfl) len2 (fun cdv A outer s H vs Q E hr h => ⟨t_Table_row_at K E, ?_, pure_Table_row_at T vs H Q E h⟩)
  exact (pss_one (ps_ret (pe_dget2 (hu_of hr) (pe_ix (ix_any (hu_of hr)) (pe_fld (pv 0) rfl) (pe_call G_page_of (hr.mono (by omega)) (by rfl) T.g_page_of k_page_of b_page_of .nil (psG rfl rfl rfl rfl) (pa_cons (pv 1) pa_nil)) (fun _ _ => rfl)) (pv 1) pe_non ⟨rfl, rfl, rfl, rfl⟩)))
theorem ok_effects_of (T : Tx w K mg) : DOk P w K mg base 3 ("effects_of", none) ["deeds", "table"] (S_effects_of K) := by
  obtain ⟨fd_Table_row_at, b_Table_row_at, k_Table_row_at, G_Table_row_at, _⟩ := ok_Table_row_at (P := P) (base := base) T
  obtain ⟨fd_row_behind, b_row_behind, k_row_behind, G_row_behind, _⟩ := ok_row_behind (P := P) (base := base) T
  refine dok_of (T.dfn 13 (d := d_effects_of) rfl) sc_effects_of (fun _ _ _ _ _ _ us hl => match us, hl with | [_, _], _ => rfl) len2 (fun cdv A outer s H vs Q E hr h => ⟨t_effects_of K E, ?_, pure_effects_of T vs H Q E h⟩)
  exact (pss_cons (ps_set (i := 2) sc_effects_of.nd rfl (by first | exact Or.inl rfl | exact Or.inr rfl) pe_dnewK)
      (pss_cons (ps_for (passes_of rfl) rfl (pi_seq (pv 0)) (pg_name (i := 3) sc_effects_of.nd rfl (by first | exact Or.inl rfl | exact Or.inr rfl)) (pss_cons (ps_set (i := 4) sc_effects_of.nd rfl (by first | exact Or.inl rfl | exact Or.inr rfl) (pe_ix (ix_any (hu_of hr)) (pv 3) pe_int (fun _ _ => rfl)))
      (pss_cons (ps_set (i := 5) sc_effects_of.nd rfl (by first | exact Or.inl rfl | exact Or.inr rfl) (pe_call G_row_behind (hr.mono (by omega)) (by rfl) T.g_row_behind k_row_behind b_row_behind .nil (psG rfl rfl rfl rfl) (pa_cons (pv 3) (pa_cons (pe_ifExp (pt_cmpR (op_inA hr.units) (pv 4) (pv 2) (by rfl)) (pe_ix (ix_any (hu_of hr)) (pv 2) (pv 4) (fun _ _ => rfl)) (pe_meth (pv 1) T.c_Table T.m_Table_row_at G_Table_row_at (hr.mono (by omega)) b_Table_row_at .nil (psG rfl rfl rfl rfl) (pa_cons (pv 4) pa_nil))) (pa_cons (pe_fld (pv 1) rfl) pa_nil)))))
      (pss_cons (ps_if (pt_cmpR op_isNo (pv 5) pe_non (nomark _)) (pss_one (ps_ret (pe_tup (pa_cons pe_bl (pa_cons (pe_tup pa_nil) pa_nil))))) pss_nil)
      (pss_one (ps_if (pt_cmpR (op_neA hr.units) (pe_ix (ix_any (hu_of hr)) (pv 3) pe_int (fun _ _ => rfl)) pe_str (nomark _)) (pss_one (ps_asg (pv 5) (pg_sub (pv 2) (pv 4) (set_any (hu_of hr))))) pss_nil))))))
      (pss_one (ps_ret (pe_tup (pa_cons pe_bl (pa_cons (pe_callTy call_tuple_of (by rfl) T.n_tuple bt_tuple (pa_cons (pe_lc (own := [("key", 4)]) (g := (gName 4)) (tt := tYes) (by rfl) sc_effects_of.nd (pi_seq (pe_callB (cl_sortD rfl) (by rfl) T.n_sorted bt_sorted (pa_cons (pv 2) pa_nil))) (blkOk_by (own := [("key", 4)]) (N := N_effects_of) (sc := defScope s_effects_of) (by decide +kernel)) (fun _ _ _ _ _ => (pg_name (i := 4) sc_effects_of.nd rfl (by first | exact Or.inl rfl | exact Or.inr rfl))) (fun _ _ _ _ _ => pts_nil) (fun _ _ _ _ _ => (pe_op op_addA (pe_tup (pa_cons (pv 4) pa_nil)) (pe_ix (ix_any (hu_of hr)) (pv 2) (pv 4) (fun _ _ => rfl))))) pa_nil)) pa_nil)))))))
theorem ok_Table_shown (T : Tx w K mg) : DOk P w K mg base 3 ("Table", some "shown") ["self", "key"] (S_Table_shown K) := by
  obtain ⟨fd_Table_row_at, b_Table_row_at, k_Table_row_at, G_Table_row_at, _⟩ := ok_Table_row_at (P := P) (base := base) T
  obtain ⟨fd_shown_row, b_shown_row, k_shown_row, G_shown_row, _⟩ := ok_shown_row (P := P) (base := base) T
  refine dok_of (T.dfn 18 (d := d_Table_shown) rfl) sc_Table_shown (fun _ _ _ _ _ _ us hl => match us, hl with | [_, _], _ => rfl) len2 (fun cdv A outer s H vs Q E hr h => ⟨t_Table_shown K E, ?_, pure_Table_shown T vs H Q E h⟩)
  exact (pss_one (ps_ret (pe_call G_shown_row (hr.mono (by omega)) (by rfl) T.g_shown_row k_shown_row b_shown_row .nil (psG rfl rfl rfl rfl) (pa_cons (pe_meth (pv 0) T.c_Table T.m_Table_row_at G_Table_row_at (hr.mono (by omega)) b_Table_row_at .nil (psG rfl rfl rfl rfl) (pa_cons (pv 1) pa_nil)) (pa_cons (pe_fld (pv 0) rfl) pa_nil)))))
theorem ok_Table_change (T : Tx w K mg) : DOk P w K mg base 2 ("Table", some "change") ["self", "entry", "page"] (S_Table_change K) := by
  obtain ⟨fd_page_of, b_page_of, k_page_of, G_page_of, _⟩ := ok_page_of (P := P) (base := base) T
  obtain ⟨t_HANDS_PAGE_, g_HANDS_PAGE⟩ := T.i_HANDS_PAGE
  refine dok_of (T.dfn 22 (d := d_Table_change) rfl) sc_Table_change (fun _ _ _ _ _ _ us hl => match us, hl with | [_, _, _], _ => rfl) len3 (fun cdv A outer s H vs Q E hr h => ⟨t_Table_change K E, ?_, pure_Table_change T vs H Q E h⟩)
  exact (pss_one (ps_if (pt_cmpR (op_neA hr.units) (pv 2) (pe_glob (by rfl) g_HANDS_PAGE ⟨_, rfl⟩) (nomark _)) (pss_one (ps_for (passes_of rfl) rfl (pi_seq (pe_ix (ix_any (hu_of hr)) (pv 1) pe_int (fun _ _ => rfl))) (pg_tup (by rfl) (pgs_cons (pg_name (i := 3) sc_Table_change.nd rfl (by first | exact Or.inl rfl | exact Or.inr rfl)) (pgs_cons (pg_name (i := 4) sc_Table_change.nd rfl (by first | exact Or.inl rfl | exact Or.inr rfl)) (pgs_cons (pg_name (i := 5) sc_Table_change.nd rfl (by first | exact Or.inl rfl | exact Or.inr rfl)) pgs_nil)))) (pss_one (ps_if (pt_cmpR (op_eqA hr.units) (pe_call G_page_of (hr.mono (by omega)) (by rfl) T.g_page_of k_page_of b_page_of .nil (psG rfl rfl rfl rfl) (pa_cons (pv 3) pa_nil)) (pv 2) (nomark _)) (pss_cons (ps_asg (pe_tup (pa_cons (pv 4) (pa_cons (pv 5) pa_nil))) (pg_sub (pe_ix (ix_any (hu_of hr)) (pe_fld (pv 0) rfl) (pv 2) (fun _ _ => rfl)) (pv 3) (set_any (hu_of hr))))
      (pss_one (ps_if (pt_cmpR op_isNo (pv 4) pe_non (nomark _)) (pss_one (ps_expr (pe_dpop1 (pe_ix (ix_any (hu_of hr)) (pe_fld (pv 0) rfl) (pv 2) (fun _ _ => rfl)) (pv 3) ⟨rfl, rfl, rfl, rfl⟩))) pss_nil))) pss_nil)))) (pss_one (ps_if (pt_cmpR (op_eqA hr.units) (pe_ix (ix_any (hu_of hr)) (pv 1) pe_int (fun _ _ => rfl)) pe_str (nomark _)) (pss_one (ps_fld (pv 0) (pe_ix (ix_any (hu_of hr)) (pv 1) pe_int (fun _ _ => rfl)) rfl)) (pss_one (ps_asg (pe_tup (pa_cons (pe_ix (ix_any (hu_of hr)) (pv 1) pe_int (fun _ _ => rfl)) (pa_cons (pe_ix (ix_any (hu_of hr)) (pv 1) pe_int (fun _ _ => rfl)) (pa_cons (pe_ix (ix_any (hu_of hr)) (pv 1) pe_int (fun _ _ => rfl)) pa_nil)))) (pg_sub (pe_fld (pv 0) rfl) (pe_ix (ix_any (hu_of hr)) (pv 1) pe_int (fun _ _ => rfl)) (set_any (hu_of hr)))))))))
end
end W

end
section
namespace W
open PySem PySem.Spec PyProof.Rows L2 Cm
section
variable {P : Program} {w : World} {K : PySem.W.Frag} {mg : Str → Option Value} {base : Heap}
theorem ok_need_entry (T : Tx w K mg) : DOk P w K mg base 5 ("need_entry", none) ["entry", "moment"] (S_need_entry K) := by
  obtain ⟨fd_need_deal, b_need_deal, k_need_deal, G_need_deal, _⟩ := ok_need_deal (P := P) (base := base) T
  obtain ⟨fd_need_hand, b_need_hand, k_need_hand, G_need_hand, _⟩ := ok_need_hand (P := P) (base := base) T
  obtain ⟨t_MOST_MOMENT_, g_MOST_MOMENT⟩ := T.i_MOST_MOMENT
  refine dok_of (T.dfn 24 (d := d_need_entry) rfl) sc_need_entry (fun _ _ _ _ _ _ us hl => match us, hl with | [_, _], _ => rfl) len2 (fun cdv A outer s H vs Q E hr h => ⟨t_need_entry K E, ?_, pure_need_entry vs H Q E h⟩)
  exact (pss_cons (ps_if (PW.pt (pw_and (pt_cmpR (op_eqA hr.units) (pe_callB call_lenA (by rfl) T.n_len bt_len (pa_cons (pv 0) pa_nil)) pe_int (nomark _)) (pw_and1 (pt_cmpR (op_eqA hr.units) (pe_ix (ix_any (hu_of hr)) (pv 0) pe_int (fun _ _ => rfl)) pe_str (nomark _))))) (pss_cons (ps_if (pt_not (pt_chain op_lt op_le (pv 1) (pe_ix (ix_any (hu_of hr)) (pv 0) pe_int (fun _ _ => rfl)) (pe_glob (by rfl) g_MOST_MOMENT ⟨_, rfl⟩))) (pss_one (L2N.ps_raise rfl (L2N.takes_of rfl rfl rfl rfl) (L2N.pmk_own PySem.F.excBase_ValueError T.x_BadEntry T.g_BadEntry T.k_BadEntry (raises_own T.xb_BadEntry T.xt_BadEntry) (by rfl)))) pss_nil)
      (pss_one (ps_ret (pe_ix (ix_any (hu_of hr)) (pv 0) pe_int (fun _ _ => rfl))))) pss_nil)
      (pss_cons (ps_if (PW.pt (pw_or (pt_cmpR (op_neA hr.units) (pe_callB call_lenA (by rfl) T.n_len bt_len (pa_cons (pv 0) pa_nil)) pe_int (nomark _)) (pw_or1 (pt_cmpR (op_neA hr.units) (pe_ix (ix_any (hu_of hr)) (pv 0) pe_int (fun _ _ => rfl)) pe_str (nomark _))))) (pss_one (L2N.ps_raise rfl (L2N.takes_of rfl rfl rfl rfl) (L2N.pmk_own PySem.F.excBase_ValueError T.x_BadEntry T.g_BadEntry T.k_BadEntry (raises_own T.xb_BadEntry T.xt_BadEntry) (by rfl)))) pss_nil)
      (pss_cons (ps_expr (pe_call G_need_hand (hr.mono (by omega)) (by rfl) T.g_need_hand k_need_hand b_need_hand .nil (psG rfl rfl rfl rfl) (pa_cons (pe_ix (ix_any (hu_of hr)) (pv 0) pe_int (fun _ _ => rfl)) pa_nil)))
      (pss_cons (ps_expr (pe_call G_need_deal (hr.mono (by omega)) (by rfl) T.g_need_deal k_need_deal b_need_deal .nil (psG rfl rfl rfl rfl) (pa_cons (pe_ix (ix_any (hu_of hr)) (pv 0) pe_int (fun _ _ => rfl)) pa_nil)))
      (pss_one (ps_ret (pv 1)))))))
theorem ok_tables_of (T : Tx w K mg) : DOk P w K mg base 4 ("tables_of", none) ["entries"] (S_tables_of K) := by
  obtain ⟨fd_Table_change, b_Table_change, k_Table_change, G_Table_change, _⟩ := ok_Table_change (P := P) (base := base) T
  obtain ⟨fd_Table_init, b_Table_init, k_Table_init, G_Table_init, _⟩ := ok_Table_init (P := P) (base := base) T
  obtain ⟨fd_Table_shown, b_Table_shown, k_Table_shown, G_Table_shown, _⟩ := ok_Table_shown (P := P) (base := base) T
  obtain ⟨fd_effects_of, b_effects_of, k_effects_of, G_effects_of, _⟩ := ok_effects_of (P := P) (base := base) T
  obtain ⟨fd_pages_of, b_pages_of, k_pages_of, G_pages_of, _⟩ := ok_pages_of (P := P) (base := base) T
  refine dok_of (T.dfn 25 (d := d_tables_of) rfl) sc_tables_of (fun _ _ _ _ _ _ us hl => match us, hl with | [_], _ => rfl) len1 (fun cdv A outer s H vs Q E hr h => ⟨t_tables_of K E, ?_, pure_tables_of T vs H Q E h⟩)
  exact (pss_cons (ps_set (i := 1) sc_tables_of.nd rfl (by first | exact Or.inl rfl | exact Or.inr rfl) (pe_make0 T.mk_Table G_Table_init (hr.mono (by omega)) (by rfl) T.g_Table b_Table_init .nil (psG rfl rfl rfl rfl)))
      (pss_cons (ps_set (i := 2) sc_tables_of.nd rfl (by first | exact Or.inl rfl | exact Or.inr rfl) (pe_lst (pa_cons (pe_lc (own := [("key", 3)]) (g := (gName 3)) (tt := tYes) (by rfl) sc_tables_of.nd (pi_range1 (by rfl) T.n_range (pa_cons pe_int pa_nil)) (blkOk_by (own := [("key", 3)]) (N := N_tables_of) (sc := defScope s_tables_of) (by decide +kernel)) (fun _ _ _ _ _ => (pg_name (i := 3) sc_tables_of.nd rfl (by first | exact Or.inl rfl | exact Or.inr rfl))) (fun _ _ _ _ _ => pts_nil) (fun _ _ _ _ _ => pe_non)) pa_nil)))
      (pss_cons (ps_for (passes_of rfl) rfl (pi_enumA (by rfl) T.n_enumerate (pa_cons (pv 0) pa_nil)) (pg_tup (by rfl) (pgs_cons (pg_name (i := 4) sc_tables_of.nd rfl (by first | exact Or.inl rfl | exact Or.inr rfl)) (pgs_cons (pg_name (i := 5) sc_tables_of.nd rfl (by first | exact Or.inl rfl | exact Or.inr rfl)) pgs_nil))) (pss_cons (ps_if (pt_cmpR (op_eqA hr.units) (pe_ix (ix_any (hu_of hr)) (pv 5) pe_int (fun _ _ => rfl)) pe_str (nomark _)) (pss_one (ps_set (i := 6) sc_tables_of.nd rfl (by first | exact Or.inl rfl | exact Or.inr rfl) (pe_tup (pa_cons pe_str (pa_cons (pe_op op_addA (pv 4) pe_int) (pa_cons (pe_ix (ix_any (hu_of hr)) (pv 5) pe_int (fun _ _ => rfl)) pa_nil)))))) (pss_cons (ps_asg (pe_call G_effects_of (hr.mono (by omega)) (by rfl) T.g_effects_of k_effects_of b_effects_of .nil (psG rfl rfl rfl rfl) (pa_cons (pe_ix (ix_any (hu_of hr)) (pv 5) pe_int (fun _ _ => rfl)) (pa_cons (pv 1) pa_nil))) (pg_tup (by rfl) (pgs_cons (pg_name (i := 7) sc_tables_of.nd rfl (by first | exact Or.inl rfl | exact Or.inr rfl)) (pgs_cons (pg_name (i := 8) sc_tables_of.nd rfl (by first | exact Or.inl rfl | exact Or.inr rfl)) pgs_nil))))
      (pss_one (ps_set (i := 6) sc_tables_of.nd rfl (by first | exact Or.inl rfl | exact Or.inr rfl) (pe_tup (pa_cons pe_str (pa_cons (pe_op op_addA (pv 4) pe_int) (pa_cons (pe_ix (ix_any (hu_of hr)) (pv 5) pe_int (fun _ _ => rfl)) (pa_cons pe_int (pa_cons (pv 7) (pa_cons (pv 8) pa_nil)))))))))))
      (pss_cons (ps_for (passes_of rfl) rfl (pi_seq (pe_call G_pages_of (hr.mono (by omega)) (by rfl) T.g_pages_of k_pages_of b_pages_of .nil (psG rfl rfl rfl rfl) (pa_cons (pv 6) pa_nil))) (pg_name (i := 9) sc_tables_of.nd rfl (by first | exact Or.inl rfl | exact Or.inr rfl)) (pss_one (ps_expr (pe_meth (pv 1) T.c_Table T.m_Table_change G_Table_change (hr.mono (by omega)) b_Table_change .nil (psG rfl rfl rfl rfl) (pa_cons (pv 6) (pa_cons (pv 9) pa_nil))))))
      (pss_one (ps_expr (pe_bm PySem.F.plainAttrs_list PySem.F.slot_list_append PySem.F.type_list_append mt_append (pv 2) (pa_cons (pe_lc (own := [("key", 3)]) (g := (gName 3)) (tt := tYes) (by rfl) sc_tables_of.nd (pi_range1 (by rfl) T.n_range (pa_cons pe_int pa_nil)) (blkOk_by (own := [("key", 3)]) (N := N_tables_of) (sc := defScope s_tables_of) (by decide +kernel)) (fun _ _ _ _ _ => (pg_name (i := 3) sc_tables_of.nd rfl (by first | exact Or.inl rfl | exact Or.inr rfl))) (fun _ _ _ _ _ => pts_nil) (fun _ _ _ _ _ => (pe_meth (pv 1) T.c_Table T.m_Table_shown G_Table_shown (hr.mono (by omega)) b_Table_shown .nil psN (pa_cons (pv 3) pa_nil)))) pa_nil)))))))
      (pss_one (ps_ret (pv 2))))))
theorem ok_judge (T : Tx w K mg) : DOk P w K mg base 6 ("judge", none) ["entries", "readings"] (S_judge K) := by
  obtain ⟨fd_need_entry, b_need_entry, k_need_entry, G_need_entry, _⟩ := ok_need_entry (P := P) (base := base) T
  obtain ⟨fd_need_hand, b_need_hand, k_need_hand, G_need_hand, _⟩ := ok_need_hand (P := P) (base := base) T
  obtain ⟨fd_need_key, b_need_key, k_need_key, G_need_key, _⟩ := ok_need_key (P := P) (base := base) T
  obtain ⟨fd_tables_of, b_tables_of, k_tables_of, G_tables_of, _⟩ := ok_tables_of (P := P) (base := base) T
  refine dok_of (T.dfn 26 (d := d_judge) rfl) sc_judge (fun _ _ _ _ _ _ us hl => match us, hl with | [_, _], _ => rfl) len2 (fun cdv A outer s H vs Q E hr h => ⟨t_judge K E, ?_, pure_judge T vs H Q E h⟩)
  exact (pss_cons (ps_set (i := 2) sc_judge.nd rfl (by first | exact Or.inl rfl | exact Or.inr rfl) pe_int)
      (pss_cons (ps_for (passes_of rfl) rfl (pi_seq (pv 0)) (pg_name (i := 3) sc_judge.nd rfl (by first | exact Or.inl rfl | exact Or.inr rfl)) (pss_one (ps_set (i := 2) sc_judge.nd rfl (by first | exact Or.inl rfl | exact Or.inr rfl) (pe_call G_need_entry (hr.mono (by omega)) (by rfl) T.g_need_entry k_need_entry b_need_entry .nil (psG rfl rfl rfl rfl) (pa_cons (pv 3) (pa_cons (pv 2) pa_nil))))))
      (pss_cons (ps_for (passes_of rfl) rfl (pi_seq (pv 1)) (pg_tup (by rfl) (pgs_cons (pg_name (i := 4) sc_judge.nd rfl (by first | exact Or.inl rfl | exact Or.inr rfl)) (pgs_cons (pg_name (i := 5) sc_judge.nd rfl (by first | exact Or.inl rfl | exact Or.inr rfl)) (pgs_cons (pg_name (i := 6) sc_judge.nd rfl (by first | exact Or.inl rfl | exact Or.inr rfl)) (pgs_cons (pg_name (i := 7) sc_judge.nd rfl (by first | exact Or.inl rfl | exact Or.inr rfl)) pgs_nil))))) (pss_cons (ps_expr (pe_call G_need_hand (hr.mono (by omega)) (by rfl) T.g_need_hand k_need_hand b_need_hand .nil (psG rfl rfl rfl rfl) (pa_cons (pv 4) pa_nil)))
      (pss_one (ps_expr (pe_call G_need_key (hr.mono (by omega)) (by rfl) T.g_need_key k_need_key b_need_key .nil (psG rfl rfl rfl rfl) (pa_cons (pv 6) pa_nil))))))
      (pss_cons (ps_set (i := 8) sc_judge.nd rfl (by first | exact Or.inl rfl | exact Or.inr rfl) (pe_call G_tables_of (hr.mono (by omega)) (by rfl) T.g_tables_of k_tables_of b_tables_of .nil (psG rfl rfl rfl rfl) (pa_cons (pv 0) pa_nil)))
      (pss_cons (ps_set (i := 9) sc_judge.nd rfl (by first | exact Or.inl rfl | exact Or.inr rfl) pe_dnewK)
      (pss_cons (ps_for (passes_of rfl) rfl (pi_enumA (by rfl) T.n_enumerate (pa_cons (pv 1) pa_nil)) (pg_tup (by rfl) (pgs_cons (pg_name (i := 10) sc_judge.nd rfl (by first | exact Or.inl rfl | exact Or.inr rfl)) (pgs_cons (pg_tup (by rfl) (pgs_cons (pg_name (i := 4) sc_judge.nd rfl (by first | exact Or.inl rfl | exact Or.inr rfl)) (pgs_cons (pg_name (i := 5) sc_judge.nd rfl (by first | exact Or.inl rfl | exact Or.inr rfl)) (pgs_cons (pg_name (i := 6) sc_judge.nd rfl (by first | exact Or.inl rfl | exact Or.inr rfl)) (pgs_cons (pg_name (i := 7) sc_judge.nd rfl (by first | exact Or.inl rfl | exact Or.inr rfl)) pgs_nil))))) pgs_nil))) (pss_cons (ps_if (PW.pt (pw_or (pt_not (pt_chain op_le op_lt (pe_dget2 (hu_of hr) (pv 9) (pv 4) pe_int ⟨rfl, rfl, rfl, rfl⟩) (pv 5) (pe_callB call_lenA (by rfl) T.n_len bt_len (pa_cons (pv 8) pa_nil)))) (pw_or1 (pt_cmpR (op_neA hr.units) (pe_ix (ix_any (hu_of hr)) (pe_ix (ix_any (hu_of hr)) (pv 8) (pv 5) (fun _ _ => rfl)) (pv 6) (fun _ _ => rfl)) (pv 7) (nomark _))))) (pss_one (ps_ret (pv 10))) pss_nil)
      (pss_one (ps_asg (pv 5) (pg_sub (pv 9) (pv 4) (set_any (hu_of hr)))))))
      (pss_one (ps_ret pe_non))))))))
theorem ok_begun_ (T : Tx w K mg) : DOk P w K mg base 1 ("_law_begun", none) ["_law_script"] (S_begun_ K) := by
  refine dok_of (T.dfn 27 (d := d_begun_) rfl) sc_begun_ (fun _ _ _ _ _ _ us hl => match us, hl with | [_], _ => rfl) len1 (fun cdv A outer s H vs Q E hr h => ⟨t_begun_ K E, ?_, pure_begun_ vs H Q E h⟩)
  exact (pss_cons (ps_set (i := 1) sc_begun_.nd rfl (by first | exact Or.inl rfl | exact Or.inr rfl) pe_int)
      (pss_cons (ps_for (passes_of rfl) rfl (pi_seq (pv 0)) (pg_name (i := 2) sc_begun_.nd rfl (by first | exact Or.inl rfl | exact Or.inr rfl)) (pss_one (ps_set (i := 1) sc_begun_.nd rfl (by first | exact Or.inl rfl | exact Or.inr rfl) (pe_op op_mod (pe_op op_addA (pe_op op_addA (pe_op op_mulA (pv 1) pe_int) (pe_op op_mulA (pv 2) pe_int)) pe_int) pe_int))))
      (pss_one (ps_ret (pe_lst (pa_cons (pe_callTy (call_listA rfl) (by rfl) T.n_list bt_list (pa_cons (pv 0) pa_nil)) (pa_cons (pe_op op_mulA (pv 1) (pe_callTy call_int1 (by rfl) T.n_int bt_int (pa_cons (pe_cmpR op_gt (pe_callB call_lenA (by rfl) T.n_len bt_len (pa_cons (pv 0) pa_nil)) pe_int (nomark _)) pa_nil))) pa_nil)))))))
theorem ok_take_ (T : Tx w K mg) : DOk P w K mg base 1 ("_law_take", none) ["_law_box", "_law_many"] (S_take_ K) := by
  refine dok_of (T.dfn 28 (d := d_take_) rfl) sc_take_ (fun _ _ _ _ _ _ us hl => match us, hl with | [_, _], _ => rfl) len2 (fun cdv A outer s H vs Q E hr h => ⟨t_take_ K E, ?_, pure_take_ vs H Q E h⟩)
  exact (pss_cons (ps_if (pt_cmpR (op_eqA hr.units) (pe_ix (ix_any (hu_of hr)) (pv 0) pe_int (fun _ _ => rfl)) (pe_lst pa_nil) (nomark _)) (pss_cons (ps_asg (pe_op op_mod (pe_op op_mulA (pe_ix (ix_any (hu_of hr)) (pv 0) pe_int (fun _ _ => rfl)) pe_int) pe_int) (pg_sub (pv 0) pe_int (set_any (hu_of hr))))
      (pss_one (ps_ret (pe_op op_mod (pe_op op_fdivW (pe_ix (ix_any (hu_of hr)) (pv 0) pe_int (fun _ _ => rfl)) pe_int) (pv 1))))) pss_nil)
      (pss_cons (ps_set (i := 2) sc_take_.nd rfl (by first | exact Or.inl rfl | exact Or.inr rfl) (pe_ix (ix_any (hu_of hr)) (pe_ix (ix_any (hu_of hr)) (pv 0) pe_int (fun _ _ => rfl)) pe_int (fun _ _ => rfl)))
      (pss_cons (ps_asg (pe_op op_fdivW (pv 2) (pv 1)) (pg_sub (pe_ix (ix_any (hu_of hr)) (pv 0) pe_int (fun _ _ => rfl)) pe_int (set_any (hu_of hr))))
      (pss_cons (ps_if (PW.pt (pw_or (pt_cmpR (op_eqA hr.units) (pe_ix (ix_any (hu_of hr)) (pe_ix (ix_any (hu_of hr)) (pv 0) pe_int (fun _ _ => rfl)) pe_int (fun _ _ => rfl)) pe_int (nomark _)) (pw_or1 (pt_cmpR (op_eqA hr.units) (pe_ix (ix_any (hu_of hr)) (pe_ix (ix_any (hu_of hr)) (pv 0) pe_int (fun _ _ => rfl)) pe_int (fun _ _ => rfl)) (pe_un un_neg pe_int) (nomark _))))) (pss_one (ps_expr (pe_bm PySem.F.plainAttrs_list PySem.F.slot_list_pop PySem.F.type_list_pop mt_popAt (pe_ix (ix_any (hu_of hr)) (pv 0) pe_int (fun _ _ => rfl)) (pa_cons pe_int pa_nil)))) pss_nil)
      (pss_one (ps_ret (pe_op op_mod (pv 2) (pv 1))))))))
theorem ok_alike_ (T : Tx w K mg) : ∀ n : Nat, DOk P w K mg base (1 + n) ("_law_alike", none) ["_law_found", "_law_due_here"] (S_alike_ K n)
  | 0 => dok_false (T.dfn 29 (d := d_alike_) rfl) sc_alike_ (fun _ _ _ _ _ _ us hl => match us, hl with | [_, _], _ => rfl)
  | n + 1 => by
    have ih : DOk P w K mg base (1 + n) ("_law_alike", none) ["_law_found", "_law_due_here"] (S_alike_ K n) := ok_alike_ T n
    rw [show 1 + (n + 1) = (1 + n) + 1 from rfl]
    obtain ⟨fd_alike_, b_alike_, k_alike_, G_alike_, _⟩ := ih
    refine dok_of (T.dfn 29 (d := d_alike_) rfl) sc_alike_ (fun _ _ _ _ _ _ us hl => match us, hl with | [_, _], _ => rfl) len2 (fun cdv A outer s H vs Q E hr h => ⟨t_alike_ K n E, ?_, pure_alike_ vs H Q E h⟩)
    exact (pss_cons (ps_if (pt_cmpR op_isNo (pv 1) pe_non (nomark _)) (pss_one (ps_ret (pe_cmpR op_isNo (pv 0) pe_non (nomark _)))) pss_nil)
      (pss_cons (ps_if (pt_truth (pe_callB call_isi (by rfl) T.n_isinstance bt_isinstance (pa_cons (pv 1) (pa_cons (pe_bltn (v := .ty "bool") (by rfl) T.n_bool bt_bool rfl) pa_nil))) (by intro _; rfl)) (pss_one (ps_ret (pe_and (pe_callB call_isi (by rfl) T.n_isinstance bt_isinstance (pa_cons (pv 0) (pa_cons (pe_bltn (v := .ty "bool") (by rfl) T.n_bool bt_bool rfl) pa_nil))) (pe_one (pe_cmpR (op_eqA hr.units) (pv 0) (pv 1) (nomark _)))))) pss_nil)
      (pss_cons (ps_if (pt_truth (pe_callB call_isi (by rfl) T.n_isinstance bt_isinstance (pa_cons (pv 1) (pa_cons (pe_bltn (v := .ty "int") (by rfl) T.n_int bt_int rfl) pa_nil))) (by intro _; rfl)) (pss_one (ps_ret (pe_and (pe_callB call_isi (by rfl) T.n_isinstance bt_isinstance (pa_cons (pv 0) (pa_cons (pe_bltn (v := .ty "int") (by rfl) T.n_int bt_int rfl) pa_nil))) (pe_and (pe_not (pe_callB call_isi (by rfl) T.n_isinstance bt_isinstance (pa_cons (pv 0) (pa_cons (pe_bltn (v := .ty "bool") (by rfl) T.n_bool bt_bool rfl) pa_nil)))) (pe_one (pe_cmpR (op_eqA hr.units) (pv 0) (pv 1) (nomark _))))))) pss_nil)
      (pss_cons (ps_if (pt_truth (pe_callB call_isi (by rfl) T.n_isinstance bt_isinstance (pa_cons (pv 1) (pa_cons (pe_bltn (v := .ty "str") (by rfl) T.n_str bt_str rfl) pa_nil))) (by intro _; rfl)) (pss_one (ps_ret (pe_and (pe_callB call_isi (by rfl) T.n_isinstance bt_isinstance (pa_cons (pv 0) (pa_cons (pe_bltn (v := .ty "str") (by rfl) T.n_str bt_str rfl) pa_nil))) (pe_one (pe_cmpR (op_eqA hr.units) (pv 0) (pv 1) (nomark _)))))) pss_nil)
      (pss_cons (ps_if (PW.pt (pw_or (pt_cmpR (op_neA hr.units) (pe_callB call_isi (by rfl) T.n_isinstance bt_isinstance (pa_cons (pv 1) (pa_cons (pe_bltn (v := .ty "tuple") (by rfl) T.n_tuple bt_tuple rfl) pa_nil))) (pe_callB call_isi (by rfl) T.n_isinstance bt_isinstance (pa_cons (pv 0) (pa_cons (pe_bltn (v := .ty "tuple") (by rfl) T.n_tuple bt_tuple rfl) pa_nil))) (nomark _)) (pw_or1 (pt_cmpR (op_neA hr.units) (pe_callB call_isi (by rfl) T.n_isinstance bt_isinstance (pa_cons (pv 1) (pa_cons (pe_bltn (v := .ty "list") (by rfl) T.n_list bt_list rfl) pa_nil))) (pe_callB call_isi (by rfl) T.n_isinstance bt_isinstance (pa_cons (pv 0) (pa_cons (pe_bltn (v := .ty "list") (by rfl) T.n_list bt_list rfl) pa_nil))) (nomark _))))) (pss_one (ps_ret pe_bl)) pss_nil)
      (pss_cons (ps_if (pt_cmpR (op_neA hr.units) (pe_callB call_lenA (by rfl) T.n_len bt_len (pa_cons (pv 0) pa_nil)) (pe_callB call_lenA (by rfl) T.n_len bt_len (pa_cons (pv 1) pa_nil)) (nomark _)) (pss_one (ps_ret pe_bl)) pss_nil)
      (pss_cons (ps_for (passes_of rfl) rfl (pi_range1 (by rfl) T.n_range (pa_cons (pe_callB call_lenA (by rfl) T.n_len bt_len (pa_cons (pv 1) pa_nil)) pa_nil)) (pg_name (i := 2) sc_alike_.nd rfl (by first | exact Or.inl rfl | exact Or.inr rfl)) (pss_one (ps_if (pt_not (pt_truth (pe_call G_alike_ (hr.mono (by omega)) (by rfl) T.g_alike_ k_alike_ b_alike_ .nil (psG rfl rfl rfl rfl) (pa_cons (pe_ix (ix_any (hu_of hr)) (pv 0) (pv 2) (fun _ _ => rfl)) (pa_cons (pe_ix (ix_any (hu_of hr)) (pv 1) (pv 2) (fun _ _ => rfl)) pa_nil))) (by intro _; rfl))) (pss_one (ps_ret pe_bl)) pss_nil)))
      (pss_one (ps_ret pe_bl)))))))))
theorem ok_store_ (T : Tx w K mg) : DOk P w K mg base 1 ("_law_store", none) [] (S_store_ K) := by
  refine dok_of (T.dfn 33 (d := d_store_) rfl) sc_store_ (fun _ _ _ _ _ _ us hl => match us, hl with | [], _ => rfl) len0 (fun cdv A outer s H vs Q E hr h => ⟨t_store_ K E, ?_, pure_store_ vs H Q E h⟩)
  exact (pss_one (ps_ret (pe_disp (pps_cons pe_str pe_dnewK (pps_cons pe_str pe_dnewK (pps_cons pe_str pe_int (pps_cons pe_str pe_int pps_nil)))) (by rfl) (by rfl) (fun z => by cases z) (by decide))))
theorem ok_again_ (T : Tx w K mg) : DOk P w K mg base 1 ("_law_again", none) ["_law_store_here"] (S_again_ K) := by
  refine dok_of (T.dfn 34 (d := d_again_) rfl) sc_again_ (fun _ _ _ _ _ _ us hl => match us, hl with | [_], _ => rfl) len1 (fun cdv A outer s H vs Q E hr h => ⟨t_again_ K E, ?_, pure_again_ vs H Q E h⟩)
  exact (pss_cons (ps_set (i := 1) sc_again_.nd rfl (by first | exact Or.inl rfl | exact Or.inr rfl) (pe_disp (pps_cons pe_str (pe_callTy cl_dictD (by rfl) T.n_dict bt_dict (pa_cons (pe_ix (ix_any (hu_of hr)) (pv 0) pe_str (fun _ _ => rfl)) pa_nil)) (pps_cons pe_str (pe_callTy cl_dictD (by rfl) T.n_dict bt_dict (pa_cons (pe_ix (ix_any (hu_of hr)) (pv 0) pe_str (fun _ _ => rfl)) pa_nil)) pps_nil)) (by rfl) (by rfl) (fun z => by cases z) (by decide)))
      (pss_cons (ps_expr (pe_bm PySem.F.plainAttrs_dict PySem.F.slot_dict_update PySem.F.type_dict_update (mt_upd rfl) (pv 1) (pa_cons (pe_lst (pa_cons (pe_tup (pa_cons pe_str (pa_cons (pe_ix (ix_any (hu_of hr)) (pv 0) pe_str (fun _ _ => rfl)) pa_nil))) (pa_cons (pe_tup (pa_cons pe_str (pa_cons (pe_ix (ix_any (hu_of hr)) (pv 0) pe_str (fun _ _ => rfl)) pa_nil))) pa_nil))) pa_nil)))
      (pss_one (ps_ret (pv 1)))))
theorem ok_seen_ (T : Tx w K mg) : DOk P w K mg base 1 ("_law_seen", none) ["_law_store_here", "_law_key"] (S_seen_ K) := by
  refine dok_of (T.dfn 35 (d := d_seen_) rfl) sc_seen_ (fun _ _ _ _ _ _ us hl => match us, hl with | [_, _], _ => rfl) len2 (fun cdv A outer s H vs Q E hr h => ⟨t_seen_ K E, ?_, pure_seen_ vs H Q E h⟩)
  exact (pss_cons (ps_set (i := 2) sc_seen_.nd rfl (by first | exact Or.inl rfl | exact Or.inr rfl) (pe_dget2 (hu_of hr) (pe_ix (ix_any (hu_of hr)) (pv 0) pe_str (fun _ _ => rfl)) (pv 1) (pe_tup (pa_cons pe_non (pa_cons pe_int pa_nil))) ⟨rfl, rfl, rfl, rfl⟩))
      (pss_one (ps_ret (pe_ifExp (PW.pt (pw_or (pt_cmpR (op_eqA hr.units) (pe_ix (ix_any (hu_of hr)) (pv 2) pe_int (fun _ _ => rfl)) pe_int (nomark _)) (pw_or1 (pt_cmpR op_gt (pe_ix (ix_any (hu_of hr)) (pv 2) pe_int (fun _ _ => rfl)) (pe_ix (ix_any (hu_of hr)) (pv 0) pe_str (fun _ _ => rfl)) (nomark _))))) (pe_ix (ix_any (hu_of hr)) (pv 2) pe_int (fun _ _ => rfl)) pe_non))))
theorem ok_tried_ (T : Tx w K mg) : DOk P w K mg base 2 ("_law_tried", none) ["_law_store_here", "_law_deal_here"] (S_tried_ K) := by
  obtain ⟨fd_again_, b_again_, k_again_, G_again_, _⟩ := ok_again_ (P := P) (base := base) T
  obtain ⟨fd_seen_, b_seen_, k_seen_, G_seen_, _⟩ := ok_seen_ (P := P) (base := base) T
  refine dok_of (T.dfn 36 (d := d_tried_) rfl) sc_tried_ (fun _ _ _ _ _ _ us hl => match us, hl with | [_, _], _ => rfl) len2 (fun cdv A outer s H vs Q E hr h => ⟨t_tried_ K E, ?_, pure_tried_ vs H Q E h⟩)
  exact (pss_cons (ps_set (i := 2) sc_tried_.nd rfl (by first | exact Or.inl rfl | exact Or.inr rfl) (pe_call G_again_ (hr.mono (by omega)) (by rfl) T.g_again_ k_again_ b_again_ .nil (psG rfl rfl rfl rfl) (pa_cons (pv 0) pa_nil)))
      (pss_cons (ps_for (passes_of rfl) rfl (pi_seq (pv 1)) (pg_name (i := 3) sc_tried_.nd rfl (by first | exact Or.inl rfl | exact Or.inr rfl)) (pss_cons (ps_set (i := 4) sc_tried_.nd rfl (by first | exact Or.inl rfl | exact Or.inr rfl) (pe_ix (ix_any (hu_of hr)) (pv 3) pe_int (fun _ _ => rfl)))
      (pss_cons (ps_set (i := 5) sc_tried_.nd rfl (by first | exact Or.inl rfl | exact Or.inr rfl) (pe_call G_seen_ (hr.mono (by omega)) (by rfl) T.g_seen_ k_seen_ b_seen_ .nil (psG rfl rfl rfl rfl) (pa_cons (pv 2) (pa_cons (pv 4) pa_nil))))
      (pss_one (ps_if (pt_cmpR (op_eqA hr.units) (pe_ix (ix_any (hu_of hr)) (pv 3) pe_int (fun _ _ => rfl)) pe_str (nomark _)) (pss_one (ps_asg (pe_tup (pa_cons (pe_ix (ix_any (hu_of hr)) (pv 3) pe_int (fun _ _ => rfl)) (pa_cons (pe_ifExp (pt_cmpR (op_eqA hr.units) (pe_ix (ix_any (hu_of hr)) (pv 3) pe_int (fun _ _ => rfl)) pe_int (nomark _)) pe_int (pe_op op_addA (pe_ix (ix_any (hu_of hr)) (pv 0) pe_str (fun _ _ => rfl)) (pe_ix (ix_any (hu_of hr)) (pv 3) pe_int (fun _ _ => rfl)))) pa_nil))) (pg_sub (pe_ix (ix_any (hu_of hr)) (pv 2) pe_str (fun _ _ => rfl)) (pv 4) (set_any (hu_of hr))))) (pss_one (ps_if (pt_cmpR (op_eqA hr.units) (pe_ix (ix_any (hu_of hr)) (pv 3) pe_int (fun _ _ => rfl)) pe_str (nomark _)) (pss_one (ps_expr (pe_dpop2 (pe_ix (ix_any (hu_of hr)) (pv 2) pe_str (fun _ _ => rfl)) (pv 4) pe_non ⟨rfl, rfl, rfl, rfl⟩))) (pss_one (ps_if (pt_cmpR (op_eqA hr.units) (pe_ix (ix_any (hu_of hr)) (pv 3) pe_int (fun _ _ => rfl)) pe_str (nomark _)) (pss_one (ps_if (pt_cmpR (op_neA hr.units) (pv 5) (pe_ix (ix_any (hu_of hr)) (pv 3) pe_int (fun _ _ => rfl)) (nomark _)) (pss_one (ps_ret pe_non)) pss_nil)) (pss_one (ps_if (PW.pt (pw_or (pt_cmpR op_isNo (pv 5) pe_non (nomark _)) (pw_or1 (pt_not (pt_chain op_le op_le pe_int (pe_op op_addA (pv 5) (pe_ix (ix_any (hu_of hr)) (pv 3) pe_int (fun _ _ => rfl))) pe_int))))) (pss_one (ps_ret pe_non)) (pss_one (ps_asg (pe_tup (pa_cons (pe_op op_addA (pv 5) (pe_ix (ix_any (hu_of hr)) (pv 3) pe_int (fun _ _ => rfl))) (pa_cons (pe_ix (ix_any (hu_of hr)) (pe_ix (ix_any (hu_of hr)) (pe_ix (ix_any (hu_of hr)) (pv 2) pe_str (fun _ _ => rfl)) (pv 4) (fun _ _ => rfl)) pe_int (fun _ _ => rfl)) pa_nil))) (pg_sub (pe_ix (ix_any (hu_of hr)) (pv 2) pe_str (fun _ _ => rfl)) (pv 4) (set_any (hu_of hr))))))))))))))))
      (pss_one (ps_ret (pe_ix (ix_any (hu_of hr)) (pv 2) pe_str (fun _ _ => rfl))))))
theorem ok_deal_ (T : Tx w K mg) : DOk P w K mg base 3 ("_law_deal", none) ["_law_store_here", "_law_hand", "_law_letter", "_law_deal_here"] (S_deal_ K) := by
  obtain ⟨fd_tried_, b_tried_, k_tried_, G_tried_, _⟩ := ok_tried_ (P := P) (base := base) T
  refine dok_of (T.dfn 37 (d := d_deal_) rfl) sc_deal_ (fun _ _ _ _ _ _ us hl => match us, hl with | [_, _, _, _], _ => rfl) len4 (fun cdv A outer s H vs Q E hr h => ⟨t_deal_ K E, ?_, pure_deal_ vs H Q E h⟩)
  exact (pss_cons (ps_if (pt_cmpR (op_neA hr.units) (pe_ix (ix_any (hu_of hr)) (pe_dget2 (hu_of hr) (pe_ix (ix_any (hu_of hr)) (pv 0) pe_str (fun _ _ => rfl)) (pv 1) (pe_tup (pa_cons pe_int pa_nil)) ⟨rfl, rfl, rfl, rfl⟩) pe_int (fun _ _ => rfl)) (pv 2) (nomark _)) (pss_cons (ps_set (i := 4) sc_deal_.nd rfl (by first | exact Or.inl rfl | exact Or.inr rfl) (pe_call G_tried_ (hr.mono (by omega)) (by rfl) T.g_tried_ k_tried_ b_tried_ .nil (psG rfl rfl rfl rfl) (pa_cons (pv 0) (pa_cons (pv 3) pa_nil))))
      (pss_cons (ps_asg (pe_op op_addA (pe_ix (ix_any (hu_of hr)) (pv 0) pe_str (fun _ _ => rfl)) pe_int) (pg_sub (pv 0) pe_str (set_any (hu_of hr))))
      (pss_cons (ps_if (pt_cmpR op_notNo (pv 4) pe_non (nomark _)) (pss_one (ps_asg (pv 4) (pg_sub (pv 0) pe_str (set_any (hu_of hr))))) pss_nil)
      (pss_one (ps_asg (pe_tup (pa_cons (pv 2) (pa_cons (pe_ix (ix_any (hu_of hr)) (pv 0) pe_str (fun _ _ => rfl)) (pa_cons (pe_cmpR op_notNo (pv 4) pe_non (nomark _)) pa_nil)))) (pg_sub (pe_ix (ix_any (hu_of hr)) (pv 0) pe_str (fun _ _ => rfl)) (pv 1) (set_any (hu_of hr)))))))) pss_nil)
      (pss_one (ps_ret (pe_slice sl_any (pe_ix (ix_any (hu_of hr)) (pe_ix (ix_any (hu_of hr)) (pv 0) pe_str (fun _ _ => rfl)) (pv 1) (fun _ _ => rfl)) (po_some pe_int) po_none))))
theorem ok_deed_ (T : Tx w K mg) : DOk P w K mg base 2 ("_law_deed", none) ["_law_box", "_law_store_here"] (S_deed_ K) := by
  obtain ⟨fd_seen_, b_seen_, k_seen_, G_seen_, _⟩ := ok_seen_ (P := P) (base := base) T
  obtain ⟨fd_take_, b_take_, k_take_, G_take_, _⟩ := ok_take_ (P := P) (base := base) T
  refine dok_of (T.dfn 39 (d := d_deed_) rfl) sc_deed_ (fun _ _ _ _ _ _ us hl => match us, hl with | [_, _], _ => rfl) len2 (fun cdv A outer s H vs Q E hr h => ⟨t_deed_ K E, ?_, pure_deed_ vs H Q E h⟩)
  exact (pss_cons (ps_set (i := 2) sc_deed_.nd rfl (by first | exact Or.inl rfl | exact Or.inr rfl) (pe_call G_take_ (hr.mono (by omega)) (by rfl) T.g_take_ k_take_ b_take_ .nil (psG rfl rfl rfl rfl) (pa_cons (pv 0) (pa_cons (pe_ix (ix_any (hu_of hr)) (pe_lst (pa_cons pe_int (pa_cons pe_int (pa_cons pe_int pa_nil)))) (pe_call G_take_ (hr.mono (by omega)) (by rfl) T.g_take_ k_take_ b_take_ .nil (psG rfl rfl rfl rfl) (pa_cons (pv 0) (pa_cons pe_int pa_nil))) (fun _ _ => rfl)) pa_nil))))
      (pss_cons (ps_set (i := 3) sc_deed_.nd rfl (by first | exact Or.inl rfl | exact Or.inr rfl) (pe_call G_seen_ (hr.mono (by omega)) (by rfl) T.g_seen_ k_seen_ b_seen_ .nil (psG rfl rfl rfl rfl) (pa_cons (pv 1) (pa_cons (pv 2) pa_nil))))
      (pss_cons (ps_set (i := 4) sc_deed_.nd rfl (by first | exact Or.inl rfl | exact Or.inr rfl) (pe_call G_take_ (hr.mono (by omega)) (by rfl) T.g_take_ k_take_ b_take_ .nil (psG rfl rfl rfl rfl) (pa_cons (pv 0) (pa_cons pe_int pa_nil))))
      (pss_cons (ps_if (pt_cmpR op_lt (pv 4) pe_int (nomark _)) (pss_cons (ps_set (i := 5) sc_deed_.nd rfl (by first | exact Or.inl rfl | exact Or.inr rfl) (pe_ix (ix_any (hu_of hr)) (pe_lst (pa_cons pe_int (pa_cons (pe_op op_addA pe_int (pe_call G_take_ (hr.mono (by omega)) (by rfl) T.g_take_ k_take_ b_take_ .nil (psG rfl rfl rfl rfl) (pa_cons (pv 0) (pa_cons pe_int pa_nil)))) (pa_cons (pe_op op_addA pe_int (pe_call G_take_ (hr.mono (by omega)) (by rfl) T.g_take_ k_take_ b_take_ .nil (psG rfl rfl rfl rfl) (pa_cons (pv 0) (pa_cons pe_int pa_nil)))) pa_nil)))) (pe_call G_take_ (hr.mono (by omega)) (by rfl) T.g_take_ k_take_ b_take_ .nil (psG rfl rfl rfl rfl) (pa_cons (pv 0) (pa_cons pe_int pa_nil))) (fun _ _ => rfl)))
      (pss_one (ps_ret (pe_tup (pa_cons pe_str (pa_cons (pv 2) (pa_cons (pe_ix (ix_any (hu_of hr)) (pe_lst (pa_cons (pe_call G_take_ (hr.mono (by omega)) (by rfl) T.g_take_ k_take_ b_take_ .nil (psG rfl rfl rfl rfl) (pa_cons (pv 0) (pa_cons pe_int pa_nil))) (pa_cons pe_int (pa_cons pe_int pa_nil)))) (pe_call G_take_ (hr.mono (by omega)) (by rfl) T.g_take_ k_take_ b_take_ .nil (psG rfl rfl rfl rfl) (pa_cons (pv 0) (pa_cons pe_int pa_nil))) (fun _ _ => rfl)) (pa_cons (pv 5) pa_nil)))))))) pss_nil)
      (pss_cons (ps_if (pt_cmpR (op_eqA hr.units) (pv 4) pe_int (nomark _)) (pss_one (ps_ret (pe_tup (pa_cons pe_str (pa_cons (pv 2) pa_nil))))) pss_nil)
      (pss_cons (ps_if (pt_cmpR op_lt (pv 4) pe_int (nomark _)) (pss_one (ps_ret (pe_tup (pa_cons pe_str (pa_cons (pv 2) (pa_cons (pe_ix (ix_any (hu_of hr)) (pe_lst (pa_cons (pe_op op_sub (pe_call G_take_ (hr.mono (by omega)) (by rfl) T.g_take_ k_take_ b_take_ .nil (psG rfl rfl rfl rfl) (pa_cons (pv 0) (pa_cons pe_int pa_nil))) pe_int) (pa_cons (pe_op op_sub (pe_call G_take_ (hr.mono (by omega)) (by rfl) T.g_take_ k_take_ b_take_ .nil (psG rfl rfl rfl rfl) (pa_cons (pv 0) (pa_cons pe_int pa_nil))) pe_int) pa_nil))) (pe_call G_take_ (hr.mono (by omega)) (by rfl) T.g_take_ k_take_ b_take_ .nil (psG rfl rfl rfl rfl) (pa_cons (pv 0) (pa_cons pe_int pa_nil))) (fun _ _ => rfl)) pa_nil)))))) pss_nil)
      (pss_one (ps_ret (pe_tup (pa_cons pe_str (pa_cons (pv 2) (pa_cons (pe_ix (ix_any (hu_of hr)) (pe_lst (pa_cons (pv 3) (pa_cons (pv 3) (pa_cons (pv 3) (pa_cons pe_non (pa_cons (pe_call G_take_ (hr.mono (by omega)) (by rfl) T.g_take_ k_take_ b_take_ .nil (psG rfl rfl rfl rfl) (pa_cons (pv 0) (pa_cons pe_int pa_nil))) pa_nil)))))) (pe_call G_take_ (hr.mono (by omega)) (by rfl) T.g_take_ k_take_ b_take_ .nil (psG rfl rfl rfl rfl) (pa_cons (pv 0) (pa_cons pe_int pa_nil))) (fun _ _ => rfl)) pa_nil))))))))))))
theorem ok_drawn_ (T : Tx w K mg) : DOk P w K mg base 3 ("_law_drawn", none) ["_law_box", "_law_store_here"] (S_drawn_ K) := by
  obtain ⟨fd_deed_, b_deed_, k_deed_, G_deed_, _⟩ := ok_deed_ (P := P) (base := base) T
  obtain ⟨fd_take_, b_take_, k_take_, G_take_, _⟩ := ok_take_ (P := P) (base := base) T
  refine dok_of (T.dfn 40 (d := d_drawn_) rfl) sc_drawn_ (fun _ _ _ _ _ _ us hl => match us, hl with | [_, _], _ => rfl) len2 (fun cdv A outer s H vs Q E hr h => ⟨t_drawn_ K E, ?_, pure_drawn_ vs H Q E h⟩)
  exact (pss_one (ps_ret (pe_callTy call_tuple_of (by rfl) T.n_tuple bt_tuple (pa_cons (pe_lc (own := [("_law_turn", 2)]) (g := (gName 2)) (tt := tYes) (by rfl) sc_drawn_.nd (pi_range1 (by rfl) T.n_range (pa_cons (pe_op op_addA pe_int (pe_call G_take_ (hr.mono (by omega)) (by rfl) T.g_take_ k_take_ b_take_ .nil (psG rfl rfl rfl rfl) (pa_cons (pv 0) (pa_cons (pe_ix (ix_any (hu_of hr)) (pe_lst (pa_cons pe_int (pa_cons pe_int (pa_cons pe_int pa_nil)))) (pe_call G_take_ (hr.mono (by omega)) (by rfl) T.g_take_ k_take_ b_take_ .nil (psG rfl rfl rfl rfl) (pa_cons (pv 0) (pa_cons pe_int pa_nil))) (fun _ _ => rfl)) pa_nil)))) pa_nil)) (blkOk_by (own := [("_law_turn", 2)]) (N := N_drawn_) (sc := defScope s_drawn_) (by decide +kernel)) (fun _ _ _ _ _ => (pg_name (i := 2) sc_drawn_.nd rfl (by first | exact Or.inl rfl | exact Or.inr rfl))) (fun _ _ _ _ _ => pts_nil) (fun _ _ _ _ _ => (pe_call G_deed_ (hr.mono (by omega)) (by rfl) T.g_deed_ k_deed_ b_deed_ .nil psN (pa_cons (pv 0) (pa_cons (pv 1) pa_nil))))) pa_nil))))
theorem ok_entries_ (T : Tx w K mg) : DOk P w K mg base 4 ("_law_entries", none) ["_law_box"] (S_entries_ K) := by
  obtain ⟨fd_again_, b_again_, k_again_, G_again_, _⟩ := ok_again_ (P := P) (base := base) T
  obtain ⟨fd_deal_, b_deal_, k_deal_, G_deal_, _⟩ := ok_deal_ (P := P) (base := base) T
  obtain ⟨fd_drawn_, b_drawn_, k_drawn_, G_drawn_, _⟩ := ok_drawn_ (P := P) (base := base) T
  obtain ⟨fd_store_, b_store_, k_store_, G_store_, _⟩ := ok_store_ (P := P) (base := base) T
  obtain ⟨fd_take_, b_take_, k_take_, G_take_, _⟩ := ok_take_ (P := P) (base := base) T
  refine dok_of (T.dfn 41 (d := d_entries_) rfl) sc_entries_ (fun _ _ _ _ _ _ us hl => match us, hl with | [_], _ => rfl) len1 (fun cdv A outer s H vs Q E hr h => ⟨t_entries_ K E, ?_, pure_entries_ vs H Q E h⟩)
  exact (pss_cons (ps_set (i := 1) sc_entries_.nd rfl (by first | exact Or.inl rfl | exact Or.inr rfl) (pe_lst (pa_cons (pe_call0 G_store_ (hr.mono (by omega)) (by rfl) T.g_store_ k_store_ b_store_ .nil (psG rfl rfl rfl rfl)) pa_nil)))
      (pss_cons (ps_set (i := 2) sc_entries_.nd rfl (by first | exact Or.inl rfl | exact Or.inr rfl) (pe_lst pa_nil))
      (pss_cons (ps_for (passes_of rfl) rfl (pi_range1 (by rfl) T.n_range (pa_cons (pe_call G_take_ (hr.mono (by omega)) (by rfl) T.g_take_ k_take_ b_take_ .nil (psG rfl rfl rfl rfl) (pa_cons (pv 0) (pa_cons (pe_ix (ix_any (hu_of hr)) (pe_lst (pa_cons pe_int (pa_cons pe_int pa_nil))) (pe_call G_take_ (hr.mono (by omega)) (by rfl) T.g_take_ k_take_ b_take_ .nil (psG rfl rfl rfl rfl) (pa_cons (pv 0) (pa_cons pe_int pa_nil))) (fun _ _ => rfl)) pa_nil))) pa_nil)) (pg_name (i := 3) sc_entries_.nd rfl (by first | exact Or.inl rfl | exact Or.inr rfl)) (pss_cons (ps_set (i := 4) sc_entries_.nd rfl (by first | exact Or.inl rfl | exact Or.inr rfl) (pe_call G_again_ (hr.mono (by omega)) (by rfl) T.g_again_ k_again_ b_again_ .nil (psG rfl rfl rfl rfl) (pa_cons (pe_ix (ix_any (hu_of hr)) (pv 1) (pe_un un_neg pe_int) (fun _ _ => rfl)) pa_nil)))
      (pss_cons (ps_if (PW.pt (pw_and (pt_cmpR (op_eqA hr.units) (pe_call G_take_ (hr.mono (by omega)) (by rfl) T.g_take_ k_take_ b_take_ .nil (psG rfl rfl rfl rfl) (pa_cons (pv 0) (pa_cons pe_int pa_nil))) pe_int (nomark _)) (pw_and1 (pt_cmpR op_lt (pe_ix (ix_any (hu_of hr)) (pv 4) pe_str (fun _ _ => rfl)) (pe_op op_mulA pe_int (pe_op op_pow pe_int pe_int)) (nomark _))))) (pss_cons (ps_asg (pe_op op_addA (pe_op op_addA (pe_ix (ix_any (hu_of hr)) (pv 4) pe_str (fun _ _ => rfl)) pe_int) (pe_call G_take_ (hr.mono (by omega)) (by rfl) T.g_take_ k_take_ b_take_ .nil (psG rfl rfl rfl rfl) (pa_cons (pv 0) (pa_cons (pe_ix (ix_any (hu_of hr)) (pe_lst (pa_cons pe_int (pa_cons pe_int pa_nil))) (pe_call G_take_ (hr.mono (by omega)) (by rfl) T.g_take_ k_take_ b_take_ .nil (psG rfl rfl rfl rfl) (pa_cons (pv 0) (pa_cons pe_int pa_nil))) (fun _ _ => rfl)) pa_nil)))) (pg_sub (pv 4) pe_str (set_any (hu_of hr))))
      (pss_cons (ps_asg (pe_op op_addA (pe_ix (ix_any (hu_of hr)) (pv 4) pe_str (fun _ _ => rfl)) pe_int) (pg_sub (pv 4) pe_str (set_any (hu_of hr))))
      (pss_one (ps_expr (pe_bm PySem.F.plainAttrs_list PySem.F.slot_list_append PySem.F.type_list_append mt_append (pv 2) (pa_cons (pe_tup (pa_cons pe_str (pa_cons (pe_ix (ix_any (hu_of hr)) (pv 4) pe_str (fun _ _ => rfl)) pa_nil))) pa_nil)))))) (pss_cons (ps_set (i := 5) sc_entries_.nd rfl (by first | exact Or.inl rfl | exact Or.inr rfl) (pe_call G_drawn_ (hr.mono (by omega)) (by rfl) T.g_drawn_ k_drawn_ b_drawn_ .nil (psG rfl rfl rfl rfl) (pa_cons (pv 0) (pa_cons (pv 4) pa_nil))))
      (pss_cons (ps_set (i := 6) sc_entries_.nd rfl (by first | exact Or.inl rfl | exact Or.inr rfl) (pe_call G_take_ (hr.mono (by omega)) (by rfl) T.g_take_ k_take_ b_take_ .nil (psG rfl rfl rfl rfl) (pa_cons (pv 0) (pa_cons pe_int pa_nil))))
      (pss_cons (ps_expr (pe_bm PySem.F.plainAttrs_list PySem.F.slot_list_append PySem.F.type_list_append mt_append (pv 2) (pa_cons (pe_tup (pa_cons pe_str (pa_cons (pv 6) (pa_cons (pv 5) pa_nil)))) pa_nil)))
      (pss_one (ps_expr (pe_call G_deal_ (hr.mono (by omega)) (by rfl) T.g_deal_ k_deal_ b_deal_ .nil (psG rfl rfl rfl rfl) (pa_cons (pv 4) (pa_cons (pv 6) (pa_cons (pe_op op_addA (pe_ix (ix_any (hu_of hr)) (pe_dget2 (hu_of hr) (pe_ix (ix_any (hu_of hr)) (pv 4) pe_str (fun _ _ => rfl)) (pv 6) (pe_tup (pa_cons pe_int pa_nil)) ⟨rfl, rfl, rfl, rfl⟩) pe_int (fun _ _ => rfl)) pe_int) (pa_cons (pv 5) pa_nil)))))))))))
      (pss_one (ps_expr (pe_bm PySem.F.plainAttrs_list PySem.F.slot_list_append PySem.F.type_list_append mt_append (pv 1) (pa_cons (pv 4) pa_nil)))))))
      (pss_one (ps_ret (pe_tup (pa_cons (pv 2) (pa_cons (pv 1) pa_nil))))))))
theorem ok_readings_ (T : Tx w K mg) : DOk P w K mg base 2 ("_law_readings", none) ["_law_box", "_law_stores"] (S_readings_ K) := by
  obtain ⟨fd_seen_, b_seen_, k_seen_, G_seen_, _⟩ := ok_seen_ (P := P) (base := base) T
  obtain ⟨fd_take_, b_take_, k_take_, G_take_, _⟩ := ok_take_ (P := P) (base := base) T
  refine dok_of (T.dfn 42 (d := d_readings_) rfl) sc_readings_ (fun _ _ _ _ _ _ us hl => match us, hl with | [_, _], _ => rfl) len2 (fun cdv A outer s H vs Q E hr h => ⟨t_readings_ K E, ?_, pure_readings_ vs H Q E h⟩)
  exact (pss_cons (ps_set (i := 2) sc_readings_.nd rfl (by first | exact Or.inl rfl | exact Or.inr rfl) (pe_lst pa_nil))
      (pss_cons (ps_set (i := 3) sc_readings_.nd rfl (by first | exact Or.inl rfl | exact Or.inr rfl) (pe_lst (pa_cons pe_int (pa_cons pe_int (pa_cons pe_int (pa_cons pe_int pa_nil))))))
      (pss_cons (ps_set (i := 4) sc_readings_.nd rfl (by first | exact Or.inl rfl | exact Or.inr rfl) (pe_ix (ix_any (hu_of hr)) (pe_lst (pa_cons pe_int (pa_cons pe_int (pa_cons (pe_op op_pow pe_int pe_int) pa_nil)))) (pe_call G_take_ (hr.mono (by omega)) (by rfl) T.g_take_ k_take_ b_take_ .nil (psG rfl rfl rfl rfl) (pa_cons (pv 0) (pa_cons pe_int pa_nil))) (fun _ _ => rfl)))
      (pss_cons (ps_for (passes_of rfl) rfl (pi_range1 (by rfl) T.n_range (pa_cons (pe_call G_take_ (hr.mono (by omega)) (by rfl) T.g_take_ k_take_ b_take_ .nil (psG rfl rfl rfl rfl) (pa_cons (pv 0) (pa_cons pe_int pa_nil))) pa_nil)) (pg_name (i := 5) sc_readings_.nd rfl (by first | exact Or.inl rfl | exact Or.inr rfl)) (pss_cons (ps_set (i := 6) sc_readings_.nd rfl (by first | exact Or.inl rfl | exact Or.inr rfl) (pe_call G_take_ (hr.mono (by omega)) (by rfl) T.g_take_ k_take_ b_take_ .nil (psG rfl rfl rfl rfl) (pa_cons (pv 0) (pa_cons pe_int pa_nil))))
      (pss_cons (ps_set (i := 7) sc_readings_.nd rfl (by first | exact Or.inl rfl | exact Or.inr rfl) (pe_op op_addA (pe_ix (ix_any (hu_of hr)) (pv 3) (pv 6) (fun _ _ => rfl)) (pe_call G_take_ (hr.mono (by omega)) (by rfl) T.g_take_ k_take_ b_take_ .nil (psG rfl rfl rfl rfl) (pa_cons (pv 0) (pa_cons (pe_callB (call_min2 rfl) (by rfl) T.n_min bt_min (pa_cons pe_int (pa_cons (pe_op op_sub (pe_callB call_lenA (by rfl) T.n_len bt_len (pa_cons (pv 1) pa_nil)) (pe_ix (ix_any (hu_of hr)) (pv 3) (pv 6) (fun _ _ => rfl))) pa_nil))) pa_nil)))))
      (pss_cons (ps_set (i := 8) sc_readings_.nd rfl (by first | exact Or.inl rfl | exact Or.inr rfl) (pe_call G_take_ (hr.mono (by omega)) (by rfl) T.g_take_ k_take_ b_take_ .nil (psG rfl rfl rfl rfl) (pa_cons (pv 0) (pa_cons (pe_ix (ix_any (hu_of hr)) (pe_lst (pa_cons pe_int (pa_cons pe_int pa_nil))) (pe_call G_take_ (hr.mono (by omega)) (by rfl) T.g_take_ k_take_ b_take_ .nil (psG rfl rfl rfl rfl) (pa_cons (pv 0) (pa_cons pe_int pa_nil))) (fun _ _ => rfl)) pa_nil))))
      (pss_cons (ps_set (i := 9) sc_readings_.nd rfl (by first | exact Or.inl rfl | exact Or.inr rfl) (pe_call G_seen_ (hr.mono (by omega)) (by rfl) T.g_seen_ k_seen_ b_seen_ .nil (psG rfl rfl rfl rfl) (pa_cons (pe_ix (ix_any (hu_of hr)) (pv 1) (pv 7) (fun _ _ => rfl)) (pa_cons (pv 8) pa_nil))))
      (pss_cons (ps_if (pt_cmpR (op_eqA hr.units) (pe_call G_take_ (hr.mono (by omega)) (by rfl) T.g_take_ k_take_ b_take_ .nil (psG rfl rfl rfl rfl) (pa_cons (pv 0) (pa_cons (pv 4) pa_nil))) pe_int (nomark _)) (pss_cons (ps_set (i := 7) sc_readings_.nd rfl (by first | exact Or.inl rfl | exact Or.inr rfl) (pe_ix (ix_any (hu_of hr)) (pe_lst (pa_cons (pe_op op_sub (pe_op op_sub (pv 7) pe_int) (pe_call G_take_ (hr.mono (by omega)) (by rfl) T.g_take_ k_take_ b_take_ .nil (psG rfl rfl rfl rfl) (pa_cons (pv 0) (pa_cons pe_int pa_nil)))) (pa_cons (pe_op op_addA (pe_callB call_lenA (by rfl) T.n_len bt_len (pa_cons (pv 1) pa_nil)) (pe_call G_take_ (hr.mono (by omega)) (by rfl) T.g_take_ k_take_ b_take_ .nil (psG rfl rfl rfl rfl) (pa_cons (pv 0) (pa_cons pe_int pa_nil)))) (pa_cons (pv 7) pa_nil)))) (pe_call G_take_ (hr.mono (by omega)) (by rfl) T.g_take_ k_take_ b_take_ .nil (psG rfl rfl rfl rfl) (pa_cons (pv 0) (pa_cons pe_int pa_nil))) (fun _ _ => rfl)))
      (pss_cons (ps_set (i := 9) sc_readings_.nd rfl (by first | exact Or.inl rfl | exact Or.inr rfl) (pe_ix (ix_any (hu_of hr)) (pe_lst (pa_cons (pv 9) (pa_cons pe_non (pa_cons (pe_call G_take_ (hr.mono (by omega)) (by rfl) T.g_take_ k_take_ b_take_ .nil (psG rfl rfl rfl rfl) (pa_cons (pv 0) (pa_cons pe_int pa_nil))) pa_nil)))) (pe_call G_take_ (hr.mono (by omega)) (by rfl) T.g_take_ k_take_ b_take_ .nil (psG rfl rfl rfl rfl) (pa_cons (pv 0) (pa_cons pe_int pa_nil))) (fun _ _ => rfl)))
      (pss_one (ps_if (PW.pt (pw_and (pt_chain op_le op_lt pe_int (pv 7) (pe_callB call_lenA (by rfl) T.n_len bt_len (pa_cons (pv 1) pa_nil))) (pw_and1 (pt_cmpR (op_eqA hr.units) (pe_call G_take_ (hr.mono (by omega)) (by rfl) T.g_take_ k_take_ b_take_ .nil (psG rfl rfl rfl rfl) (pa_cons (pv 0) (pa_cons pe_int pa_nil))) pe_int (nomark _))))) (pss_one (ps_set (i := 9) sc_readings_.nd rfl (by first | exact Or.inl rfl | exact Or.inr rfl) (pe_call G_seen_ (hr.mono (by omega)) (by rfl) T.g_seen_ k_seen_ b_seen_ .nil (psG rfl rfl rfl rfl) (pa_cons (pe_ix (ix_any (hu_of hr)) (pv 1) (pv 7) (fun _ _ => rfl)) (pa_cons (pv 8) pa_nil))))) pss_nil)))) (pss_one (ps_if (pt_cmpR (op_eqA hr.units) (pe_call G_take_ (hr.mono (by omega)) (by rfl) T.g_take_ k_take_ b_take_ .nil (psG rfl rfl rfl rfl) (pa_cons (pv 0) (pa_cons pe_int pa_nil))) pe_int (nomark _)) (pss_one (ps_asg (pv 7) (pg_sub (pv 3) (pv 6) (set_any (hu_of hr))))) pss_nil)))
      (pss_one (ps_expr (pe_bm PySem.F.plainAttrs_list PySem.F.slot_list_append PySem.F.type_list_append mt_append (pv 2) (pa_cons (pe_tup (pa_cons (pv 6) (pa_cons (pv 7) (pa_cons (pv 8) (pa_cons (pv 9) pa_nil))))) pa_nil))))))))))
      (pss_one (ps_ret (pv 2)))))))
theorem ok_due_ (T : Tx w K mg) : DOk P w K mg base 2 ("_law_due", none) ["_law_stores", "_law_readings_here"] (S_due_ K) := by
  obtain ⟨fd_seen_, b_seen_, k_seen_, G_seen_, _⟩ := ok_seen_ (P := P) (base := base) T
  refine dok_of (T.dfn 43 (d := d_due_) rfl) sc_due_ (fun _ _ _ _ _ _ us hl => match us, hl with | [_, _], _ => rfl) len2 (fun cdv A outer s H vs Q E hr h => ⟨t_due_ K E, ?_, pure_due_ vs H Q E h⟩)
  exact (pss_cons (ps_for (passes_of rfl) rfl (pi_range1 (by rfl) T.n_range (pa_cons (pe_callB call_lenA (by rfl) T.n_len bt_len (pa_cons (pv 1) pa_nil)) pa_nil)) (pg_name (i := 2) sc_due_.nd rfl (by first | exact Or.inl rfl | exact Or.inr rfl)) (pss_cons (ps_asg (pe_ix (ix_any (hu_of hr)) (pv 1) (pv 2) (fun _ _ => rfl)) (pg_tup (by rfl) (pgs_cons (pg_name (i := 3) sc_due_.nd rfl (by first | exact Or.inl rfl | exact Or.inr rfl)) (pgs_cons (pg_name (i := 4) sc_due_.nd rfl (by first | exact Or.inl rfl | exact Or.inr rfl)) (pgs_cons (pg_name (i := 5) sc_due_.nd rfl (by first | exact Or.inl rfl | exact Or.inr rfl)) (pgs_cons (pg_name (i := 6) sc_due_.nd rfl (by first | exact Or.inl rfl | exact Or.inr rfl)) pgs_nil))))))
      (pss_cons (by first | exact (ps_setLc (i := 7) (own := [("_law_reading", 8)]) (g := (gName 8)) (tt := (tTest (tOp (rEqA K) (tOp (rIxA K) (tVar 8) (tC (.int 0))) (tVar 3)))) (by rfl) sc_due_.nd rfl rfl (sw_true rfl rfl rfl (by decide +kernel)) (pi_seq (pe_slice sl_any (pv 1) po_none (po_some (pv 2)))) (blkOk_by (own := [("_law_reading", 8)]) (N := N_due_) (sc := defScope s_due_) (by decide +kernel)) (fun _ _ _ _ _ => (pg_name (i := 8) sc_due_.nd rfl (by first | exact Or.inl rfl | exact Or.inr rfl))) (fun _ _ _ _ _ => (pts_one (pt_cmpR (op_eqA hr.units) (pe_ix (ix_any (hu_of hr)) (pv 8) pe_int (fun _ _ => rfl)) (pv 3) (nomark _)))) (fun _ _ _ _ _ => (pe_ix (ix_any (hu_of hr)) (pv 8) pe_int (fun _ _ => rfl)))) | exact (ps_set (i := 7) sc_due_.nd rfl (by first | exact Or.inl rfl | exact Or.inr rfl) (pe_lc (own := [("_law_reading", 8)]) (g := (gName 8)) (tt := (tTest (tOp (rEqA K) (tOp (rIxA K) (tVar 8) (tC (.int 0))) (tVar 3)))) (by rfl) sc_due_.nd (pi_seq (pe_slice sl_any (pv 1) po_none (po_some (pv 2)))) (blkOk_by (own := [("_law_reading", 8)]) (N := N_due_) (sc := defScope s_due_) (by decide +kernel)) (fun _ _ _ _ _ => (pg_name (i := 8) sc_due_.nd rfl (by first | exact Or.inl rfl | exact Or.inr rfl))) (fun _ _ _ _ _ => (pts_one (pt_cmpR (op_eqA hr.units) (pe_ix (ix_any (hu_of hr)) (pv 8) pe_int (fun _ _ => rfl)) (pv 3) (nomark _)))) (fun _ _ _ _ _ => (pe_ix (ix_any (hu_of hr)) (pv 8) pe_int (fun _ _ => rfl))))))
      (pss_cons (ps_if (PW.pt (pw_or (pt_cmpR op_lt (pv 4) pe_int (nomark _)) (pw_or (pt_cmpR op_ge (pv 4) (pe_callB call_lenA (by rfl) T.n_len bt_len (pa_cons (pv 0) pa_nil)) (nomark _)) (pw_or1 (pt_cmpR op_lt (pv 4) (pe_callB (cr_max rfl) (by rfl) T.n_max bt_max (pa_cons (pe_op op_addA (pe_lst (pa_cons pe_int pa_nil)) (pv 7)) pa_nil)) (nomark _)))))) (pss_one (ps_ret (pv 2))) pss_nil)
      (pss_one (ps_if (pt_cmpR (op_neA hr.units) (pe_call G_seen_ (hr.mono (by omega)) (by rfl) T.g_seen_ k_seen_ b_seen_ .nil (psG rfl rfl rfl rfl) (pa_cons (pe_ix (ix_any (hu_of hr)) (pv 0) (pv 4) (fun _ _ => rfl)) (pa_cons (pv 5) pa_nil))) (pv 6) (nomark _)) (pss_one (ps_ret (pv 2))) pss_nil))))))
      (pss_one (ps_ret pe_non)))
theorem ok_odd_ (T : Tx w K mg) : DOk P w K mg base 2 ("_law_odd", none) ["_law_box", "_law_entries_here", "_law_readings_here"] (S_odd_ K) := by
  obtain ⟨fd_take_, b_take_, k_take_, G_take_, _⟩ := ok_take_ (P := P) (base := base) T
  refine dok_of (T.dfn 44 (d := d_odd_) rfl) sc_odd_ (fun _ _ _ _ _ _ us hl => match us, hl with | [_, _, _], _ => rfl) len3 (fun cdv A outer s H vs Q E hr h => ⟨t_odd_ K E, ?_, pure_odd_ vs H Q E h⟩)
  exact (pss_cons (ps_set (i := 3) sc_odd_.nd rfl (by first | exact Or.inl rfl | exact Or.inr rfl) (pe_call G_take_ (hr.mono (by omega)) (by rfl) T.g_take_ k_take_ b_take_ .nil (psG rfl rfl rfl rfl) (pa_cons (pv 0) (pa_cons (pe_op op_addA (pe_callB call_lenA (by rfl) T.n_len bt_len (pa_cons (pv 1) pa_nil)) pe_int) pa_nil))))
      (pss_cons (ps_set (i := 4) sc_odd_.nd rfl (by first | exact Or.inl rfl | exact Or.inr rfl) (pe_callB (cr_max rfl) (by rfl) T.n_max bt_max (pa_cons (pe_op op_addA (pe_lst (pa_cons pe_int pa_nil)) (pe_lc (own := [("_law_entry", 5)]) (g := (gName 5)) (tt := (tTest (tOp (rEqA K) (tOp (rIxA K) (tVar 5) (tC (.int 0))) (tC (.str "tick"))))) (by rfl) sc_odd_.nd (pi_seq (pe_slice sl_any (pv 1) po_none (po_some (pv 3)))) (blkOk_by (own := [("_law_entry", 5)]) (N := N_odd_) (sc := defScope s_odd_) (by decide +kernel)) (fun _ _ _ _ _ => (pg_name (i := 5) sc_odd_.nd rfl (by first | exact Or.inl rfl | exact Or.inr rfl))) (fun _ _ _ _ _ => (pts_one (pt_cmpR (op_eqA hr.units) (pe_ix (ix_any (hu_of hr)) (pv 5) pe_int (fun _ _ => rfl)) pe_str (nomark _)))) (fun _ _ _ _ _ => (pe_ix (ix_any (hu_of hr)) (pv 5) pe_int (fun _ _ => rfl))))) pa_nil)))
      (pss_cons (ps_set (i := 6) sc_odd_.nd rfl (by first | exact Or.inl rfl | exact Or.inr rfl) (pe_lst (pa_cons (pe_tup (pa_cons (pe_tup (pa_cons pe_str (pa_cons (pv 4) pa_nil))) (pa_cons (pe_tup (pa_cons pe_str (pa_cons pe_int pa_nil))) pa_nil))) (pa_cons (pe_tup (pa_cons (pe_tup (pa_cons pe_str (pa_cons (pe_op op_addA (pe_op op_pow pe_int pe_int) pe_int) pa_nil))) (pa_cons (pe_tup (pa_cons pe_str (pa_cons pe_int pa_nil))) pa_nil))) (pa_cons (pe_tup (pa_cons (pe_tup pa_nil) (pa_cons (pe_tup (pa_cons pe_str (pa_cons pe_int pa_nil))) pa_nil))) pa_nil)))))
      (pss_cons (ps_set (i := 6) sc_odd_.nd rfl (by first | exact Or.inl rfl | exact Or.inr rfl) (pe_op op_addA (pv 6) (pe_lst (pa_cons (pe_tup (pa_cons (pe_tup (pa_cons pe_str pa_nil)) (pa_cons (pe_tup (pa_cons pe_str (pa_cons pe_int pa_nil))) pa_nil))) (pa_cons (pe_tup (pa_cons (pe_tup (pa_cons pe_str (pa_cons pe_int (pa_cons (pe_tup (pa_cons (pe_tup (pa_cons pe_str (pa_cons pe_int pa_nil))) pa_nil)) pa_nil)))) (pa_cons (pe_tup (pa_cons pe_str (pa_cons pe_int pa_nil))) pa_nil))) pa_nil)))))
      (pss_cons (ps_set (i := 6) sc_odd_.nd rfl (by first | exact Or.inl rfl | exact Or.inr rfl) (pe_op op_addA (pv 6) (pe_lst (pa_cons (pe_tup (pa_cons (pe_tup (pa_cons pe_str (pa_cons pe_int (pa_cons (pe_tup pa_nil) pa_nil)))) (pa_cons (pe_tup (pa_cons pe_str (pa_cons pe_int pa_nil))) pa_nil))) (pa_cons (pe_tup (pa_cons (pe_tup (pa_cons pe_str (pa_cons pe_int (pa_cons (pe_tup pa_nil) pa_nil)))) (pa_cons (pe_tup (pa_cons pe_str (pa_cons pe_int pa_nil))) pa_nil))) pa_nil)))))
      (pss_cons (ps_expr (pe_bm PySem.F.plainAttrs_list PySem.F.slot_list_append PySem.F.type_list_append mt_append (pv 6) (pa_cons (pe_tup (pa_cons (pe_tup (pa_cons pe_str (pa_cons pe_int (pa_cons (pe_tup (pa_cons (pe_tup (pa_cons pe_str (pa_cons pe_int pa_nil))) (pa_cons (pe_tup (pa_cons pe_str (pa_cons pe_int pa_nil))) pa_nil))) pa_nil)))) (pa_cons (pe_tup (pa_cons pe_str (pa_cons pe_int pa_nil))) pa_nil))) pa_nil)))
      (pss_cons (ps_par (by rfl) sc_odd_.nd rfl rfl (by decide) rfl rfl (pa_cons (pe_call G_take_ (hr.mono (by omega)) (by rfl) T.g_take_ k_take_ b_take_ .nil (psG rfl rfl rfl rfl) (pa_cons (pv 0) (pa_cons pe_int pa_nil))) (pa_cons (pe_op op_addA pe_int (pe_call G_take_ (hr.mono (by omega)) (by rfl) T.g_take_ k_take_ b_take_ .nil (psG rfl rfl rfl rfl) (pa_cons (pv 0) (pa_cons (pe_ix (ix_any (hu_of hr)) (pe_lst (pa_cons pe_int (pa_cons (pe_op op_pow pe_int pe_int) pa_nil))) (pe_call G_take_ (hr.mono (by omega)) (by rfl) T.g_take_ k_take_ b_take_ .nil (psG rfl rfl rfl rfl) (pa_cons (pv 0) (pa_cons pe_int pa_nil))) (fun _ _ => rfl)) pa_nil)))) pa_nil)) (by rfl))
      (pss_cons (ps_if (pt_cmpR op_lt (pv 7) pe_int (nomark _)) (pss_cons (ps_set (i := 9) sc_odd_.nd rfl (by first | exact Or.inl rfl | exact Or.inr rfl) (pe_ix (ix_any (hu_of hr)) (pe_lst (pa_cons (pe_op op_addA (pe_slice sl_any (pv 1) (po_some (pv 3)) po_none) (pe_lst (pa_cons (pe_tup pa_nil) pa_nil))) (pa_cons (pe_lst pa_nil) pa_nil))) (pe_call G_take_ (hr.mono (by omega)) (by rfl) T.g_take_ k_take_ b_take_ .nil (psG rfl rfl rfl rfl) (pa_cons (pv 0) (pa_cons pe_int pa_nil))) (fun _ _ => rfl)))
      (pss_one (ps_ret (pe_tup (pa_cons (pe_op op_addA (pe_op op_addA (pe_slice sl_any (pv 1) po_none (po_some (pv 3))) (pe_lst (pa_cons (pe_ix (ix_any (hu_of hr)) (pe_ix (ix_any (hu_of hr)) (pv 6) (pv 7) (fun _ _ => rfl)) pe_int (fun _ _ => rfl)) pa_nil))) (pv 9)) (pa_cons (pe_op op_addA (pv 2) (pe_lst (pa_cons (pe_tup (pa_cons pe_int (pa_cons pe_int (pa_cons pe_int (pa_cons pe_int pa_nil))))) pa_nil))) (pa_cons (pe_ix (ix_any (hu_of hr)) (pe_ix (ix_any (hu_of hr)) (pv 6) (pv 7) (fun _ _ => rfl)) pe_int (fun _ _ => rfl)) pa_nil))))))) pss_nil)
      (pss_cons (ps_if (pt_cmpR (op_eqA hr.units) (pv 7) pe_int (nomark _)) (pss_one (ps_ret (pe_tup (pa_cons (pe_op op_addA (pv 1) (pe_lst (pa_cons (pe_tup (pa_cons pe_str (pa_cons (pe_op op_addA (pe_op op_pow pe_int pe_int) (pv 8)) pa_nil))) pa_nil))) (pa_cons (pe_op op_addA (pv 2) (pe_lst (pa_cons (pe_tup (pa_cons pe_int (pa_cons pe_int (pa_cons pe_int (pa_cons pe_int pa_nil))))) pa_nil))) (pa_cons (pe_tup (pa_cons pe_str (pa_cons pe_int pa_nil))) pa_nil)))))) pss_nil)
      (pss_cons (ps_set (i := 10) sc_odd_.nd rfl (by first | exact Or.inl rfl | exact Or.inr rfl) (pe_call G_take_ (hr.mono (by omega)) (by rfl) T.g_take_ k_take_ b_take_ .nil (psG rfl rfl rfl rfl) (pa_cons (pv 0) (pa_cons (pe_op op_addA (pe_callB call_lenA (by rfl) T.n_len bt_len (pa_cons (pv 2) pa_nil)) pe_int) pa_nil))))
      (pss_cons (ps_set (i := 11) sc_odd_.nd rfl (by first | exact Or.inl rfl | exact Or.inr rfl) (pe_ix (ix_any (hu_of hr)) (pe_lst (pa_cons (pe_tup (pa_cons (pe_tup (pa_cons pe_int (pa_cons pe_int (pa_cons pe_int (pa_cons pe_int pa_nil))))) (pa_cons (pe_tup (pa_cons pe_str (pa_cons pe_int pa_nil))) pa_nil))) (pa_cons (pe_tup (pa_cons (pe_tup (pa_cons pe_int (pa_cons pe_int (pa_cons pe_int (pa_cons pe_int pa_nil))))) (pa_cons (pe_tup (pa_cons pe_str (pa_cons pe_int pa_nil))) pa_nil))) pa_nil))) (pe_op op_sub (pv 7) pe_int) (fun _ _ => rfl)))
      (pss_one (ps_ret (pe_tup (pa_cons (pv 1) (pa_cons (pe_op op_addA (pe_op op_addA (pe_op op_addA (pe_slice sl_any (pv 2) po_none (po_some (pv 10))) (pe_lst (pa_cons (pe_ix (ix_any (hu_of hr)) (pv 11) pe_int (fun _ _ => rfl)) pa_nil))) (pe_slice sl_any (pv 2) (po_some (pv 10)) po_none)) (pe_lst (pa_cons (pe_tup (pa_cons (pe_un un_neg pe_int) (pa_cons pe_int (pa_cons (pe_un un_neg pe_int) (pa_cons pe_int pa_nil))))) pa_nil))) (pa_cons (pe_ix (ix_any (hu_of hr)) (pv 11) pe_int (fun _ _ => rfl)) pa_nil)))))))))))))))))
theorem ok_law (T : Tx w K mg) (TB : ∀ p ∈ tf, LamX.TabB base mg (He.cT K p).1 (He.cT K p).2) : DOk P w K mg base 11 ("law", none) ["_law_script"] (S_law K) := by
  obtain ⟨fd_alike_, b_alike_, k_alike_, G_alike_, _⟩ := ok_alike_ (P := P) (base := base) T 9
  obtain ⟨fd_begun_, b_begun_, k_begun_, G_begun_, _⟩ := ok_begun_ (P := P) (base := base) T
  obtain ⟨fd_due_, b_due_, k_due_, G_due_, _⟩ := ok_due_ (P := P) (base := base) T
  obtain ⟨fd_entries_, b_entries_, k_entries_, G_entries_, _⟩ := ok_entries_ (P := P) (base := base) T
  obtain ⟨fd_judge, b_judge, k_judge, G_judge, _⟩ := ok_judge (P := P) (base := base) T
  obtain ⟨fd_odd_, b_odd_, k_odd_, G_odd_, _⟩ := ok_odd_ (P := P) (base := base) T
  obtain ⟨fd_readings_, b_readings_, k_readings_, G_readings_, _⟩ := ok_readings_ (P := P) (base := base) T
  refine dok_ofC (T.dfn 45 (d := d_law) rfl) sc_law (fun _ _ _ _ _ _ us hl => match us, hl with | [_], _ => rfl) len1 (fun cdv A outer s H vs Q E hcd hr h => ⟨t_law K E, ?_, pure_law T vs H Q E h⟩)
  subst hcd
  exact (pss_cons (ps_set (i := 1) sc_law.nd rfl (by first | exact Or.inl rfl | exact Or.inr rfl) (pe_call G_begun_ (hr.mono (by omega)) (by rfl) T.g_begun_ k_begun_ b_begun_ .nil (psG rfl rfl rfl rfl) (pa_cons (pv 0) pa_nil)))
      (pss_cons (ps_asg (pe_call G_entries_ (hr.mono (by omega)) (by rfl) T.g_entries_ k_entries_ b_entries_ .nil (psG rfl rfl rfl rfl) (pa_cons (pv 1) pa_nil)) (pg_tup (by rfl) (pgs_cons (pg_name (i := 2) sc_law.nd rfl (by first | exact Or.inl rfl | exact Or.inr rfl)) (pgs_cons (pg_name (i := 3) sc_law.nd rfl (by first | exact Or.inl rfl | exact Or.inr rfl)) pgs_nil))))
      (pss_cons (ps_for (passes_of rfl) rfl (pi_range1 (by rfl) T.n_range (pa_cons pe_int pa_nil)) (pg_name (i := 4) sc_law.nd rfl (by first | exact Or.inl rfl | exact Or.inr rfl)) (pss_cons (ps_set (i := 5) sc_law.nd rfl (by first | exact Or.inl rfl | exact Or.inr rfl) (pe_call G_readings_ (hr.mono (by omega)) (by rfl) T.g_readings_ k_readings_ b_readings_ .nil (psG rfl rfl rfl rfl) (pa_cons (pv 1) (pa_cons (pv 3) pa_nil))))
      (pss_cons (ps_set (i := 6) sc_law.nd rfl (by first | exact Or.inl rfl | exact Or.inr rfl) (pe_tup (pa_cons (pe_callTy (call_listA rfl) (by rfl) T.n_list bt_list (pa_cons (pv 2) pa_nil)) (pa_cons (pe_callTy (call_listA rfl) (by rfl) T.n_list bt_list (pa_cons (pv 5) pa_nil)) pa_nil))))
      (pss_cons (ps_for (passes_of rfl) rfl (pi_range1 (by rfl) T.n_range (pa_cons pe_int pa_nil)) (pg_name (i := 7) sc_law.nd rfl (by first | exact Or.inl rfl | exact Or.inr rfl)) (pss_cons (ps_set (i := 8) sc_law.nd rfl (by first | exact Or.inl rfl | exact Or.inr rfl) (pe_call G_judge (hr.mono (by omega)) (by rfl) T.g_judge k_judge b_judge .nil (psG rfl rfl rfl rfl) (pa_cons (pe_ix (ix_any (hu_of hr)) (pv 6) pe_int (fun _ _ => rfl)) (pa_cons (pe_ix (ix_any (hu_of hr)) (pv 6) pe_int (fun _ _ => rfl)) pa_nil))))
      (pss_one (ps_if (PW.pt (pw_or (pt_not (pt_truth (pe_call G_alike_ (hr.mono (by omega)) (by rfl) T.g_alike_ k_alike_ b_alike_ .nil (psG rfl rfl rfl rfl) (pa_cons (pv 8) (pa_cons (pe_call G_due_ (hr.mono (by omega)) (by rfl) T.g_due_ k_due_ b_due_ .nil (psG rfl rfl rfl rfl) (pa_cons (pv 3) (pa_cons (pv 5) pa_nil))) pa_nil))) (by intro _; rfl))) (pw_or1 (pt_cmpR (op_neA hr.units) (pv 6) (pe_tup (pa_cons (pv 2) (pa_cons (pv 5) pa_nil))) (nomark _))))) (pss_one (ps_ret pe_bl)) pss_nil))))
      (pss_cons (ps_asg (pe_call G_odd_ (hr.mono (by omega)) (by rfl) T.g_odd_ k_odd_ b_odd_ .nil (psG rfl rfl rfl rfl) (pa_cons (pv 1) (pa_cons (pv 2) (pa_cons (pv 5) pa_nil)))) (pg_tup (by rfl) (pgs_cons (pg_name (i := 9) sc_law.nd rfl (by first | exact Or.inl rfl | exact Or.inr rfl)) (pgs_cons (pg_name (i := 10) sc_law.nd rfl (by first | exact Or.inl rfl | exact Or.inr rfl)) (pgs_cons (pg_name (i := 11) sc_law.nd rfl (by first | exact Or.inl rfl | exact Or.inr rfl)) pgs_nil)))))
      (pss_one (ps_if (pt_not (pt_truth (pe_call G_alike_ (hr.mono (by omega)) (by rfl) T.g_alike_ k_alike_ b_alike_ .nil (psG rfl rfl rfl rfl) (pa_cons (lam_refused_ T TB (at_ := ("law", none)) (by decide) (by rfl) (by rfl) hr (by show LamX.lamSB (defScope s_law) _ = true; decide +kernel) (by rfl) (by rfl) (fun _ _ _ _ _ => rfl) (fun A outer s H E f c' hr => (pe_call G_judge (hr.mono (by omega)) (by rfl) T.g_judge k_judge b_judge .nil (psG rfl rfl rfl rfl) (pa_cons (pv 9) (pa_cons (pv 10) pa_nil))))) (pa_cons (pv 11) pa_nil))) (by intro _; rfl))) (pss_one (ps_ret pe_bl)) pss_nil)))))))
      (pss_one (ps_ret pe_bl)))))
end
end W

end
section
/-! ### the end -/
namespace W
open PySem PySem.Spec PyProof.Rows L2 Cm
theorem noX {P : Program} {w : World} {outer : List Env} {H : Hp} {s : Shared} {e : Value} {s' : Shared} (z : L2N.CX P w outer H s (fun _ _ _ => False) e s') : False := by
  obtain ⟨_, _, _, _, _, _, _, _, _, _, _, _, z⟩ := z
  exact z
end W

namespace W
open PySem PySem.Spec PyProof.Rows L2 Cm
theorem law_at {w : World} {h : Heap} {K : PySem.W.Frag} {mg : Str → Option Value} {f : Addr} (KX : K.In h) (G : h.Ns mainGlobals mg) (hmg : mg "law" = some (.ref f)) (c : He.SaysX fa fn [] tf exf w h K) : LamX.LawAtS PySem.Challenge.rw_stillcopy_k16_readings_judged w K (L2N.CX (PySem.Challenge.rw_stillcopy_k16_readings_judged).prog w) 11 63 "_law_script" mg f h := by
  have T : Tx w K mg := ⟨h, KX, G, c⟩
  have e : f = He.fAd K ("law", none) := by
    have z := hmg.symm.trans T.g_law
    injection z with z
    injection z
  subst e
  obtain ⟨fd, F⟩ := T.dfn 45 (d := d_law) rfl
  refine ⟨fd, tf.map (He.cT K), S_law K, ?_, ?_, ?_, fun s u => F.bindsA (ps := ["_law_script"]) (fun _ _ _ _ _ _ us hl => match us, hl with | [_], _ => rfl) s [u] rfl, fun H a ns hl _ hT hS => ⟨_, rfl, a, ns, rfl, hS, hl, fun p hp => ?_, fun _ => rfl⟩, fun base hK hN TB => ?_⟩
  · intro p hp
    obtain ⟨d, hd, rfl⟩ := List.mem_map.mp hp
    exact c.empty d hd
  · intro p hp
    obtain ⟨d, hd, rfl⟩ := List.mem_map.mp hp
    exact c.out d hd
  · intro p hp
    obtain ⟨d, hd, rfl⟩ := List.mem_map.mp hp
    exact PySem.W.codeHd_of_K KX (c.hd d hd)
  · obtain ⟨d, hd, rfl⟩ := List.mem_map.mp hp
    exact LamX.TabS.nil (hT _ (List.mem_map.mpr ⟨d, hd, rfl⟩))
  · obtain ⟨fd', _, _, ok, oc, od, osl, lk⟩ := ok_law (P := (PySem.Challenge.rw_stillcopy_k16_readings_judged).prog) (base := base) T (fun p hp => TB _ (List.mem_map.mpr ⟨p, hp, rfl⟩))
    obtain ⟨oc', od', dV, kV, doc, pm, an, cdv, ct, osl', e, lk', _⟩ := F.ex
    have z := lk.symm.trans lk'
    injection z with z
    injection z with _ _ z
    injection z with z
    rw [← z]
    exact ok
end W
theorem PySem.Challenge.cw_stillcopy_k16_readings_judged_holds : PySem.Challenge.rw_stillcopy_k16_readings_judged.Holds := by
  w_on; o_law
  refine HandSHeadRun.head_any (r := W.R) (q := PySem.W.view W.R.prog [62]) (H := W.hk) (ob := W.ob) (M := 6000) (loose := W.loose) (d := HandSHeadRun.topDef W.R.prog 62) (kwd := []) W.ob_eq
    (by kernel_rfl) (fun s => by kernel_rfl) W.run (by kernel_rfl) (by kernel_rfl) (by kernel_rfl) (by rfl) (by first | assumption | decide +kernel) (by decide +kernel) ⟨rfl, rfl, rfl, rfl, rfl, by decide +kernel⟩ ?hw ?hc
  case hw => w_witness2
  case hc =>
    refine LamX.walk_ofTsE (l := PySem.Challenge.rw_stillcopy_k16_readings_judged) (n := 63) (k := 11) (x := "_law_script") (CX := fun w => L2N.CX (PySem.Challenge.rw_stillcopy_k16_readings_judged).prog w) rfl (by decide) (by kernel_rfl) ⟨rfl, by decide, by decide⟩ ?F (fun _ _ _ _ _ z => W.noX z)
    intro w mg fa h Y G hmg0
    have hmg : mg ("law" : PySem.Str) = some (.ref fa) := by
      have e : (HandSHeadRun.topDef W.R.prog 62).name = ("law" : PySem.Str) := by kernel_rfl
      rw [← e]
      exact hmg0
    obtain ⟨K, KX, c⟩ := Y
    exact ⟨K, KX, W.law_at KX G hmg c⟩

end
