import PyProof.Rows.All
import Wide.All
import OpenK.AllK
import Wide.FinOn
import KE.KStateDown
import KE.KDictPairs
import Lean
import HandS.ForMost
import HandS.ForExc
import HandS.Defaults
import HandS.Flow
import HandS.Small
import HandS.TupAny
import HandS.Wide
import HandS.IsInst
import HandS.ExcIs
import HandS.HotCalls
import HandS.SetFor
import HandS.Zip
import HandS.More
import HandS.Lambda
import HandS.Head0
import HandS.Head1
import HandS.Head2
import HandS.HeadEnd
import HandS.HeadHook1
import HandS.HeadHook2
import HandS.HeadHook3
import HandS.HeadHook4
import HandS.HeadWalk
import PySem.Challenge.RW_stillcopy_k05_disks
set_option Elab.async false
set_option linter.all false
set_option maxRecDepth 100000
set_option maxHeartbeats 1000000
section
/-! ### C0: combined rules -/
namespace Cm
open PySem PySem.Spec PyProof.Rows L2
section
variable {X : Cx}
/-! items, stores, comparisons: one rule for several kinds of things -/
def rIxD : R2 := fun x y H Q => ∃ a v, x = .ref a ∧ DGet H a y (some v) ∧ Q v H
theorem tail_typed {prog : Program} {w : World} {A : Around} {E : Value → Shared → Prop} {s : Shared} {value slice : Expr} {T id : String} {o i : Value} {Q : Value → Shared → Prop}
    (hT : s.TypeIs o T) (hl : typeLookup (.type T) "__getitem__" = pure (some (.builtin id))) (hs : subscripted slice false o i = operate [o, i] (getItem o i)) (h : wpAny (model prog w) A (getItem o i) Q E s) :
    wpAny (model prog w) A (subscriptTail value slice o i) Q E s := by
  unfold subscriptTail
  refine wpAny_bind ?_
  rw [getitemInPython_of_ne hT.not_modules]
  refine wpAny_bind (wpAny_specialOf hT hl ?_)
  have fin : wpAny (model prog w) A (subscripted slice false o i) (fun r s₃ => wpAny (model prog w) A (letTemporaryGo value o r >>= fun _ => pure r) Q E s₃) E s := by
    rw [hs]
    exact wpAny_operating (wpAny_mono h (fun r s₃ h₃ => wpAny_bind (wpAny_letTemporaryGo (wpAny_pure h₃))) fun _ _ x => x)
  first
    | exact wpAny_pure (wpAny_bind fin)
    | exact wpAny_bind (wpAny_pure (wpAny_bind fin))
    | exact wpAny_bind fin
theorem ix_dict (hu : X.A.units + 1 < cLine) : IxR X rIxD := by
  intro value slice pins s σ H x y v u Q I rx ry h hs
  obtain ⟨a, z, rfl, g, q⟩ := h
  obtain rfl : v = Value.ref a := rx
  exact tail_typed (dict_typeIs I g) PySem.F.slot_dict_getitem.lookup hs (d_getItem hu I g ry fun w' s3 I3 rw' => ⟨z, H, I3, rw', q⟩)
def rIxA (K : PySem.W.Frag) : R2 := fun x y H Q => (rIxL K x y H Q ∨ rIxT K x y H Q ∨ rIxS x y H Q) ∨ rIxD x y H Q
theorem ix_any (hu : X.A.units + 1 < cLine) : IxR X (rIxA X.K) := ix_seq.or (ix_dict hu)
def rSetA : TSet := fun o i v H Q => rSetL o i v H Q ∨ rSetD o i v H Q
theorem set_any (hu : X.A.units + 1 < cLine) : PSet X rSetA := by
  intro pins s σ H o i v ov iv u Q I ro ri rv h
  rcases h with h | h
  · exact set_list pins s σ H o i v ov iv u Q I ro ri rv h
  · exact set_dict hu pins s σ H o i v ov iv u Q I ro ri rv h
/-! a list against an empty one -/
def rEqE (K : PySem.W.Frag) : R2 := fun x y H Q => ∃ a b xs, x = .ref a ∧ y = .ref b ∧ SqL K H a xs ∧ SqL K H b [] ∧ Q (.bl xs.isEmpty) H
def rNeE (K : PySem.W.Frag) : R2 := fun x y H Q => ∃ a b xs, x = .ref a ∧ y = .ref b ∧ SqL K H a xs ∧ SqL K H b [] ∧ Q (.bl (!xs.isEmpty)) H
theorem op_eqE (hu : X.A.units + 64 < cLine) : OpR X (compareOp .Eq) (rEqE X.K) := by
  intro pins s σ H x y v u Q I rx ry h
  obtain ⟨a, b, xs, rfl, rfl, ha, hb, q⟩ := h
  obtain rfl : v = Value.ref a := rx
  obtain rfl : u = Value.ref b := ry
  obtain ⟨its, r1, p1, _⟩ := I.list ha
  obtain ⟨its2, r2, p2, _⟩ := I.list hb
  cases r2
  cases r1 with
  | nil => exact SeqAt.eq_listAt (e := fun _ => true) p1.isList p2.isList rfl (by omega) (fun j h1 => absurd h1 (by simp)) ⟨.bl true, H, I, rfl, q⟩
  | cons z zs => exact SeqAt.eq_list_lengthsAt p1.isList p2.isList (by simp) (by omega) ⟨.bl false, H, I, rfl, q⟩
theorem op_neE (hu : X.A.units + 64 < cLine) : OpR X (compareOp .NotEq) (rNeE X.K) := by
  intro pins s σ H x y v u Q I rx ry h
  obtain ⟨a, b, xs, rfl, rfl, ha, hb, q⟩ := h
  obtain rfl : v = Value.ref a := rx
  obtain rfl : u = Value.ref b := ry
  obtain ⟨its, r1, p1, _⟩ := I.list ha
  obtain ⟨its2, r2, p2, _⟩ := I.list hb
  cases r2
  cases r1 with
  | nil => exact SeqAt.RcNeAt.lists (e := fun _ => true) p1.isList p2.isList rfl (by omega) (fun j h1 => absurd h1 (by simp)) X.prog X.w X.xe _ ⟨.bl false, H, I, rfl, q⟩
  | cons z zs => exact SeqAt.RcNeAt.lists_lengths p1.isList p2.isList (by simp) (by omega) X.prog X.w X.xe _ ⟨.bl true, H, I, rfl, q⟩
def rEqA (K : PySem.W.Frag) : R2 := fun x y H Q => (rEq x y H Q ∨ rEqE K x y H Q) ∨ rEqD K x y H Q
def rNeA (K : PySem.W.Frag) : R2 := fun x y H Q => (rNe x y H Q ∨ rNeE K x y H Q) ∨ rNeD K x y H Q
theorem op_eqA (hu : X.A.units + 64 < cLine) : OpR X (compareOp .Eq) (rEqA X.K) := (op_eq.or (op_eqE hu)).or (op_eqD hu)
theorem op_neA (hu : X.A.units + 64 < cLine) : OpR X (compareOp .NotEq) (rNeA X.K) := (op_ne.or (op_neE hu)).or (op_neD hu)
/-! + : numbers, texts, lists, tuples -/
def rAddT : R2 := fun x y H Q => ∃ i j : Str, x = .str i ∧ y = .str j ∧ i.length + j.length ≤ sizeLine ∧ Q (.str (i ++ j)) H
def rAddA (K : PySem.W.Frag) : R2 := fun x y H Q => ((rI0 (fun i j => .int (i + j)) x y H Q ∨ rAddT x y H Q) ∨ rCat x y H Q) ∨ rCatA K x y H Q
theorem op_addA : OpR X (binaryOp .Add) (rAddA X.K) := ((op_add.or op_add_str).or op_cat).or op_catA
def rMulA : R2 := fun x y H Q => rI CMul (fun i j => .int (i * j)) x y H Q ∨ rRep x y H Q
theorem op_mulA : OpR X (binaryOp .Mult) rMulA := op_mul.or op_rep
/-! in: flat sequences, dicts, texts -/
def rDIn : R2 := fun y x H Q => ∃ a o, x = .ref a ∧ DGet H a y o ∧ Q (.bl o.isSome) H
def rDNotIn : R2 := fun y x H Q => ∃ a o, x = .ref a ∧ DGet H a y o ∧ Q (.bl (!o.isSome)) H
theorem op_dIn (hu : X.A.units + 1 < cLine) : OpR X (compareOp .In) rDIn := by
  intro pins s σ H y x v u Q I ry rx h
  obtain ⟨a, o, rfl, g, q⟩ := h
  obtain rfl : u = Value.ref a := rx
  exact d_in hu I g ry fun s3 I3 => ⟨.bl o.isSome, H, I3, rfl, q⟩
theorem op_dNotIn (hu : X.A.units + 1 < cLine) : OpR X (compareOp .NotIn) rDNotIn := by
  intro pins s σ H y x v u Q I ry rx h
  obtain ⟨a, o, rfl, g, q⟩ := h
  obtain rfl : u = Value.ref a := rx
  exact d_notIn hu I g ry fun s3 I3 => ⟨.bl (!o.isSome), H, I3, rfl, q⟩
def rInA (K : PySem.W.Frag) : R2 := fun x y H Q => rIn K false x y H Q ∨ rDIn x y H Q
def rNotInA (K : PySem.W.Frag) : R2 := fun x y H Q => rIn K true x y H Q ∨ rDNotIn x y H Q
theorem op_inA (hu : X.A.units + 64 < cLine) : OpR X (compareOp .In) (rInA X.K) := op_in_seq.or (op_dIn (by omega))
theorem op_notInA (hu : X.A.units + 64 < cLine) : OpR X (compareOp .NotIn) (rNotInA X.K) := op_notIn_seq.or (op_dNotIn (by omega))
/-! len: lists, tuples, texts, dicts -/
def rLenA (K : PySem.W.Frag) : List V → Hp → VK → Prop := fun xs H Q => ((∃ p ys, xs = [.ref p] ∧ (SqL K H p ys ∨ SqT K H p ys) ∧ Q (.int ys.length) H) ∨ (∃ z : Str, xs = [.str z] ∧ z.length ≤ sizeLine ∧ Q (.int z.length) H))
theorem call_lenA : CallR X (.builtin "len") (rLenA X.K) := call_len_seq.or call_len_str
/-! slices -/
def rSlAny (K : PySem.W.Frag) : V → Option Int → Option Int → Hp → VK → Prop := fun x lo hi H Q => rSlL K x lo hi H Q ∨ rSlA K x lo hi H Q
theorem sl_any : SlR X (rSlAny X.K) := sl_list.or sl_tupA
end
end Cm

end
section
/-! ### C1: names of readings, built-ins, defs -/
namespace Cm
open PySem PySem.Spec PyProof.Rows L2
theorem bt_len : bootBuiltins "len" = some (.builtin "len") := by decide +kernel
theorem bt_sum : bootBuiltins "sum" = some (.builtin "sum") := by decide +kernel
theorem bt_max : bootBuiltins "max" = some (.builtin "max") := by decide +kernel
theorem bt_min : bootBuiltins "min" = some (.builtin "min") := by decide +kernel
theorem bt_abs : bootBuiltins "abs" = some (.builtin "abs") := by decide +kernel
theorem bt_sorted : bootBuiltins "sorted" = some (.builtin "sorted") := by decide +kernel
theorem bt_isinstance : bootBuiltins "isinstance" = some (.builtin "isinstance") := by decide +kernel
theorem bt_list : bootBuiltins "list" = some (.type "list") := by decide +kernel
theorem bt_tuple : bootBuiltins "tuple" = some (.type "tuple") := by decide +kernel
theorem bt_int : bootBuiltins "int" = some (.type "int") := by decide +kernel
theorem bt_str : bootBuiltins "str" = some (.type "str") := by decide +kernel
theorem bt_bool : bootBuiltins "bool" = some (.type "bool") := by decide +kernel
theorem bt_dict : bootBuiltins "dict" = some (.type "dict") := by decide +kernel
theorem bt_set : bootBuiltins "set" = some (.type "set") := by decide +kernel
theorem bt_ValueError : bootBuiltins "ValueError" = some (.type "ValueError") := by decide +kernel
def rIsNo : R2 := fun x y H Q => y = .non ∧ Q (.bl (decide (x = .non))) H
def rNotNo : R2 := fun x y H Q => y = .non ∧ Q (.bl (!decide (x = .non))) H
def rInt1 : List V → Hp → VK → Prop := fun xs H Q => (∃ i, xs = [.int i] ∧ Q (.int i) H) ∨ ∃ k, xs = [.bl k] ∧ Q (.int (if k then 1 else 0)) H
def rStrI : List V → Hp → VK → Prop := fun xs H Q => ∃ i : Int, xs = [.int i] ∧ i.natAbs.log2 < 1920 ∧ Q (.str (toString i)) H
def rMax2 : List V → Hp → VK → Prop := fun xs H Q => ∃ i j : Int, xs = [.int i, .int j] ∧ Q (.int (if j > i then j else i)) H
def rMin2 : List V → Hp → VK → Prop := fun xs H Q => ∃ i j : Int, xs = [.int i, .int j] ∧ Q (.int (if j < i then j else i)) H
def rAbs : List V → Hp → VK → Prop := fun xs H Q => ∃ i : Int, xs = [.int i] ∧ Q (.int (if i < 0 then -i else i)) H
def rTupleA (K : PySem.W.Frag) : List V → Hp → VK → Prop := fun xs H Q => ∃ p ys, xs = [.ref p] ∧ ((SqL K H p ys ∧ ∀ l, H l = none → Q (.ref l) (upd H l (.tup ys))) ∨ (SqT K H p ys ∧ Q (.ref p) H))
def rListS (K : PySem.W.Frag) : List V → Hp → VK → Prop := fun xs H Q => ∃ p ys, xs = [.ref p] ∧ (SqL K H p ys ∨ SqT K H p ys) ∧ ∀ l, H l = none → Q (.ref l) (upd H l (.lst ys))
def rListDk : List V → Hp → VK → Prop := fun xs H Q => ∃ (a : Addr) (kvs : List (Key × V)), xs = [.ref a] ∧ Rd H a (.dK kvs) ∧ ∀ p, H p = none → Q (.ref p) (upd H p (.lst (kvs.map fun kv => kV kv.1)))
def rListA (K : PySem.W.Frag) : List V → Hp → VK → Prop := fun xs H Q => rListS K xs H Q ∨ rListDk xs H Q
section
variable {X : Cx}
theorem op_isNo : OpR X (compareOp .Is) rIsNo := op_isN
theorem op_notNo : OpR X (compareOp .IsNot) rNotNo := op_notN
theorem call_listA (hc : X.calm = true) : CallR X (.type "list") (rListA X.K) := call_list_of.or (call_listD hc)
/-- a test that is a value's truth -/
def tTr (K : PySem.W.Frag) (ta : TE) : TT := fun σ H Q => ta σ H fun x H' => ∃ k, TruV K x H' k ∧ Q k H'
/-- a list or a tuple is walked -/
def iSeq (K : PySem.W.Frag) (tl : TE) : TI := fun σ H R => iList K tl σ H R ∨ iTup K tl σ H R
theorem pi_seq {tg l : Expr} {tl : TE} (hl : PE X l tl) : PI X tg l (iSeq X.K tl) := ⟨fun pins s σ H R I h => by
  rcases h with h | h
  · exact (pi_list hl).run pins s σ H R I h
  · exact (pi_tup hl).run pins s σ H R I h⟩
theorem psG {E : XK} {E₁ : Value → Shared → Prop} (hs : X.stack = X.env :: X.outer) (hf : X.env.frame = some X.env.locals) (hex : X.ex = [])
    (hx : X.xe = fun e s' => wpAny (model X.prog X.w) X.A (leaving X.env e) (fun _ s'' => L2N.CX X.prog X.w X.outer X.H_0 X.s_0 E e s'') E₁ s') : Passes (L2N.CX X.prog X.w) X E := L2N.passes_call (L2N.takes_of hs hf hex hx) (fun _ _ _ _ h => h)
/-- nothing is let out -/
theorem psN : Passes (L2N.CX X.prog X.w) X E0 := fun _ _ _ _ _ _ _ h => by
  obtain ⟨_, _, _, _, _, _, _, _, _, _, _, _, z⟩ := h
  exact z.elim
theorem tkN : L2N.Takes X (fun _ _ _ _ => False) := fun _ _ x => by
  obtain ⟨_, _, _, _, _, _, _, _, _, _, _, _, _, _, _, _, z⟩ := x
  exact z.elim
/-- raise C('..') -/
def tRs (E : XK) (C : Addr) : TS := fun _ _ H => E (.ref C) none H
end
/-! promises by the number of arguments -/
def sp0 (f : Hp → VK → XK → Prop) : Sp := fun vs H Q E => vs = [] ∧ f H Q E
def sp1 (f : V → Hp → VK → XK → Prop) : Sp := fun vs H Q E => ∃ a, vs = [a] ∧ f a H Q E
def sp2 (f : V → V → Hp → VK → XK → Prop) : Sp := fun vs H Q E => ∃ a b, vs = [a, b] ∧ f a b H Q E
def sp3 (f : V → V → V → Hp → VK → XK → Prop) : Sp := fun vs H Q E => ∃ a b c, vs = [a, b, c] ∧ f a b c H Q E
def sp4 (f : V → V → V → V → Hp → VK → XK → Prop) : Sp := fun vs H Q E => ∃ a b c d, vs = [a, b, c, d] ∧ f a b c d H Q E
def sp5 (f : V → V → V → V → V → Hp → VK → XK → Prop) : Sp := fun vs H Q E => ∃ a b c d e, vs = [a, b, c, d, e] ∧ f a b c d e H Q E
section
variable {P : Program} {w : World} {K : PySem.W.Frag} {mg : Str → Option Value} {base : Heap}
/-- a def of the text keeps its promise -/
def DOk (P : Program) (w : World) (K : PySem.W.Frag) (mg : Str → Option Value) (base : Heap) (k : Nat) (at_ : Str × Option Str) (ps : List Str) (sp : Sp) : Prop :=
  ∃ fd, Binds K fd ps [] ∧ PySem.W.keepIn K (.ref (He.fAd K at_)) = true ∧ FnOk P w K mg base (L2N.CX P w) k (He.fAd K at_) fd ps sp ∧ ∃ oc od osl, K.lookup (He.fAd K at_) = some ⟨oc, od, .func fd, osl⟩
theorem dok_of {x qual : Str} {params : Arguments} {body : List Stmt} {scope : Scope} {at_ : Str × Option Str} {N ps : List Str} {k : Nat} {sp : Sp} (F : ∃ fd, FunD K x qual params body scope [] [] (He.fAd K at_) fd) (S : FnScope N ps scope)
    (hb : ∀ (kV doc pm : Value) (an : Option Addr) (cdv ct : Value) (us : List Value), us.length = ps.length → bindArgs (PySem.W.fnOf x qual params body scope .none kV doc pm an cdv ct) ⟨us, []⟩ = pure (ps.zip us)) (len : ∀ vs H Q E, sp vs H Q E → vs.length = ps.length)
    (hbody : ∀ (cdv : Value) (A : Around) (outer : List Env) (s : Shared) (H : Hp) (vs : List V) (Q : VK) (E : XK), Room k (A.deeper (envOfC qual scope s.heap.objs.size (He.fAd K at_) cdv)) → sp vs H Q E →
      ∃ t, PSs (cxOf (L2N.CX P w) P w K mg base N qual scope (He.fAd K at_) cdv A outer s H E) body t ∧ t { nx := fun _ H' => Q .non H', rt := Q } (start N vs) H) : DOk P w K mg base (k + 1) at_ ps sp := by
  obtain ⟨fd, F⟩ := F
  refine ⟨fd, F.bindsN hb, F.kp, F.ok S len hbody, ?_⟩
  obtain ⟨oc, od, dV, kV, doc, pm, an, cdv, ct, osl, rfl, lk, hcd, _, _⟩ := F.ex
  exact ⟨oc, od, osl, lk⟩
/-- .. where the code object of the def is told -/
theorem dok_ofC {x qual : Str} {params : Arguments} {body : List Stmt} {scope : Scope} {at_ : Str × Option Str} {N ps : List Str} {k : Nat} {sp : Sp} (F : ∃ fd, FunD K x qual params body scope [] [] (He.fAd K at_) fd) (S : FnScope N ps scope)
    (hb : ∀ (kV doc pm : Value) (an : Option Addr) (cdv ct : Value) (us : List Value), us.length = ps.length → bindArgs (PySem.W.fnOf x qual params body scope .none kV doc pm an cdv ct) ⟨us, []⟩ = pure (ps.zip us)) (len : ∀ vs H Q E, sp vs H Q E → vs.length = ps.length)
    (hbody : ∀ (cdv : Value) (A : Around) (outer : List Env) (s : Shared) (H : Hp) (vs : List V) (Q : VK) (E : XK), cdv = .ref (He.codeOf K at_) → Room k (A.deeper (envOfC qual scope s.heap.objs.size (He.fAd K at_) cdv)) → sp vs H Q E →
      ∃ t, PSs (cxOf (L2N.CX P w) P w K mg base N qual scope (He.fAd K at_) cdv A outer s H E) body t ∧ t { nx := fun _ H' => Q .non H', rt := Q } (start N vs) H) : DOk P w K mg base (k + 1) at_ ps sp := by
  obtain ⟨fd, F⟩ := F
  refine ⟨fd, F.bindsN hb, F.kp, ?_⟩
  obtain ⟨oc, od, dV, kV, doc, pm, an, cdv, ct, osl, rfl, lk, hcd, _, _⟩ := F.ex
  obtain ⟨c, e⟩ := He.codeIn_ref hcd
  subst e
  refine ⟨?_, oc, od, osl, lk⟩
  exact fn_of lk hcd S len fun A outer s H vs Q E hr hsp => hbody (.ref c) A outer s H vs Q E (by rw [He.codeOf_eq lk rfl]) hr hsp
/-- nothing is promised -/
theorem dok_false {x qual : Str} {params : Arguments} {body : List Stmt} {scope : Scope} {at_ : Str × Option Str} {N ps : List Str} {k : Nat} (F : ∃ fd, FunD K x qual params body scope [] [] (He.fAd K at_) fd) (S : FnScope N ps scope)
    (hb : ∀ (kV doc pm : Value) (an : Option Addr) (cdv ct : Value) (us : List Value), us.length = ps.length → bindArgs (PySem.W.fnOf x qual params body scope .none kV doc pm an cdv ct) ⟨us, []⟩ = pure (ps.zip us)) : DOk P w K mg base (k + 1) at_ ps (fun _ _ _ _ => False) :=
  dok_of F S hb (fun _ _ _ _ h => h.elim) (fun _ _ _ _ _ _ _ _ _ h => h.elim)
end
theorem len0 {f : Hp → VK → XK → Prop} (vs : List V) (H : Hp) (Q : VK) (E : XK) (h : sp0 f vs H Q E) : vs.length = 0 := by
  obtain ⟨rfl, _⟩ := h; rfl
theorem len1 {f : V → Hp → VK → XK → Prop} (vs : List V) (H : Hp) (Q : VK) (E : XK) (h : sp1 f vs H Q E) : vs.length = 1 := by
  obtain ⟨_, rfl, _⟩ := h; rfl
theorem len2 {f : V → V → Hp → VK → XK → Prop} (vs : List V) (H : Hp) (Q : VK) (E : XK) (h : sp2 f vs H Q E) : vs.length = 2 := by
  obtain ⟨_, _, rfl, _⟩ := h; rfl
theorem len3 {f : V → V → V → Hp → VK → XK → Prop} (vs : List V) (H : Hp) (Q : VK) (E : XK) (h : sp3 f vs H Q E) : vs.length = 3 := by
  obtain ⟨_, _, _, rfl, _⟩ := h; rfl
theorem len4 {f : V → V → V → V → Hp → VK → XK → Prop} (vs : List V) (H : Hp) (Q : VK) (E : XK) (h : sp4 f vs H Q E) : vs.length = 4 := by
  obtain ⟨_, _, _, _, rfl, _⟩ := h; rfl
theorem len5 {f : V → V → V → V → V → Hp → VK → XK → Prop} (vs : List V) (H : Hp) (Q : VK) (E : XK) (h : sp5 f vs H Q E) : vs.length = 5 := by
  obtain ⟨_, _, _, _, _, rfl, _⟩ := h; rfl
end Cm

end
section
/-! ### C2: readings step by step -/
namespace Cm
open PySem PySem.Spec PyProof.Rows L2
section
variable {K : PySem.W.Frag} {σ : L2.St} {H : Hp} {Q : VK} {QB : Bool → Hp → Prop} {QA : List V → Hp → Prop} {i : Nat} {v x y z : V} {ta tb te tv : TE} {t u c : TT} {tr : TA} {D : Ends} {t1 t2 : TS} {a b p C dx : Addr} {fs : List (Str × V)} {f : Str}
/-! expressions -/
theorem e_var (h : σ[i]? = some (some v)) (q : Q v H) : tVar i σ H Q := ⟨v, h, q⟩
theorem e_c (q : Q v H) : tC v σ H Q := q
theorem e_op {r : R2} (q : ta σ H fun x H1 => tb σ H1 fun y H2 => r x y H2 Q) : tOp r ta tb σ H Q := q
theorem e_un {r : V → Hp → VK → Prop} (q : ta σ H fun x H1 => r x H1 Q) : tUn r ta σ H Q := q
theorem e_nil (q : QA [] H) : tNil σ H QA := q
theorem e_cons (q : ta σ H fun x H1 => tr σ H1 fun xs H2 => QA (x :: xs) H2) : tCons ta tr σ H QA := q
theorem e_tup (q : tr σ H fun xs H1 => xs.length ≤ sizeLine ∧ ∀ p, H1 p = none → Q (.ref p) (upd H1 p (.tup xs))) : tTup tr σ H Q := q
theorem e_lst (q : tr σ H fun xs H1 => xs.length ≤ sizeLine ∧ ∀ p, H1 p = none → Q (.ref p) (upd H1 p (.lst xs))) : tLst tr σ H Q := q
theorem e_cb {r : List V → Hp → VK → Prop} (q : tr σ H fun vs H1 => r vs H1 Q) : tCB r tr σ H Q := q
theorem e_call {sp : Sp} {E : XK} (q : tr σ H fun vs H1 => sp (vs ++ []) H1 Q E) : tCall sp [] E tr σ H Q := q
theorem e_if (q : t σ H fun c H1 => if c = true then ta σ H1 Q else tb σ H1 Q) : tIf t ta tb σ H Q := q
theorem e_andV (q : ta σ H fun x H1 => ∃ c, x = .bl c ∧ if c = true then tb σ H1 Q else Q (.bl false) H1) : tAndV ta tb σ H Q := q
theorem e_orV (q : ta σ H fun x H1 => ∃ c, x = .bl c ∧ if c = true then Q (.bl true) H1 else tb σ H1 Q) : tOrV ta tb σ H Q := q
theorem e_notV (q : ta σ H fun x H1 => ∃ c, x = .bl c ∧ Q (.bl (!c)) H1) : tNotV ta σ H Q := q
theorem e_fld0 (q : ta σ H fun x H1 => ∃ a C dx fs v, x = .ref a ∧ H1 a = some (.ins C dx fs) ∧ Cls K C ∧ NoAttr K C f ∧ fs.lookup f = some v ∧ Q v H1) : tFld K ta f σ H Q := q
theorem fld_at {C dx : Addr} {fs : List (Str × V)} {v : V} (h : H a = some (.ins C dx fs)) (hc : Cls K C) (hn : NoAttr K C f) (hl : fs.lookup f = some v) (q : Q v H) :
    ∃ a' C dx fs v, V.ref a = V.ref a' ∧ H a' = some (.ins C dx fs) ∧ Cls K C ∧ NoAttr K C f ∧ fs.lookup f = some v ∧ Q v H := ⟨a, C, dx, fs, v, rfl, h, hc, hn, hl, q⟩
theorem e_meth0 {sp : Sp} {E : XK} {m : Str} (q : ta σ H fun x H1 => ∃ a dx fs, x = .ref a ∧ H1 a = some (.ins C dx fs) ∧ fs.lookup m = none ∧ tr σ H1 fun vs H2 => sp (x :: (vs ++ [])) H2 Q E) : tMeth C m sp [] E ta tr σ H Q := q
theorem meth_at {m : Str} {R : Prop} (h : H a = some (.ins C dx fs)) (hl : fs.lookup m = none) (q : R) : ∃ a' dx fs, V.ref a = V.ref a' ∧ H a' = some (.ins C dx fs) ∧ fs.lookup m = none ∧ R := ⟨a, dx, fs, rfl, h, hl, q⟩
theorem e_bm0 {ty : String} {r : V → List V → Hp → VK → Prop} (q : ta σ H fun x H1 => tyV K ty x H1 ∧ r x [] H1 Q) : tBM0 K ty r ta σ H Q := q
theorem e_bm {ty : String} {r : V → List V → Hp → VK → Prop} (q : ta σ H fun x H1 => tyV K ty x H1 ∧ tr σ H1 fun xs H2 => r x xs H2 Q) : tBM K ty r ta tr σ H Q := q
theorem ty_lst {xs : List V} (h : H a = some (.lst xs)) : tyV K "list" (.ref a) H := .inl ⟨rfl, _, SqL.of h⟩
theorem e_sl {r : V → Option Int → Option Int → Hp → VK → Prop} {tl th : TO} (q : ta σ H fun x H1 => tl σ H1 fun l H2 => th σ H2 fun u H3 => r x l u H3 Q) : tSl r ta tl th σ H Q := q
theorem o_none {QO : Option Int → Hp → Prop} (q : QO none H) : tNoPart σ H QO := q
theorem o_some {QO : Option Int → Hp → Prop} (q : ta σ H fun x H1 => ∃ i, x = .int i ∧ QO (some i) H1) : tPart ta σ H QO := q
theorem int_at {R : Int → Prop} {j : Int} (q : R j) : ∃ i, V.int j = V.int i ∧ R i := ⟨j, rfl, q⟩
theorem bl_at {R : Bool → Prop} {b : Bool} (q : R b) : ∃ k, V.bl b = V.bl k ∧ R k := ⟨b, rfl, q⟩
theorem e_dnew (q : ∀ p, H p = none → Q (.ref p) (upd H p (.dK []))) : tDNewK σ H Q := q
/-! tests -/
theorem e_test (q : ta σ H fun x H1 => ∃ k, x = .bl k ∧ QB k H1) : tTest ta σ H QB := q
theorem e_tr (q : ta σ H fun x H1 => ∃ k, TruV K x H1 k ∧ QB k H1) : tTr K ta σ H QB := q
theorem tr_bl {R : Bool → Prop} {b : Bool} (q : R b) : ∃ k, TruV K (.bl b) H k ∧ R k := ⟨b, rfl, q⟩
theorem tr_non {R : Bool → Prop} (q : R false) : ∃ k, TruV K .non H k ∧ R k := ⟨false, rfl, q⟩
theorem e_and (q : t σ H fun c H1 => if c = true then u σ H1 QB else QB false H1) : tAnd t u σ H QB := q
theorem e_or (q : t σ H fun c H1 => if c = true then QB true H1 else u σ H1 QB) : tOr t u σ H QB := q
theorem e_not (q : t σ H fun c H1 => QB (!c) H1) : tNot t σ H QB := q
theorem e_yes (q : QB true H) : tYes σ H QB := q
theorem e_chain {r r' : R2} {tc : TE} (q : ta σ H fun x H1 => tb σ H1 fun y H2 => r x y H2 fun z H3 => ∃ k, z = .bl k ∧ if k = true then tc σ H3 fun w H4 => r' y w H4 Q else Q (.bl false) H3) : tChain r r' ta tb tc σ H Q := q
/-! rules on values -/
theorem r_i0 {g : Int → Int → V} {i j : Int} (q : Q (g i j) H) : rI0 g (.int i) (.int j) H Q := ⟨i, j, rfl, rfl, q⟩
theorem r_i {Cn : Int → Int → Prop} {g : Int → Int → V} {i j : Int} (h : Cn i j) (q : Q (g i j) H) : rI Cn g (.int i) (.int j) H Q := ⟨i, j, rfl, rfl, h, q⟩
theorem r_u {g : Int → V} {i : Int} (q : Q (g i) H) : rU g (.int i) H Q := ⟨i, rfl, q⟩
theorem r_isNo (q : Q (.bl (decide (x = .non))) H) : rIsNo x .non H Q := ⟨rfl, q⟩
theorem r_notNo (q : Q (.bl (!decide (x = .non))) H) : rNotNo x .non H Q := ⟨rfl, q⟩
theorem r_addI {i j : Int} (q : Q (.int (i + j)) H) : rAddA K (.int i) (.int j) H Q := .inl (.inl (.inl ⟨i, j, rfl, rfl, q⟩))
theorem r_addL {xs ys : List V} (ha : H a = some (.lst xs)) (hb : H b = some (.lst ys)) (hz : xs.length + ys.length ≤ sizeLine) (q : ∀ p, H p = none → Q (.ref p) (upd H p (.lst (xs ++ ys)))) : rAddA K (.ref a) (.ref b) H Q := .inl (.inr ⟨a, b, xs, ys, rfl, rfl, ha, hb, hz, q⟩)
theorem r_mulI {i j : Int} (h : CMul i j) (q : Q (.int (i * j)) H) : rMulA (.int i) (.int j) H Q := .inl ⟨i, j, rfl, rfl, h, q⟩
theorem r_eqS (h : scal x y = true) (q : Q (.bl (decide (x = y))) H) : rEqA K x y H Q := .inl (.inl ⟨h, q⟩)
theorem r_neS (h : scal x y = true) (q : Q (.bl (!decide (x = y))) H) : rNeA K x y H Q := .inl (.inl ⟨h, q⟩)
theorem r_eqE {xs : List V} (ha : SqL K H a xs) (hb : SqL K H b []) (q : Q (.bl xs.isEmpty) H) : rEqA K (.ref a) (.ref b) H Q := .inl (.inr ⟨a, b, xs, rfl, rfl, ha, hb, q⟩)
theorem r_neE {xs : List V} (ha : SqL K H a xs) (hb : SqL K H b []) (q : Q (.bl (!xs.isEmpty)) H) : rNeA K (.ref a) (.ref b) H Q := .inl (.inr ⟨a, b, xs, rfl, rfl, ha, hb, q⟩)
theorem r_ixL {xs : List V} {i : Int} {v : V} (h : SqL K H p xs) (e : atI xs i = some v) (q : Q v H) : rIxA K (.ref p) (.int i) H Q := .inl (.inl ⟨p, xs, i, v, rfl, rfl, h, e, q⟩)
theorem r_ixT {xs : List V} {i : Int} {v : V} (h : SqT K H p xs) (e : atI xs i = some v) (q : Q v H) : rIxA K (.ref p) (.int i) H Q := .inl (.inr (.inl ⟨p, xs, i, v, rfl, rfl, h, e, q⟩))
theorem r_ixD {kvs : List (Key × V)} {k : Key} {v : V} (h : Rd H p (.dK kvs)) (e : valV kvs k = some v) (q : Q v H) : rIxA K (.ref p) (kV k) H Q := .inr ⟨p, v, rfl, .inl ⟨kvs, k, h, rfl, e.symm⟩, q⟩
theorem r_ixDs {kvs : List (Key × V)} {k : Str} {v : V} (h : Rd H p (.dK kvs)) (e : valV kvs (.inr k) = some v) (q : Q v H) : rIxA K (.ref p) (.str k) H Q := r_ixD (k := .inr k) h e q
theorem r_ixDi {kvs : List (Key × V)} {k : Int} {v : V} (h : Rd H p (.dK kvs)) (e : valV kvs (.inl k) = some v) (q : Q v H) : rIxA K (.ref p) (.int k) H Q := r_ixD (k := .inl k) h e q
theorem r_lenL {xs : List V} (h : SqL K H p xs) (q : Q (.int xs.length) H) : rLenA K [.ref p] H Q := .inl ⟨p, xs, rfl, .inl h, q⟩
theorem r_lenT {xs : List V} (h : SqT K H p xs) (q : Q (.int xs.length) H) : rLenA K [.ref p] H Q := .inl ⟨p, xs, rfl, .inr h, q⟩
theorem r_lenS {s : Str} (h : s.length ≤ sizeLine) (q : Q (.int s.length) H) : rLenA K [.str s] H Q := .inr ⟨s, rfl, h, q⟩
theorem r_listL {xs : List V} (h : SqL K H p xs) (q : ∀ l, H l = none → Q (.ref l) (upd H l (.lst xs))) : rListA K [.ref p] H Q := .inl ⟨p, xs, rfl, .inl h, q⟩
theorem r_listT {xs : List V} (h : SqT K H p xs) (q : ∀ l, H l = none → Q (.ref l) (upd H l (.lst xs))) : rListA K [.ref p] H Q := .inl ⟨p, xs, rfl, .inr h, q⟩
theorem r_int1b {k : Bool} (q : Q (.int (if k then 1 else 0)) H) : rInt1 [.bl k] H Q := .inr ⟨k, rfl, q⟩
theorem r_max2 {i j : Int} (q : Q (.int (if j > i then j else i)) H) : rMax2 [.int i, .int j] H Q := ⟨i, j, rfl, q⟩
theorem r_tupL {xs : List V} (h : SqL K H p xs) (q : ∀ l, H l = none → Q (.ref l) (upd H l (.tup xs))) : rTupleA K [.ref p] H Q := ⟨p, xs, rfl, .inl ⟨h, q⟩⟩
theorem r_tupT {xs : List V} (h : SqT K H p xs) (q : Q (.ref p) H) : rTupleA K [.ref p] H Q := ⟨p, xs, rfl, .inr ⟨h, q⟩⟩
theorem m_append {xs : List V} (h : H p = some (.lst xs)) (hz : xs.length < sizeLine) (q : Q .non (upd H p (.lst (xs ++ [y])))) : rAppend (.ref p) [y] H Q := ⟨p, xs, y, rfl, rfl, h, hz, q⟩
theorem m_clear {xs : List V} (h : H p = some (.lst xs)) (q : Q .non (upd H p (.lst []))) : rClear (.ref p) [] H Q := ⟨p, xs, rfl, rfl, h, q⟩
/-! targets, statements -/
theorem g_name {QS : L2.St → Hp → Prop} (q : QS (σ.set i (some v)) H) : gName i v σ H QS := q
theorem g_setL {xs : List V} {k : Int} {j : Nat} {QS : Hp → Prop} (h : H p = some (.lst xs)) (e : ixN xs.length k = some j) (q : QS (upd H p (.lst (xs.set j v)))) : rSetA (.ref p) (.int k) v H QS := .inl ⟨p, xs, k, j, rfl, rfl, h, e, q⟩
theorem g_setDs {kvs kvs' : List (Key × V)} {k : Str} {QS : Hp → Prop} (h : H p = some (.dK kvs)) (hz : kvs.length < sizeLine) (e : putK kvs (.inr k) v = kvs') (q : QS (upd H p (.dK kvs'))) : rSetA (.ref p) (.str k) v H QS := .inr ⟨p, _, rfl, DPut.k (k := .inr k) h hz, by rw [e]; exact q⟩
theorem g_setDi {kvs : List (Key × V)} {k : Int} {QS : Hp → Prop} (h : H p = some (.dK kvs)) (hz : kvs.length < sizeLine) (q : QS (upd H p (.dK (putK kvs (.inl k) v)))) : rSetA (.ref p) (.int k) v H QS := .inr ⟨p, _, rfl, DPut.k (k := .inl k) h hz, q⟩
theorem g_sub {to ti : TE} {ts : TSet} {QS : L2.St → Hp → Prop} (q : to σ H fun o H1 => ti σ H1 fun i H2 => ts o i v H2 fun H3 => QS σ H3) : gSub to ti ts v σ H QS := q
theorem g_tup {n : Nat} {gs : TGs} {xs : List V} {QS : L2.St → Hp → Prop} (h : SqT K H p xs) (e : xs.length = n) (q : gs xs σ H QS) : gTup K n gs (.ref p) σ H QS := ⟨p, xs, rfl, h, e, q⟩
theorem g_cons {g : TG} {gs : TGs} {xs : List V} {QS : L2.St → Hp → Prop} (q : g x σ H fun σ' H' => gs xs σ' H' QS) : gCons g gs (x :: xs) σ H QS := ⟨x, xs, rfl, q⟩
theorem g_nil {QS : L2.St → Hp → Prop} (q : QS σ H) : gNil [] σ H QS := ⟨rfl, q⟩
theorem s_seq (q : t1 { D with nx := t2 D } σ H) : tSeq t1 t2 D σ H := q
theorem s_next (q : D.nx σ H) : tNext D σ H := q
theorem s_asg {g : TG} (q : ta σ H fun x H1 => g x σ H1 D.nx) : tAsg ta g D σ H := q
theorem s_drop (q : ta σ H fun _ H1 => D.nx σ H1) : tDrop ta D σ H := q
theorem s_ret (q : ta σ H D.rt) : tRet ta D σ H := q
theorem s_retN (q : D.rt .non H) : tRetN D σ H := q
theorem s_if (q : t σ H fun b H1 => if b = true then t1 D σ H1 else t2 D σ H1) : tIfS t t1 t2 D σ H := q
theorem s_rs {E : XK} (q : E (.ref C) none H) : tRs E C D σ H := q
theorem s_fld0 (q : tv σ H fun y H1 => ta σ H1 fun x H2 => ∃ a C dx fs, x = .ref a ∧ H2 a = some (.ins C dx fs) ∧ Cls K C ∧ NoAttr K C f ∧ fs.length < 1000 ∧ D.nx σ (upd H2 a (.ins C dx (putF f y fs)))) : sFld K ta tv f D σ H := q
theorem fldset_at {R : Hp → Prop} {fs' : List (Str × V)} (h : H a = some (.ins C dx fs)) (hc : Cls K C) (hn : NoAttr K C f) (hl : fs.length < 1000) (e : putF f y fs = fs') (q : R (upd H a (.ins C dx fs'))) :
    ∃ a' C dx fs, V.ref a = V.ref a' ∧ H a' = some (.ins C dx fs) ∧ Cls K C ∧ NoAttr K C f ∧ fs.length < 1000 ∧ R (upd H a' (.ins C dx (putF f y fs))) := ⟨a, C, dx, fs, rfl, h, hc, hn, hl, by rw [e]; exact q⟩
theorem s_fldaug0 {rd : V → V → Hp → VK → Prop} (q : ta σ H fun x H1 => ∃ a C dx fs v, x = .ref a ∧ H1 a = some (.ins C dx fs) ∧ Cls K C ∧ NoAttr K C f ∧ fs.lookup f = some v ∧
    tv σ H1 fun y H2 => rd v y H2 fun z H3 => ∃ dx fs, H3 a = some (.ins C dx fs) ∧ fs.length < 1000 ∧ D.nx σ (upd H3 a (.ins C dx (putF f z fs)))) : sFldAug K ta tv rd f D σ H := q
theorem aug_at {P : Addr → Addr → Addr → List (Str × V) → V → Prop} (h : H a = some (.ins C dx fs)) (hc : Cls K C) (hn : NoAttr K C f) (hl : fs.lookup f = some v) (q : P a C dx fs v) :
    ∃ a' C dx fs v, V.ref a = V.ref a' ∧ H a' = some (.ins C dx fs) ∧ Cls K C ∧ NoAttr K C f ∧ fs.lookup f = some v ∧ P a' C dx fs v := ⟨a, C, dx, fs, v, rfl, h, hc, hn, hl, q⟩
theorem augset_at {R : Hp → Prop} {fs' : List (Str × V)} (h : H a = some (.ins C dx fs)) (hl : fs.length < 1000) (e : putF f z fs = fs') (q : R (upd H a (.ins C dx fs'))) :
    ∃ dx fs, H a = some (.ins C dx fs) ∧ fs.length < 1000 ∧ R (upd H a (.ins C dx (putF f z fs))) := ⟨dx, fs, h, hl, by rw [e]; exact q⟩
theorem in_sub_at {i j : Int} (q : Q (.int (i - j)) H) : L2.rSub (.int i) (.int j) H Q := ⟨i, j, rfl, rfl, q⟩
theorem in_add_at {i j : Int} (q : Q (.int (i + j)) H) : L2.rAdd (.int i) (.int j) H Q := ⟨i, j, rfl, rfl, q⟩
theorem fl0 : ([] : List (Str × V)).length ≤ 0 := Nat.le_refl _
theorem flS {n : Nat} {fs : List (Str × V)} (h : fs.length ≤ n) : (putF f v fs).length ≤ n + 1 := Nat.le_trans (length_putF f v fs) (Nat.succ_le_succ h)
/-! tests decided -/
theorem if_d {p : Prop} [Decidable p] {A B : Prop} (h1 : p → A) (h2 : ¬ p → B) : if decide p = true then A else B := by
  by_cases h : p
  · rw [decide_eq_true h, if_pos rfl]; exact h1 h
  · rw [decide_eq_false h, if_neg Bool.false_ne_true]; exact h2 h
theorem if_nd {p : Prop} [Decidable p] {A B : Prop} (h1 : ¬ p → A) (h2 : p → B) : if (!decide p) = true then A else B := by
  by_cases h : p
  · rw [decide_eq_true h]; exact iteF (h2 h)
  · rw [decide_eq_false h]; exact iteT (h1 h)
theorem if_dT {p : Prop} [Decidable p] {A B : Prop} (h : p) (q : A) : if decide p = true then A else B := by
  rw [decide_eq_true h, if_pos rfl]; exact q
theorem if_dF {p : Prop} [Decidable p] {A B : Prop} (h : ¬ p) (q : B) : if decide p = true then A else B := by
  rw [decide_eq_false h, if_neg Bool.false_ne_true]; exact q
theorem if_ndT {p : Prop} [Decidable p] {A B : Prop} (h : ¬ p) (q : A) : if (!decide p) = true then A else B := by
  rw [decide_eq_false h]; exact iteT q
theorem if_ndF {p : Prop} [Decidable p] {A B : Prop} (h : p) (q : B) : if (!decide p) = true then A else B := by
  rw [decide_eq_true h]; exact iteF q
theorem if_b {b : Bool} {A B : Prop} (h1 : b = true → A) (h2 : b = false → B) : if b = true then A else B := by
  cases b
  · exact iteF (h2 rfl)
  · exact iteT (h1 rfl)
theorem at0 {x : V} {xs : List V} : atI (x :: xs) 0 = some x := atI_nat (j := 0) rfl
theorem at1 {x y : V} {xs : List V} : atI (x :: y :: xs) 1 = some y := atI_nat (j := 1) rfl
theorem at2 {x y z : V} {xs : List V} : atI (x :: y :: z :: xs) 2 = some z := atI_nat (j := 2) rfl
end
/-! ### what stays: all but the things at S; tuples and the like always; the tables of code objects stay such -/
def Imm : HO → Bool
  | .tup _ | .own _ | .ext _ | .frz _ _ | .xd _ | .met _ _ | .rng _ _ => true
  | _ => false
/-- nothing of ours stands at a -/
def Nw (H : Hp) (a : Addr) : Prop := H a = none ∨ ∃ ps, H a = some (.tbl ps)
theorem nw_of {H : Hp} {a : Addr} (h : H a = none) : Nw H a := .inl h
theorem nw_no {H : Hp} {a : Addr} {o : HO} (h : Nw H a) (e : H a = some o) (n : ∀ ps, o ≠ .tbl ps) : False := by
  rcases h with h | ⟨ps, h⟩
  · rw [h] at e; cases e
  · rw [h] at e; cases e; exact n ps rfl
structure Kp (T : List (Addr × Str)) (S : Addr → Prop) (H H' : Hp) : Prop where
  old : ∀ a o, H a = some o → (∀ ps, o ≠ .tbl ps) → ¬ S a → H' a = some o
  imm : ∀ a o, H a = some o → Imm o = true → H' a = some o
  tab : LamX.Tabs T H → LamX.Tabs T H'
  dom : ∀ a, Nw H' a → Nw H a
abbrev No : Addr → Prop := fun _ => False
section
variable {T : List (Addr × Str)} {S S' : Addr → Prop} {H H1 H2 : Hp} {a p : Addr} {o : HO}
theorem Kp.refl : Kp T S H H := ⟨fun _ _ h _ _ => h, fun _ _ h _ => h, fun h => h, fun _ h => h⟩
theorem Kp.trans (k : Kp T S H H1) (k' : Kp T S' H1 H2) (h : ∀ a, S' a → S a ∨ Nw H a) : Kp T S H H2 :=
  ⟨fun a o e n ns => k'.old a o (k.old a o e n ns) n (fun z => (h a z).elim ns (fun q => nw_no q e n)), fun a o e i => k'.imm a o (k.imm a o e i) i, fun t => k'.tab (k.tab t), fun a e => k.dom a (k'.dom a e)⟩
theorem Kp.mono (k : Kp T S H H1) (h : ∀ a, S a → S' a) : Kp T S' H H1 := ⟨fun a o e n ns => k.old a o e n fun z => ns (h a z), k.imm, k.tab, k.dom⟩
theorem Kp.lst {xs : List V} (k : Kp T S H H1) (e : H a = some (.lst xs)) (n : ¬ S a) : H1 a = some (.lst xs) := k.old a _ e (fun _ z => nomatch z) n
theorem Kp.ins {C dx : Addr} {fs : List (Str × V)} (k : Kp T S H H1) (e : H a = some (.ins C dx fs)) (n : ¬ S a) : H1 a = some (.ins C dx fs) := k.old a _ e (fun _ z => nomatch z) n
theorem Kp.dK {kvs : List (Key × V)} (k : Kp T S H H1) (e : H a = some (.dK kvs)) (n : ¬ S a) : H1 a = some (.dK kvs) := k.old a _ e (fun _ z => nomatch z) n
theorem Kp.tup {xs : List V} (k : Kp T S H H1) (e : H a = some (.tup xs)) : H1 a = some (.tup xs) := k.imm a _ e rfl
theorem Kp.sqt {K : PySem.W.Frag} {xs : List V} (k : Kp T S H H1) (h : SqT K H a xs) : SqT K H1 a xs := by
  rcases h with (h | ⟨o, h⟩) | h
  · exact .inl (.inl (k.tup h))
  · exact .inl (.inr ⟨o, k.imm a _ h rfl⟩)
  · exact .inr h
theorem Kp.free (k : Kp T S H H1) (h : H1 a = none) : Nw H a := k.dom a (.inl h)
theorem tabs_upd (h : ∀ q : Addr × Str, LamX.TabS H q.1 q.2 → LamX.TabS H1 q.1 q.2) : LamX.Tabs T H → LamX.Tabs T H1 := fun t q hq => h q (t q hq)
/-- a new thing -/
theorem Kp.new (hp : H p = none) : Kp T S H (upd H p o) := by
  have ex : ∀ b u, H b = some u → upd H p o b = some u := fun b u e => by rw [upd_ne (ne_of_none e hp)]; exact e
  exact ⟨fun b u e _ _ => ex b u e, fun b u e _ => ex b u e, fun t => t.ext ex, fun b e => by
    by_cases hb : b = p
    · rw [hb]; exact .inl hp
    · unfold Nw at e; rw [upd_ne hb] at e; exact e⟩
/-- a thing of S is changed -/
theorem Kp.set {u : HO} (hp : H p = some u) (hu : Imm u = false) (hu2 : ∀ ps, u ≠ .tbl ps) (hs : S p) (ho : ∀ ps, o ≠ .tbl ps := by intro _ z; cases z) : Kp T S H (upd H p o) := by
  have ne : ∀ b v, H b = some v → Imm v = true → b ≠ p := fun b v e i z => by rw [z, hp] at e; cases e; rw [i] at hu; cases hu
  have nt : ∀ b ps, H b = some (.tbl ps) → b ≠ p := fun b ps e z => by rw [z, hp] at e; cases e; exact hu2 ps rfl
  refine ⟨fun b v e _ n => by rw [upd_ne (fun z => n (by rw [z]; exact hs))]; exact e, fun b v e i => by rw [upd_ne (ne b v e i)]; exact e, tabs_upd fun q t => ?_, fun b e => ?_⟩
  · obtain ⟨ps, h1, h2, h3⟩ := t
    refine ⟨ps, by rw [upd_ne (nt _ ps h1)]; exact h1, h2, fun pos cv hc => ?_⟩
    obtain ⟨c, e1, e2⟩ := h3 pos cv hc
    exact ⟨c, e1, by rw [upd_ne (ne c _ e2 rfl)]; exact e2⟩
  · by_cases hb : b = p
    · rw [hb] at e; exact (nw_no e upd_same ho).elim
    · unfold Nw at e; rw [upd_ne hb] at e; exact e
theorem Kp.setL {xs : List V} (hp : H p = some (.lst xs)) (hs : S p) (ho : ∀ ps, o ≠ .tbl ps := by intro _ z; cases z) : Kp T S H (upd H p o) := Kp.set hp rfl (fun _ z => nomatch z) hs ho
theorem Kp.setI {C dx : Addr} {fs : List (Str × V)} (hp : H p = some (.ins C dx fs)) (hs : S p) (ho : ∀ ps, o ≠ .tbl ps := by intro _ z; cases z) : Kp T S H (upd H p o) := Kp.set hp rfl (fun _ z => nomatch z) hs ho
theorem Kp.setD {kvs : List (Key × V)} (hp : H p = some (.dK kvs)) (hs : S p) (ho : ∀ ps, o ≠ .tbl ps := by intro _ z; cases z) : Kp T S H (upd H p o) := Kp.set hp rfl (fun _ z => nomatch z) hs ho
/-- on and on -/
theorem Kp.new' (k : Kp T S H H1) (hp : H1 p = none) : Kp T S H (upd H1 p o) := k.trans (S' := No) (Kp.new hp) fun _ z => z.elim
theorem Kp.setL' {xs : List V} (k : Kp T S H H1) (hp : H1 p = some (.lst xs)) (hs : S p ∨ Nw H p) (ho : ∀ ps, o ≠ .tbl ps := by intro _ z; cases z) : Kp T S H (upd H1 p o) := k.trans (S' := fun a => a = p) (Kp.setL hp rfl ho) fun a z => by rw [z]; exact hs
theorem Kp.setI' {C dx : Addr} {fs : List (Str × V)} (k : Kp T S H H1) (hp : H1 p = some (.ins C dx fs)) (hs : S p ∨ Nw H p) (ho : ∀ ps, o ≠ .tbl ps := by intro _ z; cases z) : Kp T S H (upd H1 p o) := k.trans (S' := fun a => a = p) (Kp.setI hp rfl ho) fun a z => by rw [z]; exact hs
theorem Kp.setD' {kvs : List (Key × V)} (k : Kp T S H H1) (hp : H1 p = some (.dK kvs)) (hs : S p ∨ Nw H p) (ho : ∀ ps, o ≠ .tbl ps := by intro _ z; cases z) : Kp T S H (upd H1 p o) := k.trans (S' := fun a => a = p) (Kp.setD hp rfl ho) fun a z => by rw [z]; exact hs
end
end Cm
namespace Cm
open PySem PySem.Spec PyProof.Rows L2
section
variable {K : PySem.W.Frag} {σ : L2.St} {H : Hp} {Q : VK} {v x y z : V} {a b p : Addr}
theorem r_ixl {xs : List V} {i : Int} {v : V} (h : H p = some (.lst xs)) (e : atI xs i = some v) (q : Q v H) : rIxA K (.ref p) (.int i) H Q := r_ixL (SqL.of h) e q
theorem r_ixt {xs : List V} {i : Int} {v : V} (h : H p = some (.tup xs)) (e : atI xs i = some v) (q : Q v H) : rIxA K (.ref p) (.int i) H Q := r_ixT (SqT.of h) e q
theorem r_ixds {kvs : List (Key × V)} {k : Str} {v : V} (h : H p = some (.dK kvs)) (e : valV kvs (.inr k) = some v) (q : Q v H) : rIxA K (.ref p) (.str k) H Q := r_ixDs (.inl h) e q
theorem r_eqe {xs : List V} (ha : H a = some (.lst xs)) (hb : H b = some (.lst [])) (q : Q (.bl xs.isEmpty) H) : rEqA K (.ref a) (.ref b) H Q := r_eqE (SqL.of ha) (SqL.of hb) q
theorem r_nee {xs : List V} (ha : H a = some (.lst xs)) (hb : H b = some (.lst [])) (q : Q (.bl (!xs.isEmpty)) H) : rNeA K (.ref a) (.ref b) H Q := r_neE (SqL.of ha) (SqL.of hb) q
theorem r_lenl {xs : List V} (h : H p = some (.lst xs)) (q : Q (.int xs.length) H) : rLenA K [.ref p] H Q := r_lenL (SqL.of h) q
theorem r_lent {xs : List V} (h : H p = some (.tup xs)) (q : Q (.int xs.length) H) : rLenA K [.ref p] H Q := r_lenT (SqT.of h) q
theorem r_listl {xs : List V} (h : H p = some (.lst xs)) (q : ∀ l, H l = none → Q (.ref l) (upd H l (.lst xs))) : rListA K [.ref p] H Q := r_listL (SqL.of h) q
theorem r_tupl {xs : List V} (h : H p = some (.lst xs)) (q : ∀ l, H l = none → Q (.ref l) (upd H l (.tup xs))) : rTupleA K [.ref p] H Q := r_tupL (SqL.of h) q
theorem new_at {n : Nat} {R : Addr → Prop} (hz : n ≤ sizeLine) (q : ∀ p, H p = none → R p) : n ≤ sizeLine ∧ ∀ p, H p = none → R p := ⟨hz, q⟩
theorem and_at {A B : Prop} (h : A) (q : B) : A ∧ B := ⟨h, q⟩
theorem g_tupt {n : Nat} {gs : TGs} {xs : List V} {QS : L2.St → Hp → Prop} (h : H p = some (.tup xs)) (e : xs.length = n) (q : gs xs σ H QS) : gTup K n gs (.ref p) σ H QS := g_tup (SqT.of h) e q
theorem ix0 {n : Nat} (h : 0 < n) : ixN n 0 = some 0 := by
  unfold ixN
  rw [if_pos (by decide), if_pos (by omega)]; rfl
theorem ix1 {n : Nat} (h : 1 < n) : ixN n 1 = some 1 := by
  unfold ixN
  rw [if_pos (by decide), if_pos (by omega)]; rfl
theorem ix_nat {n : Nat} {i : Int} (h0 : 0 ≤ i) (h : i < n) : ixN n i = some i.toNat := by
  unfold ixN
  rw [if_pos h0, if_pos h]
theorem at_nat {α : Type} {xs : List α} {i : Int} {v : α} (h0 : 0 ≤ i) (h : xs[i.toNat]? = some v) : atI xs i = some v := by
  have e : i = ((i.toNat : Nat) : Int) := by omega
  rw [e]; exact atI_nat h
end
end Cm
namespace Cm
open PySem PySem.Spec PyProof.Rows L2
/-- nothing that stands is forgotten -/
def Dm (H H' : Hp) : Prop := ∀ a, Nw H' a → Nw H a
section
variable {T : List (Addr × Str)} {S S' : Addr → Prop} {H H1 H2 : Hp} {a p : Addr} {o : HO}
theorem dm_refl : Dm H H := fun _ h => h
theorem dm_upd (d : Dm H H1) (ho : ∀ ps, o ≠ .tbl ps := by intro _ z; cases z) : Dm H (upd H1 p o) := fun b e => by
  by_cases hb : b = p
  · rw [hb] at e; exact (nw_no e upd_same ho).elim
  · unfold Nw at e; rw [upd_ne hb] at e; exact d b e
theorem dm_kp (d : Dm H H1) (k : Kp T S H1 H2) : Dm H H2 := fun b e => d b (k.dom b e)
theorem dm_use (d : Dm H H1) (h : H1 a = none) : Nw H a := d a (.inl h)
theorem dm_use2 (d : Dm H H1) (h : Nw H1 a) : Nw H a := d a h
theorem kp_look (k : Kp T S H H1) (e : H a = some o) (nt : ∀ ps, o ≠ .tbl ps) (n : Imm o = true ∨ ¬ S a) : H1 a = some o := by
  rcases n with n | n
  · exact k.imm a o e n
  · exact k.old a o e nt n
theorem kp_dom (k : Kp T S H H1) : Dm H H1 := k.dom
/-- a lambda was made -/
theorem kp_lam (e : LamX.ExtN H H1) (t : LamX.Tabs T H1) : Kp T S H H1 := ⟨fun a o h n _ => e a o h n, fun a o h i => e a o h (fun ps z => by rw [z] at i; cases i), fun _ => t, fun a h => by
  cases hq : H a with
  | none => exact .inl hq
  | some o =>
    by_cases z : ∃ ps, o = .tbl ps
    · obtain ⟨ps, rfl⟩ := z; exact .inr ⟨ps, hq⟩
    · exact (nw_no h (e a o hq (fun ps y => z ⟨ps, y⟩)) (fun ps y => z ⟨ps, y⟩)).elim⟩
theorem kp_step (k : Kp T S H H1) (k' : Kp T S' H1 H2) (h : ∀ a, S' a → S a ∨ Nw H a) : Kp T S H H2 := k.trans k' h
end
end Cm
namespace Cm
open PySem PySem.Spec PyProof.Rows L2
section
variable {K : PySem.W.Frag} {H : Hp} {Q : VK} {x : V} {p : Addr}
theorem m_pop0 {xs : List V} (h : H p = some (.lst (x :: xs))) (q : Q x (upd H p (.lst xs))) : rPopAt (.ref p) [.int 0] H Q :=
  ⟨p, x :: xs, 0, 0, x, rfl, rfl, h, by decide, by decide, seqIndex_of (by decide) (by simp), rfl, q⟩
end
end Cm
namespace Cm
open PySem PySem.Spec PyProof.Rows L2
section
variable {K : PySem.W.Frag} {H : Hp} {Q : VK}
theorem q_dec {p : Prop} [Decidable p] (h : p) (q : Q (.bl true) H) : Q (.bl (decide p)) H := by rw [decide_eq_true h]; exact q
theorem q_ndec {p : Prop} [Decidable p] (h : p) (q : Q (.bl false) H) : Q (.bl (!decide p)) H := by rw [decide_eq_true h]; exact q
end
end Cm
namespace Cm
open PySem PySem.Spec PyProof.Rows L2
section
variable {K : PySem.W.Frag} {σ : L2.St} {H : Hp} {Q : VK} {a : Addr} {tk tv : TE} {trs : List (TE × TE)} {QP : List (V × V) → Hp → Prop}
theorem e_disp (q : ∀ p, H p = none → tPairs trs σ (upd H p (.dK [])) fun ps H2 => H2 p = some (.dK []) ∧ ∃ kvs : List (Key × V), ps = kvs.map (fun kv => (kV kv.1, kv.2)) ∧ kvs.length ≤ 15 ∧ Q (.ref p) (upd H2 p (.dK (mergeK [] kvs)))) : tDisp trs σ H Q := q
theorem e_pnil (q : QP [] H) : tPairs [] σ H QP := q
theorem e_pcons (q : tk σ H fun x H1 => tv σ H1 fun y H2 => tPairs trs σ H2 fun ps H3 => QP ((x, y) :: ps) H3) : tPairs ((tk, tv) :: trs) σ H QP := q
theorem r_rep {xs : List V} {k : Int} (h : H a = some (.lst xs)) (h1 : -(2 ^ 63) ≤ k) (h2 : k < 2 ^ 63) (h3 : xs.length * k.toNat ≤ sizeLine) (q : ∀ p, H p = none → Q (.ref p) (upd H p (.lst (List.replicate k.toNat xs).flatten))) : rMulA (.ref a) (.int k) H Q := .inr ⟨a, k, xs, rfl, rfl, h, h1, h2, h3, q⟩
end
end Cm
namespace Cm
open PySem PySem.Spec PyProof.Rows L2
section
variable {K : PySem.W.Frag} {H : Hp} {Q : VK} {p a b : Addr}
theorem cut_to {xs : List V} {i : Int} (h : 0 ≤ i) : cutV xs none (some i) = xs.take i.toNat := by
  have e : i = ((i.toNat : Nat) : Int) := by omega
  unfold cutV
  rw [e, HT.sIx_nat, HT.sIx_none]
  simp only [List.drop_zero, Nat.sub_zero]
  rw [Int.toNat_natCast, ← List.take_take, List.take_length]
theorem cut_from {xs : List V} {i : Int} (h : 0 ≤ i) : cutV xs (some i) none = xs.drop i.toNat := by
  have e : i = ((i.toNat : Nat) : Int) := by omega
  unfold cutV
  rw [e, HT.sIx_nat, HT.sIx_none, Int.toNat_natCast]
  rcases Nat.le_total i.toNat xs.length with hl | hl
  · rw [Nat.min_eq_left hl, ← List.length_drop, List.take_length]
  · rw [Nat.min_eq_right hl, List.drop_length, List.drop_eq_nil_of_le hl]; simp
theorem r_slTo {xs : List V} {i : Int} (h : H p = some (.lst xs)) (h0 : 0 ≤ i) (q : ∀ l, H l = none → Q (.ref l) (upd H l (.lst (xs.take i.toNat)))) : rSlAny K (.ref p) none (some i) H Q := .inl ⟨p, xs, rfl, SqL.of h, fun l hl => by rw [cut_to h0]; exact q l hl⟩
theorem r_slFrom {xs : List V} {i : Int} (h : H p = some (.lst xs)) (h0 : 0 ≤ i) (q : ∀ l, H l = none → Q (.ref l) (upd H l (.lst (xs.drop i.toNat)))) : rSlAny K (.ref p) (some i) none H Q := .inl ⟨p, xs, rfl, SqL.of h, fun l hl => by rw [cut_from h0]; exact q l hl⟩
theorem r_catT {xs ys : List V} (ha : H a = some (.tup xs)) (hb : H b = some (.tup ys)) (hz : xs.length + ys.length ≤ sizeLine) (q0 : xs = [] → Q (.ref b) H) (q1 : xs ≠ [] → ys = [] → Q (.ref a) H) (q2 : xs ≠ [] → ys ≠ [] → ∀ p, H p = none → Q (.ref p) (upd H p (.tup (xs ++ ys)))) :
    rAddA K (.ref a) (.ref b) H Q := .inr ⟨a, b, xs, ys, rfl, rfl, SqT.of ha, SqT.of hb, hz, q0, q1, q2⟩
end
end Cm
namespace Cm
open PySem PySem.Spec PyProof.Rows L2
theorem sz_lit {n : Nat} (h : Nat.ble n 1000 = true) : n ≤ sizeLine := Nat.le_trans (Nat.le_of_ble_eq_true h) (by decide)
theorem sz_lt {n : Nat} (h : Nat.ble (n + 1) 1000 = true) : n < sizeLine := Nat.lt_of_lt_of_le (Nat.lt_of_succ_le (Nat.le_of_ble_eq_true h)) (by decide)
theorem fs_lt {n : Nat} (h : Nat.ble (n + 1) 900 = true) : n < 1000 := Nat.lt_of_lt_of_le (Nat.lt_of_succ_le (Nat.le_of_ble_eq_true h)) (by decide)
end Cm
namespace Cm
open PySem PySem.Spec PyProof.Rows L2
section
variable {x0 x1 x2 x3 x4 x5 x6 x7 x8 : V} {xs : List V}
theorem at0s {v : V} : atI ((x0 :: xs).set 0 v) 0 = some v := atI_nat (j := 0) rfl
theorem at1s {v : V} : atI ((x0 :: x1 :: xs).set 1 v) 1 = some v := atI_nat (j := 1) rfl
theorem at01s {v : V} : atI ((x0 :: x1 :: xs).set 1 v) 0 = some x0 := atI_nat (j := 0) rfl
theorem at10s {v : V} : atI ((x0 :: x1 :: xs).set 0 v) 1 = some x1 := atI_nat (j := 1) rfl
theorem at3 : atI (x0 :: x1 :: x2 :: x3 :: xs) 3 = some x3 := atI_nat (j := 3) rfl
theorem at4 : atI (x0 :: x1 :: x2 :: x3 :: x4 :: xs) 4 = some x4 := atI_nat (j := 4) rfl
theorem at5 : atI (x0 :: x1 :: x2 :: x3 :: x4 :: x5 :: xs) 5 = some x5 := atI_nat (j := 5) rfl
theorem at6 : atI (x0 :: x1 :: x2 :: x3 :: x4 :: x5 :: x6 :: xs) 6 = some x6 := atI_nat (j := 6) rfl
theorem at7 : atI (x0 :: x1 :: x2 :: x3 :: x4 :: x5 :: x6 :: x7 :: xs) 7 = some x7 := atI_nat (j := 7) rfl
theorem at8 : atI (x0 :: x1 :: x2 :: x3 :: x4 :: x5 :: x6 :: x7 :: x8 :: xs) 8 = some x8 := atI_nat (j := 8) rfl
end
end Cm

end
section
/-! ### C3: loops and comprehensions -/
namespace Cm
open PySem PySem.Spec PyProof.Rows L2
section
variable {K : PySem.W.Frag} {σ : L2.St} {H : Hp} {Q : VK} {D : Ends} {tl : TE} {ta : TA} {g : TG} {tb : TS} {tt : TT} {te : TE} {vs : List Nat} {p : Addr} {xs : List V}
/-- for over a list that stands still -/
theorem f_lst (hl : tl σ H fun x H1 => x = .ref p ∧ H1 = H) (h : H p = some (.lst xs)) (Pv : Nat → L2.St → Hp → Prop) (h0 : Pv 0 σ H) (hst : ∀ i σ' H', i ≤ xs.length → Pv i σ' H' → H' p = some (.lst xs))
    (hs : ∀ i x σ' H', xs[i]? = some x → Pv i σ' H' → g x σ' H' fun σ2 H2 => tb { D with nx := Pv (i + 1), ct := Pv (i + 1), bk := D.nx } σ2 H2) (hd : ∀ σ' H', Pv xs.length σ' H' → D.nx σ' H')
    (mono : ∀ (Q Q' : VK), (∀ v H, Q v H → Q' v H) → tl σ H Q → tl σ H Q') : tFor (iSeq K tl) g tb D σ H :=
  .inl (mono _ _ (fun v H1 z => by
    obtain ⟨rfl, rfl⟩ := z
    exact ⟨p, rfl, ⟨xs, SqL.of h⟩, for_list (K := K) (a := p) (xs := xs) Pv h0 (fun i σ' H' hi z => SqL.of (hst i σ' H' hi z)) hs hd⟩) hl)
theorem i_list {R : It → Hp → Prop} (q : tl σ H fun x H1 => ∃ a, x = .ref a ∧ (∃ xs, SqL K H1 a xs) ∧ R (Itl K a) H1) : iSeq K tl σ H R := .inl q
theorem i_tup {R : It → Hp → Prop} (q : tl σ H fun x H1 => ∃ a, x = .ref a ∧ (∃ xs, SqT K H1 a xs) ∧ R (Itt K a) H1) : iSeq K tl σ H R := .inr q
theorem s_forL (q : tl σ H fun x H1 => ∃ a, x = .ref a ∧ (∃ xs, SqL K H1 a xs) ∧ ∃ W : Nat → Nat → L2.St → Hp → Prop, (∃ m, W 0 m σ H1) ∧ ∀ i m σ H, W i m σ H →
    ((Itl K a).stop i H ∧ D.nx σ H) ∨ ((Itl K a).go i H ∧ ∃ N : L2.St → Hp → Prop, (∀ σ' H', N σ' H' → ∃ m', m' < m ∧ W (i + 1) m' σ' H') ∧ ∀ x H', (Itl K a).yld i H x H' → g x σ H' fun σ2 H2 => tb { D with nx := N, ct := N, bk := D.nx } σ2 H2)) : tFor (iSeq K tl) g tb D σ H := .inl q
theorem s_forT (q : tl σ H fun x H1 => ∃ a, x = .ref a ∧ (∃ xs, SqT K H1 a xs) ∧ ∃ W : Nat → Nat → L2.St → Hp → Prop, (∃ m, W 0 m σ H1) ∧ ∀ i m σ H, W i m σ H →
    ((Itt K a).stop i H ∧ D.nx σ H) ∨ ((Itt K a).go i H ∧ ∃ N : L2.St → Hp → Prop, (∀ σ' H', N σ' H' → ∃ m', m' < m ∧ W (i + 1) m' σ' H') ∧ ∀ x H', (Itt K a).yld i H x H' → g x σ H' fun σ2 H2 => tb { D with nx := N, ct := N, bk := D.nx } σ2 H2)) : tFor (iSeq K tl) g tb D σ H := .inr q
theorem s_forR (q : ta σ H fun vs H1 => ∃ j : Int, vs = [.int j] ∧ -(2 ^ 62) ≤ j ∧ j < 2 ^ 62 ∧ ∃ W : Nat → Nat → L2.St → Hp → Prop, (∃ m, W 0 m σ H1) ∧ ∀ i m σ H, W i m σ H →
    ((Itr 0 j.toNat).stop i H ∧ D.nx σ H) ∨ ((Itr 0 j.toNat).go i H ∧ ∃ N : L2.St → Hp → Prop, (∀ σ' H', N σ' H' → ∃ m', m' < m ∧ W (i + 1) m' σ' H') ∧ ∀ x H', (Itr 0 j.toNat).yld i H x H' → g x σ H' fun σ2 H2 => tb { D with nx := N, ct := N, bk := D.nx } σ2 H2)) : tFor (iRng1 ta) g tb D σ H := q
theorem s_forZ (q : ta σ H fun vs H1 => ∃ a b xs ys, vs = [.ref a, .ref b] ∧ SqL K H1 a xs ∧ SqL K H1 b ys ∧ ∃ W : Nat → Nat → L2.St → Hp → Prop, (∃ m, W 0 m σ H1) ∧ ∀ i m σ H, W i m σ H →
    ((Itz K a b).stop i H ∧ D.nx σ H) ∨ ((Itz K a b).go i H ∧ ∃ N : L2.St → Hp → Prop, (∀ σ' H', N σ' H' → ∃ m', m' < m ∧ W (i + 1) m' σ' H') ∧ ∀ x H', (Itz K a b).yld i H x H' → g x σ H' fun σ2 H2 => tb { D with nx := N, ct := N, bk := D.nx } σ2 H2)) : tFor (iZip K ta) g tb D σ H := q
/-- the loop's core, over a list, a tuple, a range (behind s_forL .. and the run of what is walked) -/
theorem at_forL {R : Addr → Prop} (h : H p = some (.lst xs)) (q : R p) : ∃ a, V.ref p = V.ref a ∧ (∃ xs, SqL K H a xs) ∧ R a := ⟨p, rfl, ⟨xs, SqL.of h⟩, q⟩
theorem at_forT {R : Addr → Prop} (h : H p = some (.tup xs)) (q : R p) : ∃ a, V.ref p = V.ref a ∧ (∃ xs, SqT K H a xs) ∧ R a := ⟨p, rfl, ⟨xs, SqT.of h⟩, q⟩
theorem at_forR {R : Int → Prop} {j : Int} (h1 : -(2 ^ 62) ≤ j) (h2 : j < 2 ^ 62) (q : R j) : ∃ i : Int, [V.int j] = [V.int i] ∧ -(2 ^ 62) ≤ i ∧ i < 2 ^ 62 ∧ R i := ⟨j, rfl, h1, h2, q⟩
/-- comprehensions: acc is what the new list at Dl holds so far -/
def CI (Pv : Nat → List V → Hp → Prop) (Dl : Addr) (i : Nat) (H' : Hp) : Prop := ∃ acc, acc.length ≤ i ∧ Pv i acc H' ∧ H' Dl = some (.lst acc)
theorem c_put {Pv : Nat → List V → Hp → Prop} {Dl : Addr} {i : Nat} {acc : List V} {y : V} (h : H Dl = some (.lst acc)) (hl : acc.length ≤ i) (hi : i ≤ 100000) (q : Pv (i + 1) (acc ++ [y]) (upd H Dl (.lst (acc ++ [y])))) :
    ∃ acc, H Dl = some (.lst acc) ∧ acc.length < sizeLine ∧ CI Pv Dl (i + 1) (upd H Dl (.lst (acc ++ [y]))) := ⟨acc, h, by rw [sizeLine_eq]; omega, acc ++ [y], by simp; omega, q, upd_same⟩
theorem c_skip {Pv : Nat → List V → Hp → Prop} {Dl : Addr} {i : Nat} {acc : List V} (h : H Dl = some (.lst acc)) (hl : acc.length ≤ i) (q : Pv (i + 1) acc H) : CI Pv Dl (i + 1) H := ⟨acc, by omega, q, h⟩
def CStep (Pv : Nat → List V → Hp → Prop) (Dl : Addr) (σ : L2.St) (vs : List Nat) (g : TG) (tt : TT) (te : TE) (i : Nat) (x : V) (H' : Hp) : Prop :=
  g x (wipe σ vs) H' fun σ2 H2 => wipe σ2 vs = wipe σ vs ∧ tt σ2 H2 fun b H3 => if b = true then te σ2 H3 fun y H4 => ∃ acc, H4 Dl = some (.lst acc) ∧ acc.length < sizeLine ∧ CI Pv Dl (i + 1) (upd H4 Dl (.lst (acc ++ [y]))) else CI Pv Dl (i + 1) H3
/-- behind the run of what is walked -/
theorem lcL (q : tl σ H fun x H1 => ∃ a, x = .ref a ∧ (∃ xs, SqL K H1 a xs) ∧ ∀ D, H1 D = none → ∃ W : Nat → Nat → Hp → Prop, (∃ m, W 0 m (upd H1 D (.lst []))) ∧ ∀ i m H, W i m H →
    ((Itl K a).stop i H ∧ Q (.ref D) H) ∨ ((Itl K a).go i H ∧ ∃ Nx : Hp → Prop, (∀ H', Nx H' → ∃ m', m' < m ∧ W (i + 1) m' H') ∧ ∀ x H', (Itl K a).yld i H x H' → g x (wipe σ vs) H' fun σ2 H2 => wipe σ2 vs = wipe σ vs ∧ tt σ2 H2 fun b H3 =>
    if b = true then te σ2 H3 fun y H4 => ∃ acc, H4 D = some (.lst acc) ∧ acc.length < sizeLine ∧ Nx (upd H4 D (.lst (acc ++ [y]))) else Nx H3)) : tLc (iSeq K tl) g tt te vs σ H Q := .inl q
theorem lcT (q : tl σ H fun x H1 => ∃ a, x = .ref a ∧ (∃ xs, SqT K H1 a xs) ∧ ∀ D, H1 D = none → ∃ W : Nat → Nat → Hp → Prop, (∃ m, W 0 m (upd H1 D (.lst []))) ∧ ∀ i m H, W i m H →
    ((Itt K a).stop i H ∧ Q (.ref D) H) ∨ ((Itt K a).go i H ∧ ∃ Nx : Hp → Prop, (∀ H', Nx H' → ∃ m', m' < m ∧ W (i + 1) m' H') ∧ ∀ x H', (Itt K a).yld i H x H' → g x (wipe σ vs) H' fun σ2 H2 => wipe σ2 vs = wipe σ vs ∧ tt σ2 H2 fun b H3 =>
    if b = true then te σ2 H3 fun y H4 => ∃ acc, H4 D = some (.lst acc) ∧ acc.length < sizeLine ∧ Nx (upd H4 D (.lst (acc ++ [y]))) else Nx H3)) : tLc (iSeq K tl) g tt te vs σ H Q := .inr q
theorem lcR (q : ta σ H fun vs' H1 => ∃ j : Int, vs' = [.int j] ∧ -(2 ^ 62) ≤ j ∧ j < 2 ^ 62 ∧ ∀ D, H1 D = none → ∃ W : Nat → Nat → Hp → Prop, (∃ m, W 0 m (upd H1 D (.lst []))) ∧ ∀ i m H, W i m H →
    ((Itr 0 j.toNat).stop i H ∧ Q (.ref D) H) ∨ ((Itr 0 j.toNat).go i H ∧ ∃ Nx : Hp → Prop, (∀ H', Nx H' → ∃ m', m' < m ∧ W (i + 1) m' H') ∧ ∀ x H', (Itr 0 j.toNat).yld i H x H' → g x (wipe σ vs) H' fun σ2 H2 => wipe σ2 vs = wipe σ vs ∧ tt σ2 H2 fun b H3 =>
    if b = true then te σ2 H3 fun y H4 => ∃ acc, H4 D = some (.lst acc) ∧ acc.length < sizeLine ∧ Nx (upd H4 D (.lst (acc ++ [y]))) else Nx H3)) : tLc (iRng1 ta) g tt te vs σ H Q := q
/-- the core of each, by an invariant over (turn, what is made, heap) -/
theorem coreL {Qd : Hp → Prop} {Dl : Addr} (Pv : Nat → List V → Hp → Prop) (h0 : Pv 0 [] (upd H Dl (.lst []))) (hst : ∀ i acc H', Pv i acc H' → H' p = some (.lst xs))
    (hs : ∀ i x acc H', xs[i]? = some x → i < xs.length → acc.length ≤ i → Pv i acc H' → H' Dl = some (.lst acc) → CStep Pv Dl σ vs g tt te i x H') (hd : ∀ acc H', acc.length ≤ xs.length → Pv xs.length acc H' → H' Dl = some (.lst acc) → Qd H') :
    ∃ W : Nat → Nat → Hp → Prop, (∃ m, W 0 m (upd H Dl (.lst []))) ∧ ∀ i m H, W i m H →
    ((Itl K p).stop i H ∧ Qd H) ∨ ((Itl K p).go i H ∧ ∃ Nx : Hp → Prop, (∀ H', Nx H' → ∃ m', m' < m ∧ W (i + 1) m' H') ∧ ∀ x H', (Itl K p).yld i H x H' → g x (wipe σ vs) H' fun σ2 H2 => wipe σ2 vs = wipe σ vs ∧ tt σ2 H2 fun b H3 =>
    if b = true then te σ2 H3 fun y H4 => ∃ acc, H4 Dl = some (.lst acc) ∧ acc.length < sizeLine ∧ Nx (upd H4 Dl (.lst (acc ++ [y]))) else Nx H3) :=
  lc_list (K := K) (a := p) (xs := xs) (Qd := Qd) (CI Pv Dl) ⟨[], Nat.le_refl _, h0, upd_same⟩ (fun i H' _ ⟨acc, _, z, _⟩ => SqL.of (hst i acc H' z))
    (fun i x H' hx ⟨acc, l, z, e⟩ => hs i x acc H' hx (List.getElem?_eq_some_iff.mp hx).1 l z e) (fun H' ⟨acc, l, z, e⟩ => hd acc H' l z e)
theorem coreT {Qd : Hp → Prop} {Dl : Addr} (Pv : Nat → List V → Hp → Prop) (h0 : Pv 0 [] (upd H Dl (.lst []))) (hst : ∀ i acc H', Pv i acc H' → H' p = some (.tup xs))
    (hs : ∀ i x acc H', xs[i]? = some x → i < xs.length → acc.length ≤ i → Pv i acc H' → H' Dl = some (.lst acc) → CStep Pv Dl σ vs g tt te i x H') (hd : ∀ acc H', acc.length ≤ xs.length → Pv xs.length acc H' → H' Dl = some (.lst acc) → Qd H') :
    ∃ W : Nat → Nat → Hp → Prop, (∃ m, W 0 m (upd H Dl (.lst []))) ∧ ∀ i m H, W i m H →
    ((Itt K p).stop i H ∧ Qd H) ∨ ((Itt K p).go i H ∧ ∃ Nx : Hp → Prop, (∀ H', Nx H' → ∃ m', m' < m ∧ W (i + 1) m' H') ∧ ∀ x H', (Itt K p).yld i H x H' → g x (wipe σ vs) H' fun σ2 H2 => wipe σ2 vs = wipe σ vs ∧ tt σ2 H2 fun b H3 =>
    if b = true then te σ2 H3 fun y H4 => ∃ acc, H4 Dl = some (.lst acc) ∧ acc.length < sizeLine ∧ Nx (upd H4 Dl (.lst (acc ++ [y]))) else Nx H3) :=
  lc_tup (K := K) (a := p) (xs := xs) (Qd := Qd) (CI Pv Dl) ⟨[], Nat.le_refl _, h0, upd_same⟩ (fun i H' _ ⟨acc, _, z, _⟩ => SqT.of (hst i acc H' z))
    (fun i x H' hx ⟨acc, l, z, e⟩ => hs i x acc H' hx (List.getElem?_eq_some_iff.mp hx).1 l z e) (fun H' ⟨acc, l, z, e⟩ => hd acc H' l z e)
theorem coreR {Qd : Hp → Prop} {Dl : Addr} {j : Int} (Pv : Nat → List V → Hp → Prop) (h0 : Pv 0 [] (upd H Dl (.lst [])))
    (hs : ∀ (i : Nat) acc H', (i : Int) < j → acc.length ≤ i → Pv i acc H' → H' Dl = some (.lst acc) → CStep Pv Dl σ vs g tt te i (.int (i : Int)) H') (hd : ∀ acc H', acc.length ≤ j.toNat → Pv j.toNat acc H' → H' Dl = some (.lst acc) → Qd H') :
    ∃ W : Nat → Nat → Hp → Prop, (∃ m, W 0 m (upd H Dl (.lst []))) ∧ ∀ i m H, W i m H →
    ((Itr 0 j.toNat).stop i H ∧ Qd H) ∨ ((Itr 0 j.toNat).go i H ∧ ∃ Nx : Hp → Prop, (∀ H', Nx H' → ∃ m', m' < m ∧ W (i + 1) m' H') ∧ ∀ x H', (Itr 0 j.toNat).yld i H x H' → g x (wipe σ vs) H' fun σ2 H2 => wipe σ2 vs = wipe σ vs ∧ tt σ2 H2 fun b H3 =>
    if b = true then te σ2 H3 fun y H4 => ∃ acc, H4 Dl = some (.lst acc) ∧ acc.length < sizeLine ∧ Nx (upd H4 Dl (.lst (acc ++ [y]))) else Nx H3) :=
  lc_range (lo := 0) (n := j.toNat) (Qd := Qd) (CI Pv Dl) ⟨[], Nat.le_refl _, h0, upd_same⟩
    (fun i H' hi ⟨acc, l, z, e⟩ => by
      have r := hs i acc H' (by omega) l z e
      rw [show ((0 : Int) + (i : Nat)) = (i : Int) by omega]
      exact r) (fun H' ⟨acc, l, z, e⟩ => hd acc H' l z e)
/-- loops over a range -/
theorem forR {nx : L2.St → Hp → Prop} {rt : VK} {j : Int} (Pv : Nat → L2.St → Hp → Prop) (h0 : Pv 0 σ H) (hs : ∀ (i : Nat) σ' H', (i : Int) < j → Pv i σ' H' → g (.int (i : Int)) σ' H' fun σ2 H2 => tb { nx := Pv (i + 1), rt := rt, bk := nx, ct := Pv (i + 1) } σ2 H2) (hd : ∀ σ' H', Pv j.toNat σ' H' → nx σ' H') :
    ∃ W : Nat → Nat → L2.St → Hp → Prop, (∃ m, W 0 m σ H) ∧ ∀ i m σ H, W i m σ H →
    ((Itr 0 j.toNat).stop i H ∧ nx σ H) ∨ ((Itr 0 j.toNat).go i H ∧ ∃ N : L2.St → Hp → Prop, (∀ σ' H', N σ' H' → ∃ m', m' < m ∧ W (i + 1) m' σ' H') ∧ ∀ x H', (Itr 0 j.toNat).yld i H x H' → g x σ H' fun σ2 H2 => tb { nx := N, rt := rt, bk := nx, ct := N } σ2 H2) :=
  for_range (D := { nx := nx, rt := rt }) (lo := 0) (n := j.toNat) Pv h0 (fun i σ' H' hi z => by
    have r := hs i σ' H' (by omega) z
    rw [show ((0 : Int) + (i : Nat)) = (i : Int) by omega]
    exact r) hd
/-- loops over zip of two lists, as far as the shorter goes -/
theorem forZ {nx : L2.St → Hp → Prop} {rt : VK} {a b : Addr} {xs ys : List V} (Pv : Nat → L2.St → Hp → Prop) (h0 : Pv 0 σ H) (hst : ∀ i σ' H', Pv i σ' H' → H' a = some (.lst xs) ∧ H' b = some (.lst ys))
    (hs : ∀ (i : Nat) (x y : V) (T : Addr) σ' H', xs[i]? = some x → ys[i]? = some y → Pv i σ' H' → H' T = none → g (.ref T) σ' (upd H' T (.tup [x, y])) fun σ2 H2 => tb { nx := Pv (i + 1), rt := rt, bk := nx, ct := Pv (i + 1) } σ2 H2)
    (hd : ∀ σ' H', Pv (min xs.length ys.length) σ' H' → nx σ' H') :
    ∃ W : Nat → Nat → L2.St → Hp → Prop, (∃ m, W 0 m σ H) ∧ ∀ i m σ H, W i m σ H →
      ((Itz K a b).stop i H ∧ nx σ H) ∨ ((Itz K a b).go i H ∧ ∃ N : L2.St → Hp → Prop, (∀ σ' H', N σ' H' → ∃ m', m' < m ∧ W (i + 1) m' σ' H') ∧ ∀ v H', (Itz K a b).yld i H v H' → g v σ H' fun σ2 H2 => tb { nx := N, rt := rt, bk := nx, ct := N } σ2 H2) := by
  refine ⟨fun i m σ' H' => m = min xs.length ys.length - i ∧ i ≤ min xs.length ys.length ∧ Pv i σ' H', ⟨_, rfl, Nat.zero_le _, h0⟩, ?_⟩
  rintro i m σ' H' ⟨rfl, hi, z⟩
  obtain ⟨e1, e2⟩ := hst i σ' H' z
  by_cases hlt : i < min xs.length ys.length
  · have h1 : i < xs.length := by omega
    have h2 : i < ys.length := by omega
    refine .inr ⟨⟨xs, ys, xs[i], ys[i], SqL.of e1, SqL.of e2, List.getElem?_eq_getElem h1, List.getElem?_eq_getElem h2⟩, Pv (i + 1), fun σ2 H2 z2 => ⟨min xs.length ys.length - (i + 1), by omega, rfl, by omega, z2⟩, fun v H2 y => ?_⟩
    obtain ⟨T, x, y', rfl, hT, rfl, hx, hy⟩ := y
    exact hs i x y' T σ' H' (hx xs (SqL.of e1)) (hy ys (SqL.of e2)) z hT
  · refine .inl ⟨⟨xs, ys, SqL.of e1, SqL.of e2, by omega⟩, hd σ' H' ?_⟩
    have e : i = min xs.length ys.length := by omega
    rw [← e]; exact z
/-- loops over a list, a tuple -/
theorem forL {nx : L2.St → Hp → Prop} {rt : VK} {a : Addr} {xs : List V} (Pv : Nat → L2.St → Hp → Prop) (h0 : Pv 0 σ H) (hst : ∀ i σ' H', Pv i σ' H' → H' a = some (.lst xs))
    (hs : ∀ i x σ' H', xs[i]? = some x → Pv i σ' H' → g x σ' H' fun σ2 H2 => tb { nx := Pv (i + 1), rt := rt, bk := nx, ct := Pv (i + 1) } σ2 H2) (hd : ∀ σ' H', Pv xs.length σ' H' → nx σ' H') :
    ∃ W : Nat → Nat → L2.St → Hp → Prop, (∃ m, W 0 m σ H) ∧ ∀ i m σ H, W i m σ H →
    ((Itl K a).stop i H ∧ nx σ H) ∨ ((Itl K a).go i H ∧ ∃ N : L2.St → Hp → Prop, (∀ σ' H', N σ' H' → ∃ m', m' < m ∧ W (i + 1) m' σ' H') ∧ ∀ x H', (Itl K a).yld i H x H' → g x σ H' fun σ2 H2 => tb { nx := N, rt := rt, bk := nx, ct := N } σ2 H2) :=
  for_list (D := { nx := nx, rt := rt }) (K := K) (a := a) (xs := xs) Pv h0 (fun i σ' H' _ z => SqL.of (hst i σ' H' z)) hs hd
theorem forLs {nx : L2.St → Hp → Prop} {rt : VK} {a : Addr} {xs : List V} (Pv : Nat → L2.St → Hp → Prop) (h0 : Pv 0 σ H) (hst : ∀ i σ' H', Pv i σ' H' → SqL K H' a xs)
    (hs : ∀ i x σ' H', xs[i]? = some x → Pv i σ' H' → g x σ' H' fun σ2 H2 => tb { nx := Pv (i + 1), rt := rt, bk := nx, ct := Pv (i + 1) } σ2 H2) (hd : ∀ σ' H', Pv xs.length σ' H' → nx σ' H') :
    ∃ W : Nat → Nat → L2.St → Hp → Prop, (∃ m, W 0 m σ H) ∧ ∀ i m σ H, W i m σ H →
    ((Itl K a).stop i H ∧ nx σ H) ∨ ((Itl K a).go i H ∧ ∃ N : L2.St → Hp → Prop, (∀ σ' H', N σ' H' → ∃ m', m' < m ∧ W (i + 1) m' σ' H') ∧ ∀ x H', (Itl K a).yld i H x H' → g x σ H' fun σ2 H2 => tb { nx := N, rt := rt, bk := nx, ct := N } σ2 H2) :=
  for_list (D := { nx := nx, rt := rt }) (K := K) (a := a) (xs := xs) Pv h0 (fun i σ' H' _ z => hst i σ' H' z) hs hd
theorem forT {nx : L2.St → Hp → Prop} {rt : VK} {a : Addr} {xs : List V} (Pv : Nat → L2.St → Hp → Prop) (h0 : Pv 0 σ H) (hst : ∀ i σ' H', Pv i σ' H' → H' a = some (.tup xs))
    (hs : ∀ i x σ' H', xs[i]? = some x → Pv i σ' H' → g x σ' H' fun σ2 H2 => tb { nx := Pv (i + 1), rt := rt, bk := nx, ct := Pv (i + 1) } σ2 H2) (hd : ∀ σ' H', Pv xs.length σ' H' → nx σ' H') :
    ∃ W : Nat → Nat → L2.St → Hp → Prop, (∃ m, W 0 m σ H) ∧ ∀ i m σ H, W i m σ H →
    ((Itt K a).stop i H ∧ nx σ H) ∨ ((Itt K a).go i H ∧ ∃ N : L2.St → Hp → Prop, (∀ σ' H', N σ' H' → ∃ m', m' < m ∧ W (i + 1) m' σ' H') ∧ ∀ x H', (Itt K a).yld i H x H' → g x σ H' fun σ2 H2 => tb { nx := N, rt := rt, bk := nx, ct := N } σ2 H2) :=
  for_tup (D := { nx := nx, rt := rt }) (K := K) (a := a) (xs := xs) Pv h0 (fun i σ' H' _ z => SqT.of (hst i σ' H' z)) hs hd
theorem at_forZ {a b : Addr} {xs ys : List V} {R : Addr → Addr → Prop} (h1 : H a = some (.lst xs)) (h2 : H b = some (.lst ys)) (q : R a b) : ∃ a' b' xs ys, [V.ref a, V.ref b] = [V.ref a', V.ref b'] ∧ SqL K H a' xs ∧ SqL K H b' ys ∧ R a' b' := ⟨a, b, xs, ys, rfl, SqL.of h1, SqL.of h2, q⟩
end
end Cm

end
section
/-! ### LN: a lambda handed to a def that calls it within a try; a def called within the except suite with the error -/
namespace Cm
open PySem PySem.Spec PyProof.Rows L2 L2H
/-- the context of a lambda's body; what it lets out has no context of its own -/
def lamN (X : Cx) (A : Around) (outer : List Env) (s : Shared) (H : Hp) (E : XK) (scope : Scope) (f c' : Addr) : Cx :=
  (LamX.lamCx X A outer s H E scope f c').tr [] fun e s' =>
    wpAny (model X.prog X.w) (A.deeper (LamX.lamEnv X scope s.heap.objs.size f c')) (leaving (LamX.lamEnv X scope s.heap.objs.size f c') e)
      (fun _ s2 => L2N.CX X.prog X.w outer H s E e s2) (fun e2 s2 => L2N.CX X.prog X.w outer H s E e2 s2) s'
section
variable {X : Cx} {pins : List (Addr × Obj)} {σ : L2.St} {H : Hp} {s : Shared}
abbrev zCx (CXg : CXT) (X : Cx) (Ng : List Str) (qg : Str) (sg : Scope) (g : Addr) (cdg : Value) (s : Shared) (H : Hp) (Eg : XK) : Cx := cxOf CXg X.prog X.w X.K X.mg X.base Ng qg sg g cdg X.A X.stack s H Eg
theorem act_n {CXg : CXT} {Eg : XK} {Ng : List Str} {qg : Str} {sg : Scope} {g f c' : Addr} {cdg pm ctv : Value} {params : Arguments} {body : Expr} {scope : Scope} {k i : Nat} {a : Str}
    {pn : List (Addr × Obj)} {xe : Value → Shared → Prop} {W : WX} {E : XK} {tb : TE} {p1 p2 : Pos} (I : Inv X pins σ H s) (L : LamX.LamS X.env.scope scope)
    (hf : s.heap.get? f = some (PySem.W.kla_obj "<lambda>" (X.env.qual ++ "<lambda>") params body scope (cloFrom X.env.cells scope.names []) pm c' ctv)) (hfn : H f = none) (hfr : f ∉ frs X.stack)
    (hbind : bindArgs (PySem.W.kla_fn "<lambda>" (X.env.qual ++ "<lambda>") params body scope (cloFrom X.env.cells scope.names []) pm (.ref c') ctv) ⟨[], []⟩ = pure [])
    (tk : L2N.Takes ((zCx CXg X Ng qg sg g cdg s H Eg).tr pn xe) W) (hW : ∀ cls d σ' H', E cls d H' → W cls d σ' H') (hr : Room (k + 1) (X.A.deeper (envOfC qg sg s.heap.objs.size g cdg)))
    (hbody : ∀ (A : Around) (outer : List Env) (s : Shared) (H : Hp), Room k (A.deeper (LamX.lamEnv X scope s.heap.objs.size f c')) → PE (lamN X A outer s H E scope f c') body tb)
    (hN : Ng[i]? = some a) (hv : Vis sg a) (hd : (a == ("__debug__" : Str)) = false := by decide) (hcd : (a == ("__classdict__" : Str)) = false := by decide) :
    PE ((zCx CXg X Ng qg sg g cdg s H Eg).tr pn xe) (.Call (.Name a p1) [] [] p2) (fun σZ HZ Q => σZ[i]? = some (some (.ref f)) ∧ HZ c' = some (LamX.CodeO c' (X.env.qual ++ "<lambda>")) ∧ tb σ HZ Q) := by
  constructor
  rintro pinsZ sZ σZ HZ Q IZ ⟨hslot, hcode, ht⟩
  have nm := (pe_var (X := (zCx CXg X Ng qg sg g cdg s H Eg).tr pn xe) (pos := p1) (i := i) hN hv hd hcd).run pinsZ sZ σZ HZ (fun v H1 => v = .ref f ∧ H1 = HZ) IZ ⟨.ref f, hslot, rfl, rfl⟩
  refine wpAny_Call_Name_kw (thn nm ?_)
  rintro u s1 ⟨v, H1, I1, r1, rfl, rfl⟩
  obtain rfl : u = Value.ref f := r1
  have at1 := I1.base.keep f _ hf hfn hfr (fun z => nomatch (show f ∈ ([] : List Addr) from z))
  refine PySem.W.callWith_F0 ⟨_, _, _, _, at1⟩ ?_
  obtain ⟨⟨oc, vs, t, hoc, hdc, hvc⟩, _, _⟩ := I1.hok c' _ hcode
  have inner : codeAny (model X.prog X.w) (X.A.deeper (envOfC qg sg s.heap.objs.size g cdg)) (.call (.ref f) ⟨[], []⟩)
      (CR (L2N.CX X.prog X.w) (envOfC qg sg s.heap.objs.size g cdg :: X.stack) X.prog X.w H1 s1 Q E) s1 := by
    refine PySem.W.kla_callFunE hr.depth at1 rfl L.co L.gen rfl ⟨c', oc, vs, t, rfl, hoc, hdc, hvc⟩ ?_
    rw [hbind]
    refine wpAny_pure (wpAny_newFunctionEnv (fun y hy => (L.own y hy).2) (fun y hy => absurd hy (by simp)) (fun h1 hns hsb => ⟨I1.nolimit.fresh _ hsb, ?_⟩) L.kind)
    have kp : ∀ b o, s1.heap.get? b = some o → h1.get? b = some o := fun b o e => hsb.extBut b o (Nat.ne_of_lt (Heap.lt_size e)) (Heap.get?_push_of_some _ e)
    have J0 := LamX.lam_start2 (E := E) (f := f) (c' := c') (tk := s1.toks + ([] : List (Str × Value)).length) I L I1.env0 hr.hd I1.base hns kp
    have J := J0.toTry (fun e s' => wpAny (model X.prog X.w) ((X.A.deeper (envOfC qg sg s.heap.objs.size g cdg)).deeper (LamX.lamEnv X scope s1.heap.objs.size f c')) (leaving (LamX.lamEnv X scope s1.heap.objs.size f c') e)
      (fun _ s2 => L2N.CX X.prog X.w (envOfC qg sg s.heap.objs.size g cdg :: X.stack) H1 s1 E e s2) (fun e2 s2 => L2N.CX X.prog X.w (envOfC qg sg s.heap.objs.size g cdg :: X.stack) H1 s1 E e2 s2) s')
    have go := (hbody _ _ s1 H1 (hr.deeper _)).run [] _ σ H1 Q J ht
    refine PySem.W.kla_codeExpr (wpAny_mono go ?_ fun e s' hq => hq)
    rintro v s' ⟨w', H', J', rv, q⟩
    exact ⟨w', H', J'.os, J'.bare, J'.base, J'.hok, rv, q⟩
  have out : Passes (L2N.CX X.prog X.w) ((zCx CXg X Ng qg sg g cdg s H Eg).tr pn xe) E := L2N.passes_call tk hW
  refine wpAny_call (codeAny_mono inner ?_)
  rintro (e | fl) s' hq
  · exact out pinsZ σZ H1 s1 e s' I1 hq
  · cases fl with
    | ret u => exact I1.after hq
    | next => exact False.elim hq
    | brk => exact False.elim hq
    | cont => exact False.elim hq
end
/-- the def x(a) makes TT of the reading of what it is handed (q: the lambda's name) -/
def GivesN (X : Cx) (k : Nat) (Ng : List Str) (x : Str) (sg : Scope) (g : Addr) (cdg : Value) (bg : List Stmt) (a : Str) (q : Str) (TT : (XK → Hp → VK → Prop) → Hp → VK → Prop) : Prop :=
  ∀ (f c' : Addr) (s : Shared) (H : Hp) (Q : VK) (tl : XK → Hp → VK → Prop), Room k (X.A.deeper (envOfC x sg s.heap.objs.size g cdg)) →
    (∀ (W : WX) (pn : List (Addr × Obj)) (xe : Value → Shared → Prop) (E : XK) (p1 p2 : Pos), L2N.Takes ((zCx CX0 X Ng x sg g cdg s H E0).tr pn xe) W → (∀ cls d σ' H', E cls d H' → W cls d σ' H') →
      PE ((zCx CX0 X Ng x sg g cdg s H E0).tr pn xe) (.Call (.Name a p1) [] [] p2) (fun σZ HZ Q => σZ[0]? = some (some (.ref f)) ∧ HZ c' = some (LamX.CodeO c' q) ∧ tl E HZ Q)) →
    H c' = some (LamX.CodeO c' q) → TT tl H Q → ∃ t, PSs (zCx CX0 X Ng x sg g cdg s H E0).nox bg t ∧ t { nx := fun _ H' => Q .non H', rt := Q } (L2.start Ng [.ref f]) H
section
variable {X : Cx}
theorem lam_n {T : List (Addr × Str)} {TT : (XK → Hp → VK → Prop) → Hp → VK → Prop} {x a : Str} {g c P : Addr} {k : Nat} {pg : Arguments} {bg : List Stmt} {sg : Scope} {fd : FuncData} {Ng : List Str} {params : Arguments} {body : Expr} {scope : Scope} {t : XK → TE} {p lpos pos : Pos}
    (F : FunD X.K x x pg bg sg [] [] g fd) (hg : Gl X x) (hm : X.mg x = some (.ref g)) (hb : L2.Binds X.K fd [a] []) (Sg : FnScope Ng [a] sg) (hNg : Ng[0]? = some a) (hva : Vis sg a)
    (hG : ∀ cdv, GivesN X (k + 1) Ng x sg g cdv bg a (X.env.qual ++ "<lambda>") TT) (TB : LamX.TabB X.base X.mg c P) (hcode : X.env.code = .ref c) (hmT : (P, X.env.qual ++ "<lambda>") ∈ T) (hu : ∀ p ∈ T, p.1 = P → p.2 = X.env.qual ++ "<lambda>")
    (hr : Room (k + 2) X.A) (L : LamX.LamS X.env.scope scope) (hdef : defaultsOf params X.env = ([], [])) (hbind : ∀ (q : Str) (cl : List (Str × Addr)) (pm cv ctv : Value), bindArgs (PySem.W.kla_fn "<lambda>" q params body scope cl pm cv ctv) ⟨[], []⟩ = pure [])
    (hbody : ∀ (A : Around) (outer : List Env) (s : Shared) (H : Hp) (E : XK) (f c' : Addr), Room k (A.deeper (LamX.lamEnv X scope s.heap.objs.size f c')) → PE (lamN X A outer s H E scope f c') body (t E))
    (hdb : (x == ("__debug__" : Str)) = false := by decide) (hd : (a == ("__debug__" : Str)) = false := by decide) (hcd : (a == ("__classdict__" : Str)) = false := by decide) :
    PE X (.Call (.Name x p) [.Lambda params body scope lpos] [] pos) (LamX.tLam T TT t) := by
  obtain ⟨oc, od, dV, kV, doc, pm0, an, cdv, ct, osl, rfl, lk, hcg, _, _⟩ := F.ex
  constructor
  rintro pins s σ H Q I ⟨hT, h⟩
  refine wpAny_Call_Name_kw (ld_glob I hg hm ?_ hdb)
  refine PySem.W.callWith_K (h₀ := X.base) I.ok.mod.kin F.kp ?_ (by rfl) (by rfl)
  refine Calls.spliced_cons (LamX.lam_make2 I TB hcode hmT hu hT hdef (L.has I.ok) ?_)
  intro f c' pm' ctv H1 s' I1 eN T1 hf hfn hfr hco
  refine Calls.spliced_nil ⟨I1.kIn, ?_⟩
  have inner : codeAny (model X.prog X.w) X.A (.call (.ref g) ⟨[.ref f], []⟩) (CR CX0 X.stack X.prog X.w H1 s' Q E0) s' := by
    refine LamX.run_ofS (N := Ng) (ps := [a]) (us := [.ref f]) (vs := [.ref f]) lk hcg Sg hr I1.env0 (hb s' [.ref f] I1.kIn rfl) (.cons rfl .nil) rfl ?_
    intro hr'
    obtain ⟨t', ht', hq'⟩ := hG cdv f c' s' H1 Q (fun E H' Q' => t E σ H' Q') hr'
      (fun W pn xe E p1 p2 tk hW => act_n (i := 0) I1 L hf hfn hfr (hbind _ _ _ _ _) tk hW hr' (fun A outer s H hr2 => hbody A outer s H E f c' hr2) hNg hva hd hcd) hco (h H1 eN T1)
    exact ⟨t', ht'.nox, hq'⟩
  refine wpAny_call (codeAny_mono inner ?_)
  rintro (e | fl) s2 hq
  · exact (show False from hq).elim
  · cases fl with
    | ret u => exact I1.after hq
    | next => exact False.elim hq
    | brk => exact False.elim hq
    | cont => exact False.elim hq
/-- isinstance(e, c), e the error that the context holds fast at a -/
theorem is_pin {a D : Addr} {oe : Obj} (C : ExcC X.K D) (hz : Zc (.ref D) none oe) (hf : ∃ vs, oe.data = .fields vs) (hp : (a, oe) ∈ X.pn) : CallR X (.builtin "isinstance") (rIsE X.K D a) := by
  intro pins s σ H xs us Q I r h
  obtain ⟨c, cv, b, rfl, hcv, e, q⟩ := h
  rcases r with _ | ⟨rx, _ | ⟨rt, _ | _⟩⟩
  cases rx
  obtain rfl := hcv _ rt
  have hget := (I.pin (a, oe) (List.mem_append.mpr (.inl hp))).1
  obtain ⟨vs, hv⟩ := hf
  have J : PySem.W.InstAt s.heap a oe D none := by
    obtain ⟨oc, od, oda, osl⟩ := oe
    obtain ⟨h1, h2⟩ := hz
    dsimp only at h1 h2 hv
    subst h1 h2 hv
    exact ⟨hget, rfl, rfl, trivial⟩
  refine PySem.W.kia_one (PySem.W.handS_kitx_exc C.hg C.hk C.hs C.hd C.ha C.hn C.ht C.hm) I.kIn J e (fun z => nomatch z) ?_
  intro tk
  exact ⟨.bl b, H, I.kept (t' := tk) fun _ _ z => z, rfl, q⟩
/-- f(e, ..) within an except suite, p the error's pin: by f's own body -/
theorem call_pin {k : Nat} {f : Addr} {x : Str} {params : Arguments} {body : List Stmt} {scope : Scope} {fd : FuncData} {N ps : List Str} {sp : Sp} {p : Addr × Obj} {q pos : Pos} {e : Expr} {es : List Expr} {t : TA}
    (F : FunD X.K x x params body scope [] [] f fd) (S : FnScope N ps scope) (len : ∀ vs H Q E, sp vs H Q E → vs.length = ps.length) (hr : RoomH (k + 1) X.A) (hot : Hot1 X.A p) (hp : p ∈ X.pn) (hg : Gl X x) (hm : X.mg x = some (.ref f)) (hb : L2.Binds X.K fd ps [])
    (hbody : ∀ (cdv : Value) (s : Shared) (H : Hp) (vs : List V) (Q : VK), RoomH k (X.A.deeper (envOfC x scope s.heap.objs.size f cdv)) → sp vs H Q E0 →
      ∃ t, PSs (cxH CX0 X.prog X.w X.K X.mg X.base N x scope f cdv X.A X.stack s H E0 p) body t ∧ t { nx := fun _ H' => Q .non H', rt := Q } (L2.start N vs) H)
    (ha : PA X (e :: es) t) (hdb : (x == ("__debug__" : Str)) = false := by decide) (he : starEach (e :: es) X.env = (false, eval e X.env) :: starEach es X.env := by rfl) (hpl : (backTo pos (starEach es X.env)).any (·.1) = false := by rfl) :
    PE X (.Call (.Name x q) (e :: es) [] pos) (tCall sp [] E0 t) := by
  obtain ⟨oc, od, dV, kV, doc, pm0, an, cdv, ct, osl, rfl, lk, hcd, _, _⟩ := F.ex
  constructor
  intro pins s σ H Q I h
  refine wpAny_Call_Name_kw (ld_glob I hg hm ?_ hdb)
  refine PySem.W.callWith_K (h₀ := X.base) I.ok.mod.kin F.kp (thn (ha.run pos pins s σ H _ I h) ?_) he hpl
  rintro us s1 ⟨vs, H1, I1, r, hsp⟩
  rw [List.append_nil] at hsp
  refine ⟨I1.kIn, ?_⟩
  have hl := len _ _ _ _ hsp
  have hlu : us.length = ps.length := by rw [← r.length]; exact hl
  have bd := hb s1 us I1.kIn (by rw [List.append_nil]; exact hlu)
  rw [List.append_nil] at bd
  have P1 := I1.pin p (List.mem_append_left _ hp)
  have hpin : PinOk X.stack H1 s1 p := ⟨P1.1, P1.2.1, fun hm => (List.mem_cons.mp (I1.stkSub p.1 hm)).elim P1.2.2.1 P1.2.2.2.1, P1.2.2.2.2⟩
  have hkind : ∀ y ∈ ps.zip us, scope.names.lookup y.1 = some .local ∨ (scope.names.lookup y.1 = some .cell ∧ ((cellsFrom (s1.heap.objs.size + 1) scope.names []).lookup y.1).isSome = true) := by
    rintro ⟨n, v⟩ hy
    rcases S.par n (List.of_mem_zip hy).1 with z | z
    · exact .inl z
    · exact .inr ⟨z, PySem.W.cellsFrom_some _ _ _ (.inl z)⟩
  have inner : codeAny (model X.prog X.w) X.A (.call (.ref f) ⟨us, []⟩) (CR CX0 X.stack X.prog X.w H1 s1 Q E0) s1 := by
    refine codeAny_call_function hr.depth (I1.kIn _ _ lk) rfl S.co S.gen rfl (PySem.W.codeRec_of I1.kIn hcd) (bd _ _ _ _ ?_)
    refine wpAny_newFunctionEnv_cells S.kind hkind ?_
    rintro env rfl s2 xx
    refine ⟨I1.nolimit.keeps xx.toInCall.keep, codeAny_func ?_⟩
    obtain ⟨t', ht', hq'⟩ := hbody cdv s1 H1 vs Q (hr.deeper _) hsp
    have J : Inv (cxH CX0 X.prog X.w X.K X.mg X.base N x scope f cdv X.A X.stack s1 H1 E0 p) [] (L2.start N vs) H1 s2 := inv_startH S hpin I1.env0 hl r xx
    refine wpAny_mono (ht'.run [] s2 (L2.start N vs) H1 _ J hq') ?_ fun _ _ hs => hs
    intro fl s' hs
    cases fl with
    | ret u =>
      obtain ⟨v, σ', H', J', rv, z⟩ := hs
      exact ⟨v, H', J'.os, J'.bare, J'.base, J'.hok, rv, z⟩
    | next =>
      obtain ⟨σ', H', J', z⟩ := hs
      exact ⟨V.non, H', J'.os, J'.bare, J'.base, J'.hok, rfl, z⟩
    | brk =>
      obtain ⟨_, _, _, z⟩ := hs
      exact False.elim z
    | cont =>
      obtain ⟨_, _, _, z⟩ := hs
      exact False.elim z
  refine wpAny_call (codeAny_mono inner ?_)
  rintro (e | fl) s' hq
  · exact (show False from hq).elim
  · cases fl with
    | ret u => exact I1.after hq
    | next => exact False.elim hq
    | brk => exact False.elim hq
    | cont => exact False.elim hq
end
end Cm
/-! ### the classes of refusals -/
namespace Cm
open PySem PySem.Spec PyProof.Rows L2 L2H
def kinds : List Str := ["BadDeal", "BadHand", "BadLetter", "BadTime", "BadKey", "BadHouse", "NoCopy", "Behind", "BadBlock", "BadEntry", "BadText", "Stopped"]
def ecOk (K : PySem.W.Frag) (D : Addr) : Bool := decide (PySem.W.findIn K (.ref D) "__getattribute__" = some (some (.builtin "BaseException.__getattribute__"))) && (decide (PySem.W.findIn K (.ref D) "__getattr__" = some none) && (decide (PySem.W.subIn K (.ref D) (.type "BaseException") = some true) &&
  (PySem.W.hasDictIn K D && (decide (PySem.W.findIn K (.ref D) "__class__" = some (some (.builtin "object.__class__"))) && (decide (PySem.W.specialIn K (.builtin "object.__class__") "__get__" = some (some (.builtin "getset_descriptor.__get__"))) && (decide (PySem.W.takesIn K (.builtin "object.__class__") = some true) && decide (PySem.W.mroIn K D (.type "object") = some true)))))))
theorem ec_of {K : PySem.W.Frag} {D : Addr} (h : ecOk K D = true) : ExcC K D := by
  unfold ecOk at h
  simp only [Bool.and_eq_true, decide_eq_true_eq] at h
  exact ⟨h.1, h.2.1, h.2.2.1, h.2.2.2.1, h.2.2.2.2.1, h.2.2.2.2.2.1, h.2.2.2.2.2.2.1, h.2.2.2.2.2.2.2⟩
/-- each is of its own class, and a ValueError -/
def exK (K : PySem.W.Frag) : Bool := kinds.all fun x => ecOk K (He.ga K x) && (decide (PySem.W.kitOne K (.ref (He.ga K x)) (.type "ValueError") = some true) && kinds.all fun y => decide (PySem.W.kitOne K (.ref (He.ga K x)) (.ref (He.ga K y)) = some (x == y)))
theorem exK_of {K : PySem.W.Frag} (h : exK K = true) {x : Str} (hx : x ∈ kinds) : ExcC K (He.ga K x) ∧ PySem.W.kitOne K (.ref (He.ga K x)) (.type "ValueError") = some true ∧ ∀ y ∈ kinds, PySem.W.kitOne K (.ref (He.ga K x)) (.ref (He.ga K y)) = some (x == y) := by
  have z := List.all_eq_true.mp h x hx
  simp only [Bool.and_eq_true, decide_eq_true_eq] at z
  exact ⟨ec_of z.1, z.2.1, fun y hy => of_decide_eq_true (List.all_eq_true.mp z.2.2 y hy)⟩
/-- .count(k) of bools -/
def rCntB (K : PySem.W.Frag) : V → List V → Hp → VK → Prop := fun x xs H Q => ∃ (p : Addr) (bs : List Bool) (k : Bool), x = .ref p ∧ xs = [.bl k] ∧ SqL K H p (bs.map V.bl) ∧ Q (.int (bs.count k : Nat)) H
theorem cntB {k : Bool} : ∀ {bs : List Bool} {us : List Value}, Vals (bs.map V.bl) us → us.countP (eqU (.bl k)) = bs.count k
  | [], _, .nil => rfl
  | b :: bs, u :: us, .cons r t => by
    rw [List.countP_cons, List.count_cons, cntB t, eqU_of r rfl]; rfl
theorem mt_cntB {X : Cx} : MtR X "list.count" (rCntB X.K) := by
  intro pins s σ H x xs v us Q I rx rxs h
  obtain ⟨p, bs, k, rfl, rfl, hs, q⟩ := h
  cases rx
  obtain ⟨u, rfl, ru⟩ := rxs.one
  obtain ⟨its, rv, ⟨⟨cls, dd, data, sl⟩, n, ho, hc, hdn, hd⟩, hlen⟩ := I.list hs
  simp only at hc hd
  subst hc hd
  refine call_meets PySem.F.slot_list_count ⟨_, ho, rfl⟩ PySem.F.entry_list_count (PySem.F.args_list_count_2 _ _)
    (SeqAt.list_countAt p its.toArray n dd sl u (eqU (.bl k))) ⟨ho, fun y hy => mem_eqAt ru rfl rv (by rw [List.all_map]; exact List.all_eq_true.mpr fun _ _ => rfl) y (by simpa using hy), ?_⟩
  refine ⟨.int (bs.count k : Nat), H, I.tok _, ⟨s.toks, ?_⟩, q⟩
  show Value.int ((its.toArray.toList.countP (eqU (.bl k)) : Nat) : Int) s.toks = Value.int ((bs.count k : Nat) : Int) s.toks
  rw [show its.toArray.toList.countP (eqU (.bl k)) = bs.count k from cntB rv]
theorem kinds_at : ∀ x ∈ kinds, (kinds.map (x == ·)).count true = 1 ∧ ∃ j, j < 12 ∧ (kinds.map (x == ·))[j]? = some true ∧ (∀ m, m < j → (kinds.map (x == ·))[m]? = some false) ∧ kinds[j]? = some x := by decide
theorem inj_map {α β : Type} {f : α → β} : ∀ {l : List α}, (l.map f).Nodup → ∀ {a b : α}, a ∈ l → b ∈ l → f a = f b → a = b
  | [], _, _, _, h, _, _ => nomatch h
  | x :: l, hn, a, b, ha, hb, e => by
    rw [List.map_cons, List.nodup_cons] at hn
    rcases List.mem_cons.mp ha with rfl | ha'
    · rcases List.mem_cons.mp hb with rfl | hb
      · rfl
      · exact absurd (e ▸ List.mem_map_of_mem hb) hn.1
    · rcases List.mem_cons.mp hb with rfl | hb'
      · exact absurd (e ▸ List.mem_map_of_mem ha') hn.1
      · exact inj_map hn.2 ha' hb' e
end Cm

end
section
/-! ### d.update([(key, value), ..]) -/
namespace Cm
open PySem PySem.Spec PyProof.Rows L2
section
variable {X : Cx}
theorem pairs_up {pins : List (Addr × Obj)} {σ : L2.St} {H : Hp} {s : Shared} (I : Inv X pins σ H s) : ∀ {ps : List Addr} {kvs : List (Key × V)}, Paired (fun p kv => SqT X.K H p [kV kv.1, kv.2]) ps kvs →
    ∃ (prs : List (Key × Value)) (us : List (Value × Value)), KV kvs prs ∧ prs.length = ps.length ∧ us.length = ps.length ∧ ∀ (j : Nat) (k v : Value), us[j]? = some (k, v) → ∃ (b : Addr) (q : Key), ps[j]? = some b ∧ IsTup s.heap b #[k, v] ∧ prs[j]? = some (q, v) ∧ keyIs q k = true
  | _, _, .nil => ⟨[], [], .nil, rfl, rfl, fun j k v e => by simp at e⟩
  | _, _, .cons (a := p) (b := kv) h t => by
    obtain ⟨prs, us, r, hl, hl2, hp⟩ := pairs_up I t
    obtain ⟨its, rv, ht, _⟩ := I.tuple h
    obtain ⟨u, y, ei, ru, ry⟩ := vals2 rv
    subst ei
    refine ⟨(kv.1, y) :: prs, (u, y) :: us, .cons ⟨rfl, ry⟩ r, by rw [List.length_cons, List.length_cons, hl], by rw [List.length_cons, List.length_cons, hl2], fun j k v e => ?_⟩
    cases j with
    | zero =>
      have e' : (u, y) = (k, v) := Option.some.inj e
      cases e'
      exact ⟨p, kv.1, rfl, ht, rfl, kV_is (P := X.prog) (w := X.w) ru⟩
    | succ j =>
      obtain ⟨b, q, e1, e2, e3, e4⟩ := hp j k v (by simpa using e)
      exact ⟨b, q, by simpa using e1, e2, by simpa using e3, e4⟩
def rUpd (K : PySem.W.Frag) : V → List V → Hp → VK → Prop := fun x xs H Q => ∃ (d a : Addr) (kvs0 kvs : List (Key × V)) (ps : List Addr), x = .ref d ∧ xs = [.ref a] ∧ H d = some (.dK kvs0) ∧ SqL K H a (ps.map V.ref) ∧ Paired (fun p kv => SqT K H p [kV kv.1, kv.2]) ps kvs ∧ kvs0.length + ps.length ≤ sizeLine ∧ Q .non (upd H d (.dK (mergeK kvs0 kvs)))
theorem mt_upd (hcalm : X.calm = true) : MtR X "dict.update" (rUpd X.K) := by
  intro pins s σ H x xs v us Q I rx rxs h
  obtain ⟨d, a, kvs0, kvs, ps, rfl, rfl, hd, ha, hp, hz, q⟩ := h
  obtain rfl : v = Value.ref d := rx
  obtain ⟨u, rfl, ru⟩ := rxs.one
  obtain rfl : u = Value.ref a := ru
  obtain ⟨its, rv, pl, _⟩ := I.list ha
  have ei := refs_at rv
  subst ei
  obtain ⟨prs, ups, rel, hl, hl2, hpr⟩ := pairs_up I hp
  obtain ⟨z, hm, vs, rel0, dd⟩ := dk_of I.hok hd
  have ddt := dd.typeIs
  obtain ⟨od, ho, hoc⟩ := ddt
  refine call_update_pairs (PairArg.list a (ps.map Value.ref).toArray (fun j => ps.getD j 0) ups) (I.ok.hd hcalm) ⟨pl, ?_, fun j k v e => ?_⟩ ?_ ⟨by rw [hl, hl2], fun i k v e => ?_⟩ dd (by rw [← rel0.length, hl2]; exact hz) fun h' tk dd' hk => ?_
  · simp [hl2]
  · obtain ⟨b, q, e1, e2, _, _⟩ := hpr j k v e
    refine ⟨by simp [e1], ?_⟩
    show PairAt s.heap (ps.getD j 0) k v
    rw [List.getD_eq_getElem?_getD, e1]
    obtain ⟨o, x1, x2, n, x3⟩ := e2
    exact .inl ⟨o, x1, x2, n, x3⟩
  · intro hmem
    rcases List.mem_cons.mp hmem with rfl | hmem
    · obtain ⟨o2, n, h1, h2, _⟩ := pl
      rw [ho] at h1
      cases h1
      exact absurd (hoc.symm.trans h2) (by decide)
    · obtain ⟨j, hj, e⟩ := List.mem_map.mp hmem
      have hj : j < ups.length := List.mem_range.mp hj
      obtain ⟨b, q, e1, ⟨o2, h1, h2, _⟩, _⟩ := hpr j _ _ (List.getElem?_eq_getElem hj)
      have e : ps.getD j 0 = d := e
      rw [List.getD_eq_getElem?_getD, e1] at e
      have e : b = d := e
      rw [e, ho] at h1
      cases h1
      exact absurd (hoc.symm.trans h2) (by decide)
  · obtain ⟨b, q, _, _, e3, e4⟩ := hpr i k v e
    exact ⟨q, e3, e4⟩
  · have he : ∃ q, h'.get? d = some q := let ⟨q, _, _, hq, _⟩ := dd'; ⟨q, hq⟩
    have hlen : (mergeK kvs0 kvs).length ≤ sizeLine := by
      refine Nat.le_trans (length_mergeK kvs kvs0) ?_
      have := rel.length
      omega
    exact ⟨.non, upd H d (.dK (mergeK kvs0 kvs)), I.write (e := d) (t' := tk) (by rw [hd]; trivial) (.inl rfl) (fun b u hb hu => hk b u hb (fun z => nomatch z) hu) he (dk_new hlen hm (KV.merge rel rel0) dd'), rfl, q⟩
theorem m_upd4 {K : PySem.W.Frag} {H : Hp} {Q : VK} {d a p1 p2 p3 p4 : Addr} {kvs0 kvs1 : List (Key × V)} {k1 k2 k3 k4 : Str} {v1 v2 v3 v4 : V} (hd : H d = some (.dK kvs0)) (ha : H a = some (.lst [.ref p1, .ref p2, .ref p3, .ref p4])) (h1 : H p1 = some (.tup [.str k1, v1])) (h2 : H p2 = some (.tup [.str k2, v2]))
    (h3 : H p3 = some (.tup [.str k3, v3])) (h4 : H p4 = some (.tup [.str k4, v4])) (hz : kvs0.length ≤ 900) (hm : mergeK kvs0 [(.inr k1, v1), (.inr k2, v2), (.inr k3, v3), (.inr k4, v4)] = kvs1) (q : Q .non (upd H d (.dK kvs1))) : rUpd K (.ref d) [.ref a] H Q :=
  ⟨d, a, kvs0, [(.inr k1, v1), (.inr k2, v2), (.inr k3, v3), (.inr k4, v4)], [p1, p2, p3, p4], rfl, rfl, hd, SqL.of ha, .cons (SqT.of h1) (.cons (SqT.of h2) (.cons (SqT.of h3) (.cons (SqT.of h4) .nil))), by rw [sizeLine_eq]; show _ + 4 ≤ _; omega, by rw [hm]; exact q⟩
end
end Cm

end
section
/-! ### L0: what all laws share: the box of draws -/
namespace Cm
open PySem PySem.Spec PyProof.Rows L2
/-- the box of draws at b, its list at l -/
def BoxAt (H : Hp) (b l : Addr) : Prop := ∃ (ns : List Int) (z : Int), H b = some (.lst [.ref l, .int z]) ∧ H l = some (.lst (ns.map V.int)) ∧ ns.length ≤ 63
/-- the two things of the box -/
abbrev Bx (b l : Addr) : Addr → Prop := fun a => a = b ∨ a = l
theorem BoxAt.ne {H : Hp} {b l : Addr} (h : BoxAt H b l) : b ≠ l := by
  obtain ⟨ns, z, h1, h2, _⟩ := h
  refine ne_of h1 h2 fun e => ?_
  injection e with e
  cases ns with
  | nil => cases e
  | cons n ns => injection e with e _; cases e
theorem BoxAt.keep {T : List (Addr × Str)} {S : Addr → Prop} {H H' : Hp} {b l : Addr} (h : BoxAt H b l) (k : Kp T S H H') (h1 : ¬ S b) (h2 : ¬ S l) : BoxAt H' b l := by
  obtain ⟨ns, z, e1, e2, e3⟩ := h
  exact ⟨ns, z, k.lst e1 h1, k.lst e2 h2, e3⟩
/-- a draw below m -/
def spTake (T : List (Addr × Str)) : Sp := sp2 fun x y H Q _ => ∃ (b l : Addr) (m : Int), x = .ref b ∧ y = .int m ∧ BoxAt H b l ∧ 0 < m ∧ m < 2 ^ 64 ∧
  ∀ (v : Int) (H' : Hp), 0 ≤ v → v < m → BoxAt H' b l → Kp T (Bx b l) H H' → Q (.int v) H'
theorem wdiv {i j : Int} (h : 0 < j) (h2 : j < 2 ^ 64) : CDivW i j := wide_div (b := 64) h (by omega) (by decide) (by decide)
end Cm

end
section
/-! ### L1: data -/
namespace Cm
open PySem PySem.Spec PyProof.Rows L2
mutual
/-- the value v tells the datum, by the things that are tracked -/
def Dt (H : Hp) (v : V) : PyData → Prop
  | .none => v = .non
  | .bool b => v = .bl b
  | .int i => v = .int i
  | .str s => v = .str s
  | .tuple ds => ∃ a xs, v = .ref a ∧ H a = some (.tup xs) ∧ DtA H xs ds
  | .list ds => ∃ a xs, v = .ref a ∧ H a = some (.lst xs) ∧ DtA H xs ds
  | .dict _ => False
def DtA (H : Hp) (xs : List V) : List PyData → Prop
  | [] => xs = []
  | d :: ds => ∃ v vs, xs = v :: vs ∧ Dt H v d ∧ DtA H vs ds
end
/-- depth at most n, sizes small, tuples alone -/
def Di : Nat → PyData → Prop
  | _, .none => True
  | _, .bool _ => True
  | _, .int _ => True
  | _, .str _ => True
  | n + 1, .tuple ds => ds.length ≤ 100000 ∧ ∀ d ∈ ds, Di n d
  | _, _ => False
/-- .. tuples and lists -/
def Dn : Nat → PyData → Prop
  | _, .none => True
  | _, .bool _ => True
  | _, .int _ => True
  | _, .str _ => True
  | n + 1, .tuple ds => ds.length ≤ 100000 ∧ ∀ d ∈ ds, Dn n d
  | n + 1, .list ds => ds.length ≤ 100000 ∧ ∀ d ∈ ds, Dn n d
  | _, _ => False
theorem Di.up : ∀ {n m : Nat} {d : PyData}, Di n d → n ≤ m → Di m d
  | n, m, .none, _, _ => by cases m <;> trivial
  | n, m, .bool _, _, _ => by cases m <;> trivial
  | n, m, .int _, _, _ => by cases m <;> trivial
  | n, m, .str _, _, _ => by cases m <;> trivial
  | 0, _, .tuple _, h, _ => by cases h
  | n + 1, 0, .tuple _, _, h => absurd h (by omega)
  | n + 1, m + 1, .tuple ds, h, hm => ⟨h.1, fun d hd => Di.up (n := n) (h.2 d hd) (by omega)⟩
  | 0, _, .list _, h, _ => by cases h
  | n + 1, _, .list _, h, _ => by cases h
  | 0, _, .dict _, h, _ => by cases h
  | n + 1, _, .dict _, h, _ => by cases h
theorem Di.dn : ∀ {n : Nat} {d : PyData}, Di n d → Dn n d
  | n, .none, _ => by cases n <;> trivial
  | n, .bool _, _ => by cases n <;> trivial
  | n, .int _, _ => by cases n <;> trivial
  | n, .str _, _ => by cases n <;> trivial
  | 0, .tuple _, h => by cases h
  | n + 1, .tuple ds, h => ⟨h.1, fun d hd => Di.dn (n := n) (h.2 d hd)⟩
  | 0, .list _, h => by cases h
  | n + 1, .list _, h => by cases h
  | 0, .dict _, h => by cases h
  | n + 1, .dict _, h => by cases h
theorem Di.none {n : Nat} : Di n .none := by cases n <;> trivial
theorem Di.bool {n : Nat} {b : Bool} : Di n (.bool b) := by cases n <;> trivial
theorem Di.int {n : Nat} {b : Int} : Di n (.int b) := by cases n <;> trivial
theorem Di.str {n : Nat} {b : Str} : Di n (.str b) := by cases n <;> trivial
theorem Dn.none {n : Nat} : Dn n .none := by cases n <;> trivial
theorem Dn.bool {n : Nat} {b : Bool} : Dn n (.bool b) := by cases n <;> trivial
theorem Dn.int {n : Nat} {b : Int} : Dn n (.int b) := by cases n <;> trivial
theorem Dn.str {n : Nat} {b : Str} : Dn n (.str b) := by cases n <;> trivial
section
variable {T : List (Addr × Str)} {S : Addr → Prop} {H H' : Hp} {v : V} {xs ys : List V} {ds es : List PyData}
theorem DtA.length : ∀ {xs : List V} {ds : List PyData}, DtA H xs ds → xs.length = ds.length
  | _, [], h => by have e : _ = [] := h; subst e; rfl
  | _, _ :: ds, h => by
    obtain ⟨v, vs, rfl, _, h⟩ := h
    simp [DtA.length h]
theorem DtA.mono (f : ∀ d ∈ ds, ∀ v, Dt H v d → Dt H' v d) : DtA H xs ds → DtA H' xs ds := by
  induction ds generalizing xs with
  | nil => exact fun h => h
  | cons d ds ih =>
    rintro ⟨v, vs, rfl, h1, h2⟩
    exact ⟨v, vs, rfl, f d List.mem_cons_self v h1, ih (fun d hd => f d (List.mem_cons_of_mem _ hd)) h2⟩
/-- tuples of tuples stay -/
theorem Dt.keep (k : Kp T S H H') : ∀ {n : Nat} {d : PyData} {v : V}, Di n d → Dt H v d → Dt H' v d
  | _, .none, _, _, h => h
  | _, .bool _, _, _, h => h
  | _, .int _, _, _, h => h
  | _, .str _, _, _, h => h
  | 0, .tuple _, _, h, _ => by cases h
  | n + 1, .tuple ds, v, hd, h => by
    obtain ⟨a, xs, rfl, e, hA⟩ := h
    exact ⟨a, xs, rfl, k.tup e, hA.mono fun d hm v hv => Dt.keep k (n := n) (hd.2 d hm) hv⟩
  | 0, .list _, _, h, _ => by cases h
  | n + 1, .list _, _, h, _ => by cases h
  | 0, .dict _, _, h, _ => by cases h
  | n + 1, .dict _, _, h, _ => by cases h
theorem DtA.keep {n : Nat} (k : Kp T S H H') (hd : ∀ d ∈ ds, Di n d) (h : DtA H xs ds) : DtA H' xs ds := h.mono fun d hm v hv => Dt.keep k (hd d hm) hv
/-- where nothing is changed all data stay -/
theorem Dt.same (k : Kp T No H H') : ∀ {n : Nat} {d : PyData} {v : V}, Dn n d → Dt H v d → Dt H' v d
  | _, .none, _, _, h => h
  | _, .bool _, _, _, h => h
  | _, .int _, _, _, h => h
  | _, .str _, _, _, h => h
  | 0, .tuple _, _, h, _ => by cases h
  | n + 1, .tuple ds, v, hd, h => by
    obtain ⟨a, xs, rfl, e, hA⟩ := h
    exact ⟨a, xs, rfl, k.tup e, hA.mono fun d hm v hv => Dt.same k (n := n) (hd.2 d hm) hv⟩
  | 0, .list _, _, h, _ => by cases h
  | n + 1, .list ds, _, hd, h => by
    obtain ⟨a, xs, rfl, e, hA⟩ := h
    exact ⟨a, xs, rfl, k.lst e (fun z => z), hA.mono fun d hm v hv => Dt.same k (n := n) (hd.2 d hm) hv⟩
  | 0, .dict _, _, h, _ => by cases h
  | n + 1, .dict _, _, h, _ => by cases h
theorem DtA.get (h : DtA H xs ds) {i : Nat} {x : V} (e : xs[i]? = some x) : ∃ d, ds[i]? = some d ∧ Dt H x d := by
  induction ds generalizing xs i with
  | nil => have q : _ = [] := h; subst q; simp at e
  | cons d ds ih =>
    obtain ⟨v, vs, rfl, h1, h2⟩ := h
    cases i with
    | zero => simp at e; subst e; exact ⟨d, rfl, h1⟩
    | succ i => exact ih h2 (by simpa using e)
theorem DtA.at (h : DtA H xs ds) {i : Nat} {d : PyData} (e : ds[i]? = some d) : ∃ x, xs[i]? = some x ∧ Dt H x d := by
  induction ds generalizing xs i with
  | nil => simp at e
  | cons c ds ih =>
    obtain ⟨v, vs, rfl, h1, h2⟩ := h
    cases i with
    | zero => simp at e; subst e; exact ⟨v, rfl, h1⟩
    | succ i =>
      obtain ⟨x, h3, h4⟩ := ih h2 (i := i) (by simpa using e)
      exact ⟨x, by simpa using h3, h4⟩
theorem DtA.nil : DtA H [] [] := rfl
theorem DtA.cons {d : PyData} (h : Dt H v d) (t : DtA H xs ds) : DtA H (v :: xs) (d :: ds) := ⟨v, xs, rfl, h, t⟩
theorem DtA.append : ∀ {ds : List PyData} {xs : List V}, DtA H xs ds → DtA H ys es → DtA H (xs ++ ys) (ds ++ es)
  | [], _, h, t => by have q : _ = [] := h; subst q; exact t
  | d :: ds, _, h, t => by
    obtain ⟨v, vs, rfl, h1, h2⟩ := h
    exact ⟨v, vs ++ ys, rfl, h1, h2.append t⟩
theorem DtA.snoc {d : PyData} (h : DtA H xs ds) (t : Dt H v d) : DtA H (xs ++ [v]) (ds ++ [d]) := h.append (.cons t .nil)
theorem DtA.set : ∀ {ds : List PyData} {xs : List V} {i : Nat} {d : PyData}, DtA H xs ds → Dt H v d → DtA H (xs.set i v) (ds.set i d)
  | [], _, i, d, h, t => by have q : _ = [] := h; subst q; exact rfl
  | e :: ds, _, 0, d, h, t => by
    obtain ⟨v', vs, rfl, h1, h2⟩ := h
    exact ⟨v, vs, rfl, t, h2⟩
  | e :: ds, _, i + 1, d, h, t => by
    obtain ⟨v', vs, rfl, h1, h2⟩ := h
    exact ⟨v', vs.set i v, rfl, h1, h2.set t⟩
theorem DtA.take : ∀ {ds : List PyData} {xs : List V} {i : Nat}, DtA H xs ds → DtA H (xs.take i) (ds.take i)
  | [], _, i, h => by have q : _ = [] := h; subst q; simp; exact rfl
  | e :: ds, _, 0, h => by simp; exact rfl
  | e :: ds, _, i + 1, h => by
    obtain ⟨v', vs, rfl, h1, h2⟩ := h
    exact ⟨v', vs.take i, rfl, h1, h2.take⟩
theorem DtA.drop : ∀ {ds : List PyData} {xs : List V} {i : Nat}, DtA H xs ds → DtA H (xs.drop i) (ds.drop i)
  | [], _, i, h => by have q : _ = [] := h; subst q; simp; exact rfl
  | e :: ds, _, 0, h => h
  | e :: ds, _, i + 1, h => by
    obtain ⟨v', vs, rfl, h1, h2⟩ := h
    exact h2.drop (i := i)
theorem DtA.bools (bs : List Bool) : DtA H (bs.map V.bl) (bs.map PyData.bool) := by
  induction bs with
  | nil => rfl
  | cons b bs ih => exact ⟨.bl b, _, rfl, rfl, ih⟩
theorem DtA.ints (bs : List Int) : DtA H (bs.map V.int) (bs.map PyData.int) := by
  induction bs with
  | nil => rfl
  | cons b bs ih => exact ⟨.int b, _, rfl, rfl, ih⟩
/-! isinstance of data -/
def isT : PyData → String → Bool
  | .none, _ => false
  | .bool _, t => t == "bool" || t == "int"
  | .int _, t => t == "int"
  | .str _, t => t == "str"
  | .tuple _, t => t == "tuple"
  | .list _, t => t == "list"
  | .dict _, t => t == "dict"
theorem r_isi {K : PySem.W.Frag} {Q : VK} {d : PyData} {t : String} (h : Dt H v d) (ht : t = "bool" ∨ t = "int" ∨ t = "str" ∨ t = "tuple" ∨ t = "list") (q : Q (.bl (isT d t)) H) : rIsi K [v, .ty t] H Q := by
  have go : ∀ {s : String} {r : Bool}, TyX K H v (.type s) → kitB s t = some r → isT d t = r → rIsi K [v, .ty t] H Q := fun {s r} ty e1 e2 =>
    ⟨v, .ty t, .type s, .type t, r, rfl, .ty t, ty, kit_ty e1, by rw [← e2]; exact q⟩
  cases d with
  | none =>
    have e : v = .non := h
    subst e
    rcases ht with rfl | rfl | rfl | rfl | rfl <;> first | exact go (r := true) (.base .non) (by decide +kernel) rfl | exact go (r := false) (.base .non) (by decide +kernel) rfl
  | bool b =>
    have e : v = .bl b := h
    subst e
    rcases ht with rfl | rfl | rfl | rfl | rfl <;> first | exact go (r := true) (.base (.bl b)) (by decide +kernel) rfl | exact go (r := false) (.base (.bl b)) (by decide +kernel) rfl
  | int b =>
    have e : v = .int b := h
    subst e
    rcases ht with rfl | rfl | rfl | rfl | rfl <;> first | exact go (r := true) (.base (.int b)) (by decide +kernel) rfl | exact go (r := false) (.base (.int b)) (by decide +kernel) rfl
  | str b =>
    have e : v = .str b := h
    subst e
    rcases ht with rfl | rfl | rfl | rfl | rfl <;> first | exact go (r := true) (.base (.str b)) (by decide +kernel) rfl | exact go (r := false) (.base (.str b)) (by decide +kernel) rfl
  | tuple ds =>
    obtain ⟨a, xs, rfl, e, _⟩ := h
    rcases ht with rfl | rfl | rfl | rfl | rfl <;> first | exact go (r := true) (.base (.tup e)) (by decide +kernel) rfl | exact go (r := false) (.base (.tup e)) (by decide +kernel) rfl
  | list ds =>
    obtain ⟨a, xs, rfl, e, _⟩ := h
    rcases ht with rfl | rfl | rfl | rfl | rfl <;> first | exact go (r := true) (.base (.lst e)) (by decide +kernel) rfl | exact go (r := false) (.base (.lst e)) (by decide +kernel) rfl
  | dict ds => exact h.elim
end
end Cm
namespace Cm
open PySem PySem.Spec PyProof.Rows L2
section
variable {K : PySem.W.Frag} {H : Hp} {Q : VK} {a : Addr} {xs : List V}
theorem isi_non_bool  (q : Q (.bl false) H) : rIsi K [.non, .ty "bool"] H Q := r_isi (d := .none) rfl (.inl rfl) q
theorem isi_non_int  (q : Q (.bl false) H) : rIsi K [.non, .ty "int"] H Q := r_isi (d := .none) rfl (.inr (.inl rfl)) q
theorem isi_non_str  (q : Q (.bl false) H) : rIsi K [.non, .ty "str"] H Q := r_isi (d := .none) rfl (.inr (.inr (.inl rfl))) q
theorem isi_non_tuple  (q : Q (.bl false) H) : rIsi K [.non, .ty "tuple"] H Q := r_isi (d := .none) rfl (.inr (.inr (.inr (.inl rfl)))) q
theorem isi_non_list  (q : Q (.bl false) H) : rIsi K [.non, .ty "list"] H Q := r_isi (d := .none) rfl (.inr (.inr (.inr (.inr rfl)))) q
theorem isi_bl_bool {b : Bool} (q : Q (.bl true) H) : rIsi K [(.bl b), .ty "bool"] H Q := r_isi (d := (.bool b)) rfl (.inl rfl) q
theorem isi_bl_int {b : Bool} (q : Q (.bl true) H) : rIsi K [(.bl b), .ty "int"] H Q := r_isi (d := (.bool b)) rfl (.inr (.inl rfl)) q
theorem isi_bl_str {b : Bool} (q : Q (.bl false) H) : rIsi K [(.bl b), .ty "str"] H Q := r_isi (d := (.bool b)) rfl (.inr (.inr (.inl rfl))) q
theorem isi_bl_tuple {b : Bool} (q : Q (.bl false) H) : rIsi K [(.bl b), .ty "tuple"] H Q := r_isi (d := (.bool b)) rfl (.inr (.inr (.inr (.inl rfl)))) q
theorem isi_bl_list {b : Bool} (q : Q (.bl false) H) : rIsi K [(.bl b), .ty "list"] H Q := r_isi (d := (.bool b)) rfl (.inr (.inr (.inr (.inr rfl)))) q
theorem isi_int_bool {i : Int} (q : Q (.bl false) H) : rIsi K [(.int i), .ty "bool"] H Q := r_isi (d := (.int i)) rfl (.inl rfl) q
theorem isi_int_int {i : Int} (q : Q (.bl true) H) : rIsi K [(.int i), .ty "int"] H Q := r_isi (d := (.int i)) rfl (.inr (.inl rfl)) q
theorem isi_int_str {i : Int} (q : Q (.bl false) H) : rIsi K [(.int i), .ty "str"] H Q := r_isi (d := (.int i)) rfl (.inr (.inr (.inl rfl))) q
theorem isi_int_tuple {i : Int} (q : Q (.bl false) H) : rIsi K [(.int i), .ty "tuple"] H Q := r_isi (d := (.int i)) rfl (.inr (.inr (.inr (.inl rfl)))) q
theorem isi_int_list {i : Int} (q : Q (.bl false) H) : rIsi K [(.int i), .ty "list"] H Q := r_isi (d := (.int i)) rfl (.inr (.inr (.inr (.inr rfl)))) q
theorem isi_str_bool {s : Str} (q : Q (.bl false) H) : rIsi K [(.str s), .ty "bool"] H Q := r_isi (d := (.str s)) rfl (.inl rfl) q
theorem isi_str_int {s : Str} (q : Q (.bl false) H) : rIsi K [(.str s), .ty "int"] H Q := r_isi (d := (.str s)) rfl (.inr (.inl rfl)) q
theorem isi_str_str {s : Str} (q : Q (.bl true) H) : rIsi K [(.str s), .ty "str"] H Q := r_isi (d := (.str s)) rfl (.inr (.inr (.inl rfl))) q
theorem isi_str_tuple {s : Str} (q : Q (.bl false) H) : rIsi K [(.str s), .ty "tuple"] H Q := r_isi (d := (.str s)) rfl (.inr (.inr (.inr (.inl rfl)))) q
theorem isi_str_list {s : Str} (q : Q (.bl false) H) : rIsi K [(.str s), .ty "list"] H Q := r_isi (d := (.str s)) rfl (.inr (.inr (.inr (.inr rfl)))) q
theorem isi_tup_bool (h : H a = some (.tup xs)) (q : Q (.bl false) H) : rIsi K [.ref a, .ty "bool"] H Q := ⟨.ref a, .ty "bool", .type "tuple", .type "bool", false, rfl, .ty "bool", .base (TyOf.tup h), kit_ty (by decide +kernel), q⟩
theorem isi_tup_int (h : H a = some (.tup xs)) (q : Q (.bl false) H) : rIsi K [.ref a, .ty "int"] H Q := ⟨.ref a, .ty "int", .type "tuple", .type "int", false, rfl, .ty "int", .base (TyOf.tup h), kit_ty (by decide +kernel), q⟩
theorem isi_tup_str (h : H a = some (.tup xs)) (q : Q (.bl false) H) : rIsi K [.ref a, .ty "str"] H Q := ⟨.ref a, .ty "str", .type "tuple", .type "str", false, rfl, .ty "str", .base (TyOf.tup h), kit_ty (by decide +kernel), q⟩
theorem isi_tup_tuple (h : H a = some (.tup xs)) (q : Q (.bl true) H) : rIsi K [.ref a, .ty "tuple"] H Q := ⟨.ref a, .ty "tuple", .type "tuple", .type "tuple", true, rfl, .ty "tuple", .base (TyOf.tup h), kit_ty (by decide +kernel), q⟩
theorem isi_tup_list (h : H a = some (.tup xs)) (q : Q (.bl false) H) : rIsi K [.ref a, .ty "list"] H Q := ⟨.ref a, .ty "list", .type "tuple", .type "list", false, rfl, .ty "list", .base (TyOf.tup h), kit_ty (by decide +kernel), q⟩
theorem isi_lst_bool (h : H a = some (.lst xs)) (q : Q (.bl false) H) : rIsi K [.ref a, .ty "bool"] H Q := ⟨.ref a, .ty "bool", .type "list", .type "bool", false, rfl, .ty "bool", .base (TyOf.lst h), kit_ty (by decide +kernel), q⟩
theorem isi_lst_int (h : H a = some (.lst xs)) (q : Q (.bl false) H) : rIsi K [.ref a, .ty "int"] H Q := ⟨.ref a, .ty "int", .type "list", .type "int", false, rfl, .ty "int", .base (TyOf.lst h), kit_ty (by decide +kernel), q⟩
theorem isi_lst_str (h : H a = some (.lst xs)) (q : Q (.bl false) H) : rIsi K [.ref a, .ty "str"] H Q := ⟨.ref a, .ty "str", .type "list", .type "str", false, rfl, .ty "str", .base (TyOf.lst h), kit_ty (by decide +kernel), q⟩
theorem isi_lst_tuple (h : H a = some (.lst xs)) (q : Q (.bl false) H) : rIsi K [.ref a, .ty "tuple"] H Q := ⟨.ref a, .ty "tuple", .type "list", .type "tuple", false, rfl, .ty "tuple", .base (TyOf.lst h), kit_ty (by decide +kernel), q⟩
theorem isi_lst_list (h : H a = some (.lst xs)) (q : Q (.bl true) H) : rIsi K [.ref a, .ty "list"] H Q := ⟨.ref a, .ty "list", .type "list", .type "list", true, rfl, .ty "list", .base (TyOf.lst h), kit_ty (by decide +kernel), q⟩
theorem ite_nt {A B : Prop} (q : B) : if (!true) = true then A else B := iteF q
theorem ite_nf {A B : Prop} (q : A) : if (!false) = true then A else B := iteT q
end
end Cm

end
section
namespace W
open PySem PySem.Spec PyProof.Rows L2 Cm
def top (i : Nat) : Stmt := PySem.Challenge.pw_stillcopy_k05_disks.main.body.getD i (.Pass ⟨0, 0, 0, 0⟩)
abbrev s_BadDeal_init : Stmt := inClass (top 2) 0
abbrev s_Behind_init : Stmt := inClass (top 9) 0
abbrev s_BadText_init : Stmt := inClass (top 12) 0
abbrev s_weight_of : Stmt := top 17
abbrev s_Disk_init : Stmt := inClass (top 18) 0
abbrev s_Disk_need_block : Stmt := inClass (top 18) 1
abbrev s_Disk_count : Stmt := inClass (top 18) 2
abbrev s_Disk_write : Stmt := inClass (top 18) 3
abbrev s_Disk_settle : Stmt := inClass (top 18) 4
abbrev s_Disk_read : Stmt := inClass (top 18) 5
abbrev s_Disk_arm : Stmt := inClass (top 18) 6
abbrev s_Disk_stop : Stmt := inClass (top 18) 7
abbrev s_Disk_again : Stmt := inClass (top 18) 8
abbrev s_Disk_settled : Stmt := inClass (top 18) 9
abbrev s_begun_ : Stmt := top 20
abbrev s_take_ : Stmt := top 21
abbrev s_alike_ : Stmt := top 22
abbrev s_class_ : Stmt := top 23
abbrev s_nest_ : Stmt := top 24
abbrev s_what_ : Stmt := top 25
abbrev s_weight_ : Stmt := top 26
abbrev s_made_ : Stmt := top 27
abbrev s_fall_ : Stmt := top 28
abbrev s_count_ : Stmt := top 29
abbrev s_told_ : Stmt := top 30
abbrev s_write_ : Stmt := top 31
abbrev s_arms_ : Stmt := top 32
abbrev s_is_ : Stmt := top 33
abbrev s_law : Stmt := top 34
def d_BadDeal_init : He.DefD := ⟨("BadDeal", some "__init__"), "__init__", "BadDeal.__init__", defArgs s_BadDeal_init, defBody s_BadDeal_init, defScope s_BadDeal_init, [], []⟩
def d_Behind_init : He.DefD := ⟨("Behind", some "__init__"), "__init__", "Behind.__init__", defArgs s_Behind_init, defBody s_Behind_init, defScope s_Behind_init, [], []⟩
def d_BadText_init : He.DefD := ⟨("BadText", some "__init__"), "__init__", "BadText.__init__", defArgs s_BadText_init, defBody s_BadText_init, defScope s_BadText_init, [], []⟩
def d_weight_of : He.DefD := ⟨("weight_of", none), "weight_of", "weight_of", defArgs s_weight_of, defBody s_weight_of, defScope s_weight_of, [], []⟩
def d_Disk_init : He.DefD := ⟨("Disk", some "__init__"), "__init__", "Disk.__init__", defArgs s_Disk_init, defBody s_Disk_init, defScope s_Disk_init, [], []⟩
def d_Disk_need_block : He.DefD := ⟨("Disk", some "need_block"), "need_block", "Disk.need_block", defArgs s_Disk_need_block, defBody s_Disk_need_block, defScope s_Disk_need_block, [], []⟩
def d_Disk_count : He.DefD := ⟨("Disk", some "count"), "count", "Disk.count", defArgs s_Disk_count, defBody s_Disk_count, defScope s_Disk_count, [], []⟩
def d_Disk_write : He.DefD := ⟨("Disk", some "write"), "write", "Disk.write", defArgs s_Disk_write, defBody s_Disk_write, defScope s_Disk_write, [], []⟩
def d_Disk_settle : He.DefD := ⟨("Disk", some "settle"), "settle", "Disk.settle", defArgs s_Disk_settle, defBody s_Disk_settle, defScope s_Disk_settle, [], []⟩
def d_Disk_read : He.DefD := ⟨("Disk", some "read"), "read", "Disk.read", defArgs s_Disk_read, defBody s_Disk_read, defScope s_Disk_read, [], []⟩
def d_Disk_arm : He.DefD := ⟨("Disk", some "arm"), "arm", "Disk.arm", defArgs s_Disk_arm, defBody s_Disk_arm, defScope s_Disk_arm, [], []⟩
def d_Disk_stop : He.DefD := ⟨("Disk", some "stop"), "stop", "Disk.stop", defArgs s_Disk_stop, defBody s_Disk_stop, defScope s_Disk_stop, [], []⟩
def d_Disk_again : He.DefD := ⟨("Disk", some "again"), "again", "Disk.again", defArgs s_Disk_again, defBody s_Disk_again, defScope s_Disk_again, [], []⟩
def d_Disk_settled : He.DefD := ⟨("Disk", some "settled"), "settled", "Disk.settled", defArgs s_Disk_settled, defBody s_Disk_settled, defScope s_Disk_settled, [], []⟩
def d_begun_ : He.DefD := ⟨("_law_begun", none), "_law_begun", "_law_begun", defArgs s_begun_, defBody s_begun_, defScope s_begun_, [], []⟩
def d_take_ : He.DefD := ⟨("_law_take", none), "_law_take", "_law_take", defArgs s_take_, defBody s_take_, defScope s_take_, [], []⟩
def d_alike_ : He.DefD := ⟨("_law_alike", none), "_law_alike", "_law_alike", defArgs s_alike_, defBody s_alike_, defScope s_alike_, [], []⟩
def d_class_ : He.DefD := ⟨("_law_class", none), "_law_class", "_law_class", defArgs s_class_, defBody s_class_, defScope s_class_, [], []⟩
def d_nest_ : He.DefD := ⟨("_law_nest", none), "_law_nest", "_law_nest", defArgs s_nest_, defBody s_nest_, defScope s_nest_, [], []⟩
def d_what_ : He.DefD := ⟨("_law_what", none), "_law_what", "_law_what", defArgs s_what_, defBody s_what_, defScope s_what_, [], []⟩
def d_weight_ : He.DefD := ⟨("_law_weight", none), "_law_weight", "_law_weight", defArgs s_weight_, defBody s_weight_, defScope s_weight_, [], []⟩
def d_made_ : He.DefD := ⟨("_law_made", none), "_law_made", "_law_made", defArgs s_made_, defBody s_made_, defScope s_made_, [], []⟩
def d_fall_ : He.DefD := ⟨("_law_fall", none), "_law_fall", "_law_fall", defArgs s_fall_, defBody s_fall_, defScope s_fall_, [], []⟩
def d_count_ : He.DefD := ⟨("_law_count", none), "_law_count", "_law_count", defArgs s_count_, defBody s_count_, defScope s_count_, [], []⟩
def d_told_ : He.DefD := ⟨("_law_told", none), "_law_told", "_law_told", defArgs s_told_, defBody s_told_, defScope s_told_, [], []⟩
def d_write_ : He.DefD := ⟨("_law_write", none), "_law_write", "_law_write", defArgs s_write_, defBody s_write_, defScope s_write_, [], []⟩
def d_arms_ : He.DefD := ⟨("_law_arms", none), "_law_arms", "_law_arms", defArgs s_arms_, defBody s_arms_, defScope s_arms_, [], []⟩
def d_is_ : He.DefD := ⟨("_law_is", none), "_law_is", "_law_is", defArgs s_is_, defBody s_is_, defScope s_is_, [], []⟩
def d_law : He.DefD := ⟨("law", none), "law", "law", defArgs s_law, defBody s_law, defScope s_law, [], []⟩
def fn0 : List He.DefD := [d_BadDeal_init, d_Behind_init, d_BadText_init, d_weight_of, d_Disk_init, d_Disk_need_block, d_Disk_count, d_Disk_write, d_Disk_settle, d_Disk_read, d_Disk_arm, d_Disk_stop, d_Disk_again, d_Disk_settled, d_begun_, d_take_, d_alike_, d_class_, d_nest_, d_what_, d_weight_, d_made_, d_fall_, d_count_, d_told_]
def fn1 : List He.DefD := [d_write_, d_arms_, d_is_, d_law]
def fn : List He.DefD := fn0 ++ (fn1)
def fa0 : List He.Fa := [.glo "StillError", .glo "BadDeal", .glo "BadHand", .glo "BadLetter", .glo "BadTime", .glo "BadKey", .glo "BadHouse", .glo "NoCopy", .glo "Behind", .glo "BadBlock", .glo "BadEntry", .glo "BadText", .glo "Stopped", .glo "weight_of", .glo "Disk", .glo "_law_begun", .glo "_law_take", .glo "_law_alike", .glo "_law_class", .glo "_law_nest", .glo "_law_what", .glo "_law_weight", .glo "_law_made", .glo "_law_fall", .glo "_law_count"]
def fa1 : List He.Fa := [.glo "_law_told", .glo "_law_write", .glo "_law_arms", .glo "_law_is", .glo "law", .free "len", .free "range", .free "list", .free "tuple", .free "int", .free "str", .free "bool", .free "sum", .free "max", .free "isinstance", .free "zip", .free "ValueError", .int "BLOCKS" (35), .int "MOST_WEIGHT" (40), .exc "StillError", .keep "StillError", .exm "StillError" "StillError" true, .keep "BadDeal", .exm "BadDeal" "StillError" true, .exc "BadHand"]
def fa2 : List He.Fa := [.keep "BadHand", .exm "BadHand" "StillError" true, .exc "BadLetter", .keep "BadLetter", .exm "BadLetter" "StillError" true, .exc "BadTime", .keep "BadTime", .exm "BadTime" "StillError" true, .exc "BadKey", .keep "BadKey", .exm "BadKey" "StillError" true, .exc "BadHouse", .keep "BadHouse", .exm "BadHouse" "StillError" true, .exc "NoCopy", .keep "NoCopy", .exm "NoCopy" "StillError" true, .keep "Behind", .exm "Behind" "StillError" true, .exc "BadBlock", .keep "BadBlock", .exm "BadBlock" "StillError" true, .exc "BadEntry", .keep "BadEntry", .exm "BadEntry" "StillError" true]
def fa3 : List He.Fa := [.keep "BadText", .exm "BadText" "StillError" true, .exc "Stopped", .keep "Stopped", .exm "Stopped" "StillError" true, .cls "Disk", .noat "Disk" "blocks", .noat "Disk" "pending", .noat "Disk" "left", .noat "Disk" "picks", .noat "Disk" "fallen", .meth "Disk" "need_block", .meth "Disk" "count", .meth "Disk" "write", .meth "Disk" "settle", .meth "Disk" "read", .meth "Disk" "arm", .meth "Disk" "stop", .meth "Disk" "again", .meth "Disk" "settled", .mkr "Disk"]
def fa : List He.Fa := fa0 ++ (fa1 ++ (fa2 ++ (fa3)))
def tf : List He.Defn := [("_law_write", none), ("_law_is", none), ("law", none)]
def exf (K : PySem.W.Frag) : Bool := Cm.exK K && decide ((tf.map fun p => (He.cT K p).2).Nodup)
/-- what the top has written -/
structure Tx (w : World) (K : PySem.W.Frag) (mg : Str → Option Value) : Prop where
  ex : ∃ h : Heap, K.In h ∧ h.Ns mainGlobals mg ∧ He.SaysX fa fn [] tf exf w h K
section
variable {w : World} {K : PySem.W.Frag} {mg : Str → Option Value}
theorem Tx.fact (T : Tx w K mg) (i : Nat) {f : He.Fa} (h : fa[i]? = some f) : f.ok K = true := by
  obtain ⟨_, _, _, c⟩ := T.ex
  exact c.t.d.fact i h
theorem Tx.dfn (T : Tx w K mg) (i : Nat) {d : He.DefD} (h : fn[i]? = some d) : ∃ fd, FunD K d.name d.qual d.params d.body d.scope (d.dvs K) (d.kws K) (He.fAd K d.at_) fd := by
  obtain ⟨_, _, _, c⟩ := T.ex
  exact c.t.d.def_ i h
theorem Tx.more (T : Tx w K mg) : exf K = true := by
  obtain ⟨_, _, _, c⟩ := T.ex
  exact c.more
theorem Tx.ex1 (T : Tx w K mg) : Cm.exK K = true := (Bool.and_eq_true _ _ ▸ T.more : _ ∧ _).1
theorem Tx.tnd (T : Tx w K mg) : (tf.map fun p => (He.cT K p).2).Nodup := of_decide_eq_true (Bool.and_eq_true _ _ ▸ T.more : _ ∧ _).2
theorem Tx.g_StillError (T : Tx w K mg) : mg "StillError" = some (.ref (He.ga K "StillError")) := by
  obtain ⟨h, X, G, c⟩ := T.ex
  exact He.glo_ok X G (c.t.d.fact 0 rfl)
theorem Tx.g_BadDeal (T : Tx w K mg) : mg "BadDeal" = some (.ref (He.ga K "BadDeal")) := by
  obtain ⟨h, X, G, c⟩ := T.ex
  exact He.glo_ok X G (c.t.d.fact 1 rfl)
theorem Tx.g_BadHand (T : Tx w K mg) : mg "BadHand" = some (.ref (He.ga K "BadHand")) := by
  obtain ⟨h, X, G, c⟩ := T.ex
  exact He.glo_ok X G (c.t.d.fact 2 rfl)
theorem Tx.g_BadLetter (T : Tx w K mg) : mg "BadLetter" = some (.ref (He.ga K "BadLetter")) := by
  obtain ⟨h, X, G, c⟩ := T.ex
  exact He.glo_ok X G (c.t.d.fact 3 rfl)
theorem Tx.g_BadTime (T : Tx w K mg) : mg "BadTime" = some (.ref (He.ga K "BadTime")) := by
  obtain ⟨h, X, G, c⟩ := T.ex
  exact He.glo_ok X G (c.t.d.fact 4 rfl)
theorem Tx.g_BadKey (T : Tx w K mg) : mg "BadKey" = some (.ref (He.ga K "BadKey")) := by
  obtain ⟨h, X, G, c⟩ := T.ex
  exact He.glo_ok X G (c.t.d.fact 5 rfl)
theorem Tx.g_BadHouse (T : Tx w K mg) : mg "BadHouse" = some (.ref (He.ga K "BadHouse")) := by
  obtain ⟨h, X, G, c⟩ := T.ex
  exact He.glo_ok X G (c.t.d.fact 6 rfl)
theorem Tx.g_NoCopy (T : Tx w K mg) : mg "NoCopy" = some (.ref (He.ga K "NoCopy")) := by
  obtain ⟨h, X, G, c⟩ := T.ex
  exact He.glo_ok X G (c.t.d.fact 7 rfl)
theorem Tx.g_Behind (T : Tx w K mg) : mg "Behind" = some (.ref (He.ga K "Behind")) := by
  obtain ⟨h, X, G, c⟩ := T.ex
  exact He.glo_ok X G (c.t.d.fact 8 rfl)
theorem Tx.g_BadBlock (T : Tx w K mg) : mg "BadBlock" = some (.ref (He.ga K "BadBlock")) := by
  obtain ⟨h, X, G, c⟩ := T.ex
  exact He.glo_ok X G (c.t.d.fact 9 rfl)
theorem Tx.g_BadEntry (T : Tx w K mg) : mg "BadEntry" = some (.ref (He.ga K "BadEntry")) := by
  obtain ⟨h, X, G, c⟩ := T.ex
  exact He.glo_ok X G (c.t.d.fact 10 rfl)
theorem Tx.g_BadText (T : Tx w K mg) : mg "BadText" = some (.ref (He.ga K "BadText")) := by
  obtain ⟨h, X, G, c⟩ := T.ex
  exact He.glo_ok X G (c.t.d.fact 11 rfl)
theorem Tx.g_Stopped (T : Tx w K mg) : mg "Stopped" = some (.ref (He.ga K "Stopped")) := by
  obtain ⟨h, X, G, c⟩ := T.ex
  exact He.glo_ok X G (c.t.d.fact 12 rfl)
theorem Tx.g_weight_of (T : Tx w K mg) : mg "weight_of" = some (.ref (He.ga K "weight_of")) := by
  obtain ⟨h, X, G, c⟩ := T.ex
  exact He.glo_ok X G (c.t.d.fact 13 rfl)
theorem Tx.g_Disk (T : Tx w K mg) : mg "Disk" = some (.ref (He.ga K "Disk")) := by
  obtain ⟨h, X, G, c⟩ := T.ex
  exact He.glo_ok X G (c.t.d.fact 14 rfl)
theorem Tx.g_begun_ (T : Tx w K mg) : mg "_law_begun" = some (.ref (He.ga K "_law_begun")) := by
  obtain ⟨h, X, G, c⟩ := T.ex
  exact He.glo_ok X G (c.t.d.fact 15 rfl)
theorem Tx.g_take_ (T : Tx w K mg) : mg "_law_take" = some (.ref (He.ga K "_law_take")) := by
  obtain ⟨h, X, G, c⟩ := T.ex
  exact He.glo_ok X G (c.t.d.fact 16 rfl)
theorem Tx.g_alike_ (T : Tx w K mg) : mg "_law_alike" = some (.ref (He.ga K "_law_alike")) := by
  obtain ⟨h, X, G, c⟩ := T.ex
  exact He.glo_ok X G (c.t.d.fact 17 rfl)
theorem Tx.g_class_ (T : Tx w K mg) : mg "_law_class" = some (.ref (He.ga K "_law_class")) := by
  obtain ⟨h, X, G, c⟩ := T.ex
  exact He.glo_ok X G (c.t.d.fact 18 rfl)
theorem Tx.g_nest_ (T : Tx w K mg) : mg "_law_nest" = some (.ref (He.ga K "_law_nest")) := by
  obtain ⟨h, X, G, c⟩ := T.ex
  exact He.glo_ok X G (c.t.d.fact 19 rfl)
theorem Tx.g_what_ (T : Tx w K mg) : mg "_law_what" = some (.ref (He.ga K "_law_what")) := by
  obtain ⟨h, X, G, c⟩ := T.ex
  exact He.glo_ok X G (c.t.d.fact 20 rfl)
theorem Tx.g_weight_ (T : Tx w K mg) : mg "_law_weight" = some (.ref (He.ga K "_law_weight")) := by
  obtain ⟨h, X, G, c⟩ := T.ex
  exact He.glo_ok X G (c.t.d.fact 21 rfl)
theorem Tx.g_made_ (T : Tx w K mg) : mg "_law_made" = some (.ref (He.ga K "_law_made")) := by
  obtain ⟨h, X, G, c⟩ := T.ex
  exact He.glo_ok X G (c.t.d.fact 22 rfl)
theorem Tx.g_fall_ (T : Tx w K mg) : mg "_law_fall" = some (.ref (He.ga K "_law_fall")) := by
  obtain ⟨h, X, G, c⟩ := T.ex
  exact He.glo_ok X G (c.t.d.fact 23 rfl)
theorem Tx.g_count_ (T : Tx w K mg) : mg "_law_count" = some (.ref (He.ga K "_law_count")) := by
  obtain ⟨h, X, G, c⟩ := T.ex
  exact He.glo_ok X G (c.t.d.fact 24 rfl)
theorem Tx.g_told_ (T : Tx w K mg) : mg "_law_told" = some (.ref (He.ga K "_law_told")) := by
  obtain ⟨h, X, G, c⟩ := T.ex
  exact He.glo_ok X G (c.t.d.fact 25 rfl)
theorem Tx.g_write_ (T : Tx w K mg) : mg "_law_write" = some (.ref (He.ga K "_law_write")) := by
  obtain ⟨h, X, G, c⟩ := T.ex
  exact He.glo_ok X G (c.t.d.fact 26 rfl)
theorem Tx.g_arms_ (T : Tx w K mg) : mg "_law_arms" = some (.ref (He.ga K "_law_arms")) := by
  obtain ⟨h, X, G, c⟩ := T.ex
  exact He.glo_ok X G (c.t.d.fact 27 rfl)
theorem Tx.g_is_ (T : Tx w K mg) : mg "_law_is" = some (.ref (He.ga K "_law_is")) := by
  obtain ⟨h, X, G, c⟩ := T.ex
  exact He.glo_ok X G (c.t.d.fact 28 rfl)
theorem Tx.g_law (T : Tx w K mg) : mg "law" = some (.ref (He.ga K "law")) := by
  obtain ⟨h, X, G, c⟩ := T.ex
  exact He.glo_ok X G (c.t.d.fact 29 rfl)
theorem Tx.n_len (T : Tx w K mg) : mg "len" = none := by
  obtain ⟨h, X, G, c⟩ := T.ex
  exact He.free_ok X G (c.t.d.fact 30 rfl)
theorem Tx.n_range (T : Tx w K mg) : mg "range" = none := by
  obtain ⟨h, X, G, c⟩ := T.ex
  exact He.free_ok X G (c.t.d.fact 31 rfl)
theorem Tx.n_list (T : Tx w K mg) : mg "list" = none := by
  obtain ⟨h, X, G, c⟩ := T.ex
  exact He.free_ok X G (c.t.d.fact 32 rfl)
theorem Tx.n_tuple (T : Tx w K mg) : mg "tuple" = none := by
  obtain ⟨h, X, G, c⟩ := T.ex
  exact He.free_ok X G (c.t.d.fact 33 rfl)
theorem Tx.n_int (T : Tx w K mg) : mg "int" = none := by
  obtain ⟨h, X, G, c⟩ := T.ex
  exact He.free_ok X G (c.t.d.fact 34 rfl)
theorem Tx.n_str (T : Tx w K mg) : mg "str" = none := by
  obtain ⟨h, X, G, c⟩ := T.ex
  exact He.free_ok X G (c.t.d.fact 35 rfl)
theorem Tx.n_bool (T : Tx w K mg) : mg "bool" = none := by
  obtain ⟨h, X, G, c⟩ := T.ex
  exact He.free_ok X G (c.t.d.fact 36 rfl)
theorem Tx.n_sum (T : Tx w K mg) : mg "sum" = none := by
  obtain ⟨h, X, G, c⟩ := T.ex
  exact He.free_ok X G (c.t.d.fact 37 rfl)
theorem Tx.n_max (T : Tx w K mg) : mg "max" = none := by
  obtain ⟨h, X, G, c⟩ := T.ex
  exact He.free_ok X G (c.t.d.fact 38 rfl)
theorem Tx.n_isinstance (T : Tx w K mg) : mg "isinstance" = none := by
  obtain ⟨h, X, G, c⟩ := T.ex
  exact He.free_ok X G (c.t.d.fact 39 rfl)
theorem Tx.n_zip (T : Tx w K mg) : mg "zip" = none := by
  obtain ⟨h, X, G, c⟩ := T.ex
  exact He.free_ok X G (c.t.d.fact 40 rfl)
theorem Tx.n_ValueError (T : Tx w K mg) : mg "ValueError" = none := by
  obtain ⟨h, X, G, c⟩ := T.ex
  exact He.free_ok X G (c.t.d.fact 41 rfl)
theorem Tx.i_BLOCKS (T : Tx w K mg) : ∃ t, mg "BLOCKS" = some (.int (35) t) := by
  obtain ⟨h, X, G, c⟩ := T.ex
  exact He.int_ok X G (c.t.d.fact 42 rfl)
theorem Tx.i_MOST_WEIGHT (T : Tx w K mg) : ∃ t, mg "MOST_WEIGHT" = some (.int (40) t) := by
  obtain ⟨h, X, G, c⟩ := T.ex
  exact He.int_ok X G (c.t.d.fact 43 rfl)
theorem Tx.x_StillError (T : Tx w K mg) : PySem.W.excIn K (He.ga K "StillError") He.veBase "ValueError.__new__" = true := (He.exc_ok (T.fact 44 rfl)).1
theorem Tx.xb_StillError (T : Tx w K mg) : PySem.W.subIn K (.ref (He.ga K "StillError")) (.type "BaseException") = some true := (He.exc_ok (T.fact 44 rfl)).2.2.1
theorem Tx.xt_StillError (T : Tx w K mg) : PySem.W.typeIn K (.ref (He.ga K "StillError")) = some (.type "type") := (He.exc_ok (T.fact 44 rfl)).2.2.2
theorem Tx.k_StillError (T : Tx w K mg) : PySem.W.keepIn K (.ref (He.ga K "StillError")) = true := He.keep_ok (T.fact 45 rfl)
theorem Tx.xm_StillError_StillError (T : Tx w K mg) : PySem.W.exmOne K (.ref (He.ga K "StillError")) (.ref (He.ga K "StillError")) = some true := He.exm_ok (T.fact 46 rfl)
theorem Tx.k_BadDeal (T : Tx w K mg) : PySem.W.keepIn K (.ref (He.ga K "BadDeal")) = true := He.keep_ok (T.fact 47 rfl)
theorem Tx.xm_BadDeal_StillError (T : Tx w K mg) : PySem.W.exmOne K (.ref (He.ga K "BadDeal")) (.ref (He.ga K "StillError")) = some true := He.exm_ok (T.fact 48 rfl)
theorem Tx.x_BadHand (T : Tx w K mg) : PySem.W.excIn K (He.ga K "BadHand") He.veBase "ValueError.__new__" = true := (He.exc_ok (T.fact 49 rfl)).1
theorem Tx.xb_BadHand (T : Tx w K mg) : PySem.W.subIn K (.ref (He.ga K "BadHand")) (.type "BaseException") = some true := (He.exc_ok (T.fact 49 rfl)).2.2.1
theorem Tx.xt_BadHand (T : Tx w K mg) : PySem.W.typeIn K (.ref (He.ga K "BadHand")) = some (.type "type") := (He.exc_ok (T.fact 49 rfl)).2.2.2
theorem Tx.k_BadHand (T : Tx w K mg) : PySem.W.keepIn K (.ref (He.ga K "BadHand")) = true := He.keep_ok (T.fact 50 rfl)
theorem Tx.xm_BadHand_StillError (T : Tx w K mg) : PySem.W.exmOne K (.ref (He.ga K "BadHand")) (.ref (He.ga K "StillError")) = some true := He.exm_ok (T.fact 51 rfl)
theorem Tx.x_BadLetter (T : Tx w K mg) : PySem.W.excIn K (He.ga K "BadLetter") He.veBase "ValueError.__new__" = true := (He.exc_ok (T.fact 52 rfl)).1
theorem Tx.xb_BadLetter (T : Tx w K mg) : PySem.W.subIn K (.ref (He.ga K "BadLetter")) (.type "BaseException") = some true := (He.exc_ok (T.fact 52 rfl)).2.2.1
theorem Tx.xt_BadLetter (T : Tx w K mg) : PySem.W.typeIn K (.ref (He.ga K "BadLetter")) = some (.type "type") := (He.exc_ok (T.fact 52 rfl)).2.2.2
theorem Tx.k_BadLetter (T : Tx w K mg) : PySem.W.keepIn K (.ref (He.ga K "BadLetter")) = true := He.keep_ok (T.fact 53 rfl)
theorem Tx.xm_BadLetter_StillError (T : Tx w K mg) : PySem.W.exmOne K (.ref (He.ga K "BadLetter")) (.ref (He.ga K "StillError")) = some true := He.exm_ok (T.fact 54 rfl)
theorem Tx.x_BadTime (T : Tx w K mg) : PySem.W.excIn K (He.ga K "BadTime") He.veBase "ValueError.__new__" = true := (He.exc_ok (T.fact 55 rfl)).1
theorem Tx.xb_BadTime (T : Tx w K mg) : PySem.W.subIn K (.ref (He.ga K "BadTime")) (.type "BaseException") = some true := (He.exc_ok (T.fact 55 rfl)).2.2.1
theorem Tx.xt_BadTime (T : Tx w K mg) : PySem.W.typeIn K (.ref (He.ga K "BadTime")) = some (.type "type") := (He.exc_ok (T.fact 55 rfl)).2.2.2
theorem Tx.k_BadTime (T : Tx w K mg) : PySem.W.keepIn K (.ref (He.ga K "BadTime")) = true := He.keep_ok (T.fact 56 rfl)
theorem Tx.xm_BadTime_StillError (T : Tx w K mg) : PySem.W.exmOne K (.ref (He.ga K "BadTime")) (.ref (He.ga K "StillError")) = some true := He.exm_ok (T.fact 57 rfl)
theorem Tx.x_BadKey (T : Tx w K mg) : PySem.W.excIn K (He.ga K "BadKey") He.veBase "ValueError.__new__" = true := (He.exc_ok (T.fact 58 rfl)).1
theorem Tx.xb_BadKey (T : Tx w K mg) : PySem.W.subIn K (.ref (He.ga K "BadKey")) (.type "BaseException") = some true := (He.exc_ok (T.fact 58 rfl)).2.2.1
theorem Tx.xt_BadKey (T : Tx w K mg) : PySem.W.typeIn K (.ref (He.ga K "BadKey")) = some (.type "type") := (He.exc_ok (T.fact 58 rfl)).2.2.2
theorem Tx.k_BadKey (T : Tx w K mg) : PySem.W.keepIn K (.ref (He.ga K "BadKey")) = true := He.keep_ok (T.fact 59 rfl)
theorem Tx.xm_BadKey_StillError (T : Tx w K mg) : PySem.W.exmOne K (.ref (He.ga K "BadKey")) (.ref (He.ga K "StillError")) = some true := He.exm_ok (T.fact 60 rfl)
theorem Tx.x_BadHouse (T : Tx w K mg) : PySem.W.excIn K (He.ga K "BadHouse") He.veBase "ValueError.__new__" = true := (He.exc_ok (T.fact 61 rfl)).1
theorem Tx.xb_BadHouse (T : Tx w K mg) : PySem.W.subIn K (.ref (He.ga K "BadHouse")) (.type "BaseException") = some true := (He.exc_ok (T.fact 61 rfl)).2.2.1
theorem Tx.xt_BadHouse (T : Tx w K mg) : PySem.W.typeIn K (.ref (He.ga K "BadHouse")) = some (.type "type") := (He.exc_ok (T.fact 61 rfl)).2.2.2
theorem Tx.k_BadHouse (T : Tx w K mg) : PySem.W.keepIn K (.ref (He.ga K "BadHouse")) = true := He.keep_ok (T.fact 62 rfl)
theorem Tx.xm_BadHouse_StillError (T : Tx w K mg) : PySem.W.exmOne K (.ref (He.ga K "BadHouse")) (.ref (He.ga K "StillError")) = some true := He.exm_ok (T.fact 63 rfl)
theorem Tx.x_NoCopy (T : Tx w K mg) : PySem.W.excIn K (He.ga K "NoCopy") He.veBase "ValueError.__new__" = true := (He.exc_ok (T.fact 64 rfl)).1
theorem Tx.xb_NoCopy (T : Tx w K mg) : PySem.W.subIn K (.ref (He.ga K "NoCopy")) (.type "BaseException") = some true := (He.exc_ok (T.fact 64 rfl)).2.2.1
theorem Tx.xt_NoCopy (T : Tx w K mg) : PySem.W.typeIn K (.ref (He.ga K "NoCopy")) = some (.type "type") := (He.exc_ok (T.fact 64 rfl)).2.2.2
theorem Tx.k_NoCopy (T : Tx w K mg) : PySem.W.keepIn K (.ref (He.ga K "NoCopy")) = true := He.keep_ok (T.fact 65 rfl)
theorem Tx.xm_NoCopy_StillError (T : Tx w K mg) : PySem.W.exmOne K (.ref (He.ga K "NoCopy")) (.ref (He.ga K "StillError")) = some true := He.exm_ok (T.fact 66 rfl)
theorem Tx.k_Behind (T : Tx w K mg) : PySem.W.keepIn K (.ref (He.ga K "Behind")) = true := He.keep_ok (T.fact 67 rfl)
theorem Tx.xm_Behind_StillError (T : Tx w K mg) : PySem.W.exmOne K (.ref (He.ga K "Behind")) (.ref (He.ga K "StillError")) = some true := He.exm_ok (T.fact 68 rfl)
theorem Tx.x_BadBlock (T : Tx w K mg) : PySem.W.excIn K (He.ga K "BadBlock") He.veBase "ValueError.__new__" = true := (He.exc_ok (T.fact 69 rfl)).1
theorem Tx.xb_BadBlock (T : Tx w K mg) : PySem.W.subIn K (.ref (He.ga K "BadBlock")) (.type "BaseException") = some true := (He.exc_ok (T.fact 69 rfl)).2.2.1
theorem Tx.xt_BadBlock (T : Tx w K mg) : PySem.W.typeIn K (.ref (He.ga K "BadBlock")) = some (.type "type") := (He.exc_ok (T.fact 69 rfl)).2.2.2
theorem Tx.k_BadBlock (T : Tx w K mg) : PySem.W.keepIn K (.ref (He.ga K "BadBlock")) = true := He.keep_ok (T.fact 70 rfl)
theorem Tx.xm_BadBlock_StillError (T : Tx w K mg) : PySem.W.exmOne K (.ref (He.ga K "BadBlock")) (.ref (He.ga K "StillError")) = some true := He.exm_ok (T.fact 71 rfl)
theorem Tx.x_BadEntry (T : Tx w K mg) : PySem.W.excIn K (He.ga K "BadEntry") He.veBase "ValueError.__new__" = true := (He.exc_ok (T.fact 72 rfl)).1
theorem Tx.xb_BadEntry (T : Tx w K mg) : PySem.W.subIn K (.ref (He.ga K "BadEntry")) (.type "BaseException") = some true := (He.exc_ok (T.fact 72 rfl)).2.2.1
theorem Tx.xt_BadEntry (T : Tx w K mg) : PySem.W.typeIn K (.ref (He.ga K "BadEntry")) = some (.type "type") := (He.exc_ok (T.fact 72 rfl)).2.2.2
theorem Tx.k_BadEntry (T : Tx w K mg) : PySem.W.keepIn K (.ref (He.ga K "BadEntry")) = true := He.keep_ok (T.fact 73 rfl)
theorem Tx.xm_BadEntry_StillError (T : Tx w K mg) : PySem.W.exmOne K (.ref (He.ga K "BadEntry")) (.ref (He.ga K "StillError")) = some true := He.exm_ok (T.fact 74 rfl)
theorem Tx.k_BadText (T : Tx w K mg) : PySem.W.keepIn K (.ref (He.ga K "BadText")) = true := He.keep_ok (T.fact 75 rfl)
theorem Tx.xm_BadText_StillError (T : Tx w K mg) : PySem.W.exmOne K (.ref (He.ga K "BadText")) (.ref (He.ga K "StillError")) = some true := He.exm_ok (T.fact 76 rfl)
theorem Tx.x_Stopped (T : Tx w K mg) : PySem.W.excIn K (He.ga K "Stopped") He.veBase "ValueError.__new__" = true := (He.exc_ok (T.fact 77 rfl)).1
theorem Tx.xb_Stopped (T : Tx w K mg) : PySem.W.subIn K (.ref (He.ga K "Stopped")) (.type "BaseException") = some true := (He.exc_ok (T.fact 77 rfl)).2.2.1
theorem Tx.xt_Stopped (T : Tx w K mg) : PySem.W.typeIn K (.ref (He.ga K "Stopped")) = some (.type "type") := (He.exc_ok (T.fact 77 rfl)).2.2.2
theorem Tx.k_Stopped (T : Tx w K mg) : PySem.W.keepIn K (.ref (He.ga K "Stopped")) = true := He.keep_ok (T.fact 78 rfl)
theorem Tx.xm_Stopped_StillError (T : Tx w K mg) : PySem.W.exmOne K (.ref (He.ga K "Stopped")) (.ref (He.ga K "StillError")) = some true := He.exm_ok (T.fact 79 rfl)
theorem Tx.c_Disk (T : Tx w K mg) : Cls K (He.ga K "Disk") := He.cls_ok (T.fact 80 rfl)
theorem Tx.a_Disk_blocks (T : Tx w K mg) : NoAttr K (He.ga K "Disk") "blocks" := He.noat_ok (T.fact 81 rfl)
theorem Tx.a_Disk_pending (T : Tx w K mg) : NoAttr K (He.ga K "Disk") "pending" := He.noat_ok (T.fact 82 rfl)
theorem Tx.a_Disk_left (T : Tx w K mg) : NoAttr K (He.ga K "Disk") "left" := He.noat_ok (T.fact 83 rfl)
theorem Tx.a_Disk_picks (T : Tx w K mg) : NoAttr K (He.ga K "Disk") "picks" := He.noat_ok (T.fact 84 rfl)
theorem Tx.a_Disk_fallen (T : Tx w K mg) : NoAttr K (He.ga K "Disk") "fallen" := He.noat_ok (T.fact 85 rfl)
theorem Tx.m_Disk_need_block (T : Tx w K mg) : Meth K (He.ga K "Disk") "need_block" (He.fAd K ("Disk", some "need_block")) := He.meth_ok (T.fact 86 rfl)
theorem Tx.m_Disk_count (T : Tx w K mg) : Meth K (He.ga K "Disk") "count" (He.fAd K ("Disk", some "count")) := He.meth_ok (T.fact 87 rfl)
theorem Tx.m_Disk_write (T : Tx w K mg) : Meth K (He.ga K "Disk") "write" (He.fAd K ("Disk", some "write")) := He.meth_ok (T.fact 88 rfl)
theorem Tx.m_Disk_settle (T : Tx w K mg) : Meth K (He.ga K "Disk") "settle" (He.fAd K ("Disk", some "settle")) := He.meth_ok (T.fact 89 rfl)
theorem Tx.m_Disk_read (T : Tx w K mg) : Meth K (He.ga K "Disk") "read" (He.fAd K ("Disk", some "read")) := He.meth_ok (T.fact 90 rfl)
theorem Tx.m_Disk_arm (T : Tx w K mg) : Meth K (He.ga K "Disk") "arm" (He.fAd K ("Disk", some "arm")) := He.meth_ok (T.fact 91 rfl)
theorem Tx.m_Disk_stop (T : Tx w K mg) : Meth K (He.ga K "Disk") "stop" (He.fAd K ("Disk", some "stop")) := He.meth_ok (T.fact 92 rfl)
theorem Tx.m_Disk_again (T : Tx w K mg) : Meth K (He.ga K "Disk") "again" (He.fAd K ("Disk", some "again")) := He.meth_ok (T.fact 93 rfl)
theorem Tx.m_Disk_settled (T : Tx w K mg) : Meth K (He.ga K "Disk") "settled" (He.fAd K ("Disk", some "settled")) := He.meth_ok (T.fact 94 rfl)
theorem Tx.mk_Disk (T : Tx w K mg) : Mk K (He.ga K "Disk") (He.fAd K ("Disk", some "__init__")) := He.mkr_ok (T.fact 95 rfl)
end
abbrev N_BadDeal_init : List Str := ["self", "place"]
theorem sc_BadDeal_init : FnScope N_BadDeal_init ["self", "place"] (defScope s_BadDeal_init) := ⟨rfl, rfl, rfl, by decide +kernel, rfl, by decide +kernel, by decide +kernel⟩
abbrev N_Behind_init : List Str := ["self", "number"]
theorem sc_Behind_init : FnScope N_Behind_init ["self", "number"] (defScope s_Behind_init) := ⟨rfl, rfl, rfl, by decide +kernel, rfl, by decide +kernel, by decide +kernel⟩
abbrev N_BadText_init : List Str := ["self", "row"]
theorem sc_BadText_init : FnScope N_BadText_init ["self", "row"] (defScope s_BadText_init) := ⟨rfl, rfl, rfl, by decide +kernel, rfl, by decide +kernel, by decide +kernel⟩
abbrev N_weight_of : List Str := ["what", "part"]
theorem sc_weight_of : FnScope N_weight_of ["what"] (defScope s_weight_of) := ⟨rfl, rfl, rfl, by decide +kernel, rfl, by decide +kernel, by decide +kernel⟩
abbrev N_Disk_init : List Str := ["self", "block"]
theorem sc_Disk_init : FnScope N_Disk_init ["self"] (defScope s_Disk_init) := ⟨rfl, rfl, rfl, by decide +kernel, rfl, by decide +kernel, by decide +kernel⟩
abbrev N_Disk_need_block : List Str := ["self", "block"]
theorem sc_Disk_need_block : FnScope N_Disk_need_block ["self", "block"] (defScope s_Disk_need_block) := ⟨rfl, rfl, rfl, by decide +kernel, rfl, by decide +kernel, by decide +kernel⟩
abbrev N_Disk_count : List Str := ["self"]
theorem sc_Disk_count : FnScope N_Disk_count ["self"] (defScope s_Disk_count) := ⟨rfl, rfl, rfl, by decide +kernel, rfl, by decide +kernel, by decide +kernel⟩
abbrev N_Disk_write : List Str := ["self", "block", "what"]
theorem sc_Disk_write : FnScope N_Disk_write ["self", "block", "what"] (defScope s_Disk_write) := ⟨rfl, rfl, rfl, by decide +kernel, rfl, by decide +kernel, by decide +kernel⟩
abbrev N_Disk_settle : List Str := ["self", "block", "what"]
theorem sc_Disk_settle : FnScope N_Disk_settle ["self"] (defScope s_Disk_settle) := ⟨rfl, rfl, rfl, by decide +kernel, rfl, by decide +kernel, by decide +kernel⟩
abbrev N_Disk_read : List Str := ["self", "block", "some", "one", "what"]
theorem sc_Disk_read : FnScope N_Disk_read ["self", "block"] (defScope s_Disk_read) := ⟨rfl, rfl, rfl, by decide +kernel, rfl, by decide +kernel, by decide +kernel⟩
abbrev N_Disk_arm : List Str := ["self", "deeds", "picks"]
theorem sc_Disk_arm : FnScope N_Disk_arm ["self", "deeds", "picks"] (defScope s_Disk_arm) := ⟨rfl, rfl, rfl, by decide +kernel, rfl, by decide +kernel, by decide +kernel⟩
abbrev N_Disk_stop : List Str := ["self", "picks", "kept", "block", "what", "stays"]
theorem sc_Disk_stop : FnScope N_Disk_stop ["self", "picks"] (defScope s_Disk_stop) := ⟨rfl, rfl, rfl, by decide +kernel, rfl, by decide +kernel, by decide +kernel⟩
abbrev N_Disk_again : List Str := ["self"]
theorem sc_Disk_again : FnScope N_Disk_again ["self"] (defScope s_Disk_again) := ⟨rfl, rfl, rfl, by decide +kernel, rfl, by decide +kernel, by decide +kernel⟩
abbrev N_Disk_settled : List Str := ["self"]
theorem sc_Disk_settled : FnScope N_Disk_settled ["self"] (defScope s_Disk_settled) := ⟨rfl, rfl, rfl, by decide +kernel, rfl, by decide +kernel, by decide +kernel⟩
abbrev N_begun_ : List Str := ["_law_script", "_law_stirred", "_law_cell"]
theorem sc_begun_ : FnScope N_begun_ ["_law_script"] (defScope s_begun_) := ⟨rfl, rfl, rfl, by decide +kernel, rfl, by decide +kernel, by decide +kernel⟩
abbrev N_take_ : List Str := ["_law_box", "_law_many", "_law_number"]
theorem sc_take_ : FnScope N_take_ ["_law_box", "_law_many"] (defScope s_take_) := ⟨rfl, rfl, rfl, by decide +kernel, rfl, by decide +kernel, by decide +kernel⟩
abbrev N_alike_ : List Str := ["_law_found", "_law_due", "_law_k"]
theorem sc_alike_ : FnScope N_alike_ ["_law_found", "_law_due"] (defScope s_alike_) := ⟨rfl, rfl, rfl, by decide +kernel, rfl, by decide +kernel, by decide +kernel⟩
abbrev N_class_ : List Str := ["_law_e", "_law_kinds", "_law_words"]
theorem sc_class_ : FnScope N_class_ ["_law_e"] (defScope s_class_) := ⟨rfl, rfl, rfl, by decide +kernel, rfl, by decide +kernel, by decide +kernel⟩
abbrev N_nest_ : List Str := ["_law_box", "_law_parts", "_law_deep", "_law_at"]
theorem sc_nest_ : FnScope N_nest_ ["_law_box", "_law_parts", "_law_deep"] (defScope s_nest_) := ⟨rfl, rfl, rfl, by decide +kernel, rfl, by decide +kernel, by decide +kernel⟩
abbrev N_what_ : List Str := ["_law_box", "_law_way", "_law_some", "_law_parts", "_law_k"]
theorem sc_what_ : FnScope N_what_ ["_law_box"] (defScope s_what_) := ⟨rfl, rfl, rfl, by decide +kernel, rfl, by decide +kernel, by decide +kernel⟩
abbrev N_weight_ : List Str := ["_law_what_here", "_law_one"]
theorem sc_weight_ : FnScope N_weight_ ["_law_what_here"] (defScope s_weight_) := ⟨rfl, rfl, rfl, by decide +kernel, rfl, by decide +kernel, by decide +kernel⟩
abbrev N_made_ : List Str := []
theorem sc_made_ : FnScope N_made_ [] (defScope s_made_) := ⟨rfl, rfl, rfl, by decide +kernel, rfl, by decide +kernel, by decide +kernel⟩
abbrev N_fall_ : List Str := ["_law_own", "_law_picks", "_law_k", "_law_block", "_law_what_here"]
theorem sc_fall_ : FnScope N_fall_ ["_law_own", "_law_picks"] (defScope s_fall_) := ⟨rfl, rfl, rfl, by decide +kernel, rfl, by decide +kernel, by decide +kernel⟩
abbrev N_count_ : List Str := ["_law_own"]
theorem sc_count_ : FnScope N_count_ ["_law_own"] (defScope s_count_) := ⟨rfl, rfl, rfl, by decide +kernel, rfl, by decide +kernel, by decide +kernel⟩
abbrev N_told_ : List Str := ["_law_work", "_law_e"]
theorem sc_told_ : FnScope N_told_ ["_law_work"] (defScope s_told_) := ⟨rfl, rfl, rfl, by decide +kernel, rfl, by decide +kernel, by decide +kernel⟩
abbrev N_write_ : List Str := ["_law_box", "_law_disk", "_law_own", "_law_block", "_law_what_here", "_law_due"]
theorem sc_write_ : FnScope N_write_ ["_law_box", "_law_disk", "_law_own"] (defScope s_write_) := ⟨rfl, rfl, rfl, by decide +kernel, rfl, by decide +kernel, by decide +kernel⟩
abbrev N_arms_ : List Str := ["_law_box", "_law_disk", "_law_own", "_law_picks", "_law_k", "_law_handed", "_law_way", "_law_good"]
theorem sc_arms_ : FnScope N_arms_ ["_law_box", "_law_disk", "_law_own"] (defScope s_arms_) := ⟨rfl, rfl, rfl, by decide +kernel, rfl, by decide +kernel, by decide +kernel⟩
abbrev N_is_ : List Str := ["_law_box", "_law_disk", "_law_own", "_law_again", "_law_found", "_law_far", "_law_blocks", "_law_block", "_law_due", "_law_some", "_law_one", "_law_what_here", "_law_told_here"]
theorem sc_is_ : FnScope N_is_ ["_law_box", "_law_disk", "_law_own"] (defScope s_is_) := ⟨rfl, rfl, rfl, by decide +kernel, rfl, by decide +kernel, by decide +kernel⟩
abbrev N_law : List Str := ["_law_script", "_law_box", "_law_sides", "_law_turn", "_law_disk", "_law_own", "_law_way", "_law_good", "_law_due", "_law_block", "_law_what_here"]
theorem sc_law : FnScope N_law ["_law_script"] (defScope s_law) := ⟨rfl, rfl, rfl, by decide +kernel, rfl, by decide +kernel, by decide +kernel⟩
end W

end
section
/-! ### the disk: its mirror -/
namespace W
open PySem PySem.Spec PyProof.Rows L2 Cm
mutual
def wt : PyData → Int
  | .tuple ds => wts ds
  | _ => 1
def wts : List PyData → Int
  | [] => 0
  | d :: ds => wt d + wts ds
end
structure DS where
  blocks : List PyData
  pending : List (Int × PyData)
  left : Option Int
  picks : List Bool
  fallen : Bool
def ds0 : DS := ⟨List.replicate 35 .none, [], none, [], false⟩
def pr (p : Int × PyData) : PyData := .tuple [.int p.1, p.2]
def lv : Option Int → V
  | none => .non
  | some i => .int i
structure DS.Ok (S : DS) : Prop where
  len : S.blocks.length = 35
  bl : ∀ d ∈ S.blocks, Di 6 d
  pe : ∀ q ∈ S.pending, 0 ≤ q.1 ∧ q.1 < 35 ∧ Di 6 q.2
def apl (b : List PyData) (q : Int × PyData) : List PyData := b.set q.1.toNat q.2
def DS.stl (S : DS) : DS := { S with blocks := S.pending.foldl apl S.blocks, pending := [] }
def fapl (b : List PyData) (q : (Int × PyData) × Bool) : List PyData := if q.2 = true then apl b q.1 else b
def DS.fal (S : DS) (ps : List Bool) : DS := { S with blocks := (S.pending.zip ps).foldl fapl S.blocks, pending := [], fallen := true }
def DS.cnt (S : DS) : Bool × DS := if S.fallen = true then (false, S) else if S.left = some 0 then (false, S.fal S.picks) else (true, { S with left := S.left.map fun i => i - 1 })
def DS.push (S : DS) (q : Int × PyData) : DS := { S with pending := S.pending ++ [q] }
def DS.rd (S : DS) (i : Int) : PyData := ((((S.pending.filter fun q => decide (q.1 = i)).map (·.2)).getLast?).orElse fun _ => S.blocks[i.toNat]?).getD .none
def DS.arm (S : DS) (i : Int) (ps : List Bool) : DS := { S with left := some (if i > 0 then i else 0), picks := ps }
def DS.again (S : DS) : DS := { S with pending := [], left := none, picks := [], fallen := false }
def dF (b n : Addr) (l : V) (k : Addr) (f : Bool) : List (Str × V) := [("blocks", .ref b), ("pending", .ref n), ("left", l), ("picks", .ref k), ("fallen", .bl f)]
/-- a disk at p, in the state S; F: all its things that change -/
def DiskAt (K : PySem.W.Frag) (H : Hp) (p : Addr) (S : DS) (F : Addr → Prop) : Prop := ∃ (dx b n k : Addr) (bs ns : List V),
  H p = some (.ins (He.ga K "Disk") dx (dF b n (lv S.left) k S.fallen)) ∧ H b = some (.lst bs) ∧ DtA H bs S.blocks ∧ H n = some (.lst ns) ∧ DtA H ns (S.pending.map pr) ∧ H k = some (.lst (S.picks.map V.bl)) ∧
  (b ≠ n ∧ b ≠ k ∧ n ≠ k) ∧ S.Ok ∧ ∀ a, F a ↔ (a = p ∨ a = b ∨ a = n ∨ a = k)
structure Stp (T : List (Addr × Str)) (F F' : Addr → Prop) (H H' : Hp) : Prop where
  kp : Kp T F H H'
  sub : ∀ a, F' a → F a ∨ Nw H a
theorem Stp.refl {T : List (Addr × Str)} {F : Addr → Prop} {H : Hp} : Stp T F F H H := ⟨Kp.refl, fun _ ha => .inl ha⟩
theorem Stp.trans {T : List (Addr × Str)} {F F' F'' : Addr → Prop} {H H' H'' : Hp} (a : Stp T F F' H H') (b : Stp T F' F'' H' H'') : Stp T F F'' H H'' :=
  ⟨a.kp.trans b.kp a.sub, fun x hx => (b.sub x hx).elim (fun z => a.sub x z) fun z => .inr (a.kp.dom x z)⟩
theorem Stp.pre {T : List (Addr × Str)} {F F' : Addr → Prop} {H H' H'' : Hp} (a : Kp T No H H') (b : Stp T F F' H' H'') : Stp T F F' H H'' :=
  ⟨(a.mono fun _ z => z.elim).trans b.kp fun _ z => .inl z, fun x hx => (b.sub x hx).elim .inl fun z => .inr (a.dom x z)⟩
theorem Stp.post {T : List (Addr × Str)} {F F' : Addr → Prop} {H H' H'' : Hp} (a : Stp T F F' H H') (b : Kp T No H' H'') : Stp T F F' H H'' :=
  ⟨a.kp.trans b fun _ z => z.elim, a.sub⟩
theorem di_pr {n : Nat} {q : Int × PyData} (h : Di n q.2) : Di (n + 1) (pr q) := ⟨by show 2 ≤ 100000; decide, fun d hd => by
  rcases List.mem_cons.mp hd with rfl | hd
  · exact Di.int
  · rcases List.mem_cons.mp hd with rfl | hd
    · exact h
    · cases hd⟩
theorem DS.Ok.prs {S : DS} (o : S.Ok) : ∀ d ∈ S.pending.map pr, Di 7 d := fun d hd => by
  obtain ⟨q, hq, rfl⟩ := List.mem_map.mp hd
  exact di_pr (o.pe q hq).2.2
theorem DiskAt.ok {K : PySem.W.Frag} {H : Hp} {p : Addr} {S : DS} {F : Addr → Prop} (h : DiskAt K H p S F) : S.Ok := by
  obtain ⟨_, _, _, _, _, _, _, _, _, _, _, _, _, o, _⟩ := h
  exact o
theorem DiskAt.dom {K : PySem.W.Frag} {H : Hp} {p : Addr} {S : DS} {F : Addr → Prop} (h : DiskAt K H p S F) {a : Addr} (ha : F a) : ¬ Nw H a := by
  obtain ⟨dx, b, n, k, bs, ns, h1, h2, _, h3, _, h4, _, _, f⟩ := h
  rcases (f a).mp ha with rfl | rfl | rfl | rfl
  · exact fun z => nw_no z h1 (fun _ z => nomatch z)
  · exact fun z => nw_no z h2 (fun _ z => nomatch z)
  · exact fun z => nw_no z h3 (fun _ z => nomatch z)
  · exact fun z => nw_no z h4 (fun _ z => nomatch z)
theorem DiskAt.keep {K : PySem.W.Frag} {T : List (Addr × Str)} {G : Addr → Prop} {H H' : Hp} {p : Addr} {S : DS} {F : Addr → Prop} (h : DiskAt K H p S F) (k : Kp T G H H') (d : ∀ a, F a → ¬ G a) : DiskAt K H' p S F := by
  obtain ⟨dx, b, n, kk, bs, ns, h1, h2, d2, h3, d3, h4, ne, o, f⟩ := h
  exact ⟨dx, b, n, kk, bs, ns, k.ins h1 (d p ((f p).mpr (.inl rfl))), k.lst h2 (d b ((f b).mpr (.inr (.inl rfl)))), d2.keep k o.bl, k.lst h3 (d n ((f n).mpr (.inr (.inr (.inl rfl))))), d3.keep k o.prs, k.lst h4 (d kk ((f kk).mpr (.inr (.inr (.inr rfl))))), ne, o, f⟩
theorem set_mem {α : Type} {l : List α} {i : Nat} {x y : α} (h : y ∈ l.set i x) : y = x ∨ y ∈ l := by
  rcases List.mem_or_eq_of_mem_set h with h | h
  · exact .inr h
  · exact .inl h
theorem apl_ok {b : List PyData} {q : Int × PyData} (h : ∀ d ∈ b, Di 6 d) (hq : Di 6 q.2) : ∀ d ∈ apl b q, Di 6 d := fun d hd => by
  rcases set_mem hd with rfl | hd
  · exact hq
  · exact h d hd
theorem apl_len {b : List PyData} {q : Int × PyData} : (apl b q).length = b.length := List.length_set
theorem apls_ok : ∀ {qs : List (Int × PyData)} {b : List PyData}, (∀ d ∈ b, Di 6 d) → (∀ q ∈ qs, Di 6 q.2) → (∀ d ∈ qs.foldl apl b, Di 6 d) ∧ (qs.foldl apl b).length = b.length
  | [], b, h, _ => ⟨h, rfl⟩
  | q :: qs, b, h, hq => by
    have r := apls_ok (qs := qs) (b := apl b q) (apl_ok h (hq q List.mem_cons_self)) fun q' h' => hq q' (List.mem_cons_of_mem _ h')
    exact ⟨r.1, r.2.trans apl_len⟩
theorem fapl_ok {b : List PyData} {q : (Int × PyData) × Bool} (h : ∀ d ∈ b, Di 6 d) (hq : Di 6 q.1.2) : (∀ d ∈ fapl b q, Di 6 d) ∧ (fapl b q).length = b.length := by
  unfold fapl
  split
  · exact ⟨apl_ok h hq, apl_len⟩
  · exact ⟨h, rfl⟩
theorem fapls_ok : ∀ {qs : List ((Int × PyData) × Bool)} {b : List PyData}, (∀ d ∈ b, Di 6 d) → (∀ q ∈ qs, Di 6 q.1.2) → (∀ d ∈ qs.foldl fapl b, Di 6 d) ∧ (qs.foldl fapl b).length = b.length
  | [], b, h, _ => ⟨h, rfl⟩
  | q :: qs, b, h, hq => by
    have f := fapl_ok h (hq q List.mem_cons_self)
    have r := fapls_ok (qs := qs) (b := fapl b q) f.1 fun q' h' => hq q' (List.mem_cons_of_mem _ h')
    exact ⟨r.1, r.2.trans f.2⟩
theorem DS.Ok.stl {S : DS} (o : S.Ok) : S.stl.Ok := by
  have r := apls_ok o.bl fun q hq => (o.pe q hq).2.2
  exact ⟨r.2.trans o.len, r.1, fun q hq => nomatch hq⟩
theorem DS.Ok.fal {S : DS} (o : S.Ok) (ps : List Bool) : (S.fal ps).Ok := by
  have r := fapls_ok (qs := S.pending.zip ps) o.bl fun q hq => (o.pe q.1 (List.of_mem_zip hq).1).2.2
  exact ⟨r.2.trans o.len, r.1, fun q hq => nomatch hq⟩
theorem DS.Ok.cnt {S : DS} (o : S.Ok) : S.cnt.2.Ok := by
  unfold DS.cnt
  split
  · exact o
  · split
    · exact o.fal _
    · exact ⟨o.len, o.bl, o.pe⟩
theorem ok0 : ds0.Ok := ⟨by decide, fun d hd => by rw [List.eq_of_mem_replicate hd]; exact Di.none, fun q hq => nomatch hq⟩
/-- the last slots of a shorter row of picks are not wanted -/
theorem fal_pad : ∀ (qs : List (Int × PyData)) (ps : List Bool) (n : Nat) (b : List PyData), (qs.zip (ps ++ List.replicate n false)).foldl fapl b = (qs.zip ps).foldl fapl b
  | [], ps, n, b => by simp
  | q :: qs, p :: ps, n, b => by
    show (qs.zip (ps ++ List.replicate n false)).foldl fapl (fapl b (q, p)) = (qs.zip ps).foldl fapl (fapl b (q, p))
    exact fal_pad qs ps n _
  | q :: qs, [], 0, b => by simp
  | q :: qs, [], n + 1, b => by
    have r := fal_pad qs [] n b
    show (qs.zip ([] ++ List.replicate n false)).foldl fapl (fapl b (q, false)) = b
    rw [show fapl b (q, false) = b from rfl, r]
    simp
end W

end
section
namespace W
open PySem PySem.Spec PyProof.Rows L2 Cm
theorem dF_g_blocks {b : Addr} {n : Addr} {l : V} {k : Addr} {f : Bool} : List.lookup (("blocks" : Str)) (dF (b) (n) (l) (k) (f)) = some (.ref b) := by kernel_rfl
theorem dF_p_blocks {b : Addr} {n : Addr} {l : V} {k : Addr} {f : Bool} {z : Addr} : putF "blocks" (.ref z) (dF (b) (n) (l) (k) (f)) = (dF (z) (n) (l) (k) (f)) := by kernel_rfl
theorem dF_g_pending {b : Addr} {n : Addr} {l : V} {k : Addr} {f : Bool} : List.lookup (("pending" : Str)) (dF (b) (n) (l) (k) (f)) = some (.ref n) := by kernel_rfl
theorem dF_p_pending {b : Addr} {n : Addr} {l : V} {k : Addr} {f : Bool} {z : Addr} : putF "pending" (.ref z) (dF (b) (n) (l) (k) (f)) = (dF (b) (z) (l) (k) (f)) := by kernel_rfl
theorem dF_g_left {b : Addr} {n : Addr} {l : V} {k : Addr} {f : Bool} : List.lookup (("left" : Str)) (dF (b) (n) (l) (k) (f)) = some l := by kernel_rfl
theorem dF_p_left {b : Addr} {n : Addr} {l : V} {k : Addr} {f : Bool} {z : V} : putF "left" z (dF (b) (n) (l) (k) (f)) = (dF (b) (n) (z) (k) (f)) := by kernel_rfl
theorem dF_g_picks {b : Addr} {n : Addr} {l : V} {k : Addr} {f : Bool} : List.lookup (("picks" : Str)) (dF (b) (n) (l) (k) (f)) = some (.ref k) := by kernel_rfl
theorem dF_p_picks {b : Addr} {n : Addr} {l : V} {k : Addr} {f : Bool} {z : Addr} : putF "picks" (.ref z) (dF (b) (n) (l) (k) (f)) = (dF (b) (n) (l) (z) (f)) := by kernel_rfl
theorem dF_g_fallen {b : Addr} {n : Addr} {l : V} {k : Addr} {f : Bool} : List.lookup (("fallen" : Str)) (dF (b) (n) (l) (k) (f)) = some (.bl f) := by kernel_rfl
theorem dF_p_fallen {b : Addr} {n : Addr} {l : V} {k : Addr} {f : Bool} {z : Bool} : putF "fallen" (.bl z) (dF (b) (n) (l) (k) (f)) = (dF (b) (n) (l) (k) (z)) := by kernel_rfl
theorem dF_n_need_block {b : Addr} {n : Addr} {l : V} {k : Addr} {f : Bool} : List.lookup (("need_block" : Str)) (dF (b) (n) (l) (k) (f)) = none := by kernel_rfl
theorem dF_n_count {b : Addr} {n : Addr} {l : V} {k : Addr} {f : Bool} : List.lookup (("count" : Str)) (dF (b) (n) (l) (k) (f)) = none := by kernel_rfl
theorem dF_n_write {b : Addr} {n : Addr} {l : V} {k : Addr} {f : Bool} : List.lookup (("write" : Str)) (dF (b) (n) (l) (k) (f)) = none := by kernel_rfl
theorem dF_n_settle {b : Addr} {n : Addr} {l : V} {k : Addr} {f : Bool} : List.lookup (("settle" : Str)) (dF (b) (n) (l) (k) (f)) = none := by kernel_rfl
theorem dF_n_read {b : Addr} {n : Addr} {l : V} {k : Addr} {f : Bool} : List.lookup (("read" : Str)) (dF (b) (n) (l) (k) (f)) = none := by kernel_rfl
theorem dF_n_arm {b : Addr} {n : Addr} {l : V} {k : Addr} {f : Bool} : List.lookup (("arm" : Str)) (dF (b) (n) (l) (k) (f)) = none := by kernel_rfl
theorem dF_n_stop {b : Addr} {n : Addr} {l : V} {k : Addr} {f : Bool} : List.lookup (("stop" : Str)) (dF (b) (n) (l) (k) (f)) = none := by kernel_rfl
theorem dF_n_again {b : Addr} {n : Addr} {l : V} {k : Addr} {f : Bool} : List.lookup (("again" : Str)) (dF (b) (n) (l) (k) (f)) = none := by kernel_rfl
theorem dF_n_settled {b : Addr} {n : Addr} {l : V} {k : Addr} {f : Bool} : List.lookup (("settled" : Str)) (dF (b) (n) (l) (k) (f)) = none := by kernel_rfl
theorem dF_len {b : Addr} {n : Addr} {l : V} {k : Addr} {f : Bool} : (dF (b) (n) (l) (k) (f)).length = 5 := rfl
end W

end
section
/-! ### what the disk's defs promise -/
namespace W
open PySem PySem.Spec PyProof.Rows L2 Cm
/-- the tables of the defs that make lambdas -/
def tabs (K : PySem.W.Frag) : List (Addr × Str) := tf.map fun p => ((He.cT K p).2, p.1 ++ ".<locals>.<lambda>")
def S_weight_of (K : PySem.W.Frag) : Nat → Sp
  | 0 => fun _ _ _ _ => False
  | n + 1 => sp1 fun x H Q _ => ∃ d, Dt H x d ∧ Di n d ∧ ∀ H', Kp (tabs K) No H H' → Q (.int (wt d)) H'
def S_Disk_init (K : PySem.W.Frag) : Sp := sp1 fun s H Q _ => ∃ p dx, s = .ref p ∧ H p = some (.ins (He.ga K "Disk") dx []) ∧
  ∀ H' F', DiskAt K H' p ds0 F' → Stp (tabs K) (fun a => a = p) F' H H' → Q .non H'
def S_Disk_need_block (K : PySem.W.Frag) : Sp := sp2 fun _ x H Q E => ∃ i, x = .int i ∧ (0 ≤ i ∧ i < 35 → Q .non H) ∧ (¬ (0 ≤ i ∧ i < 35) → E (.ref (He.ga K "BadBlock")) none H)
def S_Disk_stop (K : PySem.W.Frag) : Sp := sp2 fun s y H Q _ => ∃ p S F l bs, s = .ref p ∧ y = .ref l ∧ DiskAt K H p S F ∧ H l = some (.lst (bs.map V.bl)) ∧
  ∀ H' F', DiskAt K H' p (S.fal bs) F' → Stp (tabs K) F F' H H' → Q .non H'
def S_Disk_count (K : PySem.W.Frag) : Sp := sp1 fun s H Q E => ∃ p S F, s = .ref p ∧ DiskAt K H p S F ∧
  (S.cnt.1 = true → ∀ H' F', DiskAt K H' p S.cnt.2 F' → Stp (tabs K) F F' H H' → Q .non H') ∧
  (S.cnt.1 = false → ∀ H' F', DiskAt K H' p S.cnt.2 F' → Stp (tabs K) F F' H H' → E (.ref (He.ga K "Stopped")) none H')
def S_Disk_write (K : PySem.W.Frag) : Sp := sp3 fun s x v H Q E => ∃ p S F i d, s = .ref p ∧ x = .int i ∧ DiskAt K H p S F ∧ Dt H v d ∧ Di 6 d ∧ S.pending.length ≤ 1000 ∧
  (¬ ((0 ≤ i ∧ i < 35) ∧ wt d ≤ 40) → ∀ H', Kp (tabs K) No H H' → E (.ref (He.ga K "BadBlock")) none H') ∧
  ((0 ≤ i ∧ i < 35) ∧ wt d ≤ 40 → S.cnt.1 = true → ∀ H' F', DiskAt K H' p (S.cnt.2.push (i, d)) F' → Stp (tabs K) F F' H H' → Q .non H') ∧
  ((0 ≤ i ∧ i < 35) ∧ wt d ≤ 40 → S.cnt.1 = false → ∀ H' F', DiskAt K H' p S.cnt.2 F' → Stp (tabs K) F F' H H' → E (.ref (He.ga K "Stopped")) none H')
def S_Disk_settle (K : PySem.W.Frag) : Sp := sp1 fun s H Q E => ∃ p S F, s = .ref p ∧ DiskAt K H p S F ∧
  (S.cnt.1 = true → ∀ H' F', DiskAt K H' p S.cnt.2.stl F' → Stp (tabs K) F F' H H' → Q .non H') ∧
  (S.cnt.1 = false → ∀ H' F', DiskAt K H' p S.cnt.2 F' → Stp (tabs K) F F' H H' → E (.ref (He.ga K "Stopped")) none H')
def S_Disk_read (K : PySem.W.Frag) : Sp := sp2 fun s x H Q E => ∃ p S F i, s = .ref p ∧ x = .int i ∧ DiskAt K H p S F ∧ S.pending.length ≤ 1000 ∧
  (¬ (0 ≤ i ∧ i < 35) → E (.ref (He.ga K "BadBlock")) none H) ∧ (0 ≤ i ∧ i < 35 → S.fallen = true → E (.ref (He.ga K "Stopped")) none H) ∧
  (0 ≤ i ∧ i < 35 → S.fallen = false → ∀ v H', Dt H' v (S.rd i) → Kp (tabs K) No H H' → Q v H')
def S_Disk_arm (K : PySem.W.Frag) : Sp := sp3 fun s x y H Q _ => ∃ p S F i l bs, s = .ref p ∧ x = .int i ∧ y = .ref l ∧ DiskAt K H p S F ∧ H l = some (.lst (bs.map V.bl)) ∧
  ∀ H' F', DiskAt K H' p (S.arm i bs) F' → Stp (tabs K) F F' H H' → Q .non H'
def S_Disk_again (K : PySem.W.Frag) : Sp := sp1 fun s H Q _ => ∃ p S F, s = .ref p ∧ DiskAt K H p S F ∧ ∀ H' F', DiskAt K H' p S.again F' → Stp (tabs K) F F' H H' → Q .non H'
def S_Disk_settled (K : PySem.W.Frag) : Sp := sp1 fun s H Q _ => ∃ p S F, s = .ref p ∧ DiskAt K H p S F ∧ ∀ l bs H', Nw H l → H' l = some (.lst bs) → DtA H' bs S.blocks → Kp (tabs K) No H H' → Q (.ref l) H'
end W

end
section
namespace W
open PySem PySem.Spec PyProof.Rows L2 Cm
/-! weight_of -/
def t_weight_of (K : PySem.W.Frag) (n : Nat) (E : XK) : TS := (tSeq (tIfS (tTr K (tCB (rIsi K) (tCons (tVar 0) (tCons (tC (.ty "tuple")) tNil)))) (tRet (tCB (rSum K) (tCons (tLc (iSeq K (tVar 0)) (gName 1) tYes (tCall (S_weight_of K n) [] E0 (tCons (tVar 1) tNil)) [1]) tNil))) tNext) (tRet (tC (.int 1))))
/-! Disk.need_block -/
def t_Disk_need_block (K : PySem.W.Frag) (E : XK) : TS := (tIfS (tNot (tTest (tChain (rI0 fun i j => .bl (decide (i ≤ j))) (rI0 fun i j => .bl (decide (i < j))) (tC (.int 0)) (tVar 1) (tC (.int 35))))) (tRs E (He.ga K "BadBlock")) tNext)
/-! Disk.stop -/
def t_Disk_stop (K : PySem.W.Frag) (E : XK) : TS := (tSeq (tAsg (tCB (rListA K) (tCons (tVar 1) tNil)) (gName 2)) (tSeq (tFor (iZip K (tCons (tFld K (tVar 0) "pending") (tCons (tVar 2) tNil))) (gTup K 2 (gCons (gTup K 2 (gCons (gName 3) (gCons (gName 4) gNil))) (gCons (gName 5) gNil))) (tIfS (tTr K (tVar 5)) (tAsg (tVar 4) (gSub (tFld K (tVar 0) "blocks") (tVar 3) rSetA)) tNext)) (tSeq (sFld K (tVar 0) (tLst tNil) "pending") (sFld K (tVar 0) (tC (.bl true)) "fallen"))))
/-! Disk.__init__ -/
def t_Disk_init (K : PySem.W.Frag) (E : XK) : TS := (tSeq (sFld K (tVar 0) (tLc (iRng1 (tCons (tC (.int 35)) tNil)) (gName 1) tYes (tC .non) [1]) "blocks") (tSeq (sFld K (tVar 0) (tLst tNil) "pending") (tSeq (sFld K (tVar 0) (tC .non) "left") (tSeq (sFld K (tVar 0) (tLst tNil) "picks") (sFld K (tVar 0) (tC (.bl false)) "fallen")))))
/-! Disk.count -/
def t_Disk_count (K : PySem.W.Frag) (E : XK) : TS := (tSeq (tIfS (tTr K (tFld K (tVar 0) "fallen")) (tRs E (He.ga K "Stopped")) tNext) (tSeq (tIfS (tTest (tOp (rEqA K) (tFld K (tVar 0) "left") (tC (.int 0)))) (tSeq (tDrop (tMeth (He.ga K "Disk") "stop" (S_Disk_stop K) [] E (tVar 0) (tCons (tFld K (tVar 0) "picks") tNil))) (tRs E (He.ga K "Stopped"))) tNext) (tIfS (tTest (tOp rNotNo (tFld K (tVar 0) "left") (tC .non))) (sFldAug K (tVar 0) (tC (.int 1)) rSub "left") tNext)))
/-! Disk.write -/
def t_Disk_write (K : PySem.W.Frag) (E : XK) : TS := (tSeq (tDrop (tMeth (He.ga K "Disk") "need_block" (S_Disk_need_block K) [] E (tVar 0) (tCons (tVar 1) tNil))) (tSeq (tIfS (tTest (tOp (rI0 fun i j => .bl (decide (j < i))) (tCall (S_weight_of K 7) [] E (tCons (tVar 2) tNil)) (tC (.int 40)))) (tRs E (He.ga K "BadBlock")) tNext) (tSeq (tDrop (tMeth (He.ga K "Disk") "count" (S_Disk_count K) [] E (tVar 0) tNil)) (tDrop (tBM K "list" rAppend (tFld K (tVar 0) "pending") (tCons (tTup (tCons (tVar 1) (tCons (tVar 2) tNil))) tNil))))))
/-! Disk.settle -/
def t_Disk_settle (K : PySem.W.Frag) (E : XK) : TS := (tSeq (tDrop (tMeth (He.ga K "Disk") "count" (S_Disk_count K) [] E (tVar 0) tNil)) (tSeq (tFor (iSeq K (tFld K (tVar 0) "pending")) (gTup K 2 (gCons (gName 1) (gCons (gName 2) gNil))) (tAsg (tVar 2) (gSub (tFld K (tVar 0) "blocks") (tVar 1) rSetA))) (sFld K (tVar 0) (tLst tNil) "pending")))
/-! Disk.read -/
def t_Disk_read (K : PySem.W.Frag) (E : XK) : TS := (tSeq (tDrop (tMeth (He.ga K "Disk") "need_block" (S_Disk_need_block K) [] E (tVar 0) (tCons (tVar 1) tNil))) (tSeq (tIfS (tTr K (tFld K (tVar 0) "fallen")) (tRs E (He.ga K "Stopped")) tNext) (tSeq (tAsg (tLc (iSeq K (tFld K (tVar 0) "pending")) (gTup K 2 (gCons (gName 3) (gCons (gName 4) gNil))) (tTest (tOp (rEqA K) (tVar 3) (tVar 1))) (tVar 4) [3, 4]) (gName 2)) (tRet (tIf (tTest (tOp (rNeA K) (tVar 2) (tLst tNil))) (tOp (rIxA K) (tVar 2) (tUn (rU fun i => .int (-i)) (tC (.int 1)))) (tOp (rIxA K) (tFld K (tVar 0) "blocks") (tVar 1)))))))
/-! Disk.arm -/
def t_Disk_arm (K : PySem.W.Frag) (E : XK) : TS := (tSeq (sFld K (tVar 0) (tCB rMax2 (tCons (tC (.int 0)) (tCons (tVar 1) tNil))) "left") (sFld K (tVar 0) (tCB (rListA K) (tCons (tVar 2) tNil)) "picks"))
/-! Disk.again -/
def t_Disk_again (K : PySem.W.Frag) (E : XK) : TS := (tSeq (sFld K (tVar 0) (tLst tNil) "pending") (tSeq (sFld K (tVar 0) (tC .non) "left") (tSeq (sFld K (tVar 0) (tLst tNil) "picks") (sFld K (tVar 0) (tC (.bl false)) "fallen"))))
/-! Disk.settled -/
def t_Disk_settled (K : PySem.W.Frag) (E : XK) : TS := (tRet (tCB (rListA K) (tCons (tFld K (tVar 0) "blocks") tNil)))
end W

end
section
/-! ### M0: words for walking through a reading (local) -/
local macro_rules | `(tactic| walk_at "st") => `(tactic| first
  | (with_reducible refine Cm.s_seq ?_) | (with_reducible refine Cm.s_asg ?_) | (with_reducible refine Cm.s_drop ?_) | (with_reducible refine Cm.s_ret ?_) | (with_reducible refine Cm.s_if ?_) | (with_reducible refine Cm.s_next ?_) | (with_reducible refine Cm.s_retN ?_) | (with_reducible refine Cm.s_rs ?_) | (with_reducible refine Cm.s_fld0 ?_)
  | ((with_reducible refine' Cm.e_var ?hv ?_); (case hv => exact rfl))
  | (with_reducible refine Cm.e_c ?_) | (with_reducible refine Cm.e_op ?_) | (with_reducible refine Cm.e_un ?_) | (with_reducible refine Cm.e_nil ?_) | (with_reducible refine Cm.e_cons ?_) | (with_reducible refine Cm.e_tup ?_) | (with_reducible refine Cm.e_lst ?_) | (with_reducible refine Cm.e_cb ?_) | (with_reducible refine Cm.e_call ?_) | (with_reducible refine Cm.e_if ?_)
  | (with_reducible refine Cm.e_andV ?_) | (with_reducible refine Cm.e_orV ?_) | (with_reducible refine Cm.e_notV ?_) | (with_reducible refine Cm.e_fld0 ?_) | (with_reducible refine Cm.e_meth0 ?_) | (with_reducible refine Cm.e_bm0 ?_) | (with_reducible refine Cm.e_bm ?_) | (with_reducible refine Cm.e_sl ?_) | (with_reducible refine Cm.o_none ?_) | (with_reducible refine Cm.o_some ?_) | (with_reducible refine Cm.e_dnew ?_)
  | (with_reducible refine Cm.e_test ?_) | (with_reducible refine Cm.e_tr ?_) | (with_reducible refine Cm.e_and ?_) | (with_reducible refine Cm.e_or ?_) | (with_reducible refine Cm.e_not ?_) | (with_reducible refine Cm.e_yes ?_) | (with_reducible refine Cm.e_chain ?_)
  | (with_reducible refine Cm.r_i0 ?_) | (with_reducible refine Cm.r_u ?_) | (with_reducible refine Cm.r_isNo ?_) | (with_reducible refine Cm.r_notNo ?_) | (with_reducible refine Cm.r_addI ?_) | (with_reducible refine Cm.r_int1b ?_) | (with_reducible refine Cm.r_max2 ?_)
  | ((with_reducible refine Cm.r_i ?hc ?_); (case hc => walk_at "num"))
  | ((with_reducible refine Cm.r_mulI ?hc ?_); (case hc => walk_at "num"))
  | ((with_reducible refine Cm.r_eqS ?hc ?_); (case hc => exact rfl))
  | ((with_reducible refine Cm.r_neS ?hc ?_); (case hc => exact rfl))
  | ((with_reducible refine' Cm.r_ixl ?h1 ?h2 ?_); (case h1 => walk_at "look"); (case h2 => walk_at "at"))
  | ((with_reducible refine' Cm.r_ixt ?h1 ?h2 ?_); (case h1 => walk_at "look"); (case h2 => walk_at "at"))
  | ((with_reducible refine' Cm.r_ixT ?h1 ?h2 ?_); (case h1 => walk_at "lookT"); (case h2 => walk_at "at"))
  | ((with_reducible refine' Cm.r_ixds ?h1 ?h2 ?_); (case h1 => walk_at "look"); (case h2 => walk_at "key"))
  | ((with_reducible refine' Cm.r_eqe ?h1 ?h2 ?_); (case h1 => walk_at "look"); (case h2 => walk_at "look"))
  | ((with_reducible refine' Cm.r_nee ?h1 ?h2 ?_); (case h1 => walk_at "look"); (case h2 => walk_at "look"))
  | ((with_reducible refine' Cm.r_lenl ?h1 ?_); (case h1 => walk_at "look"))
  | ((with_reducible refine' Cm.r_lent ?h1 ?_); (case h1 => walk_at "look"))
  | ((with_reducible refine' Cm.r_lenT ?h1 ?_); (case h1 => walk_at "lookT"))
  | ((with_reducible refine' Cm.r_listl ?h1 ?_); (case h1 => walk_at "look"); (intro _ _))
  | ((with_reducible refine' Cm.r_tupl ?h1 ?_); (case h1 => walk_at "look"); (intro _ _))
  | ((with_reducible refine' Cm.r_addL ?h1 ?h2 ?h3 ?_); (case h1 => walk_at "look"); (case h2 => walk_at "look"); (case h3 => walk_at "size"); (intro _ _))
  | ((with_reducible refine' Cm.m_append ?h1 ?h2 ?_); (case h1 => walk_at "look"); (case h2 => walk_at "size"))
  | ((with_reducible refine' Cm.m_clear ?h1 ?_); (case h1 => walk_at "look"))
  | ((with_reducible refine' Cm.g_setL ?h1 ?h2 ?_); (case h1 => walk_at "look"); (case h2 => walk_at "ix"))
  | ((with_reducible refine' Cm.g_setDs ?h1 ?h2 ?h3 ?_); (case h1 => walk_at "look"); (case h2 => walk_at "size"); (case h3 => walk_at "put"))
  | ((with_reducible refine' Cm.fld_at ?h1 ?h2 ?h3 ?h4 ?_); (case h1 => walk_at "look"); (case h2 => assumption); (case h3 => assumption); (case h4 => walk_at "key"))
  | ((with_reducible refine' Cm.fldset_at ?h1 ?h2 ?h3 ?h4 ?h5 ?_); (case h1 => walk_at "look"); (case h2 => assumption); (case h3 => assumption); (case h4 => walk_at "size"); (case h5 => walk_at "put"))
  | (with_reducible refine Cm.s_fldaug0 ?_)
  | ((with_reducible refine' Cm.aug_at ?h1 ?h2 ?h3 ?h4 ?_); (case h1 => walk_at "look"); (case h2 => assumption); (case h3 => assumption); (case h4 => walk_at "key"))
  | ((with_reducible refine' Cm.augset_at ?h1 ?h4 ?h5 ?_); (case h1 => walk_at "look"); (case h4 => walk_at "size"); (case h5 => walk_at "put"))
  | (with_reducible refine Cm.in_sub_at ?_) | (with_reducible refine Cm.in_add_at ?_)
  | ((with_reducible refine' Cm.meth_at ?h1 ?h2 ?_); (case h1 => walk_at "look"); (case h2 => walk_at "key"))
  | ((with_reducible refine Cm.new_at ?h1 ?_); (case h1 => walk_at "size"); (intro _ _))
  | ((with_reducible refine Cm.and_at (A := L2.tyV _ _ _ _) ?h1 ?_); (case h1 => exact Cm.ty_lst (by walk_at "look")))
  | ((with_reducible refine' Cm.g_tupt ?h1 ?h2 ?_); (case h1 => walk_at "look"); (case h2 => exact rfl))
  | ((with_reducible refine' Cm.g_tup ?h1 ?h2 ?_); (case h1 => walk_at "lookT"); (case h2 => exact rfl))
  | (with_reducible refine Cm.g_name ?_) | (with_reducible refine Cm.g_sub ?_) | (with_reducible refine Cm.g_cons ?_) | (with_reducible refine Cm.g_nil ?_)
  | (with_reducible refine Cm.int_at ?_) | (with_reducible refine Cm.bl_at ?_) | (with_reducible refine Cm.tr_bl ?_) | (with_reducible refine Cm.tr_non ?_)
  | ((with_reducible refine' Cm.m_pop0 ?h1 ?_); (case h1 => walk_at "look"))
  | ((with_reducible refine' Cm.r_slTo ?h1 ?h2 ?_); (case h1 => walk_at "look"); (case h2 => walk_at "num2"); (intro _ _))
  | ((with_reducible refine' Cm.r_slFrom ?h1 ?h2 ?_); (case h1 => walk_at "look"); (case h2 => walk_at "num2"); (intro _ _))
  | ((with_reducible refine' Cm.at_forL ?h1 ?_); (case h1 => walk_at "look"))
  | ((with_reducible refine' Cm.at_forT ?h1 ?_); (case h1 => walk_at "look"))
  | ((with_reducible refine' Cm.at_forR ?h1 ?h2 ?_); (case h1 => walk_at "num2"); (case h2 => walk_at "num2"))
  | ((with_reducible refine' Cm.at_forZ ?h1 ?h2 ?_); (case h1 => walk_at "look"); (case h2 => walk_at "look"))
  | (with_reducible refine Cm.s_forZ ?_) | (with_reducible refine Cm.s_forR ?_)
  | ((with_reducible refine Cm.and_at (A := _ = _) ?h1 ?_); (case h1 => exact rfl))
  | ((with_reducible show L2.rIsi _ _ _ _); walk_at "isi")
  | (with_reducible refine Cm.ite_nt ?_) | (with_reducible refine Cm.ite_nf ?_)
  | (with_reducible refine L2.iteT ?_) | (with_reducible refine L2.iteF ?_)
  | dsimp only
  | fail)
local macro_rules | `(tactic| walk_at "run") => `(tactic| repeat (walk_at "st"))
local macro_rules | `(tactic| walk_at "num") => `(tactic| first
  | exact Or.inr ⟨by decide, by decide⟩ | exact Or.inl ⟨by decide, by decide⟩
  | exact Cm.wdiv (by first | decide | omega) (by first | decide | omega)
  | (show (0 : Int) < _; first | decide | omega)
  | exact ⟨by decide, by decide, by decide⟩
  | fail)
local macro_rules | `(tactic| walk_at "put") => `(tactic| exact rfl)
local macro_rules | `(tactic| walk_at "fl") => `(tactic| first | exact Cm.fl0 | (refine' Cm.flS ?hz; (case hz => walk_at "fl")) | fail)
local macro_rules | `(tactic| walk_at "size") => `(tactic| first | exact Cm.sz_lit rfl | exact Cm.sz_lt rfl | exact Cm.fs_lt rfl | decide | (refine' Nat.lt_of_le_of_lt ?ha ?hb; (case ha => walk_at "fl"); (case hb => decide)) | (simp only [List.length_cons, List.length_nil, List.length_append, List.length_map, List.length_set, List.length_replicate, PySem.sizeLine_eq]; omega) | (simp only [List.length_cons, List.length_nil, List.length_append, List.length_map, List.length_set, List.length_replicate, PySem.sizeLine_eq] at *; omega) | fail)
local macro_rules | `(tactic| walk_at "at") => `(tactic| first | assumption | (with_reducible exact Cm.at0) | (with_reducible exact Cm.at1) | (with_reducible exact Cm.at2) | (with_reducible exact Cm.at3) | (with_reducible exact Cm.at4) | (with_reducible exact Cm.at5) | (with_reducible exact Cm.at6) | (with_reducible exact Cm.at7) | (with_reducible exact Cm.at8) | (with_reducible exact Cm.at0s) | (with_reducible exact Cm.at1s) | (with_reducible exact Cm.at01s) | (with_reducible exact Cm.at10s) | fail)
local macro_rules | `(tactic| walk_at "ix") => `(tactic| first | exact Cm.ix0 (by walk_at "size") | exact Cm.ix1 (by walk_at "size") | assumption | fail)
local macro_rules | `(tactic| walk_at "key") => `(tactic| first | assumption | fail)
local macro_rules | `(tactic| walk_at "ne") => `(tactic| first
  | assumption
  | (refine Ne.symm ?_; assumption)
  | (refine' L2.ne_of_none ?h1 ?h2; (case h2 => assumption); (case h1 => walk_at "look"))
  | (refine' Ne.symm (L2.ne_of_none ?h1 ?h2); (case h2 => assumption); (case h1 => walk_at "look"))
  | fail)
local macro_rules | `(tactic| walk_at "lookT") => `(tactic| first
  | assumption
  | exact L2.SqT.of (by walk_at "look")
  | fail)
local macro_rules | `(tactic| walk_at "look") => `(tactic| first
  | assumption
  | exact L2.upd_same
  | ((fail_if_success (with_reducible refine Eq.trans L2.upd_same ?_)); (refine' Eq.trans (L2.upd_ne ?h1) ?h2); (case h1 => walk_at "ne"); (case h2 => walk_at "look"))
  | (refine' Cm.kp_look ?h1 ?h2 ?h3 ?h4; (case h1 => assumption); (case h2 => walk_at "look"); (case h3 => intro _ z; cases z); (case h4 => first | exact Or.inl rfl | exact Or.inr (by walk_at "out")))
  | fail)
local macro_rules | `(tactic| walk_at "out") => `(tactic| first
  | assumption
  | exact fun z => z
  | exact fun z => z.elim (fun e => absurd e (by walk_at "ne")) (fun e => absurd e (by walk_at "ne"))
  | exact fun e => absurd e (by walk_at "ne")
  | fail)
local macro_rules | `(tactic| walk_at "dom") => `(tactic| first
  | exact Cm.dm_refl
  | (refine Cm.dm_upd ?_; walk_at "dom")
  | (refine' Cm.dm_kp ?h1 ?h2; (case h2 => assumption); (case h1 => walk_at "dom"))
  | fail)
local macro_rules | `(tactic| walk_at "free") => `(tactic| first
  | assumption
  | exact Cm.nw_of (by assumption)
  | (refine' Cm.dm_use ?h1 ?h2; (case h2 => assumption); (case h1 => walk_at "dom"))
  | (refine' Cm.dm_use2 ?h1 ?h2; (case h2 => assumption); (case h1 => walk_at "dom"))
  | fail)
local macro_rules | `(tactic| walk_at "in") => `(tactic| first
  | exact Or.inl rfl | exact Or.inl (Or.inl rfl) | exact Or.inl (Or.inr rfl) | exact Or.inl (Or.inr (Or.inl rfl)) | exact Or.inl (Or.inr (Or.inr rfl))
  | exact Or.inl (by assumption)
  | exact Or.inr (by walk_at "free")
  | fail)
local macro_rules | `(tactic| walk_at "kp") => `(tactic| first
  | assumption
  | exact Cm.Kp.refl
  | (refine' Cm.Kp.new' ?h1 ?h2; (case h2 => assumption); (case h1 => walk_at "kp"))
  | (refine' Cm.Kp.setL' ?h1 ?h2 ?h3; (case h2 => walk_at "look"); (case h3 => walk_at "in"); (case h1 => walk_at "kp"))
  | (refine' Cm.Kp.setI' ?h1 ?h2 ?h3; (case h2 => walk_at "look"); (case h3 => walk_at "in"); (case h1 => walk_at "kp"))
  | (refine' Cm.Kp.setD' ?h1 ?h2 ?h3; (case h2 => walk_at "look"); (case h3 => walk_at "in"); (case h1 => walk_at "kp"))
  | (refine' Cm.kp_step ?h1 ?h2 ?h3; (case h2 => assumption); (case h3 => walk_at "sub"); (case h1 => walk_at "kp"))
  | fail)
local macro_rules | `(tactic| walk_at "sub") => `(tactic| first
  | exact fun _ z => z.elim
  | exact fun _ z => Or.inl z
  | (intro a z; rcases z with rfl | rfl <;> walk_at "in")
  | (intro a z; subst z; walk_at "in")
  | fail)
local macro_rules | `(tactic| walk_at "num2") => `(tactic| first | decide | omega | fail)

local macro_rules | `(tactic| walk_at "isi") => `(tactic| first | (with_reducible refine Cm.isi_non_bool ?_) | (with_reducible refine Cm.isi_non_int ?_) | (with_reducible refine Cm.isi_non_str ?_) | (with_reducible refine Cm.isi_non_tuple ?_) | (with_reducible refine Cm.isi_non_list ?_) | (with_reducible refine Cm.isi_bl_bool ?_) | (with_reducible refine Cm.isi_bl_int ?_) | (with_reducible refine Cm.isi_bl_str ?_) | (with_reducible refine Cm.isi_bl_tuple ?_) | (with_reducible refine Cm.isi_bl_list ?_) | (with_reducible refine Cm.isi_int_bool ?_) | (with_reducible refine Cm.isi_int_int ?_) | (with_reducible refine Cm.isi_int_str ?_) | (with_reducible refine Cm.isi_int_tuple ?_) | (with_reducible refine Cm.isi_int_list ?_) | (with_reducible refine Cm.isi_str_bool ?_) | (with_reducible refine Cm.isi_str_int ?_) | (with_reducible refine Cm.isi_str_str ?_) | (with_reducible refine Cm.isi_str_tuple ?_) | (with_reducible refine Cm.isi_str_list ?_) | ((with_reducible refine' Cm.isi_tup_bool ?h1 ?_); (case h1 => walk_at "look")) | ((with_reducible refine' Cm.isi_tup_int ?h1 ?_); (case h1 => walk_at "look")) | ((with_reducible refine' Cm.isi_tup_str ?h1 ?_); (case h1 => walk_at "look")) | ((with_reducible refine' Cm.isi_tup_tuple ?h1 ?_); (case h1 => walk_at "look")) | ((with_reducible refine' Cm.isi_tup_list ?h1 ?_); (case h1 => walk_at "look")) | ((with_reducible refine' Cm.isi_lst_bool ?h1 ?_); (case h1 => walk_at "look")) | ((with_reducible refine' Cm.isi_lst_int ?h1 ?_); (case h1 => walk_at "look")) | ((with_reducible refine' Cm.isi_lst_str ?h1 ?_); (case h1 => walk_at "look")) | ((with_reducible refine' Cm.isi_lst_tuple ?h1 ?_); (case h1 => walk_at "look")) | ((with_reducible refine' Cm.isi_lst_list ?h1 ?_); (case h1 => walk_at "look")) | fail)

local macro_rules | `(tactic| walk_at "key") => `(tactic| first | exact W.dF_g_blocks | exact W.dF_g_pending | exact W.dF_g_left | exact W.dF_g_picks | exact W.dF_g_fallen | exact W.dF_n_need_block | exact W.dF_n_count | exact W.dF_n_write | exact W.dF_n_settle | exact W.dF_n_read | exact W.dF_n_arm | exact W.dF_n_stop | exact W.dF_n_again | exact W.dF_n_settled)
local macro_rules | `(tactic| walk_at "put") => `(tactic| first | exact W.dF_p_blocks | exact W.dF_p_pending | exact W.dF_p_left | exact W.dF_p_picks | exact W.dF_p_fallen)
local macro_rules | `(tactic| walk_at "size") => `(tactic| (rw [W.dF_len]; decide))

namespace W
open PySem PySem.Spec PyProof.Rows L2 Cm
theorem pure_Disk_need_block {K : PySem.W.Frag} (vs : List V) (H : Hp) (Q : VK) (E : XK) (h : S_Disk_need_block K vs H Q E) : t_Disk_need_block K E { nx := fun _ H' => Q .non H', rt := Q } (start N_Disk_need_block vs) H := by
  obtain ⟨s, _, rfl, i, rfl, k1, k2⟩ := h
  unfold t_Disk_need_block
  walk_at "run"
  refine if_d (fun h1 => ?_) (fun h1 => ?_)
  · walk_at "run"
    refine if_nd (fun h2 => ?_) (fun h2 => ?_)
    · walk_at "run"
      exact k2 (by omega)
    · walk_at "run"
      exact k1 (by omega)
  · walk_at "run"
    exact k2 (by omega)
theorem wts_take : ∀ {ds : List PyData} {i : Nat} {d : PyData}, ds[i]? = some d → ((ds.take (i + 1)).map wt) = (ds.take i).map wt ++ [wt d]
  | ds, i, d, h => by
    rw [List.take_add_one, h]
    simp
theorem wts_sum : ∀ ds : List PyData, wts ds = (ds.map wt).sum
  | [] => rfl
  | d :: ds => by simp [wts, wts_sum ds]
theorem pure_weight_of {K : PySem.W.Frag} {n : Nat} (vs : List V) (H : Hp) (Q : VK) (E : XK) (h : S_weight_of K (n + 1) vs H Q E) : t_weight_of K n E { nx := fun _ H' => Q .non H', rt := Q } (start N_weight_of vs) H := by
  obtain ⟨v, rfl, d, hv, hd, k⟩ := h
  unfold t_weight_of
  walk_at "run"
  refine r_isi hv (.inr (.inr (.inr (.inl rfl)))) ?_
  walk_at "run"
  refine if_b (fun h1 => ?_) (fun h1 => ?_)
  · cases d with
    | tuple ds =>
      cases n with
      | zero => cases hd
      | succ n =>
      obtain ⟨a, xs, rfl, ha, hA⟩ := hv
      obtain ⟨hz, hd⟩ := hd
      have hlen := hA.length
      walk_at "run"
      refine lcT ?_
      walk_at "run"
      intro Dl hD
      refine coreT (xs := xs) (fun i acc H' => Kp (tabs K) No H H' ∧ acc = ((ds.take i).map wt).map V.int) ⟨Kp.new hD, rfl⟩ (fun i acc H' z => z.1.tup ha) (fun i x acc H' hx hi hl z e => ?_) (fun acc H' hl z e => ?_)
      · obtain ⟨kp, rfl⟩ := z
        obtain ⟨d, hd1, hd2⟩ := hA.get hx
        unfold CStep
        walk_at "run"
        have hdd := hd d (List.mem_of_getElem? hd1)
        refine ⟨_, rfl, d, Dt.keep kp hdd hd2, hdd, fun H2 k2 => ?_⟩
        refine c_put (by walk_at "look") hl (by omega) ⟨by walk_at "kp", ?_⟩
        rw [wts_take hd1, List.map_append]; rfl
      · obtain ⟨kp, rfl⟩ := z
        refine ⟨Dl, (ds.map wt), rfl, ?_, ?_⟩
        · rw [hlen, List.take_length] at e
          exact SqL.of e
        · have q := k H' (by walk_at "kp")
          rw [show wt (.tuple ds) = wts ds from by simp [wt], wts_sum] at q
          exact q
    | _ => cases h1
  · walk_at "run"
    have e : wt d = 1 := by
      cases d <;> first | (simp [isT] at h1; done) | simp [wt]
    rw [← e]
    exact k H Kp.refl
end W

end
section
/-! ### M0: words for walking through a reading (local) -/
local macro_rules | `(tactic| walk_at "st") => `(tactic| first
  | (with_reducible refine Cm.s_seq ?_) | (with_reducible refine Cm.s_asg ?_) | (with_reducible refine Cm.s_drop ?_) | (with_reducible refine Cm.s_ret ?_) | (with_reducible refine Cm.s_if ?_) | (with_reducible refine Cm.s_next ?_) | (with_reducible refine Cm.s_retN ?_) | (with_reducible refine Cm.s_rs ?_) | (with_reducible refine Cm.s_fld0 ?_)
  | ((with_reducible refine' Cm.e_var ?hv ?_); (case hv => exact rfl))
  | (with_reducible refine Cm.e_c ?_) | (with_reducible refine Cm.e_op ?_) | (with_reducible refine Cm.e_un ?_) | (with_reducible refine Cm.e_nil ?_) | (with_reducible refine Cm.e_cons ?_) | (with_reducible refine Cm.e_tup ?_) | (with_reducible refine Cm.e_lst ?_) | (with_reducible refine Cm.e_cb ?_) | (with_reducible refine Cm.e_call ?_) | (with_reducible refine Cm.e_if ?_)
  | (with_reducible refine Cm.e_andV ?_) | (with_reducible refine Cm.e_orV ?_) | (with_reducible refine Cm.e_notV ?_) | (with_reducible refine Cm.e_fld0 ?_) | (with_reducible refine Cm.e_meth0 ?_) | (with_reducible refine Cm.e_bm0 ?_) | (with_reducible refine Cm.e_bm ?_) | (with_reducible refine Cm.e_sl ?_) | (with_reducible refine Cm.o_none ?_) | (with_reducible refine Cm.o_some ?_) | (with_reducible refine Cm.e_dnew ?_)
  | (with_reducible refine Cm.e_test ?_) | (with_reducible refine Cm.e_tr ?_) | (with_reducible refine Cm.e_and ?_) | (with_reducible refine Cm.e_or ?_) | (with_reducible refine Cm.e_not ?_) | (with_reducible refine Cm.e_yes ?_) | (with_reducible refine Cm.e_chain ?_)
  | (with_reducible refine Cm.r_i0 ?_) | (with_reducible refine Cm.r_u ?_) | (with_reducible refine Cm.r_isNo ?_) | (with_reducible refine Cm.r_notNo ?_) | (with_reducible refine Cm.r_addI ?_) | (with_reducible refine Cm.r_int1b ?_) | (with_reducible refine Cm.r_max2 ?_)
  | ((with_reducible refine Cm.r_i ?hc ?_); (case hc => walk_at "num"))
  | ((with_reducible refine Cm.r_mulI ?hc ?_); (case hc => walk_at "num"))
  | ((with_reducible refine Cm.r_eqS ?hc ?_); (case hc => exact rfl))
  | ((with_reducible refine Cm.r_neS ?hc ?_); (case hc => exact rfl))
  | ((with_reducible refine' Cm.r_ixl ?h1 ?h2 ?_); (case h1 => walk_at "look"); (case h2 => walk_at "at"))
  | ((with_reducible refine' Cm.r_ixt ?h1 ?h2 ?_); (case h1 => walk_at "look"); (case h2 => walk_at "at"))
  | ((with_reducible refine' Cm.r_ixT ?h1 ?h2 ?_); (case h1 => walk_at "lookT"); (case h2 => walk_at "at"))
  | ((with_reducible refine' Cm.r_ixds ?h1 ?h2 ?_); (case h1 => walk_at "look"); (case h2 => walk_at "key"))
  | ((with_reducible refine' Cm.r_eqe ?h1 ?h2 ?_); (case h1 => walk_at "look"); (case h2 => walk_at "look"))
  | ((with_reducible refine' Cm.r_nee ?h1 ?h2 ?_); (case h1 => walk_at "look"); (case h2 => walk_at "look"))
  | ((with_reducible refine' Cm.r_lenl ?h1 ?_); (case h1 => walk_at "look"))
  | ((with_reducible refine' Cm.r_lent ?h1 ?_); (case h1 => walk_at "look"))
  | ((with_reducible refine' Cm.r_lenT ?h1 ?_); (case h1 => walk_at "lookT"))
  | ((with_reducible refine' Cm.r_listl ?h1 ?_); (case h1 => walk_at "look"); (intro _ _))
  | ((with_reducible refine' Cm.r_tupl ?h1 ?_); (case h1 => walk_at "look"); (intro _ _))
  | ((with_reducible refine' Cm.r_addL ?h1 ?h2 ?h3 ?_); (case h1 => walk_at "look"); (case h2 => walk_at "look"); (case h3 => walk_at "size"); (intro _ _))
  | ((with_reducible refine' Cm.m_append ?h1 ?h2 ?_); (case h1 => walk_at "look"); (case h2 => walk_at "size"))
  | ((with_reducible refine' Cm.m_clear ?h1 ?_); (case h1 => walk_at "look"))
  | ((with_reducible refine' Cm.g_setL ?h1 ?h2 ?_); (case h1 => walk_at "look"); (case h2 => walk_at "ix"))
  | ((with_reducible refine' Cm.g_setDs ?h1 ?h2 ?h3 ?_); (case h1 => walk_at "look"); (case h2 => walk_at "size"); (case h3 => walk_at "put"))
  | ((with_reducible refine' Cm.fld_at ?h1 ?h2 ?h3 ?h4 ?_); (case h1 => walk_at "look"); (case h2 => assumption); (case h3 => assumption); (case h4 => walk_at "key"))
  | ((with_reducible refine' Cm.fldset_at ?h1 ?h2 ?h3 ?h4 ?h5 ?_); (case h1 => walk_at "look"); (case h2 => assumption); (case h3 => assumption); (case h4 => walk_at "size"); (case h5 => walk_at "put"))
  | (with_reducible refine Cm.s_fldaug0 ?_)
  | ((with_reducible refine' Cm.aug_at ?h1 ?h2 ?h3 ?h4 ?_); (case h1 => walk_at "look"); (case h2 => assumption); (case h3 => assumption); (case h4 => walk_at "key"))
  | ((with_reducible refine' Cm.augset_at ?h1 ?h4 ?h5 ?_); (case h1 => walk_at "look"); (case h4 => walk_at "size"); (case h5 => walk_at "put"))
  | (with_reducible refine Cm.in_sub_at ?_) | (with_reducible refine Cm.in_add_at ?_)
  | ((with_reducible refine' Cm.meth_at ?h1 ?h2 ?_); (case h1 => walk_at "look"); (case h2 => walk_at "key"))
  | ((with_reducible refine Cm.new_at ?h1 ?_); (case h1 => walk_at "size"); (intro _ _))
  | ((with_reducible refine Cm.and_at (A := L2.tyV _ _ _ _) ?h1 ?_); (case h1 => exact Cm.ty_lst (by walk_at "look")))
  | ((with_reducible refine' Cm.g_tupt ?h1 ?h2 ?_); (case h1 => walk_at "look"); (case h2 => exact rfl))
  | ((with_reducible refine' Cm.g_tup ?h1 ?h2 ?_); (case h1 => walk_at "lookT"); (case h2 => exact rfl))
  | (with_reducible refine Cm.g_name ?_) | (with_reducible refine Cm.g_sub ?_) | (with_reducible refine Cm.g_cons ?_) | (with_reducible refine Cm.g_nil ?_)
  | (with_reducible refine Cm.int_at ?_) | (with_reducible refine Cm.bl_at ?_) | (with_reducible refine Cm.tr_bl ?_) | (with_reducible refine Cm.tr_non ?_)
  | ((with_reducible refine' Cm.m_pop0 ?h1 ?_); (case h1 => walk_at "look"))
  | ((with_reducible refine' Cm.r_slTo ?h1 ?h2 ?_); (case h1 => walk_at "look"); (case h2 => walk_at "num2"); (intro _ _))
  | ((with_reducible refine' Cm.r_slFrom ?h1 ?h2 ?_); (case h1 => walk_at "look"); (case h2 => walk_at "num2"); (intro _ _))
  | ((with_reducible refine' Cm.at_forL ?h1 ?_); (case h1 => walk_at "look"))
  | ((with_reducible refine' Cm.at_forT ?h1 ?_); (case h1 => walk_at "look"))
  | ((with_reducible refine' Cm.at_forR ?h1 ?h2 ?_); (case h1 => walk_at "num2"); (case h2 => walk_at "num2"))
  | ((with_reducible refine' Cm.at_forZ ?h1 ?h2 ?_); (case h1 => walk_at "look"); (case h2 => walk_at "look"))
  | (with_reducible refine Cm.s_forZ ?_) | (with_reducible refine Cm.s_forR ?_)
  | ((with_reducible refine Cm.and_at (A := _ = _) ?h1 ?_); (case h1 => exact rfl))
  | ((with_reducible show L2.rIsi _ _ _ _); walk_at "isi")
  | (with_reducible refine Cm.ite_nt ?_) | (with_reducible refine Cm.ite_nf ?_)
  | (with_reducible refine L2.iteT ?_) | (with_reducible refine L2.iteF ?_)
  | dsimp only
  | fail)
local macro_rules | `(tactic| walk_at "run") => `(tactic| repeat (walk_at "st"))
local macro_rules | `(tactic| walk_at "num") => `(tactic| first
  | exact Or.inr ⟨by decide, by decide⟩ | exact Or.inl ⟨by decide, by decide⟩
  | exact Cm.wdiv (by first | decide | omega) (by first | decide | omega)
  | (show (0 : Int) < _; first | decide | omega)
  | exact ⟨by decide, by decide, by decide⟩
  | fail)
local macro_rules | `(tactic| walk_at "put") => `(tactic| exact rfl)
local macro_rules | `(tactic| walk_at "fl") => `(tactic| first | exact Cm.fl0 | (refine' Cm.flS ?hz; (case hz => walk_at "fl")) | fail)
local macro_rules | `(tactic| walk_at "size") => `(tactic| first | exact Cm.sz_lit rfl | exact Cm.sz_lt rfl | exact Cm.fs_lt rfl | decide | (refine' Nat.lt_of_le_of_lt ?ha ?hb; (case ha => walk_at "fl"); (case hb => decide)) | (simp only [List.length_cons, List.length_nil, List.length_append, List.length_map, List.length_set, List.length_replicate, PySem.sizeLine_eq]; omega) | (simp only [List.length_cons, List.length_nil, List.length_append, List.length_map, List.length_set, List.length_replicate, PySem.sizeLine_eq] at *; omega) | fail)
local macro_rules | `(tactic| walk_at "at") => `(tactic| first | assumption | (with_reducible exact Cm.at0) | (with_reducible exact Cm.at1) | (with_reducible exact Cm.at2) | (with_reducible exact Cm.at3) | (with_reducible exact Cm.at4) | (with_reducible exact Cm.at5) | (with_reducible exact Cm.at6) | (with_reducible exact Cm.at7) | (with_reducible exact Cm.at8) | (with_reducible exact Cm.at0s) | (with_reducible exact Cm.at1s) | (with_reducible exact Cm.at01s) | (with_reducible exact Cm.at10s) | fail)
local macro_rules | `(tactic| walk_at "ix") => `(tactic| first | exact Cm.ix0 (by walk_at "size") | exact Cm.ix1 (by walk_at "size") | assumption | fail)
local macro_rules | `(tactic| walk_at "key") => `(tactic| first | assumption | fail)
local macro_rules | `(tactic| walk_at "ne") => `(tactic| first
  | assumption
  | (refine Ne.symm ?_; assumption)
  | (refine' L2.ne_of_none ?h1 ?h2; (case h2 => assumption); (case h1 => walk_at "look"))
  | (refine' Ne.symm (L2.ne_of_none ?h1 ?h2); (case h2 => assumption); (case h1 => walk_at "look"))
  | fail)
local macro_rules | `(tactic| walk_at "lookT") => `(tactic| first
  | assumption
  | exact L2.SqT.of (by walk_at "look")
  | fail)
local macro_rules | `(tactic| walk_at "look") => `(tactic| first
  | assumption
  | exact L2.upd_same
  | ((fail_if_success (with_reducible refine Eq.trans L2.upd_same ?_)); (refine' Eq.trans (L2.upd_ne ?h1) ?h2); (case h1 => walk_at "ne"); (case h2 => walk_at "look"))
  | (refine' Cm.kp_look ?h1 ?h2 ?h3 ?h4; (case h1 => assumption); (case h2 => walk_at "look"); (case h3 => intro _ z; cases z); (case h4 => first | exact Or.inl rfl | exact Or.inr (by walk_at "out")))
  | fail)
local macro_rules | `(tactic| walk_at "out") => `(tactic| first
  | assumption
  | exact fun z => z
  | exact fun z => z.elim (fun e => absurd e (by walk_at "ne")) (fun e => absurd e (by walk_at "ne"))
  | exact fun e => absurd e (by walk_at "ne")
  | fail)
local macro_rules | `(tactic| walk_at "dom") => `(tactic| first
  | exact Cm.dm_refl
  | (refine Cm.dm_upd ?_; walk_at "dom")
  | (refine' Cm.dm_kp ?h1 ?h2; (case h2 => assumption); (case h1 => walk_at "dom"))
  | fail)
local macro_rules | `(tactic| walk_at "free") => `(tactic| first
  | assumption
  | exact Cm.nw_of (by assumption)
  | (refine' Cm.dm_use ?h1 ?h2; (case h2 => assumption); (case h1 => walk_at "dom"))
  | (refine' Cm.dm_use2 ?h1 ?h2; (case h2 => assumption); (case h1 => walk_at "dom"))
  | fail)
local macro_rules | `(tactic| walk_at "in") => `(tactic| first
  | exact Or.inl rfl | exact Or.inl (Or.inl rfl) | exact Or.inl (Or.inr rfl) | exact Or.inl (Or.inr (Or.inl rfl)) | exact Or.inl (Or.inr (Or.inr rfl))
  | exact Or.inl (by assumption)
  | exact Or.inr (by walk_at "free")
  | fail)
local macro_rules | `(tactic| walk_at "kp") => `(tactic| first
  | assumption
  | exact Cm.Kp.refl
  | (refine' Cm.Kp.new' ?h1 ?h2; (case h2 => assumption); (case h1 => walk_at "kp"))
  | (refine' Cm.Kp.setL' ?h1 ?h2 ?h3; (case h2 => walk_at "look"); (case h3 => walk_at "in"); (case h1 => walk_at "kp"))
  | (refine' Cm.Kp.setI' ?h1 ?h2 ?h3; (case h2 => walk_at "look"); (case h3 => walk_at "in"); (case h1 => walk_at "kp"))
  | (refine' Cm.Kp.setD' ?h1 ?h2 ?h3; (case h2 => walk_at "look"); (case h3 => walk_at "in"); (case h1 => walk_at "kp"))
  | (refine' Cm.kp_step ?h1 ?h2 ?h3; (case h2 => assumption); (case h3 => walk_at "sub"); (case h1 => walk_at "kp"))
  | fail)
local macro_rules | `(tactic| walk_at "sub") => `(tactic| first
  | exact fun _ z => z.elim
  | exact fun _ z => Or.inl z
  | (intro a z; rcases z with rfl | rfl <;> walk_at "in")
  | (intro a z; subst z; walk_at "in")
  | fail)
local macro_rules | `(tactic| walk_at "num2") => `(tactic| first | decide | omega | fail)

local macro_rules | `(tactic| walk_at "isi") => `(tactic| first | (with_reducible refine Cm.isi_non_bool ?_) | (with_reducible refine Cm.isi_non_int ?_) | (with_reducible refine Cm.isi_non_str ?_) | (with_reducible refine Cm.isi_non_tuple ?_) | (with_reducible refine Cm.isi_non_list ?_) | (with_reducible refine Cm.isi_bl_bool ?_) | (with_reducible refine Cm.isi_bl_int ?_) | (with_reducible refine Cm.isi_bl_str ?_) | (with_reducible refine Cm.isi_bl_tuple ?_) | (with_reducible refine Cm.isi_bl_list ?_) | (with_reducible refine Cm.isi_int_bool ?_) | (with_reducible refine Cm.isi_int_int ?_) | (with_reducible refine Cm.isi_int_str ?_) | (with_reducible refine Cm.isi_int_tuple ?_) | (with_reducible refine Cm.isi_int_list ?_) | (with_reducible refine Cm.isi_str_bool ?_) | (with_reducible refine Cm.isi_str_int ?_) | (with_reducible refine Cm.isi_str_str ?_) | (with_reducible refine Cm.isi_str_tuple ?_) | (with_reducible refine Cm.isi_str_list ?_) | ((with_reducible refine' Cm.isi_tup_bool ?h1 ?_); (case h1 => walk_at "look")) | ((with_reducible refine' Cm.isi_tup_int ?h1 ?_); (case h1 => walk_at "look")) | ((with_reducible refine' Cm.isi_tup_str ?h1 ?_); (case h1 => walk_at "look")) | ((with_reducible refine' Cm.isi_tup_tuple ?h1 ?_); (case h1 => walk_at "look")) | ((with_reducible refine' Cm.isi_tup_list ?h1 ?_); (case h1 => walk_at "look")) | ((with_reducible refine' Cm.isi_lst_bool ?h1 ?_); (case h1 => walk_at "look")) | ((with_reducible refine' Cm.isi_lst_int ?h1 ?_); (case h1 => walk_at "look")) | ((with_reducible refine' Cm.isi_lst_str ?h1 ?_); (case h1 => walk_at "look")) | ((with_reducible refine' Cm.isi_lst_tuple ?h1 ?_); (case h1 => walk_at "look")) | ((with_reducible refine' Cm.isi_lst_list ?h1 ?_); (case h1 => walk_at "look")) | fail)

local macro_rules | `(tactic| walk_at "key") => `(tactic| first | exact W.dF_g_blocks | exact W.dF_g_pending | exact W.dF_g_left | exact W.dF_g_picks | exact W.dF_g_fallen | exact W.dF_n_need_block | exact W.dF_n_count | exact W.dF_n_write | exact W.dF_n_settle | exact W.dF_n_read | exact W.dF_n_arm | exact W.dF_n_stop | exact W.dF_n_again | exact W.dF_n_settled)
local macro_rules | `(tactic| walk_at "put") => `(tactic| first | exact W.dF_p_blocks | exact W.dF_p_pending | exact W.dF_p_left | exact W.dF_p_picks | exact W.dF_p_fallen)
local macro_rules | `(tactic| walk_at "size") => `(tactic| (rw [W.dF_len]; decide))

namespace W
open PySem PySem.Spec PyProof.Rows L2 Cm
section
variable {w : World} {K : PySem.W.Frag} {mg : Str → Option Value}
theorem dF_init {b n : Addr} {l : V} {k : Addr} {f : Bool} : putF "fallen" (.bl f) (putF "picks" (.ref k) (putF "left" l (putF "pending" (.ref n) (putF "blocks" (.ref b) [])))) = dF b n l k f := by kernel_rfl
theorem dta_nones {H : Hp} : ∀ n : Nat, DtA H (List.replicate n V.non) (List.replicate n PyData.none)
  | 0 => rfl
  | n + 1 => ⟨.non, List.replicate n V.non, rfl, rfl, dta_nones n⟩
theorem pure_Disk_init (T : Tx w K mg) (vs : List V) (H : Hp) (Q : VK) (E : XK) (h : S_Disk_init K vs H Q E) : t_Disk_init K E { nx := fun _ H' => Q .non H', rt := Q } (start N_Disk_init vs) H := by
  obtain ⟨_, rfl, p, dx, rfl, hp, k⟩ := h
  have c := T.c_Disk
  have a1 := T.a_Disk_blocks
  have a2 := T.a_Disk_pending
  have a3 := T.a_Disk_left
  have a4 := T.a_Disk_picks
  have a5 := T.a_Disk_fallen
  unfold t_Disk_init
  walk_at "run"
  refine lcR ?_
  walk_at "run"
  intro Dl hD
  have npD : p ≠ Dl := ne_of_none hp hD
  refine coreR (fun i acc H' => Kp (tabs K) No H H' ∧ acc = List.replicate i .non) ⟨Kp.new hD, rfl⟩ (fun i acc H' hi hl z e => ?_) (fun acc H' hl z e => ?_)
  · obtain ⟨kp, rfl⟩ := z
    unfold CStep
    walk_at "run"
    refine c_put e hl (by omega) ⟨by walk_at "kp", ?_⟩
    rw [List.replicate_succ']
  · obtain ⟨kp, rfl⟩ := z
    have hp' := kp.ins hp (fun z => z)
    walk_at "run"
    rename_i n hn m hm
    rw [dF_init]
    have e1 : p ≠ n := by walk_at "ne"
    have e2 : p ≠ m := by walk_at "ne"
    have e3 : Dl ≠ n := by walk_at "ne"
    have e4 : Dl ≠ m := by walk_at "ne"
    have e5 : n ≠ m := by walk_at "ne"
    refine k _ (fun a => a = p ∨ a = Dl ∨ a = n ∨ a = m) ⟨dx, Dl, n, m, List.replicate 35 .non, [], by walk_at "look", by walk_at "look", dta_nones 35, by walk_at "look", rfl, by walk_at "look", ⟨e3, e4, e5⟩, ok0, fun a => Iff.rfl⟩ ⟨by walk_at "kp", fun a ha => ?_⟩
    rcases ha with rfl | rfl | rfl | rfl
    · exact .inl rfl
    · exact .inr (.inl hD)
    · exact .inr (by walk_at "free")
    · exact .inr (by walk_at "free")
end
end W

end
section
/-! ### M0: words for walking through a reading (local) -/
local macro_rules | `(tactic| walk_at "st") => `(tactic| first
  | (with_reducible refine Cm.s_seq ?_) | (with_reducible refine Cm.s_asg ?_) | (with_reducible refine Cm.s_drop ?_) | (with_reducible refine Cm.s_ret ?_) | (with_reducible refine Cm.s_if ?_) | (with_reducible refine Cm.s_next ?_) | (with_reducible refine Cm.s_retN ?_) | (with_reducible refine Cm.s_rs ?_) | (with_reducible refine Cm.s_fld0 ?_)
  | ((with_reducible refine' Cm.e_var ?hv ?_); (case hv => exact rfl))
  | (with_reducible refine Cm.e_c ?_) | (with_reducible refine Cm.e_op ?_) | (with_reducible refine Cm.e_un ?_) | (with_reducible refine Cm.e_nil ?_) | (with_reducible refine Cm.e_cons ?_) | (with_reducible refine Cm.e_tup ?_) | (with_reducible refine Cm.e_lst ?_) | (with_reducible refine Cm.e_cb ?_) | (with_reducible refine Cm.e_call ?_) | (with_reducible refine Cm.e_if ?_)
  | (with_reducible refine Cm.e_andV ?_) | (with_reducible refine Cm.e_orV ?_) | (with_reducible refine Cm.e_notV ?_) | (with_reducible refine Cm.e_fld0 ?_) | (with_reducible refine Cm.e_meth0 ?_) | (with_reducible refine Cm.e_bm0 ?_) | (with_reducible refine Cm.e_bm ?_) | (with_reducible refine Cm.e_sl ?_) | (with_reducible refine Cm.o_none ?_) | (with_reducible refine Cm.o_some ?_) | (with_reducible refine Cm.e_dnew ?_)
  | (with_reducible refine Cm.e_test ?_) | (with_reducible refine Cm.e_tr ?_) | (with_reducible refine Cm.e_and ?_) | (with_reducible refine Cm.e_or ?_) | (with_reducible refine Cm.e_not ?_) | (with_reducible refine Cm.e_yes ?_) | (with_reducible refine Cm.e_chain ?_)
  | (with_reducible refine Cm.r_i0 ?_) | (with_reducible refine Cm.r_u ?_) | (with_reducible refine Cm.r_isNo ?_) | (with_reducible refine Cm.r_notNo ?_) | (with_reducible refine Cm.r_addI ?_) | (with_reducible refine Cm.r_int1b ?_) | (with_reducible refine Cm.r_max2 ?_)
  | ((with_reducible refine Cm.r_i ?hc ?_); (case hc => walk_at "num"))
  | ((with_reducible refine Cm.r_mulI ?hc ?_); (case hc => walk_at "num"))
  | ((with_reducible refine Cm.r_eqS ?hc ?_); (case hc => exact rfl))
  | ((with_reducible refine Cm.r_neS ?hc ?_); (case hc => exact rfl))
  | ((with_reducible refine' Cm.r_ixl ?h1 ?h2 ?_); (case h1 => walk_at "look"); (case h2 => walk_at "at"))
  | ((with_reducible refine' Cm.r_ixt ?h1 ?h2 ?_); (case h1 => walk_at "look"); (case h2 => walk_at "at"))
  | ((with_reducible refine' Cm.r_ixT ?h1 ?h2 ?_); (case h1 => walk_at "lookT"); (case h2 => walk_at "at"))
  | ((with_reducible refine' Cm.r_ixds ?h1 ?h2 ?_); (case h1 => walk_at "look"); (case h2 => walk_at "key"))
  | ((with_reducible refine' Cm.r_eqe ?h1 ?h2 ?_); (case h1 => walk_at "look"); (case h2 => walk_at "look"))
  | ((with_reducible refine' Cm.r_nee ?h1 ?h2 ?_); (case h1 => walk_at "look"); (case h2 => walk_at "look"))
  | ((with_reducible refine' Cm.r_lenl ?h1 ?_); (case h1 => walk_at "look"))
  | ((with_reducible refine' Cm.r_lent ?h1 ?_); (case h1 => walk_at "look"))
  | ((with_reducible refine' Cm.r_lenT ?h1 ?_); (case h1 => walk_at "lookT"))
  | ((with_reducible refine' Cm.r_listl ?h1 ?_); (case h1 => walk_at "look"); (intro _ _))
  | ((with_reducible refine' Cm.r_tupl ?h1 ?_); (case h1 => walk_at "look"); (intro _ _))
  | ((with_reducible refine' Cm.r_addL ?h1 ?h2 ?h3 ?_); (case h1 => walk_at "look"); (case h2 => walk_at "look"); (case h3 => walk_at "size"); (intro _ _))
  | ((with_reducible refine' Cm.m_append ?h1 ?h2 ?_); (case h1 => walk_at "look"); (case h2 => walk_at "size"))
  | ((with_reducible refine' Cm.m_clear ?h1 ?_); (case h1 => walk_at "look"))
  | ((with_reducible refine' Cm.g_setL ?h1 ?h2 ?_); (case h1 => walk_at "look"); (case h2 => walk_at "ix"))
  | ((with_reducible refine' Cm.g_setDs ?h1 ?h2 ?h3 ?_); (case h1 => walk_at "look"); (case h2 => walk_at "size"); (case h3 => walk_at "put"))
  | ((with_reducible refine' Cm.fld_at ?h1 ?h2 ?h3 ?h4 ?_); (case h1 => walk_at "look"); (case h2 => assumption); (case h3 => assumption); (case h4 => walk_at "key"))
  | ((with_reducible refine' Cm.fldset_at ?h1 ?h2 ?h3 ?h4 ?h5 ?_); (case h1 => walk_at "look"); (case h2 => assumption); (case h3 => assumption); (case h4 => walk_at "size"); (case h5 => walk_at "put"))
  | (with_reducible refine Cm.s_fldaug0 ?_)
  | ((with_reducible refine' Cm.aug_at ?h1 ?h2 ?h3 ?h4 ?_); (case h1 => walk_at "look"); (case h2 => assumption); (case h3 => assumption); (case h4 => walk_at "key"))
  | ((with_reducible refine' Cm.augset_at ?h1 ?h4 ?h5 ?_); (case h1 => walk_at "look"); (case h4 => walk_at "size"); (case h5 => walk_at "put"))
  | (with_reducible refine Cm.in_sub_at ?_) | (with_reducible refine Cm.in_add_at ?_)
  | ((with_reducible refine' Cm.meth_at ?h1 ?h2 ?_); (case h1 => walk_at "look"); (case h2 => walk_at "key"))
  | ((with_reducible refine Cm.new_at ?h1 ?_); (case h1 => walk_at "size"); (intro _ _))
  | ((with_reducible refine Cm.and_at (A := L2.tyV _ _ _ _) ?h1 ?_); (case h1 => exact Cm.ty_lst (by walk_at "look")))
  | ((with_reducible refine' Cm.g_tupt ?h1 ?h2 ?_); (case h1 => walk_at "look"); (case h2 => exact rfl))
  | ((with_reducible refine' Cm.g_tup ?h1 ?h2 ?_); (case h1 => walk_at "lookT"); (case h2 => exact rfl))
  | (with_reducible refine Cm.g_name ?_) | (with_reducible refine Cm.g_sub ?_) | (with_reducible refine Cm.g_cons ?_) | (with_reducible refine Cm.g_nil ?_)
  | (with_reducible refine Cm.int_at ?_) | (with_reducible refine Cm.bl_at ?_) | (with_reducible refine Cm.tr_bl ?_) | (with_reducible refine Cm.tr_non ?_)
  | ((with_reducible refine' Cm.m_pop0 ?h1 ?_); (case h1 => walk_at "look"))
  | ((with_reducible refine' Cm.r_slTo ?h1 ?h2 ?_); (case h1 => walk_at "look"); (case h2 => walk_at "num2"); (intro _ _))
  | ((with_reducible refine' Cm.r_slFrom ?h1 ?h2 ?_); (case h1 => walk_at "look"); (case h2 => walk_at "num2"); (intro _ _))
  | ((with_reducible refine' Cm.at_forL ?h1 ?_); (case h1 => walk_at "look"))
  | ((with_reducible refine' Cm.at_forT ?h1 ?_); (case h1 => walk_at "look"))
  | ((with_reducible refine' Cm.at_forR ?h1 ?h2 ?_); (case h1 => walk_at "num2"); (case h2 => walk_at "num2"))
  | ((with_reducible refine' Cm.at_forZ ?h1 ?h2 ?_); (case h1 => walk_at "look"); (case h2 => walk_at "look"))
  | (with_reducible refine Cm.s_forZ ?_) | (with_reducible refine Cm.s_forR ?_)
  | ((with_reducible refine Cm.and_at (A := _ = _) ?h1 ?_); (case h1 => exact rfl))
  | ((with_reducible show L2.rIsi _ _ _ _); walk_at "isi")
  | (with_reducible refine Cm.ite_nt ?_) | (with_reducible refine Cm.ite_nf ?_)
  | (with_reducible refine L2.iteT ?_) | (with_reducible refine L2.iteF ?_)
  | dsimp only
  | fail)
local macro_rules | `(tactic| walk_at "run") => `(tactic| repeat (walk_at "st"))
local macro_rules | `(tactic| walk_at "num") => `(tactic| first
  | exact Or.inr ⟨by decide, by decide⟩ | exact Or.inl ⟨by decide, by decide⟩
  | exact Cm.wdiv (by first | decide | omega) (by first | decide | omega)
  | (show (0 : Int) < _; first | decide | omega)
  | exact ⟨by decide, by decide, by decide⟩
  | fail)
local macro_rules | `(tactic| walk_at "put") => `(tactic| exact rfl)
local macro_rules | `(tactic| walk_at "fl") => `(tactic| first | exact Cm.fl0 | (refine' Cm.flS ?hz; (case hz => walk_at "fl")) | fail)
local macro_rules | `(tactic| walk_at "size") => `(tactic| first | exact Cm.sz_lit rfl | exact Cm.sz_lt rfl | exact Cm.fs_lt rfl | decide | (refine' Nat.lt_of_le_of_lt ?ha ?hb; (case ha => walk_at "fl"); (case hb => decide)) | (simp only [List.length_cons, List.length_nil, List.length_append, List.length_map, List.length_set, List.length_replicate, PySem.sizeLine_eq]; omega) | (simp only [List.length_cons, List.length_nil, List.length_append, List.length_map, List.length_set, List.length_replicate, PySem.sizeLine_eq] at *; omega) | fail)
local macro_rules | `(tactic| walk_at "at") => `(tactic| first | assumption | (with_reducible exact Cm.at0) | (with_reducible exact Cm.at1) | (with_reducible exact Cm.at2) | (with_reducible exact Cm.at3) | (with_reducible exact Cm.at4) | (with_reducible exact Cm.at5) | (with_reducible exact Cm.at6) | (with_reducible exact Cm.at7) | (with_reducible exact Cm.at8) | (with_reducible exact Cm.at0s) | (with_reducible exact Cm.at1s) | (with_reducible exact Cm.at01s) | (with_reducible exact Cm.at10s) | fail)
local macro_rules | `(tactic| walk_at "ix") => `(tactic| first | exact Cm.ix0 (by walk_at "size") | exact Cm.ix1 (by walk_at "size") | assumption | fail)
local macro_rules | `(tactic| walk_at "key") => `(tactic| first | assumption | fail)
local macro_rules | `(tactic| walk_at "ne") => `(tactic| first
  | assumption
  | (refine Ne.symm ?_; assumption)
  | (refine' L2.ne_of_none ?h1 ?h2; (case h2 => assumption); (case h1 => walk_at "look"))
  | (refine' Ne.symm (L2.ne_of_none ?h1 ?h2); (case h2 => assumption); (case h1 => walk_at "look"))
  | fail)
local macro_rules | `(tactic| walk_at "lookT") => `(tactic| first
  | assumption
  | exact L2.SqT.of (by walk_at "look")
  | fail)
local macro_rules | `(tactic| walk_at "look") => `(tactic| first
  | assumption
  | exact L2.upd_same
  | ((fail_if_success (with_reducible refine Eq.trans L2.upd_same ?_)); (refine' Eq.trans (L2.upd_ne ?h1) ?h2); (case h1 => walk_at "ne"); (case h2 => walk_at "look"))
  | (refine' Cm.kp_look ?h1 ?h2 ?h3 ?h4; (case h1 => assumption); (case h2 => walk_at "look"); (case h3 => intro _ z; cases z); (case h4 => first | exact Or.inl rfl | exact Or.inr (by walk_at "out")))
  | fail)
local macro_rules | `(tactic| walk_at "out") => `(tactic| first
  | assumption
  | exact fun z => z
  | exact fun z => z.elim (fun e => absurd e (by walk_at "ne")) (fun e => absurd e (by walk_at "ne"))
  | exact fun e => absurd e (by walk_at "ne")
  | fail)
local macro_rules | `(tactic| walk_at "dom") => `(tactic| first
  | exact Cm.dm_refl
  | (refine Cm.dm_upd ?_; walk_at "dom")
  | (refine' Cm.dm_kp ?h1 ?h2; (case h2 => assumption); (case h1 => walk_at "dom"))
  | fail)
local macro_rules | `(tactic| walk_at "free") => `(tactic| first
  | assumption
  | exact Cm.nw_of (by assumption)
  | (refine' Cm.dm_use ?h1 ?h2; (case h2 => assumption); (case h1 => walk_at "dom"))
  | (refine' Cm.dm_use2 ?h1 ?h2; (case h2 => assumption); (case h1 => walk_at "dom"))
  | fail)
local macro_rules | `(tactic| walk_at "in") => `(tactic| first
  | exact Or.inl rfl | exact Or.inl (Or.inl rfl) | exact Or.inl (Or.inr rfl) | exact Or.inl (Or.inr (Or.inl rfl)) | exact Or.inl (Or.inr (Or.inr rfl))
  | exact Or.inl (by assumption)
  | exact Or.inr (by walk_at "free")
  | fail)
local macro_rules | `(tactic| walk_at "kp") => `(tactic| first
  | assumption
  | exact Cm.Kp.refl
  | (refine' Cm.Kp.new' ?h1 ?h2; (case h2 => assumption); (case h1 => walk_at "kp"))
  | (refine' Cm.Kp.setL' ?h1 ?h2 ?h3; (case h2 => walk_at "look"); (case h3 => walk_at "in"); (case h1 => walk_at "kp"))
  | (refine' Cm.Kp.setI' ?h1 ?h2 ?h3; (case h2 => walk_at "look"); (case h3 => walk_at "in"); (case h1 => walk_at "kp"))
  | (refine' Cm.Kp.setD' ?h1 ?h2 ?h3; (case h2 => walk_at "look"); (case h3 => walk_at "in"); (case h1 => walk_at "kp"))
  | (refine' Cm.kp_step ?h1 ?h2 ?h3; (case h2 => assumption); (case h3 => walk_at "sub"); (case h1 => walk_at "kp"))
  | fail)
local macro_rules | `(tactic| walk_at "sub") => `(tactic| first
  | exact fun _ z => z.elim
  | exact fun _ z => Or.inl z
  | (intro a z; rcases z with rfl | rfl <;> walk_at "in")
  | (intro a z; subst z; walk_at "in")
  | fail)
local macro_rules | `(tactic| walk_at "num2") => `(tactic| first | decide | omega | fail)

local macro_rules | `(tactic| walk_at "isi") => `(tactic| first | (with_reducible refine Cm.isi_non_bool ?_) | (with_reducible refine Cm.isi_non_int ?_) | (with_reducible refine Cm.isi_non_str ?_) | (with_reducible refine Cm.isi_non_tuple ?_) | (with_reducible refine Cm.isi_non_list ?_) | (with_reducible refine Cm.isi_bl_bool ?_) | (with_reducible refine Cm.isi_bl_int ?_) | (with_reducible refine Cm.isi_bl_str ?_) | (with_reducible refine Cm.isi_bl_tuple ?_) | (with_reducible refine Cm.isi_bl_list ?_) | (with_reducible refine Cm.isi_int_bool ?_) | (with_reducible refine Cm.isi_int_int ?_) | (with_reducible refine Cm.isi_int_str ?_) | (with_reducible refine Cm.isi_int_tuple ?_) | (with_reducible refine Cm.isi_int_list ?_) | (with_reducible refine Cm.isi_str_bool ?_) | (with_reducible refine Cm.isi_str_int ?_) | (with_reducible refine Cm.isi_str_str ?_) | (with_reducible refine Cm.isi_str_tuple ?_) | (with_reducible refine Cm.isi_str_list ?_) | ((with_reducible refine' Cm.isi_tup_bool ?h1 ?_); (case h1 => walk_at "look")) | ((with_reducible refine' Cm.isi_tup_int ?h1 ?_); (case h1 => walk_at "look")) | ((with_reducible refine' Cm.isi_tup_str ?h1 ?_); (case h1 => walk_at "look")) | ((with_reducible refine' Cm.isi_tup_tuple ?h1 ?_); (case h1 => walk_at "look")) | ((with_reducible refine' Cm.isi_tup_list ?h1 ?_); (case h1 => walk_at "look")) | ((with_reducible refine' Cm.isi_lst_bool ?h1 ?_); (case h1 => walk_at "look")) | ((with_reducible refine' Cm.isi_lst_int ?h1 ?_); (case h1 => walk_at "look")) | ((with_reducible refine' Cm.isi_lst_str ?h1 ?_); (case h1 => walk_at "look")) | ((with_reducible refine' Cm.isi_lst_tuple ?h1 ?_); (case h1 => walk_at "look")) | ((with_reducible refine' Cm.isi_lst_list ?h1 ?_); (case h1 => walk_at "look")) | fail)

local macro_rules | `(tactic| walk_at "key") => `(tactic| first | exact W.dF_g_blocks | exact W.dF_g_pending | exact W.dF_g_left | exact W.dF_g_picks | exact W.dF_g_fallen | exact W.dF_n_need_block | exact W.dF_n_count | exact W.dF_n_write | exact W.dF_n_settle | exact W.dF_n_read | exact W.dF_n_arm | exact W.dF_n_stop | exact W.dF_n_again | exact W.dF_n_settled)
local macro_rules | `(tactic| walk_at "put") => `(tactic| first | exact W.dF_p_blocks | exact W.dF_p_pending | exact W.dF_p_left | exact W.dF_p_picks | exact W.dF_p_fallen)
local macro_rules | `(tactic| walk_at "size") => `(tactic| (rw [W.dF_len]; decide))

namespace W
open PySem PySem.Spec PyProof.Rows L2 Cm
section
variable {w : World} {K : PySem.W.Frag} {mg : Str → Option Value}
theorem zip_take {α β : Type} : ∀ {xs : List α} {ys : List β} {i : Nat} {x : α} {y : β}, xs[i]? = some x → ys[i]? = some y → (xs.zip ys).take (i + 1) = (xs.zip ys).take i ++ [(x, y)] := fun {xs ys i x y} h1 h2 => by
  have e : (xs.zip ys)[i]? = some (x, y) := List.getElem?_zip_eq_some.mpr ⟨h1, h2⟩
  rw [List.take_add_one, e]; rfl
theorem pr_get {H : Hp} {ns : List V} {ps : List (Int × PyData)} {i : Nat} {x : V} (h : DtA H ns (ps.map pr)) (e : ns[i]? = some x) : ∃ q t v, ps[i]? = some q ∧ x = .ref t ∧ H t = some (.tup [.int q.1, v]) ∧ Dt H v q.2 := by
  obtain ⟨d, h1, h2⟩ := h.get e
  rw [List.getElem?_map] at h1
  cases hq : ps[i]? with
  | none => rw [hq] at h1; cases h1
  | some q =>
    rw [hq] at h1
    cases h1
    obtain ⟨t, xs, rfl, ht, v, vs, rfl, e1, v2, vs2, rfl, e2, e3⟩ := h2
    obtain rfl : v = .int q.1 := e1
    obtain rfl : vs2 = [] := e3
    exact ⟨q, t, v2, rfl, rfl, ht, e2⟩
theorem pure_Disk_stop (T : Tx w K mg) (vs : List V) (H : Hp) (Q : VK) (E : XK) (h : S_Disk_stop K vs H Q E) : t_Disk_stop K E { nx := fun _ H' => Q .non H', rt := Q } (start N_Disk_stop vs) H := by
  obtain ⟨_, _, rfl, p, S, F, l, bits, rfl, rfl, ⟨dx, b, n, kk, bs, ns, h1, h2, d2, h3, d3, h4, ⟨ne1, ne2, ne3⟩, o, f⟩, hl, k⟩ := h
  have c := T.c_Disk
  have a1 := T.a_Disk_blocks
  have a2 := T.a_Disk_pending
  have a5 := T.a_Disk_fallen
  have fb : F b := (f b).mpr (.inr (.inl rfl))
  have fp : F p := (f p).mpr (.inl rfl)
  have fn : F n := (f n).mpr (.inr (.inr (.inl rfl)))
  have epb : p ≠ b := ne_of h1 h2 (fun z => nomatch z)
  have epn : p ≠ n := ne_of h1 h3 (fun z => nomatch z)
  have epk : p ≠ kk := ne_of h1 h4 (fun z => nomatch z)
  unfold t_Disk_stop
  walk_at "run"
  rename_i q hq
  have eqb : b ≠ q := by walk_at "ne"
  have eqn : n ≠ q := by walk_at "ne"
  refine forZ (fun i σ' H' => ∃ v3 v4 v5 bs', σ' = [some (.ref p), some (.ref l), some (.ref q), v3, v4, v5] ∧ Kp (tabs K) F H H' ∧ H' p = some (.ins (He.ga K "Disk") dx (dF b n (lv S.left) kk S.fallen)) ∧ H' b = some (.lst bs') ∧
    DtA H' bs' (((S.pending.zip bits).take i).foldl fapl S.blocks) ∧ H' n = some (.lst ns) ∧ H' q = some (.lst (bits.map V.bl)) ∧ H' kk = some (.lst (S.picks.map V.bl)))
    ?_ (fun i σ' H' ⟨_, _, _, _, _, _, _, _, _, z1, z2, _⟩ => ⟨z1, z2⟩) ?_ ?_
  · have kq : Kp (tabs K) No H (upd H q (.lst (bits.map V.bl))) := Kp.new hq
    exact ⟨none, none, none, bs, rfl, by walk_at "kp", by walk_at "look", by walk_at "look", d2.keep kq o.bl, by walk_at "look", by walk_at "look", by walk_at "look"⟩
  · rintro i x y t σ' H' hx hy ⟨v3, v4, v5, bs', rfl, kp, g1, g2, gd, g3, g4, g5⟩ ht
    obtain ⟨qq, t2, v, hqq, rfl, ht2, hv⟩ := pr_get d3 hx
    have hok := o.pe qq (List.mem_of_getElem? hqq)
    have ht3 := kp.tup ht2
    obtain ⟨bt, hbt, rfl⟩ : ∃ bt, bits[i]? = some bt ∧ y = .bl bt := by
      rw [List.getElem?_map] at hy
      cases e : bits[i]? with
      | none => rw [e] at hy; cases hy
      | some bt => rw [e] at hy; cases hy; exact ⟨bt, rfl, rfl⟩
    have kt : Kp (tabs K) No H' (upd H' t (.tup [.ref t2, .bl bt])) := Kp.new ht
    have hg := gd.keep kt (n := 6) (fapls_ok o.bl fun q hq => (o.pe q.1 (List.of_mem_zip (List.mem_of_mem_take hq)).1).2.2).1
    have fo := fapls_ok (qs := (S.pending.zip bits).take i) o.bl fun q hq => (o.pe q.1 (List.of_mem_zip (List.mem_of_mem_take hq)).1).2.2
    have hlen : bs'.length = 35 := gd.length.trans (fo.2.trans o.len)
    have hix : ixN bs'.length qq.1 = some qq.1.toNat := ix_nat hok.1 (by rw [hlen]; exact hok.2.1)
    have ezip : (S.pending.zip bits).take (i + 1) = (S.pending.zip bits).take i ++ [(qq, bt)] := zip_take hqq hbt
    walk_at "run"
    refine if_b (fun hb => ?_) (fun hb => ?_)
    · walk_at "run"
      subst hb
      have kn : Kp (tabs K) F H (upd (upd H' t (.tup [.ref t2, .bl true])) b (.lst (bs'.set qq.1.toNat v))) := by walk_at "kp"
      have kb : Kp (tabs K) (fun a => a = b) (upd H' t (.tup [.ref t2, .bl true])) (upd (upd H' t (.tup [.ref t2, .bl true])) b (.lst (bs'.set qq.1.toNat v))) := Kp.setL (by walk_at "look") rfl
      refine ⟨_, _, _, _, rfl, kn, by walk_at "look", by walk_at "look", ?_, by walk_at "look", by walk_at "look", by walk_at "look"⟩
      rw [ezip, List.foldl_append]
      exact (hg.keep kb fo.1).set (Dt.keep kn hok.2.2 hv)
    · walk_at "run"
      subst hb
      refine ⟨_, _, _, _, rfl, by walk_at "kp", by walk_at "look", by walk_at "look", ?_, by walk_at "look", by walk_at "look", by walk_at "look"⟩
      rw [ezip, List.foldl_append]
      exact hg
  · rintro σ' H' ⟨v3, v4, v5, bs', rfl, kp, g1, g2, gd, g3, g4, g5⟩
    have em : min ns.length (bits.map V.bl).length = (S.pending.zip bits).length := by
      rw [List.length_zip, d3.length, List.length_map, List.length_map]
    rw [em, List.take_length] at gd
    walk_at "run"
    rename_i m hm
    have ok' := o.fal bits
    have kn : Kp (tabs K) F H (upd (upd (upd H' m (.lst [])) p (.ins (He.ga K "Disk") dx (dF b m (lv S.left) kk S.fallen))) p (.ins (He.ga K "Disk") dx (dF b m (lv S.left) kk true))) := by walk_at "kp"
    have kb : Kp (tabs K) (fun a => a = p) H' (upd (upd (upd H' m (.lst [])) p (.ins (He.ga K "Disk") dx (dF b m (lv S.left) kk S.fallen))) p (.ins (He.ga K "Disk") dx (dF b m (lv S.left) kk true))) := by walk_at "kp"
    have e1 : b ≠ m := by walk_at "ne"
    have e2 : m ≠ kk := by walk_at "ne"
    refine k _ (fun a => a = p ∨ a = b ∨ a = m ∨ a = kk) ⟨dx, b, m, kk, bs', [], by walk_at "look", by walk_at "look", gd.keep kb ok'.bl, by walk_at "look", rfl, by walk_at "look", ⟨e1, ne2, e2⟩, ok', fun a => Iff.rfl⟩ ⟨kn, fun a ha => ?_⟩
    rcases ha with rfl | rfl | rfl | rfl
    · exact .inl fp
    · exact .inl fb
    · exact .inr (by walk_at "free")
    · exact .inl ((f _).mpr (.inr (.inr (.inr rfl))))
end
end W

end
section
/-! ### M0: words for walking through a reading (local) -/
local macro_rules | `(tactic| walk_at "st") => `(tactic| first
  | (with_reducible refine Cm.s_seq ?_) | (with_reducible refine Cm.s_asg ?_) | (with_reducible refine Cm.s_drop ?_) | (with_reducible refine Cm.s_ret ?_) | (with_reducible refine Cm.s_if ?_) | (with_reducible refine Cm.s_next ?_) | (with_reducible refine Cm.s_retN ?_) | (with_reducible refine Cm.s_rs ?_) | (with_reducible refine Cm.s_fld0 ?_)
  | ((with_reducible refine' Cm.e_var ?hv ?_); (case hv => exact rfl))
  | (with_reducible refine Cm.e_c ?_) | (with_reducible refine Cm.e_op ?_) | (with_reducible refine Cm.e_un ?_) | (with_reducible refine Cm.e_nil ?_) | (with_reducible refine Cm.e_cons ?_) | (with_reducible refine Cm.e_tup ?_) | (with_reducible refine Cm.e_lst ?_) | (with_reducible refine Cm.e_cb ?_) | (with_reducible refine Cm.e_call ?_) | (with_reducible refine Cm.e_if ?_)
  | (with_reducible refine Cm.e_andV ?_) | (with_reducible refine Cm.e_orV ?_) | (with_reducible refine Cm.e_notV ?_) | (with_reducible refine Cm.e_fld0 ?_) | (with_reducible refine Cm.e_meth0 ?_) | (with_reducible refine Cm.e_bm0 ?_) | (with_reducible refine Cm.e_bm ?_) | (with_reducible refine Cm.e_sl ?_) | (with_reducible refine Cm.o_none ?_) | (with_reducible refine Cm.o_some ?_) | (with_reducible refine Cm.e_dnew ?_)
  | (with_reducible refine Cm.e_test ?_) | (with_reducible refine Cm.e_tr ?_) | (with_reducible refine Cm.e_and ?_) | (with_reducible refine Cm.e_or ?_) | (with_reducible refine Cm.e_not ?_) | (with_reducible refine Cm.e_yes ?_) | (with_reducible refine Cm.e_chain ?_)
  | (with_reducible refine Cm.r_i0 ?_) | (with_reducible refine Cm.r_u ?_) | (with_reducible refine Cm.r_isNo ?_) | (with_reducible refine Cm.r_notNo ?_) | (with_reducible refine Cm.r_addI ?_) | (with_reducible refine Cm.r_int1b ?_) | (with_reducible refine Cm.r_max2 ?_)
  | ((with_reducible refine Cm.r_i ?hc ?_); (case hc => walk_at "num"))
  | ((with_reducible refine Cm.r_mulI ?hc ?_); (case hc => walk_at "num"))
  | ((with_reducible refine Cm.r_eqS ?hc ?_); (case hc => exact rfl))
  | ((with_reducible refine Cm.r_neS ?hc ?_); (case hc => exact rfl))
  | ((with_reducible refine' Cm.r_ixl ?h1 ?h2 ?_); (case h1 => walk_at "look"); (case h2 => walk_at "at"))
  | ((with_reducible refine' Cm.r_ixt ?h1 ?h2 ?_); (case h1 => walk_at "look"); (case h2 => walk_at "at"))
  | ((with_reducible refine' Cm.r_ixT ?h1 ?h2 ?_); (case h1 => walk_at "lookT"); (case h2 => walk_at "at"))
  | ((with_reducible refine' Cm.r_ixds ?h1 ?h2 ?_); (case h1 => walk_at "look"); (case h2 => walk_at "key"))
  | ((with_reducible refine' Cm.r_eqe ?h1 ?h2 ?_); (case h1 => walk_at "look"); (case h2 => walk_at "look"))
  | ((with_reducible refine' Cm.r_nee ?h1 ?h2 ?_); (case h1 => walk_at "look"); (case h2 => walk_at "look"))
  | ((with_reducible refine' Cm.r_lenl ?h1 ?_); (case h1 => walk_at "look"))
  | ((with_reducible refine' Cm.r_lent ?h1 ?_); (case h1 => walk_at "look"))
  | ((with_reducible refine' Cm.r_lenT ?h1 ?_); (case h1 => walk_at "lookT"))
  | ((with_reducible refine' Cm.r_listl ?h1 ?_); (case h1 => walk_at "look"); (intro _ _))
  | ((with_reducible refine' Cm.r_tupl ?h1 ?_); (case h1 => walk_at "look"); (intro _ _))
  | ((with_reducible refine' Cm.r_addL ?h1 ?h2 ?h3 ?_); (case h1 => walk_at "look"); (case h2 => walk_at "look"); (case h3 => walk_at "size"); (intro _ _))
  | ((with_reducible refine' Cm.m_append ?h1 ?h2 ?_); (case h1 => walk_at "look"); (case h2 => walk_at "size"))
  | ((with_reducible refine' Cm.m_clear ?h1 ?_); (case h1 => walk_at "look"))
  | ((with_reducible refine' Cm.g_setL ?h1 ?h2 ?_); (case h1 => walk_at "look"); (case h2 => walk_at "ix"))
  | ((with_reducible refine' Cm.g_setDs ?h1 ?h2 ?h3 ?_); (case h1 => walk_at "look"); (case h2 => walk_at "size"); (case h3 => walk_at "put"))
  | ((with_reducible refine' Cm.fld_at ?h1 ?h2 ?h3 ?h4 ?_); (case h1 => walk_at "look"); (case h2 => assumption); (case h3 => assumption); (case h4 => walk_at "key"))
  | ((with_reducible refine' Cm.fldset_at ?h1 ?h2 ?h3 ?h4 ?h5 ?_); (case h1 => walk_at "look"); (case h2 => assumption); (case h3 => assumption); (case h4 => walk_at "size"); (case h5 => walk_at "put"))
  | (with_reducible refine Cm.s_fldaug0 ?_)
  | ((with_reducible refine' Cm.aug_at ?h1 ?h2 ?h3 ?h4 ?_); (case h1 => walk_at "look"); (case h2 => assumption); (case h3 => assumption); (case h4 => walk_at "key"))
  | ((with_reducible refine' Cm.augset_at ?h1 ?h4 ?h5 ?_); (case h1 => walk_at "look"); (case h4 => walk_at "size"); (case h5 => walk_at "put"))
  | (with_reducible refine Cm.in_sub_at ?_) | (with_reducible refine Cm.in_add_at ?_)
  | ((with_reducible refine' Cm.meth_at ?h1 ?h2 ?_); (case h1 => walk_at "look"); (case h2 => walk_at "key"))
  | ((with_reducible refine Cm.new_at ?h1 ?_); (case h1 => walk_at "size"); (intro _ _))
  | ((with_reducible refine Cm.and_at (A := L2.tyV _ _ _ _) ?h1 ?_); (case h1 => exact Cm.ty_lst (by walk_at "look")))
  | ((with_reducible refine' Cm.g_tupt ?h1 ?h2 ?_); (case h1 => walk_at "look"); (case h2 => exact rfl))
  | ((with_reducible refine' Cm.g_tup ?h1 ?h2 ?_); (case h1 => walk_at "lookT"); (case h2 => exact rfl))
  | (with_reducible refine Cm.g_name ?_) | (with_reducible refine Cm.g_sub ?_) | (with_reducible refine Cm.g_cons ?_) | (with_reducible refine Cm.g_nil ?_)
  | (with_reducible refine Cm.int_at ?_) | (with_reducible refine Cm.bl_at ?_) | (with_reducible refine Cm.tr_bl ?_) | (with_reducible refine Cm.tr_non ?_)
  | ((with_reducible refine' Cm.m_pop0 ?h1 ?_); (case h1 => walk_at "look"))
  | ((with_reducible refine' Cm.r_slTo ?h1 ?h2 ?_); (case h1 => walk_at "look"); (case h2 => walk_at "num2"); (intro _ _))
  | ((with_reducible refine' Cm.r_slFrom ?h1 ?h2 ?_); (case h1 => walk_at "look"); (case h2 => walk_at "num2"); (intro _ _))
  | ((with_reducible refine' Cm.at_forL ?h1 ?_); (case h1 => walk_at "look"))
  | ((with_reducible refine' Cm.at_forT ?h1 ?_); (case h1 => walk_at "look"))
  | ((with_reducible refine' Cm.at_forR ?h1 ?h2 ?_); (case h1 => walk_at "num2"); (case h2 => walk_at "num2"))
  | ((with_reducible refine' Cm.at_forZ ?h1 ?h2 ?_); (case h1 => walk_at "look"); (case h2 => walk_at "look"))
  | (with_reducible refine Cm.s_forZ ?_) | (with_reducible refine Cm.s_forR ?_)
  | ((with_reducible refine Cm.and_at (A := _ = _) ?h1 ?_); (case h1 => exact rfl))
  | ((with_reducible show L2.rIsi _ _ _ _); walk_at "isi")
  | (with_reducible refine Cm.ite_nt ?_) | (with_reducible refine Cm.ite_nf ?_)
  | (with_reducible refine L2.iteT ?_) | (with_reducible refine L2.iteF ?_)
  | dsimp only
  | fail)
local macro_rules | `(tactic| walk_at "run") => `(tactic| repeat (walk_at "st"))
local macro_rules | `(tactic| walk_at "num") => `(tactic| first
  | exact Or.inr ⟨by decide, by decide⟩ | exact Or.inl ⟨by decide, by decide⟩
  | exact Cm.wdiv (by first | decide | omega) (by first | decide | omega)
  | (show (0 : Int) < _; first | decide | omega)
  | exact ⟨by decide, by decide, by decide⟩
  | fail)
local macro_rules | `(tactic| walk_at "put") => `(tactic| exact rfl)
local macro_rules | `(tactic| walk_at "fl") => `(tactic| first | exact Cm.fl0 | (refine' Cm.flS ?hz; (case hz => walk_at "fl")) | fail)
local macro_rules | `(tactic| walk_at "size") => `(tactic| first | exact Cm.sz_lit rfl | exact Cm.sz_lt rfl | exact Cm.fs_lt rfl | decide | (refine' Nat.lt_of_le_of_lt ?ha ?hb; (case ha => walk_at "fl"); (case hb => decide)) | (simp only [List.length_cons, List.length_nil, List.length_append, List.length_map, List.length_set, List.length_replicate, PySem.sizeLine_eq]; omega) | (simp only [List.length_cons, List.length_nil, List.length_append, List.length_map, List.length_set, List.length_replicate, PySem.sizeLine_eq] at *; omega) | fail)
local macro_rules | `(tactic| walk_at "at") => `(tactic| first | assumption | (with_reducible exact Cm.at0) | (with_reducible exact Cm.at1) | (with_reducible exact Cm.at2) | (with_reducible exact Cm.at3) | (with_reducible exact Cm.at4) | (with_reducible exact Cm.at5) | (with_reducible exact Cm.at6) | (with_reducible exact Cm.at7) | (with_reducible exact Cm.at8) | (with_reducible exact Cm.at0s) | (with_reducible exact Cm.at1s) | (with_reducible exact Cm.at01s) | (with_reducible exact Cm.at10s) | fail)
local macro_rules | `(tactic| walk_at "ix") => `(tactic| first | exact Cm.ix0 (by walk_at "size") | exact Cm.ix1 (by walk_at "size") | assumption | fail)
local macro_rules | `(tactic| walk_at "key") => `(tactic| first | assumption | fail)
local macro_rules | `(tactic| walk_at "ne") => `(tactic| first
  | assumption
  | (refine Ne.symm ?_; assumption)
  | (refine' L2.ne_of_none ?h1 ?h2; (case h2 => assumption); (case h1 => walk_at "look"))
  | (refine' Ne.symm (L2.ne_of_none ?h1 ?h2); (case h2 => assumption); (case h1 => walk_at "look"))
  | fail)
local macro_rules | `(tactic| walk_at "lookT") => `(tactic| first
  | assumption
  | exact L2.SqT.of (by walk_at "look")
  | fail)
local macro_rules | `(tactic| walk_at "look") => `(tactic| first
  | assumption
  | exact L2.upd_same
  | ((fail_if_success (with_reducible refine Eq.trans L2.upd_same ?_)); (refine' Eq.trans (L2.upd_ne ?h1) ?h2); (case h1 => walk_at "ne"); (case h2 => walk_at "look"))
  | (refine' Cm.kp_look ?h1 ?h2 ?h3 ?h4; (case h1 => assumption); (case h2 => walk_at "look"); (case h3 => intro _ z; cases z); (case h4 => first | exact Or.inl rfl | exact Or.inr (by walk_at "out")))
  | fail)
local macro_rules | `(tactic| walk_at "out") => `(tactic| first
  | assumption
  | exact fun z => z
  | exact fun z => z.elim (fun e => absurd e (by walk_at "ne")) (fun e => absurd e (by walk_at "ne"))
  | exact fun e => absurd e (by walk_at "ne")
  | fail)
local macro_rules | `(tactic| walk_at "dom") => `(tactic| first
  | exact Cm.dm_refl
  | (refine Cm.dm_upd ?_; walk_at "dom")
  | (refine' Cm.dm_kp ?h1 ?h2; (case h2 => assumption); (case h1 => walk_at "dom"))
  | fail)
local macro_rules | `(tactic| walk_at "free") => `(tactic| first
  | assumption
  | exact Cm.nw_of (by assumption)
  | (refine' Cm.dm_use ?h1 ?h2; (case h2 => assumption); (case h1 => walk_at "dom"))
  | (refine' Cm.dm_use2 ?h1 ?h2; (case h2 => assumption); (case h1 => walk_at "dom"))
  | fail)
local macro_rules | `(tactic| walk_at "in") => `(tactic| first
  | exact Or.inl rfl | exact Or.inl (Or.inl rfl) | exact Or.inl (Or.inr rfl) | exact Or.inl (Or.inr (Or.inl rfl)) | exact Or.inl (Or.inr (Or.inr rfl))
  | exact Or.inl (by assumption)
  | exact Or.inr (by walk_at "free")
  | fail)
local macro_rules | `(tactic| walk_at "kp") => `(tactic| first
  | assumption
  | exact Cm.Kp.refl
  | (refine' Cm.Kp.new' ?h1 ?h2; (case h2 => assumption); (case h1 => walk_at "kp"))
  | (refine' Cm.Kp.setL' ?h1 ?h2 ?h3; (case h2 => walk_at "look"); (case h3 => walk_at "in"); (case h1 => walk_at "kp"))
  | (refine' Cm.Kp.setI' ?h1 ?h2 ?h3; (case h2 => walk_at "look"); (case h3 => walk_at "in"); (case h1 => walk_at "kp"))
  | (refine' Cm.Kp.setD' ?h1 ?h2 ?h3; (case h2 => walk_at "look"); (case h3 => walk_at "in"); (case h1 => walk_at "kp"))
  | (refine' Cm.kp_step ?h1 ?h2 ?h3; (case h2 => assumption); (case h3 => walk_at "sub"); (case h1 => walk_at "kp"))
  | fail)
local macro_rules | `(tactic| walk_at "sub") => `(tactic| first
  | exact fun _ z => z.elim
  | exact fun _ z => Or.inl z
  | (intro a z; rcases z with rfl | rfl <;> walk_at "in")
  | (intro a z; subst z; walk_at "in")
  | fail)
local macro_rules | `(tactic| walk_at "num2") => `(tactic| first | decide | omega | fail)

local macro_rules | `(tactic| walk_at "isi") => `(tactic| first | (with_reducible refine Cm.isi_non_bool ?_) | (with_reducible refine Cm.isi_non_int ?_) | (with_reducible refine Cm.isi_non_str ?_) | (with_reducible refine Cm.isi_non_tuple ?_) | (with_reducible refine Cm.isi_non_list ?_) | (with_reducible refine Cm.isi_bl_bool ?_) | (with_reducible refine Cm.isi_bl_int ?_) | (with_reducible refine Cm.isi_bl_str ?_) | (with_reducible refine Cm.isi_bl_tuple ?_) | (with_reducible refine Cm.isi_bl_list ?_) | (with_reducible refine Cm.isi_int_bool ?_) | (with_reducible refine Cm.isi_int_int ?_) | (with_reducible refine Cm.isi_int_str ?_) | (with_reducible refine Cm.isi_int_tuple ?_) | (with_reducible refine Cm.isi_int_list ?_) | (with_reducible refine Cm.isi_str_bool ?_) | (with_reducible refine Cm.isi_str_int ?_) | (with_reducible refine Cm.isi_str_str ?_) | (with_reducible refine Cm.isi_str_tuple ?_) | (with_reducible refine Cm.isi_str_list ?_) | ((with_reducible refine' Cm.isi_tup_bool ?h1 ?_); (case h1 => walk_at "look")) | ((with_reducible refine' Cm.isi_tup_int ?h1 ?_); (case h1 => walk_at "look")) | ((with_reducible refine' Cm.isi_tup_str ?h1 ?_); (case h1 => walk_at "look")) | ((with_reducible refine' Cm.isi_tup_tuple ?h1 ?_); (case h1 => walk_at "look")) | ((with_reducible refine' Cm.isi_tup_list ?h1 ?_); (case h1 => walk_at "look")) | ((with_reducible refine' Cm.isi_lst_bool ?h1 ?_); (case h1 => walk_at "look")) | ((with_reducible refine' Cm.isi_lst_int ?h1 ?_); (case h1 => walk_at "look")) | ((with_reducible refine' Cm.isi_lst_str ?h1 ?_); (case h1 => walk_at "look")) | ((with_reducible refine' Cm.isi_lst_tuple ?h1 ?_); (case h1 => walk_at "look")) | ((with_reducible refine' Cm.isi_lst_list ?h1 ?_); (case h1 => walk_at "look")) | fail)

local macro_rules | `(tactic| walk_at "key") => `(tactic| first | exact W.dF_g_blocks | exact W.dF_g_pending | exact W.dF_g_left | exact W.dF_g_picks | exact W.dF_g_fallen | exact W.dF_n_need_block | exact W.dF_n_count | exact W.dF_n_write | exact W.dF_n_settle | exact W.dF_n_read | exact W.dF_n_arm | exact W.dF_n_stop | exact W.dF_n_again | exact W.dF_n_settled)
local macro_rules | `(tactic| walk_at "put") => `(tactic| first | exact W.dF_p_blocks | exact W.dF_p_pending | exact W.dF_p_left | exact W.dF_p_picks | exact W.dF_p_fallen)
local macro_rules | `(tactic| walk_at "size") => `(tactic| (rw [W.dF_len]; decide))

namespace W
open PySem PySem.Spec PyProof.Rows L2 Cm
section
variable {w : World} {K : PySem.W.Frag} {mg : Str → Option Value}
theorem pure_Disk_count (T : Tx w K mg) (vs : List V) (H : Hp) (Q : VK) (E : XK) (h : S_Disk_count K vs H Q E) : t_Disk_count K E { nx := fun _ H' => Q .non H', rt := Q } (start N_Disk_count vs) H := by
  obtain ⟨_, rfl, p, ⟨sb, sp, sl, sk, sf⟩, F, rfl, DA, k1, k2⟩ := h
  obtain ⟨dx, b, n, kk, bs, ns, h1, h2, d2, h3, d3, h4, ⟨ne1, ne2, ne3⟩, o, f⟩ := id DA
  have c := T.c_Disk
  have a3 := T.a_Disk_left
  have a4 := T.a_Disk_picks
  have a5 := T.a_Disk_fallen
  have fp : F p := (f p).mpr (.inl rfl)
  have st0 : Stp (tabs K) F F H H := ⟨Kp.refl, fun a ha => .inl ha⟩
  have h1 : H p = some (.ins (He.ga K "Disk") dx (dF b n (lv sl) kk sf)) := h1
  have h4 : H kk = some (.lst (sk.map V.bl)) := h4
  unfold t_Disk_count
  cases sf with
  | true =>
    walk_at "run"
    have e : (DS.mk sb sp sl sk true).cnt = (false, DS.mk sb sp sl sk true) := by unfold DS.cnt; rw [if_pos rfl]
    rw [e] at k2
    exact k2 rfl H F DA st0
  | false =>
    cases sl with
    | none =>
      have h1 : H p = some (.ins (He.ga K "Disk") dx (dF b n .non kk false)) := h1
      have e : (DS.mk sb sp none sk false).cnt = (true, DS.mk sb sp none sk false) := rfl
      rw [e] at k1
      walk_at "run"
      refine if_dF (fun z => nomatch z) ?_
      walk_at "run"
      refine if_ndF rfl ?_
      walk_at "run"
      exact k1 rfl H F DA st0
    | some i =>
      have h1 : H p = some (.ins (He.ga K "Disk") dx (dF b n (.int i) kk false)) := h1
      walk_at "run"
      refine if_d (fun hz => ?_) (fun hz => ?_)
      · have hz : i = 0 := V.int.inj hz
        subst hz
        have e : (DS.mk sb sp (some 0) sk false).cnt = (false, (DS.mk sb sp (some 0) sk false).fal sk) := rfl
        rw [e] at k2
        walk_at "run"
        refine ⟨_, _, rfl, p, _, F, kk, sk, rfl, rfl, DA, h4, fun H' F' D' st => ?_⟩
        walk_at "run"
        exact k2 rfl H' F' D' st
      · have e : (DS.mk sb sp (some i) sk false).cnt = (true, (DS.mk sb sp (some (i - 1)) sk false)) := by
          unfold DS.cnt
          rw [if_neg (show ¬ (false = true) by decide), if_neg (fun z => hz (by injection z with z; rw [z]))]; rfl
        rw [e] at k1
        walk_at "run"
        refine if_ndT (fun z => nomatch z) ?_
        walk_at "run"
        have epb : p ≠ b := ne_of h1 h2 (fun z => nomatch z)
        have epn : p ≠ n := ne_of h1 h3 (fun z => nomatch z)
        have epk : p ≠ kk := ne_of h1 h4 (fun z => nomatch z)
        have kn : Kp (tabs K) (fun a => a = p) H (upd H p (.ins (He.ga K "Disk") dx (dF b n (.int (i - 1)) kk false))) := by walk_at "kp"
        refine k1 rfl _ F ⟨dx, b, n, kk, bs, ns, upd_same, by walk_at "look", d2.keep kn o.bl, by walk_at "look", d3.keep kn o.prs, by walk_at "look", ⟨ne1, ne2, ne3⟩, ⟨o.len, o.bl, o.pe⟩, f⟩ ⟨kn.mono fun a ha => by rw [ha]; exact fp, fun a ha => .inl ha⟩
theorem pure_Disk_again (T : Tx w K mg) (vs : List V) (H : Hp) (Q : VK) (E : XK) (h : S_Disk_again K vs H Q E) : t_Disk_again K E { nx := fun _ H' => Q .non H', rt := Q } (start N_Disk_again vs) H := by
  obtain ⟨_, rfl, p, S, F, rfl, DA, k⟩ := h
  obtain ⟨dx, b, n, kk, bs, ns, h1, h2, d2, h3, d3, h4, ⟨ne1, ne2, ne3⟩, o, f⟩ := id DA
  have c := T.c_Disk
  have a2 := T.a_Disk_pending
  have a3 := T.a_Disk_left
  have a4 := T.a_Disk_picks
  have a5 := T.a_Disk_fallen
  have fp : F p := (f p).mpr (.inl rfl)
  have epb : p ≠ b := ne_of h1 h2 (fun z => nomatch z)
  unfold t_Disk_again
  walk_at "run"
  rename_i n' hn' k' hk'
  have e1 : b ≠ n' := by walk_at "ne"
  have e2 : b ≠ k' := by walk_at "ne"
  have e3 : n' ≠ k' := by walk_at "ne"
  have e4 : p ≠ n' := by walk_at "ne"
  have e5 : p ≠ k' := by walk_at "ne"
  have kn : Kp (tabs K) (fun a => a = p) H (upd (upd (upd (upd (upd (upd H n' (.lst [])) p (.ins (He.ga K "Disk") dx (dF b n' (lv S.left) kk S.fallen))) p (.ins (He.ga K "Disk") dx (dF b n' .non kk S.fallen))) k' (.lst [])) p (.ins (He.ga K "Disk") dx (dF b n' .non k' S.fallen))) p (.ins (He.ga K "Disk") dx (dF b n' .non k' false))) := by walk_at "kp"
  refine k _ (fun a => a = p ∨ a = b ∨ a = n' ∨ a = k') ⟨dx, b, n', k', bs, [], by walk_at "look", by walk_at "look", d2.keep kn o.bl, by walk_at "look", rfl, by walk_at "look", ⟨e1, e2, e3⟩, ⟨o.len, o.bl, fun q hq => nomatch hq⟩, fun a => Iff.rfl⟩ ⟨kn.mono fun a ha => by rw [ha]; exact fp, fun a ha => ?_⟩
  rcases ha with rfl | rfl | rfl | rfl
  · exact .inl fp
  · exact .inl ((f _).mpr (.inr (.inl rfl)))
  · exact .inr (by walk_at "free")
  · exact .inr (by walk_at "free")
theorem pure_Disk_settled (T : Tx w K mg) (vs : List V) (H : Hp) (Q : VK) (E : XK) (h : S_Disk_settled K vs H Q E) : t_Disk_settled K E { nx := fun _ H' => Q .non H', rt := Q } (start N_Disk_settled vs) H := by
  obtain ⟨_, rfl, p, S, F, rfl, DA, k⟩ := h
  obtain ⟨dx, b, n, kk, bs, ns, h1, h2, d2, h3, d3, h4, ⟨ne1, ne2, ne3⟩, o, f⟩ := id DA
  have c := T.c_Disk
  have a1 := T.a_Disk_blocks
  unfold t_Disk_settled
  walk_at "run"
  rename_i l hl
  have kn : Kp (tabs K) No H (upd H l (.lst bs)) := Kp.new hl
  exact k l bs _ (.inl hl) upd_same (d2.keep kn o.bl) kn
theorem pure_Disk_arm (T : Tx w K mg) (vs : List V) (H : Hp) (Q : VK) (E : XK) (h : S_Disk_arm K vs H Q E) : t_Disk_arm K E { nx := fun _ H' => Q .non H', rt := Q } (start N_Disk_arm vs) H := by
  obtain ⟨_, _, _, rfl, p, S, F, i, l, bits, rfl, rfl, rfl, DA, hl, k⟩ := h
  obtain ⟨dx, b, n, kk, bs, ns, h1, h2, d2, h3, d3, h4, ⟨ne1, ne2, ne3⟩, o, f⟩ := id DA
  have c := T.c_Disk
  have a3 := T.a_Disk_left
  have a4 := T.a_Disk_picks
  have fp : F p := (f p).mpr (.inl rfl)
  have epb : p ≠ b := ne_of h1 h2 (fun z => nomatch z)
  have epn : p ≠ n := ne_of h1 h3 (fun z => nomatch z)
  have epl : p ≠ l := ne_of h1 hl (fun z => nomatch z)
  unfold t_Disk_arm
  walk_at "run"
  rename_i k' hk'
  have e1 : b ≠ k' := by walk_at "ne"
  have e2 : n ≠ k' := by walk_at "ne"
  have e3 : p ≠ k' := by walk_at "ne"
  have kn : Kp (tabs K) (fun a => a = p) H (upd (upd (upd H p (.ins (He.ga K "Disk") dx (dF b n (.int (if i > 0 then i else 0)) kk S.fallen))) k' (.lst (bits.map V.bl))) p (.ins (He.ga K "Disk") dx (dF b n (.int (if i > 0 then i else 0)) k' S.fallen))) := by walk_at "kp"
  refine k _ (fun a => a = p ∨ a = b ∨ a = n ∨ a = k') ⟨dx, b, n, k', bs, ns, by walk_at "look", by walk_at "look", d2.keep kn o.bl, by walk_at "look", d3.keep kn o.prs, by walk_at "look", ⟨ne1, e1, e2⟩, ⟨o.len, o.bl, o.pe⟩, fun a => Iff.rfl⟩ ⟨kn.mono fun a ha => by rw [ha]; exact fp, fun a ha => ?_⟩
  rcases ha with rfl | rfl | rfl | rfl
  · exact .inl fp
  · exact .inl ((f _).mpr (.inr (.inl rfl)))
  · exact .inl ((f _).mpr (.inr (.inr (.inl rfl))))
  · exact .inr (by walk_at "free")
end
end W

end
section
/-! ### M0: words for walking through a reading (local) -/
local macro_rules | `(tactic| walk_at "st") => `(tactic| first
  | (with_reducible refine Cm.s_seq ?_) | (with_reducible refine Cm.s_asg ?_) | (with_reducible refine Cm.s_drop ?_) | (with_reducible refine Cm.s_ret ?_) | (with_reducible refine Cm.s_if ?_) | (with_reducible refine Cm.s_next ?_) | (with_reducible refine Cm.s_retN ?_) | (with_reducible refine Cm.s_rs ?_) | (with_reducible refine Cm.s_fld0 ?_)
  | ((with_reducible refine' Cm.e_var ?hv ?_); (case hv => exact rfl))
  | (with_reducible refine Cm.e_c ?_) | (with_reducible refine Cm.e_op ?_) | (with_reducible refine Cm.e_un ?_) | (with_reducible refine Cm.e_nil ?_) | (with_reducible refine Cm.e_cons ?_) | (with_reducible refine Cm.e_tup ?_) | (with_reducible refine Cm.e_lst ?_) | (with_reducible refine Cm.e_cb ?_) | (with_reducible refine Cm.e_call ?_) | (with_reducible refine Cm.e_if ?_)
  | (with_reducible refine Cm.e_andV ?_) | (with_reducible refine Cm.e_orV ?_) | (with_reducible refine Cm.e_notV ?_) | (with_reducible refine Cm.e_fld0 ?_) | (with_reducible refine Cm.e_meth0 ?_) | (with_reducible refine Cm.e_bm0 ?_) | (with_reducible refine Cm.e_bm ?_) | (with_reducible refine Cm.e_sl ?_) | (with_reducible refine Cm.o_none ?_) | (with_reducible refine Cm.o_some ?_) | (with_reducible refine Cm.e_dnew ?_)
  | (with_reducible refine Cm.e_test ?_) | (with_reducible refine Cm.e_tr ?_) | (with_reducible refine Cm.e_and ?_) | (with_reducible refine Cm.e_or ?_) | (with_reducible refine Cm.e_not ?_) | (with_reducible refine Cm.e_yes ?_) | (with_reducible refine Cm.e_chain ?_)
  | (with_reducible refine Cm.r_i0 ?_) | (with_reducible refine Cm.r_u ?_) | (with_reducible refine Cm.r_isNo ?_) | (with_reducible refine Cm.r_notNo ?_) | (with_reducible refine Cm.r_addI ?_) | (with_reducible refine Cm.r_int1b ?_) | (with_reducible refine Cm.r_max2 ?_)
  | ((with_reducible refine Cm.r_i ?hc ?_); (case hc => walk_at "num"))
  | ((with_reducible refine Cm.r_mulI ?hc ?_); (case hc => walk_at "num"))
  | ((with_reducible refine Cm.r_eqS ?hc ?_); (case hc => exact rfl))
  | ((with_reducible refine Cm.r_neS ?hc ?_); (case hc => exact rfl))
  | ((with_reducible refine' Cm.r_ixl ?h1 ?h2 ?_); (case h1 => walk_at "look"); (case h2 => walk_at "at"))
  | ((with_reducible refine' Cm.r_ixt ?h1 ?h2 ?_); (case h1 => walk_at "look"); (case h2 => walk_at "at"))
  | ((with_reducible refine' Cm.r_ixT ?h1 ?h2 ?_); (case h1 => walk_at "lookT"); (case h2 => walk_at "at"))
  | ((with_reducible refine' Cm.r_ixds ?h1 ?h2 ?_); (case h1 => walk_at "look"); (case h2 => walk_at "key"))
  | ((with_reducible refine' Cm.r_eqe ?h1 ?h2 ?_); (case h1 => walk_at "look"); (case h2 => walk_at "look"))
  | ((with_reducible refine' Cm.r_nee ?h1 ?h2 ?_); (case h1 => walk_at "look"); (case h2 => walk_at "look"))
  | ((with_reducible refine' Cm.r_lenl ?h1 ?_); (case h1 => walk_at "look"))
  | ((with_reducible refine' Cm.r_lent ?h1 ?_); (case h1 => walk_at "look"))
  | ((with_reducible refine' Cm.r_lenT ?h1 ?_); (case h1 => walk_at "lookT"))
  | ((with_reducible refine' Cm.r_listl ?h1 ?_); (case h1 => walk_at "look"); (intro _ _))
  | ((with_reducible refine' Cm.r_tupl ?h1 ?_); (case h1 => walk_at "look"); (intro _ _))
  | ((with_reducible refine' Cm.r_addL ?h1 ?h2 ?h3 ?_); (case h1 => walk_at "look"); (case h2 => walk_at "look"); (case h3 => walk_at "size"); (intro _ _))
  | ((with_reducible refine' Cm.m_append ?h1 ?h2 ?_); (case h1 => walk_at "look"); (case h2 => walk_at "size"))
  | ((with_reducible refine' Cm.m_clear ?h1 ?_); (case h1 => walk_at "look"))
  | ((with_reducible refine' Cm.g_setL ?h1 ?h2 ?_); (case h1 => walk_at "look"); (case h2 => walk_at "ix"))
  | ((with_reducible refine' Cm.g_setDs ?h1 ?h2 ?h3 ?_); (case h1 => walk_at "look"); (case h2 => walk_at "size"); (case h3 => walk_at "put"))
  | ((with_reducible refine' Cm.fld_at ?h1 ?h2 ?h3 ?h4 ?_); (case h1 => walk_at "look"); (case h2 => assumption); (case h3 => assumption); (case h4 => walk_at "key"))
  | ((with_reducible refine' Cm.fldset_at ?h1 ?h2 ?h3 ?h4 ?h5 ?_); (case h1 => walk_at "look"); (case h2 => assumption); (case h3 => assumption); (case h4 => walk_at "size"); (case h5 => walk_at "put"))
  | (with_reducible refine Cm.s_fldaug0 ?_)
  | ((with_reducible refine' Cm.aug_at ?h1 ?h2 ?h3 ?h4 ?_); (case h1 => walk_at "look"); (case h2 => assumption); (case h3 => assumption); (case h4 => walk_at "key"))
  | ((with_reducible refine' Cm.augset_at ?h1 ?h4 ?h5 ?_); (case h1 => walk_at "look"); (case h4 => walk_at "size"); (case h5 => walk_at "put"))
  | (with_reducible refine Cm.in_sub_at ?_) | (with_reducible refine Cm.in_add_at ?_)
  | ((with_reducible refine' Cm.meth_at ?h1 ?h2 ?_); (case h1 => walk_at "look"); (case h2 => walk_at "key"))
  | ((with_reducible refine Cm.new_at ?h1 ?_); (case h1 => walk_at "size"); (intro _ _))
  | ((with_reducible refine Cm.and_at (A := L2.tyV _ _ _ _) ?h1 ?_); (case h1 => exact Cm.ty_lst (by walk_at "look")))
  | ((with_reducible refine' Cm.g_tupt ?h1 ?h2 ?_); (case h1 => walk_at "look"); (case h2 => exact rfl))
  | ((with_reducible refine' Cm.g_tup ?h1 ?h2 ?_); (case h1 => walk_at "lookT"); (case h2 => exact rfl))
  | (with_reducible refine Cm.g_name ?_) | (with_reducible refine Cm.g_sub ?_) | (with_reducible refine Cm.g_cons ?_) | (with_reducible refine Cm.g_nil ?_)
  | (with_reducible refine Cm.int_at ?_) | (with_reducible refine Cm.bl_at ?_) | (with_reducible refine Cm.tr_bl ?_) | (with_reducible refine Cm.tr_non ?_)
  | ((with_reducible refine' Cm.m_pop0 ?h1 ?_); (case h1 => walk_at "look"))
  | ((with_reducible refine' Cm.r_slTo ?h1 ?h2 ?_); (case h1 => walk_at "look"); (case h2 => walk_at "num2"); (intro _ _))
  | ((with_reducible refine' Cm.r_slFrom ?h1 ?h2 ?_); (case h1 => walk_at "look"); (case h2 => walk_at "num2"); (intro _ _))
  | ((with_reducible refine' Cm.at_forL ?h1 ?_); (case h1 => walk_at "look"))
  | ((with_reducible refine' Cm.at_forT ?h1 ?_); (case h1 => walk_at "look"))
  | ((with_reducible refine' Cm.at_forR ?h1 ?h2 ?_); (case h1 => walk_at "num2"); (case h2 => walk_at "num2"))
  | ((with_reducible refine' Cm.at_forZ ?h1 ?h2 ?_); (case h1 => walk_at "look"); (case h2 => walk_at "look"))
  | (with_reducible refine Cm.s_forZ ?_) | (with_reducible refine Cm.s_forR ?_)
  | ((with_reducible refine Cm.and_at (A := _ = _) ?h1 ?_); (case h1 => exact rfl))
  | ((with_reducible show L2.rIsi _ _ _ _); walk_at "isi")
  | (with_reducible refine Cm.ite_nt ?_) | (with_reducible refine Cm.ite_nf ?_)
  | (with_reducible refine L2.iteT ?_) | (with_reducible refine L2.iteF ?_)
  | dsimp only
  | fail)
local macro_rules | `(tactic| walk_at "run") => `(tactic| repeat (walk_at "st"))
local macro_rules | `(tactic| walk_at "num") => `(tactic| first
  | exact Or.inr ⟨by decide, by decide⟩ | exact Or.inl ⟨by decide, by decide⟩
  | exact Cm.wdiv (by first | decide | omega) (by first | decide | omega)
  | (show (0 : Int) < _; first | decide | omega)
  | exact ⟨by decide, by decide, by decide⟩
  | fail)
local macro_rules | `(tactic| walk_at "put") => `(tactic| exact rfl)
local macro_rules | `(tactic| walk_at "fl") => `(tactic| first | exact Cm.fl0 | (refine' Cm.flS ?hz; (case hz => walk_at "fl")) | fail)
local macro_rules | `(tactic| walk_at "size") => `(tactic| first | exact Cm.sz_lit rfl | exact Cm.sz_lt rfl | exact Cm.fs_lt rfl | decide | (refine' Nat.lt_of_le_of_lt ?ha ?hb; (case ha => walk_at "fl"); (case hb => decide)) | (simp only [List.length_cons, List.length_nil, List.length_append, List.length_map, List.length_set, List.length_replicate, PySem.sizeLine_eq]; omega) | (simp only [List.length_cons, List.length_nil, List.length_append, List.length_map, List.length_set, List.length_replicate, PySem.sizeLine_eq] at *; omega) | fail)
local macro_rules | `(tactic| walk_at "at") => `(tactic| first | assumption | (with_reducible exact Cm.at0) | (with_reducible exact Cm.at1) | (with_reducible exact Cm.at2) | (with_reducible exact Cm.at3) | (with_reducible exact Cm.at4) | (with_reducible exact Cm.at5) | (with_reducible exact Cm.at6) | (with_reducible exact Cm.at7) | (with_reducible exact Cm.at8) | (with_reducible exact Cm.at0s) | (with_reducible exact Cm.at1s) | (with_reducible exact Cm.at01s) | (with_reducible exact Cm.at10s) | fail)
local macro_rules | `(tactic| walk_at "ix") => `(tactic| first | exact Cm.ix0 (by walk_at "size") | exact Cm.ix1 (by walk_at "size") | assumption | fail)
local macro_rules | `(tactic| walk_at "key") => `(tactic| first | assumption | fail)
local macro_rules | `(tactic| walk_at "ne") => `(tactic| first
  | assumption
  | (refine Ne.symm ?_; assumption)
  | (refine' L2.ne_of_none ?h1 ?h2; (case h2 => assumption); (case h1 => walk_at "look"))
  | (refine' Ne.symm (L2.ne_of_none ?h1 ?h2); (case h2 => assumption); (case h1 => walk_at "look"))
  | fail)
local macro_rules | `(tactic| walk_at "lookT") => `(tactic| first
  | assumption
  | exact L2.SqT.of (by walk_at "look")
  | fail)
local macro_rules | `(tactic| walk_at "look") => `(tactic| first
  | assumption
  | exact L2.upd_same
  | ((fail_if_success (with_reducible refine Eq.trans L2.upd_same ?_)); (refine' Eq.trans (L2.upd_ne ?h1) ?h2); (case h1 => walk_at "ne"); (case h2 => walk_at "look"))
  | (refine' Cm.kp_look ?h1 ?h2 ?h3 ?h4; (case h1 => assumption); (case h2 => walk_at "look"); (case h3 => intro _ z; cases z); (case h4 => first | exact Or.inl rfl | exact Or.inr (by walk_at "out")))
  | fail)
local macro_rules | `(tactic| walk_at "out") => `(tactic| first
  | assumption
  | exact fun z => z
  | exact fun z => z.elim (fun e => absurd e (by walk_at "ne")) (fun e => absurd e (by walk_at "ne"))
  | exact fun e => absurd e (by walk_at "ne")
  | fail)
local macro_rules | `(tactic| walk_at "dom") => `(tactic| first
  | exact Cm.dm_refl
  | (refine Cm.dm_upd ?_; walk_at "dom")
  | (refine' Cm.dm_kp ?h1 ?h2; (case h2 => assumption); (case h1 => walk_at "dom"))
  | fail)
local macro_rules | `(tactic| walk_at "free") => `(tactic| first
  | assumption
  | exact Cm.nw_of (by assumption)
  | (refine' Cm.dm_use ?h1 ?h2; (case h2 => assumption); (case h1 => walk_at "dom"))
  | (refine' Cm.dm_use2 ?h1 ?h2; (case h2 => assumption); (case h1 => walk_at "dom"))
  | fail)
local macro_rules | `(tactic| walk_at "in") => `(tactic| first
  | exact Or.inl rfl | exact Or.inl (Or.inl rfl) | exact Or.inl (Or.inr rfl) | exact Or.inl (Or.inr (Or.inl rfl)) | exact Or.inl (Or.inr (Or.inr rfl))
  | exact Or.inl (by assumption)
  | exact Or.inr (by walk_at "free")
  | fail)
local macro_rules | `(tactic| walk_at "kp") => `(tactic| first
  | assumption
  | exact Cm.Kp.refl
  | (refine' Cm.Kp.new' ?h1 ?h2; (case h2 => assumption); (case h1 => walk_at "kp"))
  | (refine' Cm.Kp.setL' ?h1 ?h2 ?h3; (case h2 => walk_at "look"); (case h3 => walk_at "in"); (case h1 => walk_at "kp"))
  | (refine' Cm.Kp.setI' ?h1 ?h2 ?h3; (case h2 => walk_at "look"); (case h3 => walk_at "in"); (case h1 => walk_at "kp"))
  | (refine' Cm.Kp.setD' ?h1 ?h2 ?h3; (case h2 => walk_at "look"); (case h3 => walk_at "in"); (case h1 => walk_at "kp"))
  | (refine' Cm.kp_step ?h1 ?h2 ?h3; (case h2 => assumption); (case h3 => walk_at "sub"); (case h1 => walk_at "kp"))
  | fail)
local macro_rules | `(tactic| walk_at "sub") => `(tactic| first
  | exact fun _ z => z.elim
  | exact fun _ z => Or.inl z
  | (intro a z; rcases z with rfl | rfl <;> walk_at "in")
  | (intro a z; subst z; walk_at "in")
  | fail)
local macro_rules | `(tactic| walk_at "num2") => `(tactic| first | decide | omega | fail)

local macro_rules | `(tactic| walk_at "isi") => `(tactic| first | (with_reducible refine Cm.isi_non_bool ?_) | (with_reducible refine Cm.isi_non_int ?_) | (with_reducible refine Cm.isi_non_str ?_) | (with_reducible refine Cm.isi_non_tuple ?_) | (with_reducible refine Cm.isi_non_list ?_) | (with_reducible refine Cm.isi_bl_bool ?_) | (with_reducible refine Cm.isi_bl_int ?_) | (with_reducible refine Cm.isi_bl_str ?_) | (with_reducible refine Cm.isi_bl_tuple ?_) | (with_reducible refine Cm.isi_bl_list ?_) | (with_reducible refine Cm.isi_int_bool ?_) | (with_reducible refine Cm.isi_int_int ?_) | (with_reducible refine Cm.isi_int_str ?_) | (with_reducible refine Cm.isi_int_tuple ?_) | (with_reducible refine Cm.isi_int_list ?_) | (with_reducible refine Cm.isi_str_bool ?_) | (with_reducible refine Cm.isi_str_int ?_) | (with_reducible refine Cm.isi_str_str ?_) | (with_reducible refine Cm.isi_str_tuple ?_) | (with_reducible refine Cm.isi_str_list ?_) | ((with_reducible refine' Cm.isi_tup_bool ?h1 ?_); (case h1 => walk_at "look")) | ((with_reducible refine' Cm.isi_tup_int ?h1 ?_); (case h1 => walk_at "look")) | ((with_reducible refine' Cm.isi_tup_str ?h1 ?_); (case h1 => walk_at "look")) | ((with_reducible refine' Cm.isi_tup_tuple ?h1 ?_); (case h1 => walk_at "look")) | ((with_reducible refine' Cm.isi_tup_list ?h1 ?_); (case h1 => walk_at "look")) | ((with_reducible refine' Cm.isi_lst_bool ?h1 ?_); (case h1 => walk_at "look")) | ((with_reducible refine' Cm.isi_lst_int ?h1 ?_); (case h1 => walk_at "look")) | ((with_reducible refine' Cm.isi_lst_str ?h1 ?_); (case h1 => walk_at "look")) | ((with_reducible refine' Cm.isi_lst_tuple ?h1 ?_); (case h1 => walk_at "look")) | ((with_reducible refine' Cm.isi_lst_list ?h1 ?_); (case h1 => walk_at "look")) | fail)

local macro_rules | `(tactic| walk_at "key") => `(tactic| first | exact W.dF_g_blocks | exact W.dF_g_pending | exact W.dF_g_left | exact W.dF_g_picks | exact W.dF_g_fallen | exact W.dF_n_need_block | exact W.dF_n_count | exact W.dF_n_write | exact W.dF_n_settle | exact W.dF_n_read | exact W.dF_n_arm | exact W.dF_n_stop | exact W.dF_n_again | exact W.dF_n_settled)
local macro_rules | `(tactic| walk_at "put") => `(tactic| first | exact W.dF_p_blocks | exact W.dF_p_pending | exact W.dF_p_left | exact W.dF_p_picks | exact W.dF_p_fallen)
local macro_rules | `(tactic| walk_at "size") => `(tactic| (rw [W.dF_len]; decide))

namespace W
open PySem PySem.Spec PyProof.Rows L2 Cm
section
variable {w : World} {K : PySem.W.Frag} {mg : Str → Option Value}
theorem cnt_pend {S : DS} (h : S.cnt.1 = true) : S.cnt.2.pending = S.pending := by
  unfold DS.cnt at *
  split at h
  · cases h
  · split at h
    · cases h
    · rename_i h1 h2
      rw [if_neg h1, if_neg h2]
theorem pure_Disk_write (T : Tx w K mg) (vs : List V) (H : Hp) (Q : VK) (E : XK) (h : S_Disk_write K vs H Q E) : t_Disk_write K E { nx := fun _ H' => Q .non H', rt := Q } (start N_Disk_write vs) H := by
  obtain ⟨_, _, v, rfl, p, S, F, i, d, rfl, rfl, DA, hv, hd, hlen, k1, k2, k3⟩ := h
  obtain ⟨dx, b, n, kk, bs, ns, h1, h2, d2, h3, d3, h4, ⟨ne1, ne2, ne3⟩, o, f⟩ := id DA
  have c := T.c_Disk
  have a2 := T.a_Disk_pending
  unfold t_Disk_write
  walk_at "run"
  refine ⟨_, _, rfl, i, rfl, fun hi => ?_, fun hi => k1 (fun z => hi z.1) H Kp.refl⟩
  walk_at "run"
  refine ⟨_, rfl, d, hv, hd, fun H1 kp1 => ?_⟩
  walk_at "run"
  refine if_d (fun hw => ?_) (fun hw => ?_)
  · walk_at "run"
    exact k1 (fun z => by omega) H1 kp1
  · walk_at "run"
    have D1 : DiskAt K H1 p S F := DA.keep kp1 (fun a _ z => z)
    have g1 := kp1.ins h1 (fun z => z)
    walk_at "run"
    refine ⟨_, rfl, p, S, F, rfl, D1, fun hc H2 F2 D2 st2 => ?_, fun hc H2 F2 D2 st2 => k3 ⟨hi, by omega⟩ hc H2 F2 D2 (st2.pre kp1)⟩
    have st := st2.pre kp1
    have hv2 := Dt.keep st.kp hd hv
    obtain ⟨dx', b', n', kk', bs', ns', h1', h2', d2', h3', d3', h4', ⟨ne1', ne2', ne3'⟩, o', f'⟩ := D2
    have hl' : ns'.length ≤ 1000 := by
      rw [d3'.length, List.length_map, cnt_pend hc]; exact hlen
    have fn' : F2 n' := (f' n').mpr (.inr (.inr (.inl rfl)))
    walk_at "run"
    rename_i t ht
    have e1 : p ≠ n' := ne_of h1' h3' (fun z => nomatch z)
    have kn : Kp (tabs K) F2 H2 (upd (upd H2 t (.tup [.int i, v])) n' (.lst (ns' ++ [.ref t]))) := by walk_at "kp"
    refine k2 ⟨hi, by omega⟩ hc _ F2 ⟨dx', b', n', kk', bs', ns' ++ [.ref t], by walk_at "look", by walk_at "look", d2'.keep kn o'.bl, by walk_at "look", ?_, by walk_at "look", ⟨ne1', ne2', ne3'⟩, ⟨o'.len, o'.bl, fun q hq => ?_⟩, f'⟩ (st.trans ⟨kn, fun a ha => .inl ha⟩)
    · show DtA _ _ ((S.cnt.2.pending ++ [(i, d)]).map pr)
      rw [List.map_append]
      refine (d3'.keep kn o'.prs).snoc ⟨t, [.int i, v], rfl, by walk_at "look", .cons rfl (.cons (Dt.keep kn hd hv2) .nil)⟩
    · rcases List.mem_append.mp hq with hq | hq
      · exact o'.pe q hq
      · rw [List.mem_singleton.mp hq]; exact ⟨hi.1, hi.2, hd⟩
theorem pure_Disk_settle (T : Tx w K mg) (vs : List V) (H : Hp) (Q : VK) (E : XK) (h : S_Disk_settle K vs H Q E) : t_Disk_settle K E { nx := fun _ H' => Q .non H', rt := Q } (start N_Disk_settle vs) H := by
  obtain ⟨_, rfl, p, S, F, rfl, DA, k1, k2⟩ := h
  obtain ⟨dx, b, n, kk, bs, ns, h1, h2, d2, h3, d3, h4, ⟨ne1, ne2, ne3⟩, o, f⟩ := id DA
  have c := T.c_Disk
  have a1 := T.a_Disk_blocks
  have a2 := T.a_Disk_pending
  unfold t_Disk_settle
  walk_at "run"
  refine ⟨_, rfl, p, S, F, rfl, DA, fun hc H2 F2 D2 st2 => ?_, fun hc H2 F2 D2 st2 => k2 hc H2 F2 D2 st2⟩
  clear h1 h2 h3 h4 d2 d3 ne1 ne2 ne3 o f
  obtain ⟨dx, b, n, kk, bs, ns, h1, h2, d2, h3, d3, h4, ⟨ne1, ne2, ne3⟩, o, f⟩ := D2
  have hS := k1 hc
  revert hS h1 d2 d3 h4 o
  generalize S.cnt.2 = S2
  intro h1 d2 d3 h4 o k
  have fp : F2 p := (f p).mpr (.inl rfl)
  have fb : F2 b := (f b).mpr (.inr (.inl rfl))
  have epb : p ≠ b := ne_of h1 h2 (fun z => nomatch z)
  have epn : p ≠ n := ne_of h1 h3 (fun z => nomatch z)
  have epk : p ≠ kk := ne_of h1 h4 (fun z => nomatch z)
  walk_at "run"
  refine s_forL ?_
  walk_at "run"
  refine forL (xs := ns) (fun i σ' H' => ∃ v1 v2 bs', σ' = [some (.ref p), v1, v2] ∧ Kp (tabs K) F2 H2 H' ∧ H' p = some (.ins (He.ga K "Disk") dx (dF b n (lv S2.left) kk S2.fallen)) ∧ H' b = some (.lst bs') ∧
    DtA H' bs' ((S2.pending.take i).foldl apl S2.blocks) ∧ H' n = some (.lst ns) ∧ H' kk = some (.lst (S2.picks.map V.bl))) ⟨none, none, bs, rfl, Kp.refl, h1, h2, d2, h3, h4⟩ (fun i σ' H' ⟨_, _, _, _, _, _, _, _, z, _⟩ => z) ?_ ?_
  · rintro i x σ' H' hx ⟨v1, v2, bs', rfl, kp, g1, g2, gd, g3, g4⟩
    obtain ⟨qq, t2, v, hqq, rfl, ht2, hv⟩ := pr_get d3 hx
    have hok := o.pe qq (List.mem_of_getElem? hqq)
    have ht3 := kp.tup ht2
    have fo := apls_ok (qs := S2.pending.take i) o.bl fun q hq => (o.pe q (List.mem_of_mem_take hq)).2.2
    have hlen : bs'.length = 35 := gd.length.trans (fo.2.trans o.len)
    have hix : ixN bs'.length qq.1 = some qq.1.toNat := ix_nat hok.1 (by rw [hlen]; exact hok.2.1)
    have et : S2.pending.take (i + 1) = S2.pending.take i ++ [qq] := by rw [List.take_add_one, hqq]; rfl
    walk_at "run"
    have kb : Kp (tabs K) (fun a => a = b) H' (upd H' b (.lst (bs'.set qq.1.toNat v))) := Kp.setL g2 rfl
    have kn : Kp (tabs K) F2 H2 (upd H' b (.lst (bs'.set qq.1.toNat v))) := by walk_at "kp"
    refine ⟨_, _, _, rfl, kn, by walk_at "look", by walk_at "look", ?_, by walk_at "look", by walk_at "look"⟩
    rw [et, List.foldl_append]
    exact (gd.keep kb fo.1).set (Dt.keep kn hok.2.2 hv)
  · rintro σ' H' ⟨v1, v2, bs', rfl, kp, g1, g2, gd, g3, g4⟩
    rw [d3.length, List.length_map, List.take_length] at gd
    walk_at "run"
    rename_i m hm
    have ok' := o.stl
    have kb : Kp (tabs K) (fun a => a = p) H' (upd (upd H' m (.lst [])) p (.ins (He.ga K "Disk") dx (dF b m (lv S2.left) kk S2.fallen))) := by walk_at "kp"
    have kn : Kp (tabs K) F2 H2 (upd (upd H' m (.lst [])) p (.ins (He.ga K "Disk") dx (dF b m (lv S2.left) kk S2.fallen))) := by walk_at "kp"
    have e1 : b ≠ m := by walk_at "ne"
    have e2 : m ≠ kk := by walk_at "ne"
    refine k _ (fun a => a = p ∨ a = b ∨ a = m ∨ a = kk) ⟨dx, b, m, kk, bs', [], by walk_at "look", by walk_at "look", gd.keep kb ok'.bl, by walk_at "look", rfl, by walk_at "look", ⟨e1, ne2, e2⟩, ok', fun a => Iff.rfl⟩ (st2.trans ⟨kn, fun a ha => ?_⟩)
    rcases ha with rfl | rfl | rfl | rfl
    · exact .inl fp
    · exact .inl fb
    · exact .inr (by walk_at "free")
    · exact .inl ((f _).mpr (.inr (.inr (.inr rfl))))
end
end W

end
section
/-! ### M0: words for walking through a reading (local) -/
local macro_rules | `(tactic| walk_at "st") => `(tactic| first
  | (with_reducible refine Cm.s_seq ?_) | (with_reducible refine Cm.s_asg ?_) | (with_reducible refine Cm.s_drop ?_) | (with_reducible refine Cm.s_ret ?_) | (with_reducible refine Cm.s_if ?_) | (with_reducible refine Cm.s_next ?_) | (with_reducible refine Cm.s_retN ?_) | (with_reducible refine Cm.s_rs ?_) | (with_reducible refine Cm.s_fld0 ?_)
  | ((with_reducible refine' Cm.e_var ?hv ?_); (case hv => exact rfl))
  | (with_reducible refine Cm.e_c ?_) | (with_reducible refine Cm.e_op ?_) | (with_reducible refine Cm.e_un ?_) | (with_reducible refine Cm.e_nil ?_) | (with_reducible refine Cm.e_cons ?_) | (with_reducible refine Cm.e_tup ?_) | (with_reducible refine Cm.e_lst ?_) | (with_reducible refine Cm.e_cb ?_) | (with_reducible refine Cm.e_call ?_) | (with_reducible refine Cm.e_if ?_)
  | (with_reducible refine Cm.e_andV ?_) | (with_reducible refine Cm.e_orV ?_) | (with_reducible refine Cm.e_notV ?_) | (with_reducible refine Cm.e_fld0 ?_) | (with_reducible refine Cm.e_meth0 ?_) | (with_reducible refine Cm.e_bm0 ?_) | (with_reducible refine Cm.e_bm ?_) | (with_reducible refine Cm.e_sl ?_) | (with_reducible refine Cm.o_none ?_) | (with_reducible refine Cm.o_some ?_) | (with_reducible refine Cm.e_dnew ?_)
  | (with_reducible refine Cm.e_test ?_) | (with_reducible refine Cm.e_tr ?_) | (with_reducible refine Cm.e_and ?_) | (with_reducible refine Cm.e_or ?_) | (with_reducible refine Cm.e_not ?_) | (with_reducible refine Cm.e_yes ?_) | (with_reducible refine Cm.e_chain ?_)
  | (with_reducible refine Cm.r_i0 ?_) | (with_reducible refine Cm.r_u ?_) | (with_reducible refine Cm.r_isNo ?_) | (with_reducible refine Cm.r_notNo ?_) | (with_reducible refine Cm.r_addI ?_) | (with_reducible refine Cm.r_int1b ?_) | (with_reducible refine Cm.r_max2 ?_)
  | ((with_reducible refine Cm.r_i ?hc ?_); (case hc => walk_at "num"))
  | ((with_reducible refine Cm.r_mulI ?hc ?_); (case hc => walk_at "num"))
  | ((with_reducible refine Cm.r_eqS ?hc ?_); (case hc => exact rfl))
  | ((with_reducible refine Cm.r_neS ?hc ?_); (case hc => exact rfl))
  | ((with_reducible refine' Cm.r_ixl ?h1 ?h2 ?_); (case h1 => walk_at "look"); (case h2 => walk_at "at"))
  | ((with_reducible refine' Cm.r_ixt ?h1 ?h2 ?_); (case h1 => walk_at "look"); (case h2 => walk_at "at"))
  | ((with_reducible refine' Cm.r_ixT ?h1 ?h2 ?_); (case h1 => walk_at "lookT"); (case h2 => walk_at "at"))
  | ((with_reducible refine' Cm.r_ixds ?h1 ?h2 ?_); (case h1 => walk_at "look"); (case h2 => walk_at "key"))
  | ((with_reducible refine' Cm.r_eqe ?h1 ?h2 ?_); (case h1 => walk_at "look"); (case h2 => walk_at "look"))
  | ((with_reducible refine' Cm.r_nee ?h1 ?h2 ?_); (case h1 => walk_at "look"); (case h2 => walk_at "look"))
  | ((with_reducible refine' Cm.r_lenl ?h1 ?_); (case h1 => walk_at "look"))
  | ((with_reducible refine' Cm.r_lent ?h1 ?_); (case h1 => walk_at "look"))
  | ((with_reducible refine' Cm.r_lenT ?h1 ?_); (case h1 => walk_at "lookT"))
  | ((with_reducible refine' Cm.r_listl ?h1 ?_); (case h1 => walk_at "look"); (intro _ _))
  | ((with_reducible refine' Cm.r_tupl ?h1 ?_); (case h1 => walk_at "look"); (intro _ _))
  | ((with_reducible refine' Cm.r_addL ?h1 ?h2 ?h3 ?_); (case h1 => walk_at "look"); (case h2 => walk_at "look"); (case h3 => walk_at "size"); (intro _ _))
  | ((with_reducible refine' Cm.m_append ?h1 ?h2 ?_); (case h1 => walk_at "look"); (case h2 => walk_at "size"))
  | ((with_reducible refine' Cm.m_clear ?h1 ?_); (case h1 => walk_at "look"))
  | ((with_reducible refine' Cm.g_setL ?h1 ?h2 ?_); (case h1 => walk_at "look"); (case h2 => walk_at "ix"))
  | ((with_reducible refine' Cm.g_setDs ?h1 ?h2 ?h3 ?_); (case h1 => walk_at "look"); (case h2 => walk_at "size"); (case h3 => walk_at "put"))
  | ((with_reducible refine' Cm.fld_at ?h1 ?h2 ?h3 ?h4 ?_); (case h1 => walk_at "look"); (case h2 => assumption); (case h3 => assumption); (case h4 => walk_at "key"))
  | ((with_reducible refine' Cm.fldset_at ?h1 ?h2 ?h3 ?h4 ?h5 ?_); (case h1 => walk_at "look"); (case h2 => assumption); (case h3 => assumption); (case h4 => walk_at "size"); (case h5 => walk_at "put"))
  | (with_reducible refine Cm.s_fldaug0 ?_)
  | ((with_reducible refine' Cm.aug_at ?h1 ?h2 ?h3 ?h4 ?_); (case h1 => walk_at "look"); (case h2 => assumption); (case h3 => assumption); (case h4 => walk_at "key"))
  | ((with_reducible refine' Cm.augset_at ?h1 ?h4 ?h5 ?_); (case h1 => walk_at "look"); (case h4 => walk_at "size"); (case h5 => walk_at "put"))
  | (with_reducible refine Cm.in_sub_at ?_) | (with_reducible refine Cm.in_add_at ?_)
  | ((with_reducible refine' Cm.meth_at ?h1 ?h2 ?_); (case h1 => walk_at "look"); (case h2 => walk_at "key"))
  | ((with_reducible refine Cm.new_at ?h1 ?_); (case h1 => walk_at "size"); (intro _ _))
  | ((with_reducible refine Cm.and_at (A := L2.tyV _ _ _ _) ?h1 ?_); (case h1 => exact Cm.ty_lst (by walk_at "look")))
  | ((with_reducible refine' Cm.g_tupt ?h1 ?h2 ?_); (case h1 => walk_at "look"); (case h2 => exact rfl))
  | ((with_reducible refine' Cm.g_tup ?h1 ?h2 ?_); (case h1 => walk_at "lookT"); (case h2 => exact rfl))
  | (with_reducible refine Cm.g_name ?_) | (with_reducible refine Cm.g_sub ?_) | (with_reducible refine Cm.g_cons ?_) | (with_reducible refine Cm.g_nil ?_)
  | (with_reducible refine Cm.int_at ?_) | (with_reducible refine Cm.bl_at ?_) | (with_reducible refine Cm.tr_bl ?_) | (with_reducible refine Cm.tr_non ?_)
  | ((with_reducible refine' Cm.m_pop0 ?h1 ?_); (case h1 => walk_at "look"))
  | ((with_reducible refine' Cm.r_slTo ?h1 ?h2 ?_); (case h1 => walk_at "look"); (case h2 => walk_at "num2"); (intro _ _))
  | ((with_reducible refine' Cm.r_slFrom ?h1 ?h2 ?_); (case h1 => walk_at "look"); (case h2 => walk_at "num2"); (intro _ _))
  | ((with_reducible refine' Cm.at_forL ?h1 ?_); (case h1 => walk_at "look"))
  | ((with_reducible refine' Cm.at_forT ?h1 ?_); (case h1 => walk_at "look"))
  | ((with_reducible refine' Cm.at_forR ?h1 ?h2 ?_); (case h1 => walk_at "num2"); (case h2 => walk_at "num2"))
  | ((with_reducible refine' Cm.at_forZ ?h1 ?h2 ?_); (case h1 => walk_at "look"); (case h2 => walk_at "look"))
  | (with_reducible refine Cm.s_forZ ?_) | (with_reducible refine Cm.s_forR ?_)
  | ((with_reducible refine Cm.and_at (A := _ = _) ?h1 ?_); (case h1 => exact rfl))
  | ((with_reducible show L2.rIsi _ _ _ _); walk_at "isi")
  | (with_reducible refine Cm.ite_nt ?_) | (with_reducible refine Cm.ite_nf ?_)
  | (with_reducible refine L2.iteT ?_) | (with_reducible refine L2.iteF ?_)
  | dsimp only
  | fail)
local macro_rules | `(tactic| walk_at "run") => `(tactic| repeat (walk_at "st"))
local macro_rules | `(tactic| walk_at "num") => `(tactic| first
  | exact Or.inr ⟨by decide, by decide⟩ | exact Or.inl ⟨by decide, by decide⟩
  | exact Cm.wdiv (by first | decide | omega) (by first | decide | omega)
  | (show (0 : Int) < _; first | decide | omega)
  | exact ⟨by decide, by decide, by decide⟩
  | fail)
local macro_rules | `(tactic| walk_at "put") => `(tactic| exact rfl)
local macro_rules | `(tactic| walk_at "fl") => `(tactic| first | exact Cm.fl0 | (refine' Cm.flS ?hz; (case hz => walk_at "fl")) | fail)
local macro_rules | `(tactic| walk_at "size") => `(tactic| first | exact Cm.sz_lit rfl | exact Cm.sz_lt rfl | exact Cm.fs_lt rfl | decide | (refine' Nat.lt_of_le_of_lt ?ha ?hb; (case ha => walk_at "fl"); (case hb => decide)) | (simp only [List.length_cons, List.length_nil, List.length_append, List.length_map, List.length_set, List.length_replicate, PySem.sizeLine_eq]; omega) | (simp only [List.length_cons, List.length_nil, List.length_append, List.length_map, List.length_set, List.length_replicate, PySem.sizeLine_eq] at *; omega) | fail)
local macro_rules | `(tactic| walk_at "at") => `(tactic| first | assumption | (with_reducible exact Cm.at0) | (with_reducible exact Cm.at1) | (with_reducible exact Cm.at2) | (with_reducible exact Cm.at3) | (with_reducible exact Cm.at4) | (with_reducible exact Cm.at5) | (with_reducible exact Cm.at6) | (with_reducible exact Cm.at7) | (with_reducible exact Cm.at8) | (with_reducible exact Cm.at0s) | (with_reducible exact Cm.at1s) | (with_reducible exact Cm.at01s) | (with_reducible exact Cm.at10s) | fail)
local macro_rules | `(tactic| walk_at "ix") => `(tactic| first | exact Cm.ix0 (by walk_at "size") | exact Cm.ix1 (by walk_at "size") | assumption | fail)
local macro_rules | `(tactic| walk_at "key") => `(tactic| first | assumption | fail)
local macro_rules | `(tactic| walk_at "ne") => `(tactic| first
  | assumption
  | (refine Ne.symm ?_; assumption)
  | (refine' L2.ne_of_none ?h1 ?h2; (case h2 => assumption); (case h1 => walk_at "look"))
  | (refine' Ne.symm (L2.ne_of_none ?h1 ?h2); (case h2 => assumption); (case h1 => walk_at "look"))
  | fail)
local macro_rules | `(tactic| walk_at "lookT") => `(tactic| first
  | assumption
  | exact L2.SqT.of (by walk_at "look")
  | fail)
local macro_rules | `(tactic| walk_at "look") => `(tactic| first
  | assumption
  | exact L2.upd_same
  | ((fail_if_success (with_reducible refine Eq.trans L2.upd_same ?_)); (refine' Eq.trans (L2.upd_ne ?h1) ?h2); (case h1 => walk_at "ne"); (case h2 => walk_at "look"))
  | (refine' Cm.kp_look ?h1 ?h2 ?h3 ?h4; (case h1 => assumption); (case h2 => walk_at "look"); (case h3 => intro _ z; cases z); (case h4 => first | exact Or.inl rfl | exact Or.inr (by walk_at "out")))
  | fail)
local macro_rules | `(tactic| walk_at "out") => `(tactic| first
  | assumption
  | exact fun z => z
  | exact fun z => z.elim (fun e => absurd e (by walk_at "ne")) (fun e => absurd e (by walk_at "ne"))
  | exact fun e => absurd e (by walk_at "ne")
  | fail)
local macro_rules | `(tactic| walk_at "dom") => `(tactic| first
  | exact Cm.dm_refl
  | (refine Cm.dm_upd ?_; walk_at "dom")
  | (refine' Cm.dm_kp ?h1 ?h2; (case h2 => assumption); (case h1 => walk_at "dom"))
  | fail)
local macro_rules | `(tactic| walk_at "free") => `(tactic| first
  | assumption
  | exact Cm.nw_of (by assumption)
  | (refine' Cm.dm_use ?h1 ?h2; (case h2 => assumption); (case h1 => walk_at "dom"))
  | (refine' Cm.dm_use2 ?h1 ?h2; (case h2 => assumption); (case h1 => walk_at "dom"))
  | fail)
local macro_rules | `(tactic| walk_at "in") => `(tactic| first
  | exact Or.inl rfl | exact Or.inl (Or.inl rfl) | exact Or.inl (Or.inr rfl) | exact Or.inl (Or.inr (Or.inl rfl)) | exact Or.inl (Or.inr (Or.inr rfl))
  | exact Or.inl (by assumption)
  | exact Or.inr (by walk_at "free")
  | fail)
local macro_rules | `(tactic| walk_at "kp") => `(tactic| first
  | assumption
  | exact Cm.Kp.refl
  | (refine' Cm.Kp.new' ?h1 ?h2; (case h2 => assumption); (case h1 => walk_at "kp"))
  | (refine' Cm.Kp.setL' ?h1 ?h2 ?h3; (case h2 => walk_at "look"); (case h3 => walk_at "in"); (case h1 => walk_at "kp"))
  | (refine' Cm.Kp.setI' ?h1 ?h2 ?h3; (case h2 => walk_at "look"); (case h3 => walk_at "in"); (case h1 => walk_at "kp"))
  | (refine' Cm.Kp.setD' ?h1 ?h2 ?h3; (case h2 => walk_at "look"); (case h3 => walk_at "in"); (case h1 => walk_at "kp"))
  | (refine' Cm.kp_step ?h1 ?h2 ?h3; (case h2 => assumption); (case h3 => walk_at "sub"); (case h1 => walk_at "kp"))
  | fail)
local macro_rules | `(tactic| walk_at "sub") => `(tactic| first
  | exact fun _ z => z.elim
  | exact fun _ z => Or.inl z
  | (intro a z; rcases z with rfl | rfl <;> walk_at "in")
  | (intro a z; subst z; walk_at "in")
  | fail)
local macro_rules | `(tactic| walk_at "num2") => `(tactic| first | decide | omega | fail)

local macro_rules | `(tactic| walk_at "isi") => `(tactic| first | (with_reducible refine Cm.isi_non_bool ?_) | (with_reducible refine Cm.isi_non_int ?_) | (with_reducible refine Cm.isi_non_str ?_) | (with_reducible refine Cm.isi_non_tuple ?_) | (with_reducible refine Cm.isi_non_list ?_) | (with_reducible refine Cm.isi_bl_bool ?_) | (with_reducible refine Cm.isi_bl_int ?_) | (with_reducible refine Cm.isi_bl_str ?_) | (with_reducible refine Cm.isi_bl_tuple ?_) | (with_reducible refine Cm.isi_bl_list ?_) | (with_reducible refine Cm.isi_int_bool ?_) | (with_reducible refine Cm.isi_int_int ?_) | (with_reducible refine Cm.isi_int_str ?_) | (with_reducible refine Cm.isi_int_tuple ?_) | (with_reducible refine Cm.isi_int_list ?_) | (with_reducible refine Cm.isi_str_bool ?_) | (with_reducible refine Cm.isi_str_int ?_) | (with_reducible refine Cm.isi_str_str ?_) | (with_reducible refine Cm.isi_str_tuple ?_) | (with_reducible refine Cm.isi_str_list ?_) | ((with_reducible refine' Cm.isi_tup_bool ?h1 ?_); (case h1 => walk_at "look")) | ((with_reducible refine' Cm.isi_tup_int ?h1 ?_); (case h1 => walk_at "look")) | ((with_reducible refine' Cm.isi_tup_str ?h1 ?_); (case h1 => walk_at "look")) | ((with_reducible refine' Cm.isi_tup_tuple ?h1 ?_); (case h1 => walk_at "look")) | ((with_reducible refine' Cm.isi_tup_list ?h1 ?_); (case h1 => walk_at "look")) | ((with_reducible refine' Cm.isi_lst_bool ?h1 ?_); (case h1 => walk_at "look")) | ((with_reducible refine' Cm.isi_lst_int ?h1 ?_); (case h1 => walk_at "look")) | ((with_reducible refine' Cm.isi_lst_str ?h1 ?_); (case h1 => walk_at "look")) | ((with_reducible refine' Cm.isi_lst_tuple ?h1 ?_); (case h1 => walk_at "look")) | ((with_reducible refine' Cm.isi_lst_list ?h1 ?_); (case h1 => walk_at "look")) | fail)

local macro_rules | `(tactic| walk_at "key") => `(tactic| first | exact W.dF_g_blocks | exact W.dF_g_pending | exact W.dF_g_left | exact W.dF_g_picks | exact W.dF_g_fallen | exact W.dF_n_need_block | exact W.dF_n_count | exact W.dF_n_write | exact W.dF_n_settle | exact W.dF_n_read | exact W.dF_n_arm | exact W.dF_n_stop | exact W.dF_n_again | exact W.dF_n_settled)
local macro_rules | `(tactic| walk_at "put") => `(tactic| first | exact W.dF_p_blocks | exact W.dF_p_pending | exact W.dF_p_left | exact W.dF_p_picks | exact W.dF_p_fallen)
local macro_rules | `(tactic| walk_at "size") => `(tactic| (rw [W.dF_len]; decide))

namespace W
open PySem PySem.Spec PyProof.Rows L2 Cm
section
variable {w : World} {K : PySem.W.Frag} {mg : Str → Option Value}
def mat (S : DS) (i : Int) (m : Nat) : List PyData := (((S.pending.take m).filter fun q => decide (q.1 = i)).map (·.2))
theorem pure_Disk_read (T : Tx w K mg) (vs : List V) (H : Hp) (Q : VK) (E : XK) (h : S_Disk_read K vs H Q E) : t_Disk_read K E { nx := fun _ H' => Q .non H', rt := Q } (start N_Disk_read vs) H := by
  obtain ⟨_, _, rfl, p, S, F, i, rfl, rfl, DA, hpl, k1, k2, k3⟩ := h
  obtain ⟨dx, b, n, kk, bs, ns, h1, h2, d2, h3, d3, h4, ⟨ne1, ne2, ne3⟩, o, f⟩ := id DA
  have c := T.c_Disk
  have a1 := T.a_Disk_blocks
  have a2 := T.a_Disk_pending
  have a5 := T.a_Disk_fallen
  unfold t_Disk_read
  walk_at "run"
  refine ⟨_, _, rfl, i, rfl, fun hi => ?_, fun hi => k1 hi⟩
  walk_at "run"
  refine if_b (fun hf => ?_) (fun hf => ?_)
  · walk_at "run"
    exact k2 hi hf
  · have k := k3 hi hf
    walk_at "run"
    refine lcL ?_
    walk_at "run"
    intro Dl hD
    refine coreL (xs := ns) (fun m acc H' => Kp (tabs K) No H H' ∧ DtA H' acc (mat S i m)) ⟨Kp.new hD, rfl⟩ (fun i acc H' z => z.1.lst h3 (fun z => z)) (fun m x acc H' hx hm hl z e => ?_) (fun acc H' hl z e => ?_)
    · obtain ⟨kp, hacc⟩ := z
      obtain ⟨qq, t2, v, hqq, rfl, ht2, hv⟩ := pr_get d3 hx
      have hok := o.pe qq (List.mem_of_getElem? hqq)
      have ht3 := kp.tup ht2
      have mi : ∀ d ∈ mat S i m, Di 6 d := fun d hd => by
        obtain ⟨q, hq, rfl⟩ := List.mem_map.mp hd
        exact (o.pe q (List.mem_of_mem_take (List.mem_filter.mp hq).1)).2.2
      have em : mat S i (m + 1) = mat S i m ++ (if qq.1 = i then [qq.2] else []) := by
        unfold mat
        rw [List.take_add_one, hqq, List.filter_append, List.map_append]
        congr 1
        by_cases hh : qq.1 = i <;> simp [hh]
      unfold CStep
      walk_at "run"
      refine if_d (fun hq => ?_) (fun hq => ?_)
      · have hq : qq.1 = i := V.int.inj hq
        walk_at "run"
        refine c_put (by walk_at "look") hl (by rw [d3.length, List.length_map] at hm; omega) ⟨by walk_at "kp", ?_⟩
        rw [em, if_pos hq]
        have kn : Kp (tabs K) (fun a => a = Dl) H' (upd H' Dl (.lst (acc ++ [v]))) := by walk_at "kp"
        exact (hacc.keep kn mi).snoc (Dt.keep kn hok.2.2 (Dt.keep kp hok.2.2 hv))
      · refine c_skip (by walk_at "look") hl ⟨kp, ?_⟩
        rw [em, if_neg (fun z => hq (by rw [z])), List.append_nil]
        exact hacc
    · obtain ⟨kp, hacc⟩ := z
      have em : mat S i ns.length = ((S.pending.filter fun q => decide (q.1 = i)).map (·.2)) := by
        unfold mat
        rw [d3.length, List.length_map, List.take_length]
      rw [em] at hacc
      have er : S.rd i = ((((S.pending.filter fun q => decide (q.1 = i)).map (·.2)).getLast?).orElse fun _ => S.blocks[i.toNat]?).getD .none := rfl
      have mi : ∀ d ∈ ((S.pending.filter fun q => decide (q.1 = i)).map (·.2)), Di 6 d := fun d hd => by
        obtain ⟨q, hq, rfl⟩ := List.mem_map.mp hd
        exact (o.pe q (List.mem_filter.mp hq).1).2.2
      revert hacc er mi
      generalize ((S.pending.filter fun q => decide (q.1 = i)).map (·.2)) = ms
      intro hacc er mi
      have g1 := kp.ins h1 (fun z => z)
      have g2 := kp.lst h2 (fun z => z)
      walk_at "run"
      rename_i z hz
      refine if_b (fun he => ?_) (fun he => ?_)
      · rcases List.eq_nil_or_concat acc with e0 | ⟨acc', v, e0⟩
        · rw [e0] at he; cases he
        · rw [List.concat_eq_append] at e0
          subst e0
          have hla : atI (acc' ++ [v]) (-1) = some v := atI_last acc' v
          walk_at "run"
          refine k v _ ?_ (by walk_at "kp")
          obtain ⟨d, hd, hvd⟩ := hacc.get (i := acc'.length) (x := v) (by simp)
          have hl2 := hacc.length
          have eg : ms.getLast? = some d := by
            rw [List.getLast?_eq_getElem?, show ms.length - 1 = acc'.length by simp at hl2; omega]
            exact hd
          rw [er, eg]
          exact Dt.keep (T := tabs K) (S := No) (by walk_at "kp") (mi d (List.mem_of_getElem? hd)) hvd
      · have e0 : acc = [] := by cases acc with | nil => rfl | cons _ _ => cases he
        subst e0
        obtain rfl : ms = [] := by
          have q := hacc.length
          cases ms with | nil => rfl | cons _ _ => cases q
        obtain ⟨d, hd⟩ : ∃ d, S.blocks[i.toNat]? = some d := ⟨_, List.getElem?_eq_getElem (by rw [o.len]; omega)⟩
        obtain ⟨v, hv, hvd⟩ := d2.at hd
        have hat : atI bs i = some v := at_nat hi.1 hv
        walk_at "run"
        refine k v _ ?_ (by walk_at "kp")
        rw [er, hd]
        exact Dt.keep (T := tabs K) (S := No) (by walk_at "kp") (o.bl d (List.mem_of_getElem? hd)) hvd
end
end W

end
section
namespace W
open PySem PySem.Spec PyProof.Rows L2 Cm
section
variable {P : Program} {w : World} {K : PySem.W.Frag} {mg : Str → Option Value} {base : Heap}
theorem ok_weight_of (T : Tx w K mg) : ∀ n : Nat, DOk P w K mg base (1 + n) ("weight_of", none) ["what"] (S_weight_of K n)
  | 0 => dok_false (T.dfn 3 (d := d_weight_of) rfl) sc_weight_of (fun _ _ _ _ _ _ us hl => match us, hl with | [_], _ => rfl)
  | n + 1 => by
    have ih : DOk P w K mg base (1 + n) ("weight_of", none) ["what"] (S_weight_of K n) := ok_weight_of T n
    rw [show 1 + (n + 1) = (1 + n) + 1 from rfl]
    obtain ⟨fd_weight_of, b_weight_of, k_weight_of, G_weight_of, _⟩ := ih
    refine dok_of (T.dfn 3 (d := d_weight_of) rfl) sc_weight_of (fun _ _ _ _ _ _ us hl => match us, hl with | [_], _ => rfl) len1 (fun cdv A outer s H vs Q E hr h => ⟨t_weight_of K n E, ?_, pure_weight_of vs H Q E h⟩)
    exact (pss_cons (ps_if (pt_truth (pe_callB call_isi (by rfl) T.n_isinstance bt_isinstance (pa_cons (pv 0) (pa_cons (pe_bltn (v := .ty "tuple") (by rfl) T.n_tuple bt_tuple rfl) pa_nil))) (by intro _; rfl)) (pss_one (ps_ret (pe_callB (cr_sum rfl) (by rfl) T.n_sum bt_sum (pa_cons (pe_lc (own := [("part", 1)]) (g := (gName 1)) (tt := tYes) (by rfl) sc_weight_of.nd (pi_seq (pv 0)) (blkOk_by (own := [("part", 1)]) (N := N_weight_of) (sc := defScope s_weight_of) (by decide +kernel)) (fun _ _ _ _ _ => (pg_name (i := 1) sc_weight_of.nd rfl (by first | exact Or.inl rfl | exact Or.inr rfl))) (fun _ _ _ _ _ => pts_nil) (fun _ _ _ _ _ => (pe_call G_weight_of (hr.mono (by omega)) (by rfl) T.g_weight_of k_weight_of b_weight_of .nil psN (pa_cons (pv 1) pa_nil)))) pa_nil)))) pss_nil)
      (pss_one (ps_ret pe_int)))
theorem ok_Disk_need_block (T : Tx w K mg) : DOk P w K mg base 1 ("Disk", some "need_block") ["self", "block"] (S_Disk_need_block K) := by
  obtain ⟨t_BLOCKS_, g_BLOCKS⟩ := T.i_BLOCKS
  refine dok_of (T.dfn 5 (d := d_Disk_need_block) rfl) sc_Disk_need_block (fun _ _ _ _ _ _ us hl => match us, hl with | [_, _], _ => rfl) len2 (fun cdv A outer s H vs Q E hr h => ⟨t_Disk_need_block K E, ?_, pure_Disk_need_block vs H Q E h⟩)
  exact (pss_one (ps_if (pt_not (pt_chain op_le op_lt pe_int (pv 1) (pe_glob (by rfl) g_BLOCKS ⟨_, rfl⟩))) (pss_one (L2N.ps_raise rfl (L2N.takes_of rfl rfl rfl rfl) (L2N.pmk_own PySem.F.excBase_ValueError T.x_BadBlock T.g_BadBlock T.k_BadBlock (raises_own T.xb_BadBlock T.xt_BadBlock) (by rfl)))) pss_nil))
theorem ok_Disk_stop (T : Tx w K mg) : DOk P w K mg base 1 ("Disk", some "stop") ["self", "picks"] (S_Disk_stop K) := by
  refine dok_of (T.dfn 11 (d := d_Disk_stop) rfl) sc_Disk_stop (fun _ _ _ _ _ _ us hl => match us, hl with | [_, _], _ => rfl) len2 (fun cdv A outer s H vs Q E hr h => ⟨t_Disk_stop K E, ?_, pure_Disk_stop T vs H Q E h⟩)
  exact (pss_cons (ps_set (i := 2) sc_Disk_stop.nd rfl (by first | exact Or.inl rfl | exact Or.inr rfl) (pe_callTy (call_listA rfl) (by rfl) T.n_list bt_list (pa_cons (pv 1) pa_nil)))
      (pss_cons (ps_for (passes_of rfl) rfl (pi_zip (by rfl) T.n_zip (pa_cons (pe_fld (pv 0) rfl) (pa_cons (pv 2) pa_nil))) (pg_tup (by rfl) (pgs_cons (pg_tup (by rfl) (pgs_cons (pg_name (i := 3) sc_Disk_stop.nd rfl (by first | exact Or.inl rfl | exact Or.inr rfl)) (pgs_cons (pg_name (i := 4) sc_Disk_stop.nd rfl (by first | exact Or.inl rfl | exact Or.inr rfl)) pgs_nil))) (pgs_cons (pg_name (i := 5) sc_Disk_stop.nd rfl (by first | exact Or.inl rfl | exact Or.inr rfl)) pgs_nil))) (pss_one (ps_if (pt_truth (pv 5) (by intro _; rfl)) (pss_one (ps_asg (pv 4) (pg_sub (pe_fld (pv 0) rfl) (pv 3) (set_any (hu_of hr))))) pss_nil)))
      (pss_cons (ps_fld (pv 0) (pe_lst pa_nil) rfl)
      (pss_one (ps_fld (pv 0) pe_bl rfl)))))
theorem ok_Disk_init (T : Tx w K mg) : DOk P w K mg base 1 ("Disk", some "__init__") ["self"] (S_Disk_init K) := by
  obtain ⟨t_BLOCKS_, g_BLOCKS⟩ := T.i_BLOCKS
  refine dok_of (T.dfn 4 (d := d_Disk_init) rfl) sc_Disk_init (fun _ _ _ _ _ _ us hl => match us, hl with | [_], _ => rfl) len1 (fun cdv A outer s H vs Q E hr h => ⟨t_Disk_init K E, ?_, pure_Disk_init T vs H Q E h⟩)
  exact (pss_cons (ps_fld (pv 0) (pe_lc (own := [("block", 1)]) (g := (gName 1)) (tt := tYes) (by rfl) sc_Disk_init.nd (pi_range1 (by rfl) T.n_range (pa_cons (pe_glob (by rfl) g_BLOCKS ⟨_, rfl⟩) pa_nil)) (blkOk_by (own := [("block", 1)]) (N := N_Disk_init) (sc := defScope s_Disk_init) (by decide +kernel)) (fun _ _ _ _ _ => (pg_name (i := 1) sc_Disk_init.nd rfl (by first | exact Or.inl rfl | exact Or.inr rfl))) (fun _ _ _ _ _ => pts_nil) (fun _ _ _ _ _ => pe_non)) rfl)
      (pss_cons (ps_fld (pv 0) (pe_lst pa_nil) rfl)
      (pss_cons (ps_fld (pv 0) pe_non rfl)
      (pss_cons (ps_fld (pv 0) (pe_lst pa_nil) rfl)
      (pss_one (ps_fld (pv 0) pe_bl rfl))))))
theorem ok_Disk_count (T : Tx w K mg) : DOk P w K mg base 2 ("Disk", some "count") ["self"] (S_Disk_count K) := by
  obtain ⟨fd_Disk_stop, b_Disk_stop, k_Disk_stop, G_Disk_stop, _⟩ := ok_Disk_stop (P := P) (base := base) T
  refine dok_of (T.dfn 6 (d := d_Disk_count) rfl) sc_Disk_count (fun _ _ _ _ _ _ us hl => match us, hl with | [_], _ => rfl) len1 (fun cdv A outer s H vs Q E hr h => ⟨t_Disk_count K E, ?_, pure_Disk_count T vs H Q E h⟩)
  exact (pss_cons (ps_if (pt_truth (pe_fld (pv 0) rfl) (by intro _; rfl)) (pss_one (L2N.ps_raise rfl (L2N.takes_of rfl rfl rfl rfl) (L2N.pmk_own PySem.F.excBase_ValueError T.x_Stopped T.g_Stopped T.k_Stopped (raises_own T.xb_Stopped T.xt_Stopped) (by rfl)))) pss_nil)
      (pss_cons (ps_if (pt_cmpR (op_eqA hr.units) (pe_fld (pv 0) rfl) pe_int (nomark _)) (pss_cons (ps_expr (pe_meth (pv 0) T.c_Disk T.m_Disk_stop G_Disk_stop (hr.mono (by omega)) b_Disk_stop .nil (psG rfl rfl rfl rfl) (pa_cons (pe_fld (pv 0) rfl) pa_nil)))
      (pss_one (L2N.ps_raise rfl (L2N.takes_of rfl rfl rfl rfl) (L2N.pmk_own PySem.F.excBase_ValueError T.x_Stopped T.g_Stopped T.k_Stopped (raises_own T.xb_Stopped T.xt_Stopped) (by rfl))))) pss_nil)
      (pss_one (ps_if (pt_cmpR op_notNo (pe_fld (pv 0) rfl) pe_non (nomark _)) (pss_one (ps_fldaug (pv 0) pe_int in_sub)) pss_nil))))
theorem ok_Disk_write (T : Tx w K mg) : DOk P w K mg base 9 ("Disk", some "write") ["self", "block", "what"] (S_Disk_write K) := by
  obtain ⟨fd_Disk_count, b_Disk_count, k_Disk_count, G_Disk_count, _⟩ := ok_Disk_count (P := P) (base := base) T
  obtain ⟨fd_Disk_need_block, b_Disk_need_block, k_Disk_need_block, G_Disk_need_block, _⟩ := ok_Disk_need_block (P := P) (base := base) T
  obtain ⟨fd_weight_of, b_weight_of, k_weight_of, G_weight_of, _⟩ := ok_weight_of (P := P) (base := base) T 7
  obtain ⟨t_MOST_WEIGHT_, g_MOST_WEIGHT⟩ := T.i_MOST_WEIGHT
  refine dok_of (T.dfn 7 (d := d_Disk_write) rfl) sc_Disk_write (fun _ _ _ _ _ _ us hl => match us, hl with | [_, _, _], _ => rfl) len3 (fun cdv A outer s H vs Q E hr h => ⟨t_Disk_write K E, ?_, pure_Disk_write T vs H Q E h⟩)
  exact (pss_cons (ps_expr (pe_meth (pv 0) T.c_Disk T.m_Disk_need_block G_Disk_need_block (hr.mono (by omega)) b_Disk_need_block .nil (psG rfl rfl rfl rfl) (pa_cons (pv 1) pa_nil)))
      (pss_cons (ps_if (pt_cmpR op_gt (pe_call G_weight_of (hr.mono (by omega)) (by rfl) T.g_weight_of k_weight_of b_weight_of .nil (psG rfl rfl rfl rfl) (pa_cons (pv 2) pa_nil)) (pe_glob (by rfl) g_MOST_WEIGHT ⟨_, rfl⟩) (nomark _)) (pss_one (L2N.ps_raise rfl (L2N.takes_of rfl rfl rfl rfl) (L2N.pmk_own PySem.F.excBase_ValueError T.x_BadBlock T.g_BadBlock T.k_BadBlock (raises_own T.xb_BadBlock T.xt_BadBlock) (by rfl)))) pss_nil)
      (pss_cons (ps_expr (pe_meth0 (pv 0) T.c_Disk T.m_Disk_count G_Disk_count (hr.mono (by omega)) b_Disk_count .nil (psG rfl rfl rfl rfl)))
      (pss_one (ps_expr (pe_bm PySem.F.plainAttrs_list PySem.F.slot_list_append PySem.F.type_list_append mt_append (pe_fld (pv 0) rfl) (pa_cons (pe_tup (pa_cons (pv 1) (pa_cons (pv 2) pa_nil))) pa_nil)))))))
theorem ok_Disk_settle (T : Tx w K mg) : DOk P w K mg base 3 ("Disk", some "settle") ["self"] (S_Disk_settle K) := by
  obtain ⟨fd_Disk_count, b_Disk_count, k_Disk_count, G_Disk_count, _⟩ := ok_Disk_count (P := P) (base := base) T
  refine dok_of (T.dfn 8 (d := d_Disk_settle) rfl) sc_Disk_settle (fun _ _ _ _ _ _ us hl => match us, hl with | [_], _ => rfl) len1 (fun cdv A outer s H vs Q E hr h => ⟨t_Disk_settle K E, ?_, pure_Disk_settle T vs H Q E h⟩)
  exact (pss_cons (ps_expr (pe_meth0 (pv 0) T.c_Disk T.m_Disk_count G_Disk_count (hr.mono (by omega)) b_Disk_count .nil (psG rfl rfl rfl rfl)))
      (pss_cons (ps_for (passes_of rfl) rfl (pi_seq (pe_fld (pv 0) rfl)) (pg_tup (by rfl) (pgs_cons (pg_name (i := 1) sc_Disk_settle.nd rfl (by first | exact Or.inl rfl | exact Or.inr rfl)) (pgs_cons (pg_name (i := 2) sc_Disk_settle.nd rfl (by first | exact Or.inl rfl | exact Or.inr rfl)) pgs_nil))) (pss_one (ps_asg (pv 2) (pg_sub (pe_fld (pv 0) rfl) (pv 1) (set_any (hu_of hr))))))
      (pss_one (ps_fld (pv 0) (pe_lst pa_nil) rfl))))
theorem ok_Disk_read (T : Tx w K mg) : DOk P w K mg base 2 ("Disk", some "read") ["self", "block"] (S_Disk_read K) := by
  obtain ⟨fd_Disk_need_block, b_Disk_need_block, k_Disk_need_block, G_Disk_need_block, _⟩ := ok_Disk_need_block (P := P) (base := base) T
  refine dok_of (T.dfn 9 (d := d_Disk_read) rfl) sc_Disk_read (fun _ _ _ _ _ _ us hl => match us, hl with | [_, _], _ => rfl) len2 (fun cdv A outer s H vs Q E hr h => ⟨t_Disk_read K E, ?_, pure_Disk_read T vs H Q E h⟩)
  exact (pss_cons (ps_expr (pe_meth (pv 0) T.c_Disk T.m_Disk_need_block G_Disk_need_block (hr.mono (by omega)) b_Disk_need_block .nil (psG rfl rfl rfl rfl) (pa_cons (pv 1) pa_nil)))
      (pss_cons (ps_if (pt_truth (pe_fld (pv 0) rfl) (by intro _; rfl)) (pss_one (L2N.ps_raise rfl (L2N.takes_of rfl rfl rfl rfl) (L2N.pmk_own PySem.F.excBase_ValueError T.x_Stopped T.g_Stopped T.k_Stopped (raises_own T.xb_Stopped T.xt_Stopped) (by rfl)))) pss_nil)
      (pss_cons (by first | exact (ps_setLc (i := 2) (own := [("one", 3), ("what", 4)]) (g := (gTup K 2 (gCons (gName 3) (gCons (gName 4) gNil)))) (tt := (tTest (tOp (rEqA K) (tVar 3) (tVar 1)))) (by rfl) sc_Disk_read.nd rfl rfl (sw_true rfl rfl rfl (by decide +kernel)) (pi_seq (pe_fld (pv 0) rfl)) (blkOk_by (own := [("one", 3), ("what", 4)]) (N := N_Disk_read) (sc := defScope s_Disk_read) (by decide +kernel)) (fun _ _ _ _ _ => (pg_tup (by rfl) (pgs_cons (pg_name (i := 3) sc_Disk_read.nd rfl (by first | exact Or.inl rfl | exact Or.inr rfl)) (pgs_cons (pg_name (i := 4) sc_Disk_read.nd rfl (by first | exact Or.inl rfl | exact Or.inr rfl)) pgs_nil)))) (fun _ _ _ _ _ => (pts_one (pt_cmpR (op_eqA hr.units) (pv 3) (pv 1) (nomark _)))) (fun _ _ _ _ _ => (pv 4))) | exact (ps_set (i := 2) sc_Disk_read.nd rfl (by first | exact Or.inl rfl | exact Or.inr rfl) (pe_lc (own := [("one", 3), ("what", 4)]) (g := (gTup K 2 (gCons (gName 3) (gCons (gName 4) gNil)))) (tt := (tTest (tOp (rEqA K) (tVar 3) (tVar 1)))) (by rfl) sc_Disk_read.nd (pi_seq (pe_fld (pv 0) rfl)) (blkOk_by (own := [("one", 3), ("what", 4)]) (N := N_Disk_read) (sc := defScope s_Disk_read) (by decide +kernel)) (fun _ _ _ _ _ => (pg_tup (by rfl) (pgs_cons (pg_name (i := 3) sc_Disk_read.nd rfl (by first | exact Or.inl rfl | exact Or.inr rfl)) (pgs_cons (pg_name (i := 4) sc_Disk_read.nd rfl (by first | exact Or.inl rfl | exact Or.inr rfl)) pgs_nil)))) (fun _ _ _ _ _ => (pts_one (pt_cmpR (op_eqA hr.units) (pv 3) (pv 1) (nomark _)))) (fun _ _ _ _ _ => (pv 4)))))
      (pss_one (ps_ret (pe_ifExp (pt_cmpR (op_neA hr.units) (pv 2) (pe_lst pa_nil) (nomark _)) (pe_ix (ix_any (hu_of hr)) (pv 2) (pe_un un_neg pe_int) (fun _ _ => rfl)) (pe_ix (ix_any (hu_of hr)) (pe_fld (pv 0) rfl) (pv 1) (fun _ _ => rfl))))))))
theorem ok_Disk_arm (T : Tx w K mg) : DOk P w K mg base 1 ("Disk", some "arm") ["self", "deeds", "picks"] (S_Disk_arm K) := by
  refine dok_of (T.dfn 10 (d := d_Disk_arm) rfl) sc_Disk_arm (fun _ _ _ _ _ _ us hl => match us, hl with | [_, _, _], _ => rfl) len3 (fun cdv A outer s H vs Q E hr h => ⟨t_Disk_arm K E, ?_, pure_Disk_arm T vs H Q E h⟩)
  exact (pss_cons (ps_fld (pv 0) (pe_callB (call_max2 rfl) (by rfl) T.n_max bt_max (pa_cons pe_int (pa_cons (pv 1) pa_nil))) rfl)
      (pss_one (ps_fld (pv 0) (pe_callTy (call_listA rfl) (by rfl) T.n_list bt_list (pa_cons (pv 2) pa_nil)) rfl)))
theorem ok_Disk_again (T : Tx w K mg) : DOk P w K mg base 1 ("Disk", some "again") ["self"] (S_Disk_again K) := by
  refine dok_of (T.dfn 12 (d := d_Disk_again) rfl) sc_Disk_again (fun _ _ _ _ _ _ us hl => match us, hl with | [_], _ => rfl) len1 (fun cdv A outer s H vs Q E hr h => ⟨t_Disk_again K E, ?_, pure_Disk_again T vs H Q E h⟩)
  exact (pss_cons (ps_fld (pv 0) (pe_lst pa_nil) rfl)
      (pss_cons (ps_fld (pv 0) pe_non rfl)
      (pss_cons (ps_fld (pv 0) (pe_lst pa_nil) rfl)
      (pss_one (ps_fld (pv 0) pe_bl rfl)))))
theorem ok_Disk_settled (T : Tx w K mg) : DOk P w K mg base 1 ("Disk", some "settled") ["self"] (S_Disk_settled K) := by
  refine dok_of (T.dfn 13 (d := d_Disk_settled) rfl) sc_Disk_settled (fun _ _ _ _ _ _ us hl => match us, hl with | [_], _ => rfl) len1 (fun cdv A outer s H vs Q E hr h => ⟨t_Disk_settled K E, ?_, pure_Disk_settled T vs H Q E h⟩)
  exact (pss_one (ps_ret (pe_callTy (call_listA rfl) (by rfl) T.n_list bt_list (pa_cons (pe_fld (pv 0) rfl) pa_nil))))
end
end W

end
section
/-! ### law k05: what its defs promise -/
namespace W
open PySem PySem.Spec PyProof.Rows L2 Cm
def oF (b n : Addr) (l : V) (k : Addr) (f : Bool) : List (Key × V) := [(.inr "settled", .ref b), (.inr "pending", .ref n), (.inr "left", l), (.inr "picks", .ref k), (.inr "fallen", .bl f)]
/-- the law's own lists at q -/
def OwnAt (H : Hp) (q : Addr) (S : DS) (F : Addr → Prop) : Prop := ∃ (b n k : Addr) (bs ns : List V),
  H q = some (.dK (oF b n (lv S.left) k S.fallen)) ∧ H b = some (.lst bs) ∧ DtA H bs S.blocks ∧ H n = some (.lst ns) ∧ DtA H ns (S.pending.map pr) ∧ H k = some (.lst (S.picks.map V.bl)) ∧
  (b ≠ n ∧ b ≠ k ∧ n ≠ k) ∧ S.Ok ∧ ∀ a, F a ↔ (a = q ∨ a = b ∨ a = n ∨ a = k)
theorem OwnAt.dom {H : Hp} {p : Addr} {S : DS} {F : Addr → Prop} (h : OwnAt H p S F) {a : Addr} (ha : F a) : ¬ Nw H a := by
  obtain ⟨b, n, k, bs, ns, h1, h2, _, h3, _, h4, _, _, f⟩ := h
  rcases (f a).mp ha with rfl | rfl | rfl | rfl
  · exact fun z => nw_no z h1 (fun _ z => nomatch z)
  · exact fun z => nw_no z h2 (fun _ z => nomatch z)
  · exact fun z => nw_no z h3 (fun _ z => nomatch z)
  · exact fun z => nw_no z h4 (fun _ z => nomatch z)
theorem OwnAt.keep {T : List (Addr × Str)} {G : Addr → Prop} {H H' : Hp} {p : Addr} {S : DS} {F : Addr → Prop} (h : OwnAt H p S F) (k : Kp T G H H') (d : ∀ a, F a → ¬ G a) : OwnAt H' p S F := by
  obtain ⟨b, n, kk, bs, ns, h1, h2, d2, h3, d3, h4, ne, o, f⟩ := h
  exact ⟨b, n, kk, bs, ns, k.dK h1 (d p ((f p).mpr (.inl rfl))), k.lst h2 (d b ((f b).mpr (.inr (.inl rfl)))), d2.keep k o.bl, k.lst h3 (d n ((f n).mpr (.inr (.inr (.inl rfl))))), d3.keep k o.prs, k.lst h4 (d kk ((f kk).mpr (.inr (.inr (.inr rfl))))), ne, o, f⟩
theorem OwnAt.ok {H : Hp} {p : Addr} {S : DS} {F : Addr → Prop} (h : OwnAt H p S F) : S.Ok := by
  obtain ⟨_, _, _, _, _, _, _, _, _, _, _, _, o, _⟩ := h
  exact o
def S_take_ (K : PySem.W.Frag) : Sp := spTake (tabs K)
def S_begun_ (K : PySem.W.Frag) : Sp := sp1 fun x H Q _ => ∃ (a : Addr) (ns : List Int), x = .ref a ∧ SqL K H a (ns.map V.int) ∧ ns.length ≤ 63 ∧ ∀ b l H', BoxAt H' b l → Nw H b → Nw H l → Kp (tabs K) No H H' → Q (.ref b) H'
def S_alike_ (K : PySem.W.Frag) : Nat → Sp
  | 0 => fun _ _ _ _ => False
  | n + 1 => sp2 fun x y H Q _ => ∃ d, Dt H x d ∧ Dt H y d ∧ Dn n d ∧ ∀ H', Kp (tabs K) No H H' → Q (.bl true) H'
def S_nest_ (K : PySem.W.Frag) : Nat → Sp
  | 0 => fun _ _ _ _ => False
  | n + 1 => sp3 fun x y z H Q _ => ∃ (b l q : Addr) (m : Nat) (xs : List V) (ds : List PyData), x = .ref b ∧ y = .ref q ∧ z = .int (m : Int) ∧ m ≤ n ∧ BoxAt H b l ∧ H q = some (.lst xs) ∧ DtA H xs ds ∧ (∀ d ∈ ds, Di 0 d) ∧ ds.length ≤ 50 ∧ q ≠ b ∧ q ≠ l ∧
      ∀ v d H', Dt H' v d → Di (m + 1) d → BoxAt H' b l → Kp (tabs K) (Bx b l) H H' → Q v H'
def S_what_ (K : PySem.W.Frag) : Sp := sp1 fun x H Q _ => ∃ b l, x = .ref b ∧ BoxAt H b l ∧ ∀ v d H', Dt H' v d → Di 5 d → BoxAt H' b l → Kp (tabs K) (Bx b l) H H' → Q v H'
abbrev S_weight_ := S_weight_of
def S_made_ (K : PySem.W.Frag) : Sp := sp0 fun H Q _ => ∀ q H' F', OwnAt H' q ds0 F' → Kp (tabs K) No H H' → (∀ a, F' a → Nw H a) → Q (.ref q) H'
def S_fall_ (K : PySem.W.Frag) : Sp := sp2 fun x y H Q _ => ∃ (q : Addr) (S : DS) (F : Addr → Prop) (l : Addr) (bs : List Bool), x = .ref q ∧ y = .ref l ∧ OwnAt H q S F ∧ H l = some (.lst (bs.map V.bl)) ∧ S.pending.length ≤ 200 ∧ bs.length ≤ 1000 ∧ (∀ b n v k f, H q = some (.dK (oF b n v k f)) → l ≠ b) ∧
  ∀ H' F', OwnAt H' q (S.fal bs) F' → Stp (tabs K) F F' H H' → Q .non H'
def S_count_ (K : PySem.W.Frag) : Sp := sp1 fun x H Q _ => ∃ q S F, x = .ref q ∧ OwnAt H q S F ∧ S.pending.length ≤ 200 ∧ S.picks.length ≤ 1000 ∧
  ∀ H' F', OwnAt H' q S.cnt.2 F' → Stp (tabs K) F F' H H' → Q (.bl S.cnt.1) H'
/-- a disk and the law's own lists of it, in the same state -/
def Side (K : PySem.W.Frag) (H : Hp) (p q : Addr) (S : DS) (R : Addr → Prop) : Prop := ∃ F G, DiskAt K H p S F ∧ OwnAt H q S G ∧ (∀ a, F a → ¬ G a) ∧ ∀ a, R a ↔ (F a ∨ G a)
theorem Side.dom {K : PySem.W.Frag} {H : Hp} {p q : Addr} {S : DS} {R : Addr → Prop} (h : Side K H p q S R) {a : Addr} (ha : R a) : ¬ Nw H a := by
  obtain ⟨F, G, d, o, _, r⟩ := h
  rcases (r a).mp ha with h | h
  · exact d.dom h
  · exact o.dom h
theorem Side.keep {K : PySem.W.Frag} {T : List (Addr × Str)} {G : Addr → Prop} {H H' : Hp} {p q : Addr} {S : DS} {R : Addr → Prop} (h : Side K H p q S R) (k : Kp T G H H') (d : ∀ a, R a → ¬ G a) : Side K H' p q S R := by
  obtain ⟨F, G', d1, o1, x, r⟩ := h
  exact ⟨F, G', d1.keep k (fun a ha => d a ((r a).mpr (.inl ha))), o1.keep k (fun a ha => d a ((r a).mpr (.inr ha))), x, r⟩
/-- what a deed of a side leaves -/
def Did (K : PySem.W.Frag) (b l p q : Addr) (S : DS) (R : Addr → Prop) (H : Hp) (Q : VK) : Prop := ∀ S' H' R', S'.pending.length ≤ S.pending.length + 1 → (S'.picks.length ≤ S.picks.length ∨ S'.picks.length ≤ 8) → BoxAt H' b l → Side K H' p q S' R' →
  Kp (tabs K) (fun a => Bx b l a ∨ R a) H H' → (∀ a, R' a → R a ∨ Nw H a) → Q (.bl true) H'
def spDeed (K : PySem.W.Frag) : Sp := sp3 fun x y z H Q _ => ∃ (b l p q : Addr) (S : DS) (R : Addr → Prop), x = .ref b ∧ y = .ref p ∧ z = .ref q ∧ BoxAt H b l ∧ Side K H p q S R ∧ ¬ R b ∧ ¬ R l ∧ S.pending.length ≤ 190 ∧ S.picks.length ≤ 900 ∧ LamX.Tabs (tabs K) H ∧ Did K b l p q S R H Q
def S_write_ := spDeed
def S_arms_ := spDeed
def S_is_ (K : PySem.W.Frag) : Sp := sp3 fun x y z H Q _ => ∃ (b l p q : Addr) (S : DS) (R : Addr → Prop), x = .ref b ∧ y = .ref p ∧ z = .ref q ∧ BoxAt H b l ∧ Side K H p q S R ∧ ¬ R b ∧ ¬ R l ∧ S.pending.length ≤ 200 ∧ LamX.Tabs (tabs K) H ∧
  ∀ H', BoxAt H' b l → Kp (tabs K) (Bx b l) H H' → Q (.bl true) H'
def S_law (K : PySem.W.Frag) : Sp := sp1 fun x H Q _ => ∃ (a : Addr) (ns : List Int), x = .ref a ∧ SqL K H a (ns.map V.int) ∧ ns.length ≤ 63 ∧ LamX.Tabs (tabs K) H ∧ ∀ H', Q (.bl true) H'
end W

end
section
namespace W
open PySem PySem.Spec PyProof.Rows L2 Cm
theorem oF_g_settled {b : Addr} {n : Addr} {l : V} {k : Addr} {f : Bool} : valV (oF (b) (n) (l) (k) (f)) (.inr "settled") = some (.ref b) := by kernel_rfl
theorem oF_p_settled {b : Addr} {n : Addr} {l : V} {k : Addr} {f : Bool} {z : Addr} : putK (oF (b) (n) (l) (k) (f)) (.inr "settled") (.ref z) = (oF (z) (n) (l) (k) (f)) := by kernel_rfl
theorem oF_g_pending {b : Addr} {n : Addr} {l : V} {k : Addr} {f : Bool} : valV (oF (b) (n) (l) (k) (f)) (.inr "pending") = some (.ref n) := by kernel_rfl
theorem oF_p_pending {b : Addr} {n : Addr} {l : V} {k : Addr} {f : Bool} {z : Addr} : putK (oF (b) (n) (l) (k) (f)) (.inr "pending") (.ref z) = (oF (b) (z) (l) (k) (f)) := by kernel_rfl
theorem oF_g_left {b : Addr} {n : Addr} {l : V} {k : Addr} {f : Bool} : valV (oF (b) (n) (l) (k) (f)) (.inr "left") = some l := by kernel_rfl
theorem oF_p_left {b : Addr} {n : Addr} {l : V} {k : Addr} {f : Bool} {z : V} : putK (oF (b) (n) (l) (k) (f)) (.inr "left") z = (oF (b) (n) (z) (k) (f)) := by kernel_rfl
theorem oF_g_picks {b : Addr} {n : Addr} {l : V} {k : Addr} {f : Bool} : valV (oF (b) (n) (l) (k) (f)) (.inr "picks") = some (.ref k) := by kernel_rfl
theorem oF_p_picks {b : Addr} {n : Addr} {l : V} {k : Addr} {f : Bool} {z : Addr} : putK (oF (b) (n) (l) (k) (f)) (.inr "picks") (.ref z) = (oF (b) (n) (l) (z) (f)) := by kernel_rfl
theorem oF_g_fallen {b : Addr} {n : Addr} {l : V} {k : Addr} {f : Bool} : valV (oF (b) (n) (l) (k) (f)) (.inr "fallen") = some (.bl f) := by kernel_rfl
theorem oF_p_fallen {b : Addr} {n : Addr} {l : V} {k : Addr} {f : Bool} {z : Bool} : putK (oF (b) (n) (l) (k) (f)) (.inr "fallen") (.bl z) = (oF (b) (n) (l) (k) (z)) := by kernel_rfl
theorem oF_len {b : Addr} {n : Addr} {l : V} {k : Addr} {f : Bool} : (oF (b) (n) (l) (k) (f)).length = 5 := rfl
end W

end
section
namespace W
open PySem PySem.Spec PyProof.Rows L2 Cm
/-! _law_begun -/
def t_begun_ (K : PySem.W.Frag) (E : XK) : TS := (tSeq (tAsg (tC (.int 0)) (gName 1)) (tSeq (tFor (iSeq K (tVar 0)) (gName 2) (tAsg (tOp (rI (fun _ j => 0 < j) fun i j => .int (i % j)) (tOp (rAddA K) (tOp (rAddA K) (tOp rMulA (tVar 1) (tC (.int 48271))) (tOp rMulA (tVar 2) (tC (.int 69621)))) (tC (.int 11))) (tC (.int 2147483647))) (gName 1))) (tRet (tLst (tCons (tCB (rListA K) (tCons (tVar 0) tNil)) (tCons (tOp rMulA (tVar 1) (tCB rInt1 (tCons (tOp (rI0 fun i j => .bl (decide (j < i))) (tCB (rLenA K) (tCons (tVar 0) tNil)) (tC (.int 2))) tNil))) tNil))))))
/-! _law_take -/
def t_take_ (K : PySem.W.Frag) (E : XK) : TS := (tSeq (tIfS (tTest (tOp (rEqA K) (tOp (rIxA K) (tVar 0) (tC (.int 0))) (tLst tNil))) (tSeq (tAsg (tOp (rI (fun _ j => 0 < j) fun i j => .int (i % j)) (tOp rMulA (tOp (rIxA K) (tVar 0) (tC (.int 1))) (tC (.int 48271))) (tC (.int 2147483647))) (gSub (tVar 0) (tC (.int 1)) rSetA)) (tRet (tOp (rI (fun _ j => 0 < j) fun i j => .int (i % j)) (tOp (rI CDivW fun i j => .int (i / j)) (tOp (rIxA K) (tVar 0) (tC (.int 1))) (tC (.int 7))) (tVar 1)))) tNext) (tSeq (tAsg (tOp (rIxA K) (tOp (rIxA K) (tVar 0) (tC (.int 0))) (tC (.int 0))) (gName 2)) (tSeq (tAsg (tOp (rI CDivW fun i j => .int (i / j)) (tVar 2) (tVar 1)) (gSub (tOp (rIxA K) (tVar 0) (tC (.int 0))) (tC (.int 0)) rSetA)) (tSeq (tIfS (tOr (tTest (tOp (rEqA K) (tOp (rIxA K) (tOp (rIxA K) (tVar 0) (tC (.int 0))) (tC (.int 0))) (tC (.int 0)))) (tTest (tOp (rEqA K) (tOp (rIxA K) (tOp (rIxA K) (tVar 0) (tC (.int 0))) (tC (.int 0))) (tUn (rU fun i => .int (-i)) (tC (.int 1)))))) (tDrop (tBM K "list" rPopAt (tOp (rIxA K) (tVar 0) (tC (.int 0))) (tCons (tC (.int 0)) tNil))) tNext) (tRet (tOp (rI (fun _ j => 0 < j) fun i j => .int (i % j)) (tVar 2) (tVar 1)))))))
/-! _law_alike -/
def t_alike_ (K : PySem.W.Frag) (n : Nat) (E : XK) : TS := (tSeq (tIfS (tTest (tOp rIsNo (tVar 1) (tC .non))) (tRet (tOp rIsNo (tVar 0) (tC .non))) tNext) (tSeq (tIfS (tTr K (tCB (rIsi K) (tCons (tVar 1) (tCons (tC (.ty "bool")) tNil)))) (tRet (tAndV (tCB (rIsi K) (tCons (tVar 0) (tCons (tC (.ty "bool")) tNil))) (tOp (rEqA K) (tVar 0) (tVar 1)))) tNext) (tSeq (tIfS (tTr K (tCB (rIsi K) (tCons (tVar 1) (tCons (tC (.ty "int")) tNil)))) (tRet (tAndV (tCB (rIsi K) (tCons (tVar 0) (tCons (tC (.ty "int")) tNil))) (tAndV (tNotV (tCB (rIsi K) (tCons (tVar 0) (tCons (tC (.ty "bool")) tNil)))) (tOp (rEqA K) (tVar 0) (tVar 1))))) tNext) (tSeq (tIfS (tTr K (tCB (rIsi K) (tCons (tVar 1) (tCons (tC (.ty "str")) tNil)))) (tRet (tAndV (tCB (rIsi K) (tCons (tVar 0) (tCons (tC (.ty "str")) tNil))) (tOp (rEqA K) (tVar 0) (tVar 1)))) tNext) (tSeq (tIfS (tOr (tTest (tOp (rNeA K) (tCB (rIsi K) (tCons (tVar 1) (tCons (tC (.ty "tuple")) tNil))) (tCB (rIsi K) (tCons (tVar 0) (tCons (tC (.ty "tuple")) tNil))))) (tTest (tOp (rNeA K) (tCB (rIsi K) (tCons (tVar 1) (tCons (tC (.ty "list")) tNil))) (tCB (rIsi K) (tCons (tVar 0) (tCons (tC (.ty "list")) tNil)))))) (tRet (tC (.bl false))) tNext) (tSeq (tIfS (tTest (tOp (rNeA K) (tCB (rLenA K) (tCons (tVar 0) tNil)) (tCB (rLenA K) (tCons (tVar 1) tNil)))) (tRet (tC (.bl false))) tNext) (tSeq (tFor (iRng1 (tCons (tCB (rLenA K) (tCons (tVar 1) tNil)) tNil)) (gName 2) (tIfS (tNot (tTr K (tCall (S_alike_ K n) [] E (tCons (tOp (rIxA K) (tVar 0) (tVar 2)) (tCons (tOp (rIxA K) (tVar 1) (tVar 2)) tNil))))) (tRet (tC (.bl false))) tNext)) (tRet (tC (.bl true))))))))))
/-! _law_nest -/
def t_nest_ (K : PySem.W.Frag) (n : Nat) (E : XK) : TS := (tSeq (tAsg (tCall (S_take_ K) [] E (tCons (tVar 0) (tCons (tOp (rAddA K) (tCB (rLenA K) (tCons (tVar 1) tNil)) (tC (.int 1))) tNil))) (gName 3)) (tSeq (tIfS (tTest (tOp (rEqA K) (tVar 2) (tC (.int 0)))) (tRet (tCB (rTupleA K) (tCons (tVar 1) tNil))) tNext) (tSeq (tIfS (tTest (tOp (rEqA K) (tCall (S_take_ K) [] E (tCons (tVar 0) (tCons (tC (.int 3)) tNil))) (tC (.int 0)))) (tRet (tTup (tCons (tCall (S_nest_ K n) [] E (tCons (tVar 0) (tCons (tSl (rSlAny K) (tVar 1) tNoPart (tPart (tVar 3))) (tCons (tOp (rI0 fun i j => .int (i - j)) (tVar 2) (tC (.int 1))) tNil)))) (tCons (tTup tNil) (tCons (tCall (S_nest_ K n) [] E (tCons (tVar 0) (tCons (tSl (rSlAny K) (tVar 1) (tPart (tVar 3)) tNoPart) (tCons (tOp (rI0 fun i j => .int (i - j)) (tVar 2) (tC (.int 1))) tNil)))) tNil))))) tNext) (tRet (tOp (rAddA K) (tCB (rTupleA K) (tCons (tSl (rSlAny K) (tVar 1) tNoPart (tPart (tVar 3))) tNil)) (tTup (tCons (tCall (S_nest_ K n) [] E (tCons (tVar 0) (tCons (tSl (rSlAny K) (tVar 1) (tPart (tVar 3)) tNoPart) (tCons (tOp (rI0 fun i j => .int (i - j)) (tVar 2) (tC (.int 1))) tNil)))) tNil)))))))
/-! _law_what -/
def t_what_ (K : PySem.W.Frag) (E : XK) : TS := (tSeq (tAsg (tCall (S_take_ K) [] E (tCons (tVar 0) (tCons (tC (.int 6)) tNil))) (gName 1)) (tSeq (tIfS (tTest (tOp (rEqA K) (tVar 1) (tC (.int 5)))) (tSeq (tAsg (tLst (tCons (tCall (S_take_ K) [] E (tCons (tVar 0) (tCons (tC (.int 9)) tNil))) (tCons (tC (.str "text")) (tCons (tC .non) (tCons (tC (.bl true)) tNil))))) (gName 2)) (tSeq (tAsg (tLc (iRng1 (tCons (tOp (rAddA K) (tC (.int 36)) (tCall (S_take_ K) [] E (tCons (tVar 0) (tCons (tC (.int 8)) tNil)))) tNil)) (gName 4) tYes (tOp (rIxA K) (tVar 2) (tCall (S_take_ K) [] E0 (tCons (tVar 0) (tCons (tC (.int 4)) tNil)))) [4]) (gName 3)) (tRet (tCall (S_nest_ K 4) [] E (tCons (tVar 0) (tCons (tVar 3) (tCons (tCall (S_take_ K) [] E (tCons (tVar 0) (tCons (tC (.int 4)) tNil))) tNil))))))) tNext) (tSeq (tAsg (tLst (tCons (tC .non) (tCons (tCall (S_take_ K) [] E (tCons (tVar 0) (tCons (tC (.int 100)) tNil))) (tCons (tTup (tCons (tC (.str "a")) (tCons (tTup (tCons (tC (.int 1)) (tCons (tCall (S_take_ K) [] E (tCons (tVar 0) (tCons (tC (.int 9)) tNil))) (tCons (tC .non) tNil)))) tNil))) (tCons (tC (.str "text")) (tCons (tTup (tCons (tTup tNil) (tCons (tTup (tCons (tC (.bl true)) (tCons (tTup (tCons (tTup (tCons (tC (.int 2)) tNil)) tNil)) tNil))) tNil))) tNil)))))) (gName 2)) (tRet (tOp (rIxA K) (tVar 2) (tVar 1))))))
/-! _law_weight -/
def t_weight_ (K : PySem.W.Frag) (n : Nat) (E : XK) : TS := (tSeq (tIfS (tNot (tTr K (tCB (rIsi K) (tCons (tVar 0) (tCons (tC (.ty "tuple")) tNil))))) (tRet (tC (.int 1))) tNext) (tRet (tCB (rSum K) (tCons (tLc (iSeq K (tVar 0)) (gName 1) tYes (tCall (S_weight_ K n) [] E0 (tCons (tVar 1) tNil)) [1]) tNil))))
/-! _law_made -/
def t_made_ (K : PySem.W.Frag) (E : XK) : TS := (tRet (tDisp [((tC (.str "settled")), (tOp rMulA (tLst (tCons (tC .non) tNil)) (tC (.int 35)))), ((tC (.str "pending")), (tLst tNil)), ((tC (.str "left")), (tC .non)), ((tC (.str "picks")), (tLst tNil)), ((tC (.str "fallen")), (tC (.bl false)))]))
/-! _law_fall -/
def t_fall_ (K : PySem.W.Frag) (E : XK) : TS := (tSeq (tFor (iRng1 (tCons (tCB (rLenA K) (tCons (tOp (rIxA K) (tVar 0) (tC (.str "pending"))) tNil)) tNil)) (gName 2) (tSeq (tAsg (tOp (rIxA K) (tOp (rIxA K) (tVar 0) (tC (.str "pending"))) (tVar 2)) (gTup K 2 (gCons (gName 3) (gCons (gName 4) gNil)))) (tIfS (tTr K (tOp (rIxA K) (tOp (rAddA K) (tCB (rListA K) (tCons (tVar 1) tNil)) (tOp rMulA (tLst (tCons (tC (.bl false)) tNil)) (tC (.int 200)))) (tVar 2))) (tAsg (tVar 4) (gSub (tOp (rIxA K) (tVar 0) (tC (.str "settled"))) (tVar 3) rSetA)) tNext))) (tSeq (tAsg (tLst tNil) (gSub (tVar 0) (tC (.str "pending")) rSetA)) (tAsg (tC (.bl true)) (gSub (tVar 0) (tC (.str "fallen")) rSetA))))
/-! _law_count -/
def t_count_ (K : PySem.W.Frag) (E : XK) : TS := (tSeq (tIfS (tTr K (tOp (rIxA K) (tVar 0) (tC (.str "fallen")))) (tRet (tC (.bl false))) tNext) (tSeq (tIfS (tTest (tOp (rEqA K) (tOp (rIxA K) (tVar 0) (tC (.str "left"))) (tC (.int 0)))) (tSeq (tDrop (tCall (S_fall_ K) [] E (tCons (tVar 0) (tCons (tOp (rIxA K) (tVar 0) (tC (.str "picks"))) tNil)))) (tRet (tC (.bl false)))) tNext) (tSeq (tIfS (tTest (tOp rNotNo (tOp (rIxA K) (tVar 0) (tC (.str "left"))) (tC .non))) (tAsg (tOp (rI0 fun i j => .int (i - j)) (tOp (rIxA K) (tVar 0) (tC (.str "left"))) (tC (.int 1))) (gSub (tVar 0) (tC (.str "left")) rSetA)) tNext) (tRet (tC (.bl true))))))
end W

end
section
namespace W
open PySem PySem.Spec PyProof.Rows L2 L2H Cm
/-! _law_class -/
def t_class_ (K : PySem.W.Frag) (D a : Addr) : TS := (tSeq (tAsg (tLst (tCons (tCB (rIsE K D a) (tCons (tVar 0) (tCons (tC (.ref (He.ga K "BadDeal"))) tNil))) (tCons (tCB (rIsE K D a) (tCons (tVar 0) (tCons (tC (.ref (He.ga K "BadHand"))) tNil))) (tCons (tCB (rIsE K D a) (tCons (tVar 0) (tCons (tC (.ref (He.ga K "BadLetter"))) tNil))) (tCons (tCB (rIsE K D a) (tCons (tVar 0) (tCons (tC (.ref (He.ga K "BadTime"))) tNil))) tNil))))) (gName 1)) (tSeq (tAsg (tOp (rAddA K) (tVar 1) (tLst (tCons (tCB (rIsE K D a) (tCons (tVar 0) (tCons (tC (.ref (He.ga K "BadKey"))) tNil))) (tCons (tCB (rIsE K D a) (tCons (tVar 0) (tCons (tC (.ref (He.ga K "BadHouse"))) tNil))) (tCons (tCB (rIsE K D a) (tCons (tVar 0) (tCons (tC (.ref (He.ga K "NoCopy"))) tNil))) (tCons (tCB (rIsE K D a) (tCons (tVar 0) (tCons (tC (.ref (He.ga K "Behind"))) tNil))) tNil)))))) (gName 1)) (tSeq (tAsg (tOp (rAddA K) (tVar 1) (tLst (tCons (tCB (rIsE K D a) (tCons (tVar 0) (tCons (tC (.ref (He.ga K "BadBlock"))) tNil))) (tCons (tCB (rIsE K D a) (tCons (tVar 0) (tCons (tC (.ref (He.ga K "BadEntry"))) tNil))) (tCons (tCB (rIsE K D a) (tCons (tVar 0) (tCons (tC (.ref (He.ga K "BadText"))) tNil))) (tCons (tCB (rIsE K D a) (tCons (tVar 0) (tCons (tC (.ref (He.ga K "Stopped"))) tNil))) tNil)))))) (gName 1)) (tSeq (tAsg (tLst (tCons (tC (.str "BadDeal")) (tCons (tC (.str "BadHand")) (tCons (tC (.str "BadLetter")) (tCons (tC (.str "BadTime")) (tCons (tC (.str "BadKey")) (tCons (tC (.str "BadHouse")) (tCons (tC (.str "NoCopy")) (tCons (tC (.str "Behind")) (tCons (tC (.str "BadBlock")) tNil)))))))))) (gName 2)) (tSeq (tAsg (tOp (rAddA K) (tVar 2) (tLst (tCons (tC (.str "BadEntry")) (tCons (tC (.str "BadText")) (tCons (tC (.str "Stopped")) tNil))))) (gName 2)) (tRet (tIf (tAnd (tTest (tOp (rEqA K) (tBM K "list" (rCntB K) (tVar 1) (tCons (tC (.bl true)) tNil)) (tC (.int 1)))) (tTr K (tCB (rIsE K D a) (tCons (tVar 0) (tCons (tC (.ty "ValueError")) tNil))))) (tOp (rIxA K) (tVar 2) (tBM K "list" (rIndex K) (tVar 1) (tCons (tC (.bl true)) tNil))) (tC (.str "")))))))))
section
variable {w : World} {K : PySem.W.Frag} {mg : Str → Option Value}
theorem Tx.f_class_ (T : Tx w K mg) : ∃ fd, FunD K "_law_class" "_law_class" (defArgs s_class_) (defBody s_class_) (defScope s_class_) [] [] (He.fAd K ("_law_class", none)) fd := T.dfn 17 (d := d_class_) rfl
theorem Tx.f_told_ (T : Tx w K mg) : ∃ fd, FunD K "_law_told" "_law_told" (defArgs s_told_) (defBody s_told_) (defScope s_told_) [] [] (He.fAd K ("_law_told", none)) fd := T.dfn 24 (d := d_told_) rfl
end
section
variable {P : Program} {w : World} {K : PySem.W.Frag} {mg : Str → Option Value} {base : Heap}
theorem der_class_ {w' : World} (T : Tx w K mg) {k : Nat} {D a : Addr} {oe : Obj} {cdv : Value} {A : Around} {outer : List Env} {s : Shared} {H : Hp} (C : ExcC K D) (hz : Zc (.ref D) none oe) (hf : ∃ vs, oe.data = .fields vs)
    (hr : RoomH k (A.deeper (envOfC "_law_class" (defScope s_class_) s.heap.objs.size (He.fAd K ("_law_class", none)) cdv))) :
    PSs (cxH CX0 P w' K mg base N_class_ "_law_class" (defScope s_class_) (He.fAd K ("_law_class", none)) cdv A outer s H E0 (a, oe)) (defBody s_class_) (t_class_ K D a) := by
  have IP : CallR (cxH CX0 P w' K mg base N_class_ "_law_class" (defScope s_class_) (He.fAd K ("_law_class", none)) cdv A outer s H E0 (a, oe)) (.builtin "isinstance") (rIsE K D a) := is_pin C hz hf (List.mem_singleton.mpr rfl)
  have hu64 := Nat.lt_of_le_of_lt (Nat.add_le_add_left (show 64 ≤ 16 * k + 200 by omega) _) (by have := hr.un; rw [Nat.add_assoc] at this; exact this)
  have hu1 := Nat.lt_of_le_of_lt (Nat.add_le_add_left (show 1 ≤ 16 * k + 200 by omega) _) (by have := hr.un; rw [Nat.add_assoc] at this; exact this)
  exact (pss_cons (ps_set (i := 1) sc_class_.nd rfl (by first | exact Or.inl rfl | exact Or.inr rfl) (pe_lst (pa_cons (pe_callB IP (by rfl) T.n_isinstance bt_isinstance (pa_cons (pv 0) (pa_cons (pe_glob (by rfl) T.g_BadDeal rfl) pa_nil))) (pa_cons (pe_callB IP (by rfl) T.n_isinstance bt_isinstance (pa_cons (pv 0) (pa_cons (pe_glob (by rfl) T.g_BadHand rfl) pa_nil))) (pa_cons (pe_callB IP (by rfl) T.n_isinstance bt_isinstance (pa_cons (pv 0) (pa_cons (pe_glob (by rfl) T.g_BadLetter rfl) pa_nil))) (pa_cons (pe_callB IP (by rfl) T.n_isinstance bt_isinstance (pa_cons (pv 0) (pa_cons (pe_glob (by rfl) T.g_BadTime rfl) pa_nil))) pa_nil))))))
      (pss_cons (ps_set (i := 1) sc_class_.nd rfl (by first | exact Or.inl rfl | exact Or.inr rfl) (pe_op op_addA (pv 1) (pe_lst (pa_cons (pe_callB IP (by rfl) T.n_isinstance bt_isinstance (pa_cons (pv 0) (pa_cons (pe_glob (by rfl) T.g_BadKey rfl) pa_nil))) (pa_cons (pe_callB IP (by rfl) T.n_isinstance bt_isinstance (pa_cons (pv 0) (pa_cons (pe_glob (by rfl) T.g_BadHouse rfl) pa_nil))) (pa_cons (pe_callB IP (by rfl) T.n_isinstance bt_isinstance (pa_cons (pv 0) (pa_cons (pe_glob (by rfl) T.g_NoCopy rfl) pa_nil))) (pa_cons (pe_callB IP (by rfl) T.n_isinstance bt_isinstance (pa_cons (pv 0) (pa_cons (pe_glob (by rfl) T.g_Behind rfl) pa_nil))) pa_nil)))))))
      (pss_cons (ps_set (i := 1) sc_class_.nd rfl (by first | exact Or.inl rfl | exact Or.inr rfl) (pe_op op_addA (pv 1) (pe_lst (pa_cons (pe_callB IP (by rfl) T.n_isinstance bt_isinstance (pa_cons (pv 0) (pa_cons (pe_glob (by rfl) T.g_BadBlock rfl) pa_nil))) (pa_cons (pe_callB IP (by rfl) T.n_isinstance bt_isinstance (pa_cons (pv 0) (pa_cons (pe_glob (by rfl) T.g_BadEntry rfl) pa_nil))) (pa_cons (pe_callB IP (by rfl) T.n_isinstance bt_isinstance (pa_cons (pv 0) (pa_cons (pe_glob (by rfl) T.g_BadText rfl) pa_nil))) (pa_cons (pe_callB IP (by rfl) T.n_isinstance bt_isinstance (pa_cons (pv 0) (pa_cons (pe_glob (by rfl) T.g_Stopped rfl) pa_nil))) pa_nil)))))))
      (pss_cons (ps_set (i := 2) sc_class_.nd rfl (by first | exact Or.inl rfl | exact Or.inr rfl) (pe_lst (pa_cons pe_str (pa_cons pe_str (pa_cons pe_str (pa_cons pe_str (pa_cons pe_str (pa_cons pe_str (pa_cons pe_str (pa_cons pe_str (pa_cons pe_str pa_nil)))))))))))
      (pss_cons (ps_set (i := 2) sc_class_.nd rfl (by first | exact Or.inl rfl | exact Or.inr rfl) (pe_op op_addA (pv 2) (pe_lst (pa_cons pe_str (pa_cons pe_str (pa_cons pe_str pa_nil))))))
      (pss_one (ps_ret (pe_ifExp (PW.pt (pw_and (pt_cmpR (op_eqA hu64) (pe_bm PySem.F.plainAttrs_list PySem.F.slot_list_count PySem.F.type_list_count mt_cntB (pv 1) (pa_cons pe_bl pa_nil)) pe_int (nomark _)) (pw_and1 (pt_truth (pe_callB IP (by rfl) T.n_isinstance bt_isinstance (pa_cons (pv 0) (pa_cons (pe_bltn (v := .ty "ValueError") (by rfl) T.n_ValueError bt_ValueError rfl) pa_nil))) (by intro _; rfl))))) (pe_ix (ix_any hu1) (pv 2) (pe_bm PySem.F.plainAttrs_list PySem.F.slot_list_index PySem.F.type_list_index mt_index (pv 1) (pa_cons pe_bl pa_nil)) (fun _ _ => rfl)) pe_str))))))))
end
end W

end
section
/-! ### M0: words for walking through a reading (local) -/
local macro_rules | `(tactic| walk_at "st") => `(tactic| first
  | (with_reducible refine Cm.s_seq ?_) | (with_reducible refine Cm.s_asg ?_) | (with_reducible refine Cm.s_drop ?_) | (with_reducible refine Cm.s_ret ?_) | (with_reducible refine Cm.s_if ?_) | (with_reducible refine Cm.s_next ?_) | (with_reducible refine Cm.s_retN ?_) | (with_reducible refine Cm.s_rs ?_) | (with_reducible refine Cm.s_fld0 ?_)
  | ((with_reducible refine' Cm.e_var ?hv ?_); (case hv => exact rfl))
  | (with_reducible refine Cm.e_c ?_) | (with_reducible refine Cm.e_op ?_) | (with_reducible refine Cm.e_un ?_) | (with_reducible refine Cm.e_nil ?_) | (with_reducible refine Cm.e_cons ?_) | (with_reducible refine Cm.e_tup ?_) | (with_reducible refine Cm.e_lst ?_) | (with_reducible refine Cm.e_cb ?_) | (with_reducible refine Cm.e_call ?_) | (with_reducible refine Cm.e_if ?_)
  | (with_reducible refine Cm.e_andV ?_) | (with_reducible refine Cm.e_orV ?_) | (with_reducible refine Cm.e_notV ?_) | (with_reducible refine Cm.e_fld0 ?_) | (with_reducible refine Cm.e_meth0 ?_) | (with_reducible refine Cm.e_bm0 ?_) | (with_reducible refine Cm.e_bm ?_) | (with_reducible refine Cm.e_sl ?_) | (with_reducible refine Cm.o_none ?_) | (with_reducible refine Cm.o_some ?_) | (with_reducible refine Cm.e_dnew ?_)
  | (with_reducible refine Cm.e_test ?_) | (with_reducible refine Cm.e_tr ?_) | (with_reducible refine Cm.e_and ?_) | (with_reducible refine Cm.e_or ?_) | (with_reducible refine Cm.e_not ?_) | (with_reducible refine Cm.e_yes ?_) | (with_reducible refine Cm.e_chain ?_)
  | (with_reducible refine Cm.r_i0 ?_) | (with_reducible refine Cm.r_u ?_) | (with_reducible refine Cm.r_isNo ?_) | (with_reducible refine Cm.r_notNo ?_) | (with_reducible refine Cm.r_addI ?_) | (with_reducible refine Cm.r_int1b ?_) | (with_reducible refine Cm.r_max2 ?_)
  | ((with_reducible refine Cm.r_i ?hc ?_); (case hc => walk_at "num"))
  | ((with_reducible refine Cm.r_mulI ?hc ?_); (case hc => walk_at "num"))
  | ((with_reducible refine Cm.r_eqS ?hc ?_); (case hc => exact rfl))
  | ((with_reducible refine Cm.r_neS ?hc ?_); (case hc => exact rfl))
  | ((with_reducible refine' Cm.r_ixl ?h1 ?h2 ?_); (case h1 => walk_at "look"); (case h2 => walk_at "at"))
  | ((with_reducible refine' Cm.r_ixt ?h1 ?h2 ?_); (case h1 => walk_at "look"); (case h2 => walk_at "at"))
  | ((with_reducible refine' Cm.r_ixT ?h1 ?h2 ?_); (case h1 => walk_at "lookT"); (case h2 => walk_at "at"))
  | ((with_reducible refine' Cm.r_ixds ?h1 ?h2 ?_); (case h1 => walk_at "look"); (case h2 => walk_at "key"))
  | ((with_reducible refine' Cm.r_eqe ?h1 ?h2 ?_); (case h1 => walk_at "look"); (case h2 => walk_at "look"))
  | ((with_reducible refine' Cm.r_nee ?h1 ?h2 ?_); (case h1 => walk_at "look"); (case h2 => walk_at "look"))
  | ((with_reducible refine' Cm.r_lenl ?h1 ?_); (case h1 => walk_at "look"))
  | ((with_reducible refine' Cm.r_lent ?h1 ?_); (case h1 => walk_at "look"))
  | ((with_reducible refine' Cm.r_lenT ?h1 ?_); (case h1 => walk_at "lookT"))
  | ((with_reducible refine' Cm.r_listl ?h1 ?_); (case h1 => walk_at "look"); (intro _ _))
  | ((with_reducible refine' Cm.r_tupl ?h1 ?_); (case h1 => walk_at "look"); (intro _ _))
  | ((with_reducible refine' Cm.r_addL ?h1 ?h2 ?h3 ?_); (case h1 => walk_at "look"); (case h2 => walk_at "look"); (case h3 => walk_at "size"); (intro _ _))
  | ((with_reducible refine' Cm.m_append ?h1 ?h2 ?_); (case h1 => walk_at "look"); (case h2 => walk_at "size"))
  | ((with_reducible refine' Cm.m_clear ?h1 ?_); (case h1 => walk_at "look"))
  | ((with_reducible refine' Cm.g_setL ?h1 ?h2 ?_); (case h1 => walk_at "look"); (case h2 => walk_at "ix"))
  | ((with_reducible refine' Cm.g_setDs ?h1 ?h2 ?h3 ?_); (case h1 => walk_at "look"); (case h2 => walk_at "size"); (case h3 => walk_at "put"))
  | ((with_reducible refine' Cm.fld_at ?h1 ?h2 ?h3 ?h4 ?_); (case h1 => walk_at "look"); (case h2 => assumption); (case h3 => assumption); (case h4 => walk_at "key"))
  | ((with_reducible refine' Cm.fldset_at ?h1 ?h2 ?h3 ?h4 ?h5 ?_); (case h1 => walk_at "look"); (case h2 => assumption); (case h3 => assumption); (case h4 => walk_at "size"); (case h5 => walk_at "put"))
  | (with_reducible refine Cm.s_fldaug0 ?_)
  | ((with_reducible refine' Cm.aug_at ?h1 ?h2 ?h3 ?h4 ?_); (case h1 => walk_at "look"); (case h2 => assumption); (case h3 => assumption); (case h4 => walk_at "key"))
  | ((with_reducible refine' Cm.augset_at ?h1 ?h4 ?h5 ?_); (case h1 => walk_at "look"); (case h4 => walk_at "size"); (case h5 => walk_at "put"))
  | (with_reducible refine Cm.in_sub_at ?_) | (with_reducible refine Cm.in_add_at ?_)
  | ((with_reducible refine' Cm.meth_at ?h1 ?h2 ?_); (case h1 => walk_at "look"); (case h2 => walk_at "key"))
  | ((with_reducible refine Cm.new_at ?h1 ?_); (case h1 => walk_at "size"); (intro _ _))
  | ((with_reducible refine Cm.and_at (A := L2.tyV _ _ _ _) ?h1 ?_); (case h1 => exact Cm.ty_lst (by walk_at "look")))
  | ((with_reducible refine' Cm.g_tupt ?h1 ?h2 ?_); (case h1 => walk_at "look"); (case h2 => exact rfl))
  | ((with_reducible refine' Cm.g_tup ?h1 ?h2 ?_); (case h1 => walk_at "lookT"); (case h2 => exact rfl))
  | (with_reducible refine Cm.g_name ?_) | (with_reducible refine Cm.g_sub ?_) | (with_reducible refine Cm.g_cons ?_) | (with_reducible refine Cm.g_nil ?_)
  | (with_reducible refine Cm.int_at ?_) | (with_reducible refine Cm.bl_at ?_) | (with_reducible refine Cm.tr_bl ?_) | (with_reducible refine Cm.tr_non ?_)
  | ((with_reducible refine' Cm.m_pop0 ?h1 ?_); (case h1 => walk_at "look"))
  | ((with_reducible refine' Cm.r_slTo ?h1 ?h2 ?_); (case h1 => walk_at "look"); (case h2 => walk_at "num2"); (intro _ _))
  | ((with_reducible refine' Cm.r_slFrom ?h1 ?h2 ?_); (case h1 => walk_at "look"); (case h2 => walk_at "num2"); (intro _ _))
  | ((with_reducible refine' Cm.at_forL ?h1 ?_); (case h1 => walk_at "look"))
  | ((with_reducible refine' Cm.at_forT ?h1 ?_); (case h1 => walk_at "look"))
  | ((with_reducible refine' Cm.at_forR ?h1 ?h2 ?_); (case h1 => walk_at "num2"); (case h2 => walk_at "num2"))
  | ((with_reducible refine' Cm.at_forZ ?h1 ?h2 ?_); (case h1 => walk_at "look"); (case h2 => walk_at "look"))
  | (with_reducible refine Cm.s_forZ ?_) | (with_reducible refine Cm.s_forR ?_)
  | ((with_reducible refine Cm.and_at (A := _ = _) ?h1 ?_); (case h1 => exact rfl))
  | ((with_reducible show L2.rIsi _ _ _ _); walk_at "isi")
  | (with_reducible refine Cm.ite_nt ?_) | (with_reducible refine Cm.ite_nf ?_)
  | (with_reducible refine L2.iteT ?_) | (with_reducible refine L2.iteF ?_)
  | dsimp only
  | fail)
local macro_rules | `(tactic| walk_at "run") => `(tactic| repeat (walk_at "st"))
local macro_rules | `(tactic| walk_at "num") => `(tactic| first
  | exact Or.inr ⟨by decide, by decide⟩ | exact Or.inl ⟨by decide, by decide⟩
  | exact Cm.wdiv (by first | decide | omega) (by first | decide | omega)
  | (show (0 : Int) < _; first | decide | omega)
  | exact ⟨by decide, by decide, by decide⟩
  | fail)
local macro_rules | `(tactic| walk_at "put") => `(tactic| exact rfl)
local macro_rules | `(tactic| walk_at "fl") => `(tactic| first | exact Cm.fl0 | (refine' Cm.flS ?hz; (case hz => walk_at "fl")) | fail)
local macro_rules | `(tactic| walk_at "size") => `(tactic| first | exact Cm.sz_lit rfl | exact Cm.sz_lt rfl | exact Cm.fs_lt rfl | decide | (refine' Nat.lt_of_le_of_lt ?ha ?hb; (case ha => walk_at "fl"); (case hb => decide)) | (simp only [List.length_cons, List.length_nil, List.length_append, List.length_map, List.length_set, List.length_replicate, PySem.sizeLine_eq]; omega) | (simp only [List.length_cons, List.length_nil, List.length_append, List.length_map, List.length_set, List.length_replicate, PySem.sizeLine_eq] at *; omega) | fail)
local macro_rules | `(tactic| walk_at "at") => `(tactic| first | assumption | (with_reducible exact Cm.at0) | (with_reducible exact Cm.at1) | (with_reducible exact Cm.at2) | (with_reducible exact Cm.at3) | (with_reducible exact Cm.at4) | (with_reducible exact Cm.at5) | (with_reducible exact Cm.at6) | (with_reducible exact Cm.at7) | (with_reducible exact Cm.at8) | (with_reducible exact Cm.at0s) | (with_reducible exact Cm.at1s) | (with_reducible exact Cm.at01s) | (with_reducible exact Cm.at10s) | fail)
local macro_rules | `(tactic| walk_at "ix") => `(tactic| first | exact Cm.ix0 (by walk_at "size") | exact Cm.ix1 (by walk_at "size") | assumption | fail)
local macro_rules | `(tactic| walk_at "key") => `(tactic| first | assumption | fail)
local macro_rules | `(tactic| walk_at "ne") => `(tactic| first
  | assumption
  | (refine Ne.symm ?_; assumption)
  | (refine' L2.ne_of_none ?h1 ?h2; (case h2 => assumption); (case h1 => walk_at "look"))
  | (refine' Ne.symm (L2.ne_of_none ?h1 ?h2); (case h2 => assumption); (case h1 => walk_at "look"))
  | fail)
local macro_rules | `(tactic| walk_at "lookT") => `(tactic| first
  | assumption
  | exact L2.SqT.of (by walk_at "look")
  | fail)
local macro_rules | `(tactic| walk_at "look") => `(tactic| first
  | assumption
  | exact L2.upd_same
  | ((fail_if_success (with_reducible refine Eq.trans L2.upd_same ?_)); (refine' Eq.trans (L2.upd_ne ?h1) ?h2); (case h1 => walk_at "ne"); (case h2 => walk_at "look"))
  | (refine' Cm.kp_look ?h1 ?h2 ?h3 ?h4; (case h1 => assumption); (case h2 => walk_at "look"); (case h3 => intro _ z; cases z); (case h4 => first | exact Or.inl rfl | exact Or.inr (by walk_at "out")))
  | fail)
local macro_rules | `(tactic| walk_at "out") => `(tactic| first
  | assumption
  | exact fun z => z
  | exact fun z => z.elim (fun e => absurd e (by walk_at "ne")) (fun e => absurd e (by walk_at "ne"))
  | exact fun e => absurd e (by walk_at "ne")
  | fail)
local macro_rules | `(tactic| walk_at "dom") => `(tactic| first
  | exact Cm.dm_refl
  | (refine Cm.dm_upd ?_; walk_at "dom")
  | (refine' Cm.dm_kp ?h1 ?h2; (case h2 => assumption); (case h1 => walk_at "dom"))
  | fail)
local macro_rules | `(tactic| walk_at "free") => `(tactic| first
  | assumption
  | exact Cm.nw_of (by assumption)
  | (refine' Cm.dm_use ?h1 ?h2; (case h2 => assumption); (case h1 => walk_at "dom"))
  | (refine' Cm.dm_use2 ?h1 ?h2; (case h2 => assumption); (case h1 => walk_at "dom"))
  | fail)
local macro_rules | `(tactic| walk_at "in") => `(tactic| first
  | exact Or.inl rfl | exact Or.inl (Or.inl rfl) | exact Or.inl (Or.inr rfl) | exact Or.inl (Or.inr (Or.inl rfl)) | exact Or.inl (Or.inr (Or.inr rfl))
  | exact Or.inl (by assumption)
  | exact Or.inr (by walk_at "free")
  | fail)
local macro_rules | `(tactic| walk_at "kp") => `(tactic| first
  | assumption
  | exact Cm.Kp.refl
  | (refine' Cm.Kp.new' ?h1 ?h2; (case h2 => assumption); (case h1 => walk_at "kp"))
  | (refine' Cm.Kp.setL' ?h1 ?h2 ?h3; (case h2 => walk_at "look"); (case h3 => walk_at "in"); (case h1 => walk_at "kp"))
  | (refine' Cm.Kp.setI' ?h1 ?h2 ?h3; (case h2 => walk_at "look"); (case h3 => walk_at "in"); (case h1 => walk_at "kp"))
  | (refine' Cm.Kp.setD' ?h1 ?h2 ?h3; (case h2 => walk_at "look"); (case h3 => walk_at "in"); (case h1 => walk_at "kp"))
  | (refine' Cm.kp_step ?h1 ?h2 ?h3; (case h2 => assumption); (case h3 => walk_at "sub"); (case h1 => walk_at "kp"))
  | fail)
local macro_rules | `(tactic| walk_at "sub") => `(tactic| first
  | exact fun _ z => z.elim
  | exact fun _ z => Or.inl z
  | (intro a z; rcases z with rfl | rfl <;> walk_at "in")
  | (intro a z; subst z; walk_at "in")
  | fail)
local macro_rules | `(tactic| walk_at "num2") => `(tactic| first | decide | omega | fail)

local macro_rules | `(tactic| walk_at "isi") => `(tactic| first | (with_reducible refine Cm.isi_non_bool ?_) | (with_reducible refine Cm.isi_non_int ?_) | (with_reducible refine Cm.isi_non_str ?_) | (with_reducible refine Cm.isi_non_tuple ?_) | (with_reducible refine Cm.isi_non_list ?_) | (with_reducible refine Cm.isi_bl_bool ?_) | (with_reducible refine Cm.isi_bl_int ?_) | (with_reducible refine Cm.isi_bl_str ?_) | (with_reducible refine Cm.isi_bl_tuple ?_) | (with_reducible refine Cm.isi_bl_list ?_) | (with_reducible refine Cm.isi_int_bool ?_) | (with_reducible refine Cm.isi_int_int ?_) | (with_reducible refine Cm.isi_int_str ?_) | (with_reducible refine Cm.isi_int_tuple ?_) | (with_reducible refine Cm.isi_int_list ?_) | (with_reducible refine Cm.isi_str_bool ?_) | (with_reducible refine Cm.isi_str_int ?_) | (with_reducible refine Cm.isi_str_str ?_) | (with_reducible refine Cm.isi_str_tuple ?_) | (with_reducible refine Cm.isi_str_list ?_) | ((with_reducible refine' Cm.isi_tup_bool ?h1 ?_); (case h1 => walk_at "look")) | ((with_reducible refine' Cm.isi_tup_int ?h1 ?_); (case h1 => walk_at "look")) | ((with_reducible refine' Cm.isi_tup_str ?h1 ?_); (case h1 => walk_at "look")) | ((with_reducible refine' Cm.isi_tup_tuple ?h1 ?_); (case h1 => walk_at "look")) | ((with_reducible refine' Cm.isi_tup_list ?h1 ?_); (case h1 => walk_at "look")) | ((with_reducible refine' Cm.isi_lst_bool ?h1 ?_); (case h1 => walk_at "look")) | ((with_reducible refine' Cm.isi_lst_int ?h1 ?_); (case h1 => walk_at "look")) | ((with_reducible refine' Cm.isi_lst_str ?h1 ?_); (case h1 => walk_at "look")) | ((with_reducible refine' Cm.isi_lst_tuple ?h1 ?_); (case h1 => walk_at "look")) | ((with_reducible refine' Cm.isi_lst_list ?h1 ?_); (case h1 => walk_at "look")) | fail)

/-! ### the class of a refusal told; a lambda's work told -/
namespace W
open PySem PySem.Spec PyProof.Rows L2 L2H Cm
section
variable {P : Program} {w : World} {K : PySem.W.Frag} {mg : Str → Option Value} {base : Heap}
theorem Tx.kin (T : Tx w K mg) {x : Str} (hx : x ∈ kinds) : ExcC K (He.ga K x) ∧ PySem.W.kitOne K (.ref (He.ga K x)) (.type "ValueError") = some true ∧ ∀ y ∈ kinds, PySem.W.kitOne K (.ref (He.ga K x)) (.ref (He.ga K y)) = some (x == y) := exK_of T.ex1 hx
theorem Tx.exm (T : Tx w K mg) {x : Str} (hx : x ∈ kinds) : PySem.W.exmOne K (.ref (He.ga K x)) (.ref (He.ga K "StillError")) = some true := by
  simp only [kinds, List.mem_cons, List.not_mem_nil, or_false] at hx
  rcases hx with rfl | rfl | rfl | rfl | rfl | rfl | rfl | rfl | rfl | rfl | rfl | rfl
  · exact T.xm_BadDeal_StillError
  · exact T.xm_BadHand_StillError
  · exact T.xm_BadLetter_StillError
  · exact T.xm_BadTime_StillError
  · exact T.xm_BadKey_StillError
  · exact T.xm_BadHouse_StillError
  · exact T.xm_NoCopy_StillError
  · exact T.xm_Behind_StillError
  · exact T.xm_BadBlock_StillError
  · exact T.xm_BadEntry_StillError
  · exact T.xm_BadText_StillError
  · exact T.xm_Stopped_StillError
theorem r_isE (T : Tx w K mg) {x y : Str} {a : Addr} {H : Hp} {Q : VK} (hx : x ∈ kinds) (hy : y ∈ kinds) (q : Q (.bl (x == y)) H) : rIsE K (He.ga K x) a [.ref a, .ref (He.ga K y)] H Q :=
  ⟨.ref (He.ga K y), .ref (He.ga K y), x == y, rfl, fun _ r => r, (T.kin hx).2.2 y hy, q⟩
theorem r_isV (T : Tx w K mg) {x : Str} {a : Addr} {H : Hp} {Q : VK} (hx : x ∈ kinds) (q : Q (.bl true) H) : rIsE K (He.ga K x) a [.ref a, .ty "ValueError"] H Q :=
  ⟨.ty "ValueError", .type "ValueError", true, rfl, fun _ r => r, (T.kin hx).2.1, q⟩
theorem pure_class_ (T : Tx w K mg) {x : Str} (hx : x ∈ kinds) {a : Addr} {H : Hp} {Q : VK} (hq : ∀ H', Kp (tabs K) No H H' → Q (.str x) H') : t_class_ K (He.ga K x) a { nx := fun _ H' => Q .non H', rt := Q } (start N_class_ [.ref a]) H := by
  unfold t_class_
  iterate 12 (walk_at "run"; refine r_isE T hx (by decide) ?_)
  walk_at "run"
  rename_i p1 h1 p2 h2 p3 h3 p4 h4 p5 h5 p6 h6 p7 h7 p8 h8
  obtain ⟨hc, j, hj, hjt, hjf, hjw⟩ := kinds_at x hx
  have e58 : p5 ≠ p8 := by walk_at "ne"
  have e57 : p5 ≠ p7 := by walk_at "ne"
  have e56 : p5 ≠ p6 := by walk_at "ne"
  refine ⟨p5, kinds.map (x == ·), true, rfl, rfl, SqL.of ?_, ?_⟩
  · rw [upd_ne e58, upd_ne e57, upd_ne e56]; exact upd_same
  rw [hc]
  walk_at "run"
  refine if_dT rfl ?_
  walk_at "run"
  refine r_isV T hx ?_
  walk_at "run"
  refine ⟨p5, (kinds.map (x == ·)).map V.bl, .bl true, j, .bl true, rfl, rfl, SqL.of ?_, rfl, ?_, ?_, rfl, fun m z hm hz => ?_, ?_⟩
  · rw [upd_ne e58, upd_ne e57, upd_ne e56]; exact upd_same
  · rw [List.all_map]; exact List.all_eq_true.mpr fun _ _ => rfl
  · rw [List.getElem?_map, hjt]; rfl
  · rw [List.getElem?_map, hjf m hm] at hz
    cases hz; rfl
  · refine r_ixl (xs := kinds.map V.str) (v := .str x) upd_same (atI_nat (j := j) ?_) (hq _ (by walk_at "kp"))
    rw [List.getElem?_map, hjw]; rfl
/-- what a told work wishes of the lambda -/
def TT_told_ (K : PySem.W.Frag) : (XK → Hp → VK → Prop) → Hp → VK → Prop := fun tl H Q => tl (fun cls d H' => ∃ x, x ∈ kinds ∧ cls = .ref (He.ga K x) ∧ d = none ∧ ∀ H'', Kp (tabs K) No H' H'' → Q (.str x) H'') H Q
def tCls (K : PySem.W.Frag) (x : Str) (a : Addr) : Sp := sp1 fun v H Q _ => v = .ref a ∧ ∀ H', Kp (tabs K) No H H' → Q (.str x) H'
/-- _law_class(e) within the except suite -/
theorem pe_class {X : Cx} (T : Tx w X.K X.mg) {k : Nat} {x : Str} {a : Addr} {oe : Obj} {e : Expr} {es : List Expr} {t : TA} {p pos : Pos} (hx : x ∈ kinds) (hz : L2N.Zn (.ref (He.ga X.K x)) none oe) (hf : ∃ vs, oe.data = .fields vs) (hh : X.A.handled = some (.ref a)) (hr : RoomH (k + 1) X.A) (hp : (a, oe) ∈ X.pn) (hg : Gl X "_law_class")
    (ha : PA X (e :: es) t) (he : starEach (e :: es) X.env = (false, eval e X.env) :: starEach es X.env := by rfl) (hpl : (backTo pos (starEach es X.env)).any (·.1) = false := by rfl) : PE X (.Call (.Name "_law_class" p) (e :: es) [] pos) (tCall (tCls X.K x a) [] E0 t) := by
  obtain ⟨fd, F⟩ := T.f_class_
  have hv : ∃ vs : Array Value, oe.data = .fields vs ∧ vs[2]? = some .none := by
    obtain ⟨vs, e⟩ := hf
    exact ⟨vs, e, hz.2.2 vs e⟩
  refine call_pin (k := k) (p := (a, oe)) F sc_class_ (fun vs H Q E h => by obtain ⟨_, rfl, _⟩ := h; rfl) hr ⟨hh, hv⟩ hp hg T.g_class_ (F.bindsN (fun _ _ _ _ _ _ us hl => match us, hl with | [_], _ => rfl)) (fun cdv s H vs Q hr' hsp => ?_) ha (by rfl) he hpl
  obtain ⟨_, rfl, rfl, hq⟩ := hsp
  exact ⟨t_class_ X.K (He.ga X.K x) a, der_class_ T (T.kin hx).1 hz.zc hf hr', pure_class_ T hx hq⟩
end
end W

end
section
namespace W
open PySem PySem.Spec PyProof.Rows L2 L2H Cm
section
variable {P : Program} {w : World} {K : PySem.W.Frag} {mg : Str → Option Value} {base : Heap}
theorem gives_told {X : Cx} (T : Tx w X.K X.mg) {k : Nat} {q : Str} (cdv : Value) : GivesN X (k + 1) N_told_ "_law_told" (defScope s_told_) (He.fAd X.K ("_law_told", none)) cdv (defBody s_told_) "_law_work" q (TT_told_ X.K) := by
  intro f c' s H Q tl hr act hco ht
  refine ⟨_, pss_one (L2N.ps_try_as (i := 1) (x := "StillError") (c := .ref (He.ga X.K "StillError")) rfl rfl sc_told_.nd rfl rfl ⟨by rfl, by rfl, .inl T.g_StillError⟩ tkN
    (tb := fun W D σ H => ∃ E : XK, (∀ cls d σ' H', E cls d H' → W cls d σ' H') ∧ tRet (fun σZ HZ Q => σZ[0]? = some (some (.ref f)) ∧ HZ c' = some (LamX.CodeO c' q) ∧ tl E HZ Q) D σ H)
    (ts := fun a cls d D σ H => ∃ x, x ∈ kinds ∧ cls = .ref (He.ga X.K x) ∧ d = none ∧ (σ.length = 2 → tRet (tCall (tCls X.K x a) [] E0 (tCons (tVar 1) tNil)) D σ H)) ?hb ?hsu), ?_⟩
  case hb =>
    intro W pn xe tk _
    refine ⟨fun pins s σ H D I h => ?_⟩
    obtain ⟨E, hE, h⟩ := h
    exact (pss_one (ps_ret (act W pn xe E _ _ tk hE))).run pins s σ H D I h
  case hsu =>
    intro a oe cls d pn hz hf
    refine ⟨fun pins s' σ H' D I h => ?_⟩
    obtain ⟨x, hx, rfl, rfl, h⟩ := h
    have hr2 : RoomH (k + 1) ((X.A.deeper (envOfC "_law_told" (defScope s_told_) s.heap.objs.size (He.fAd X.K ("_law_told", none)) cdv)).mark (some (.ref a))) := ⟨hr.dp, hr.un⟩
    exact (pss_one (ps_ret (pe_class (X := (zCx CX0 X N_told_ "_law_told" (defScope s_told_) (He.fAd X.K ("_law_told", none)) cdv s H E0).nox.suite a ((a, oe) :: pn)) (k := k) T hx hz hf rfl hr2 List.mem_cons_self (by rfl) (pa_cons (pv 1) pa_nil)))).run pins s' σ H' D I (h I.len)
  · refine ⟨_, fun cls d σ' H' h => ?_, rfl, hco, ht⟩
    obtain ⟨x, hx, rfl, rfl, hq⟩ := h
    refine ⟨true, T.exm hx, fun _ a ha => ⟨x, hx, rfl, rfl, fun hl => ?_⟩, fun z => nomatch z⟩
    have hl : σ'.length = 2 := by simpa using hl
    refine ⟨.ref a, ?_, _, rfl, rfl, hq⟩
    rw [List.getElem?_set, if_pos rfl, if_pos (by omega)]
theorem lam_told_ {X : Cx} (T : Tx w X.K X.mg) (TB : ∀ p ∈ tf, LamX.TabB X.base X.mg (He.cT X.K p).1 (He.cT X.K p).2) {k : Nat} {at_ : He.Defn} {params : Arguments} {body : Expr} {scope : Scope} {t : XK → TE} {p lpos pos : Pos} (hat : at_ ∈ tf) (hq : X.env.qual ++ "<lambda>" = at_.1 ++ ".<locals>.<lambda>") (hcode : X.env.code = .ref (He.codeOf X.K at_))
    (hr : Room (k + 2) X.A) (hL : LamX.lamSB X.env.scope scope = true) (hg : Gl X "_law_told") (hdef : defaultsOf params X.env = ([], [])) (hbind : ∀ (q : Str) (cl : List (Str × Addr)) (pm cv ctv : Value), bindArgs (PySem.W.kla_fn "<lambda>" q params body scope cl pm cv ctv) ⟨[], []⟩ = pure [])
    (hbody : ∀ (A : Around) (outer : List Env) (s : Shared) (H : Hp) (E : XK) (f c' : Addr), Room k (A.deeper (LamX.lamEnv X scope s.heap.objs.size f c')) → PE (lamN X A outer s H E scope f c') body (t E)) :
    PE X (.Call (.Name "_law_told" p) [.Lambda params body scope lpos] [] pos) (LamX.tLam (tabs X.K) (TT_told_ X.K) t) := by
  obtain ⟨fd, F⟩ := T.f_told_
  refine lam_n (T := tabs X.K) (P := (He.cT X.K at_).2) (c := He.codeOf X.K at_) (k := k) F hg T.g_told_ (F.bindsN (fun _ _ _ _ _ _ us hl => match us, hl with | [_], _ => rfl)) sc_told_ rfl (.inl rfl) (fun cdv => gives_told T cdv) (TB at_ hat) hcode ?_ ?_ hr (LamX.lamS_by hL) hdef hbind hbody
  · rw [hq]; exact List.mem_map.mpr ⟨at_, hat, rfl⟩
  · intro q hm e
    obtain ⟨at2, h2, rfl⟩ := List.mem_map.mp hm
    rw [hq, inj_map (f := fun p => (He.cT X.K p).2) T.tnd h2 hat e]
end
end W

end
section
namespace W
open PySem PySem.Spec PyProof.Rows L2 Cm
/-! _law_write -/
def t_write_ (K : PySem.W.Frag) (E : XK) : TS := (tSeq (tAsg (tOp (rIxA K) (tLst (tCons (tCall (S_take_ K) [] E (tCons (tVar 0) (tCons (tC (.int 35)) tNil))) (tCons (tCall (S_take_ K) [] E (tCons (tVar 0) (tCons (tC (.int 3)) tNil))) (tCons (tOp (rIxA K) (tLst (tCons (tUn (rU fun i => .int (-i)) (tC (.int 1))) (tCons (tC (.int 35)) (tCons (tOp (rI CPow fun i j => .int (i ^ j.toNat)) (tC (.int 10)) (tC (.int 18))) tNil)))) (tCall (S_take_ K) [] E (tCons (tVar 0) (tCons (tC (.int 3)) tNil)))) tNil)))) (tOp (rI CDivW fun i j => .int (i / j)) (tCall (S_take_ K) [] E (tCons (tVar 0) (tCons (tC (.int 9)) tNil))) (tC (.int 4)))) (gName 3)) (tSeq (tAsg (tCall (S_what_ K) [] E (tCons (tVar 0) tNil)) (gName 4)) (tSeq (tAsg (tC (.str "BadBlock")) (gName 5)) (tSeq (tIfS (tAnd (tTest (tChain (rI0 fun i j => .bl (decide (i ≤ j))) (rI0 fun i j => .bl (decide (i < j))) (tC (.int 0)) (tVar 3) (tC (.int 35)))) (tTest (tOp (rI0 fun i j => .bl (decide (i ≤ j))) (tCall (S_weight_ K 7) [] E (tCons (tVar 4) tNil)) (tC (.int 40))))) (tSeq (tAsg (tIf (tTr K (tCall (S_count_ K) [] E (tCons (tVar 2) tNil))) (tC .non) (tC (.str "Stopped"))) (gName 5)) (tIfS (tTest (tOp rIsNo (tVar 5) (tC .non))) (tDrop (tBM K "list" rAppend (tOp (rIxA K) (tVar 2) (tC (.str "pending"))) (tCons (tTup (tCons (tVar 3) (tCons (tVar 4) tNil))) tNil))) tNext)) tNext) (tRet (tCall (S_alike_ K 9) [] E (tCons (LamX.tLam (tabs K) (TT_told_ K) (fun E => (tMeth (He.ga K "Disk") "write" (S_Disk_write K) [] E (tVar 1) (tCons (tVar 3) (tCons (tVar 4) tNil))))) (tCons (tVar 5) tNil))))))))
/-! _law_arms -/
def t_arms_ (K : PySem.W.Frag) (E : XK) : TS := (tSeq (tAsg (tLc (iRng1 (tCons (tCall (S_take_ K) [] E (tCons (tVar 0) (tCons (tC (.int 9)) tNil))) tNil)) (gName 4) tYes (tOp (rEqA K) (tCall (S_take_ K) [] E0 (tCons (tVar 0) (tCons (tC (.int 2)) tNil))) (tC (.int 0))) [4]) (gName 3)) (tSeq (tAsg (tCB (rListA K) (tCons (tVar 3) tNil)) (gName 5)) (tSeq (tAsg (tCall (S_take_ K) [] E (tCons (tVar 0) (tCons (tC (.int 4)) tNil))) (gName 6)) (tSeq (tIfS (tTest (tOp (rI0 fun i j => .bl (decide (i < j))) (tVar 6) (tC (.int 2)))) (tSeq (tAsg (tCall (S_take_ K) [] E (tCons (tVar 0) (tCons (tOp (rIxA K) (tLst (tCons (tC (.int 3)) (tCons (tC (.int 20)) tNil))) (tVar 6)) tNil))) (gSub (tVar 2) (tC (.str "left")) rSetA)) (tSeq (tAsg (tVar 3) (gSub (tVar 2) (tC (.str "picks")) rSetA)) (tDrop (tMeth (He.ga K "Disk") "arm" (S_Disk_arm K) [] E (tVar 1) (tCons (tOp (rIxA K) (tVar 2) (tC (.str "left"))) (tCons (tVar 5) tNil)))))) (tIfS (tTest (tOp (rEqA K) (tVar 6) (tC (.int 2)))) (tSeq (tDrop (tCall (S_fall_ K) [] E (tCons (tVar 2) (tCons (tVar 3) tNil)))) (tDrop (tMeth (He.ga K "Disk") "stop" (S_Disk_stop K) [] E (tVar 1) (tCons (tVar 5) tNil)))) (tSeq (tDrop (tBM K "dict" (rUpd K) (tVar 2) (tCons (tLst (tCons (tTup (tCons (tC (.str "pending")) (tCons (tLst tNil) tNil))) (tCons (tTup (tCons (tC (.str "left")) (tCons (tC .non) tNil))) (tCons (tTup (tCons (tC (.str "picks")) (tCons (tLst tNil) tNil))) (tCons (tTup (tCons (tC (.str "fallen")) (tCons (tC (.bl false)) tNil))) tNil))))) tNil))) (tDrop (tMeth (He.ga K "Disk") "again" (S_Disk_again K) [] E (tVar 1) tNil))))) (tSeq (tAsg (tOp (rEqA K) (tVar 5) (tVar 3)) (gName 7)) (tSeq (tDrop (tBM K "list" rAppend (tVar 5) (tCons (tC (.bl true)) tNil))) (tRet (tVar 7))))))))
/-! _law_is -/
def t_is_ (K : PySem.W.Frag) (E : XK) : TS := (tSeq (tFor (iRng1 (tCons (tC (.int 2)) tNil)) (gName 3) (tSeq (tAsg (tMeth (He.ga K "Disk") "settled" (S_Disk_settled K) [] E (tVar 1) tNil) (gName 4)) (tSeq (tIfS (tNot (tTr K (tCall (S_alike_ K 9) [] E (tCons (tVar 4) (tCons (tOp (rIxA K) (tVar 2) (tC (.str "settled"))) tNil))))) (tRet (tC (.bl false))) tNext) (tDrop (tBM0 K "list" rClear (tVar 4)))))) (tSeq (tAsg (tCall (S_take_ K) [] E (tCons (tVar 0) (tCons (tOp (rI CPow fun i j => .int (i ^ j.toNat)) (tC (.int 10)) (tC (.int 18))) tNil))) (gName 5)) (tSeq (tAsg (tLst (tCons (tCall (S_take_ K) [] E (tCons (tVar 0) (tCons (tC (.int 3)) tNil))) (tCons (tCall (S_take_ K) [] E (tCons (tVar 0) (tCons (tC (.int 3)) tNil))) (tCons (tCall (S_take_ K) [] E (tCons (tVar 0) (tCons (tC (.int 35)) tNil))) (tCons (tOp (rAddA K) (tC (.int 35)) (tVar 5)) (tCons (tOp (rI0 fun i j => .int (i - j)) (tUn (rU fun i => .int (-i)) (tC (.int 1))) (tVar 5)) (tCons (tOp (rI0 fun i j => .int (i - j)) (tUn (rU fun i => .int (-i)) (tC (.int 1))) (tCall (S_take_ K) [] E (tCons (tVar 0) (tCons (tC (.int 35)) tNil)))) tNil))))))) (gName 6)) (tSeq (tAsg (tOp (rIxA K) (tVar 6) (tCall (S_take_ K) [] E (tCons (tVar 0) (tCons (tC (.int 6)) tNil)))) (gName 7)) (tSeq (tAsg (tC (.str "BadBlock")) (gName 8)) (tSeq (tIfS (tTest (tChain (rI0 fun i j => .bl (decide (i ≤ j))) (rI0 fun i j => .bl (decide (i < j))) (tC (.int 0)) (tVar 7) (tC (.int 35)))) (tSeq (tAsg (tLc (iSeq K (tOp (rIxA K) (tVar 2) (tC (.str "pending")))) (gTup K 2 (gCons (gName 10) (gCons (gName 11) gNil))) (tTest (tOp (rEqA K) (tVar 10) (tVar 7))) (tVar 11) [10, 11]) (gName 9)) (tSeq (tAsg (tIf (tTest (tOp (rEqA K) (tVar 9) (tLst tNil))) (tOp (rIxA K) (tOp (rIxA K) (tVar 2) (tC (.str "settled"))) (tVar 7)) (tOp (rIxA K) (tVar 9) (tUn (rU fun i => .int (-i)) (tC (.int 1))))) (gName 12)) (tAsg (tIf (tTr K (tOp (rIxA K) (tVar 2) (tC (.str "fallen")))) (tC (.str "Stopped")) (tVar 12)) (gName 8)))) tNext) (tRet (tCall (S_alike_ K 9) [] E (tCons (LamX.tLam (tabs K) (TT_told_ K) (fun E => (tMeth (He.ga K "Disk") "read" (S_Disk_read K) [] E (tVar 1) (tCons (tVar 7) tNil)))) (tCons (tVar 8) tNil))))))))))
/-! law -/
def t_law (K : PySem.W.Frag) (E : XK) : TS := (tSeq (tAsg (tCall (S_begun_ K) [] E (tCons (tVar 0) tNil)) (gName 1)) (tSeq (tAsg (tLst (tCons (tTup (tCons (tMake (He.ga K "Disk") (S_Disk_init K) [] E tNil) (tCons (tCall (S_made_ K) [] E tNil) tNil))) (tCons (tTup (tCons (tMake (He.ga K "Disk") (S_Disk_init K) [] E tNil) (tCons (tCall (S_made_ K) [] E tNil) tNil))) tNil))) (gName 2)) (tSeq (tFor (iRng1 (tCons (tCall (S_take_ K) [] E (tCons (tVar 1) (tCons (tC (.int 81)) tNil))) tNil)) (gName 3) (tSeq (tAsg (tOp (rIxA K) (tVar 2) (tOp (rI CDivW fun i j => .int (i / j)) (tCall (S_take_ K) [] E (tCons (tVar 1) (tCons (tC (.int 4)) tNil))) (tC (.int 3)))) (gTup K 2 (gCons (gName 4) (gCons (gName 5) gNil)))) (tSeq (tAsg (tCall (S_take_ K) [] E (tCons (tVar 1) (tCons (tC (.int 10)) tNil))) (gName 6)) (tSeq (tIfS (tTest (tOp (rI0 fun i j => .bl (decide (i < j))) (tVar 6) (tC (.int 6)))) (tAsg (tCall (S_write_ K) [] E (tCons (tVar 1) (tCons (tVar 4) (tCons (tVar 5) tNil)))) (gName 7)) (tIfS (tTest (tOp (rI0 fun i j => .bl (decide (i < j))) (tVar 6) (tC (.int 8)))) (tSeq (tAsg (tIf (tTr K (tCall (S_count_ K) [] E (tCons (tVar 5) tNil))) (tC .non) (tC (.str "Stopped"))) (gName 8)) (tSeq (tIfS (tTest (tOp rIsNo (tVar 8) (tC .non))) (tSeq (tFor (iSeq K (tOp (rIxA K) (tVar 5) (tC (.str "pending")))) (gTup K 2 (gCons (gName 9) (gCons (gName 10) gNil))) (tAsg (tVar 10) (gSub (tOp (rIxA K) (tVar 5) (tC (.str "settled"))) (tVar 9) rSetA))) (tAsg (tLst tNil) (gSub (tVar 5) (tC (.str "pending")) rSetA))) tNext) (tAsg (tCall (S_alike_ K 9) [] E (tCons (LamX.tLam (tabs K) (TT_told_ K) (fun E => (tMeth (He.ga K "Disk") "settle" (S_Disk_settle K) [] E (tVar 4) tNil))) (tCons (tVar 8) tNil))) (gName 7)))) (tAsg (tCall (S_arms_ K) [] E (tCons (tVar 1) (tCons (tVar 4) (tCons (tVar 5) tNil)))) (gName 7)))) (tIfS (tOr (tNot (tTr K (tVar 7))) (tOr (tNot (tTr K (tCall (S_is_ K) [] E (tCons (tVar 1) (tCons (tOp (rIxA K) (tOp (rIxA K) (tVar 2) (tC (.int 0))) (tC (.int 0))) (tCons (tOp (rIxA K) (tOp (rIxA K) (tVar 2) (tC (.int 0))) (tC (.int 1))) tNil)))))) (tNot (tTr K (tCall (S_is_ K) [] E (tCons (tVar 1) (tCons (tOp (rIxA K) (tOp (rIxA K) (tVar 2) (tC (.int 1))) (tC (.int 0))) (tCons (tOp (rIxA K) (tOp (rIxA K) (tVar 2) (tC (.int 1))) (tC (.int 1))) tNil)))))))) (tRet (tC (.bl false))) tNext))))) (tRet (tC (.bl true))))))
end W

end
section
/-! ### M0: words for walking through a reading (local) -/
local macro_rules | `(tactic| walk_at "st") => `(tactic| first
  | (with_reducible refine Cm.s_seq ?_) | (with_reducible refine Cm.s_asg ?_) | (with_reducible refine Cm.s_drop ?_) | (with_reducible refine Cm.s_ret ?_) | (with_reducible refine Cm.s_if ?_) | (with_reducible refine Cm.s_next ?_) | (with_reducible refine Cm.s_retN ?_) | (with_reducible refine Cm.s_rs ?_) | (with_reducible refine Cm.s_fld0 ?_)
  | ((with_reducible refine' Cm.e_var ?hv ?_); (case hv => exact rfl))
  | (with_reducible refine Cm.e_c ?_) | (with_reducible refine Cm.e_op ?_) | (with_reducible refine Cm.e_un ?_) | (with_reducible refine Cm.e_nil ?_) | (with_reducible refine Cm.e_cons ?_) | (with_reducible refine Cm.e_tup ?_) | (with_reducible refine Cm.e_lst ?_) | (with_reducible refine Cm.e_cb ?_) | (with_reducible refine Cm.e_call ?_) | (with_reducible refine Cm.e_if ?_)
  | (with_reducible refine Cm.e_andV ?_) | (with_reducible refine Cm.e_orV ?_) | (with_reducible refine Cm.e_notV ?_) | (with_reducible refine Cm.e_fld0 ?_) | (with_reducible refine Cm.e_meth0 ?_) | (with_reducible refine Cm.e_bm0 ?_) | (with_reducible refine Cm.e_bm ?_) | (with_reducible refine Cm.e_sl ?_) | (with_reducible refine Cm.o_none ?_) | (with_reducible refine Cm.o_some ?_) | (with_reducible refine Cm.e_dnew ?_)
  | (with_reducible refine Cm.e_test ?_) | (with_reducible refine Cm.e_tr ?_) | (with_reducible refine Cm.e_and ?_) | (with_reducible refine Cm.e_or ?_) | (with_reducible refine Cm.e_not ?_) | (with_reducible refine Cm.e_yes ?_) | (with_reducible refine Cm.e_chain ?_)
  | (with_reducible refine Cm.r_i0 ?_) | (with_reducible refine Cm.r_u ?_) | (with_reducible refine Cm.r_isNo ?_) | (with_reducible refine Cm.r_notNo ?_) | (with_reducible refine Cm.r_addI ?_) | (with_reducible refine Cm.r_int1b ?_) | (with_reducible refine Cm.r_max2 ?_)
  | ((with_reducible refine Cm.r_i ?hc ?_); (case hc => walk_at "num"))
  | ((with_reducible refine Cm.r_mulI ?hc ?_); (case hc => walk_at "num"))
  | ((with_reducible refine Cm.r_eqS ?hc ?_); (case hc => exact rfl))
  | ((with_reducible refine Cm.r_neS ?hc ?_); (case hc => exact rfl))
  | ((with_reducible refine' Cm.r_ixl ?h1 ?h2 ?_); (case h1 => walk_at "look"); (case h2 => walk_at "at"))
  | ((with_reducible refine' Cm.r_ixt ?h1 ?h2 ?_); (case h1 => walk_at "look"); (case h2 => walk_at "at"))
  | ((with_reducible refine' Cm.r_ixT ?h1 ?h2 ?_); (case h1 => walk_at "lookT"); (case h2 => walk_at "at"))
  | ((with_reducible refine' Cm.r_ixds ?h1 ?h2 ?_); (case h1 => walk_at "look"); (case h2 => walk_at "key"))
  | ((with_reducible refine' Cm.r_eqe ?h1 ?h2 ?_); (case h1 => walk_at "look"); (case h2 => walk_at "look"))
  | ((with_reducible refine' Cm.r_nee ?h1 ?h2 ?_); (case h1 => walk_at "look"); (case h2 => walk_at "look"))
  | ((with_reducible refine' Cm.r_lenl ?h1 ?_); (case h1 => walk_at "look"))
  | ((with_reducible refine' Cm.r_lent ?h1 ?_); (case h1 => walk_at "look"))
  | ((with_reducible refine' Cm.r_lenT ?h1 ?_); (case h1 => walk_at "lookT"))
  | ((with_reducible refine' Cm.r_listl ?h1 ?_); (case h1 => walk_at "look"); (intro _ _))
  | ((with_reducible refine' Cm.r_tupl ?h1 ?_); (case h1 => walk_at "look"); (intro _ _))
  | ((with_reducible refine' Cm.r_addL ?h1 ?h2 ?h3 ?_); (case h1 => walk_at "look"); (case h2 => walk_at "look"); (case h3 => walk_at "size"); (intro _ _))
  | ((with_reducible refine' Cm.m_append ?h1 ?h2 ?_); (case h1 => walk_at "look"); (case h2 => walk_at "size"))
  | ((with_reducible refine' Cm.m_clear ?h1 ?_); (case h1 => walk_at "look"))
  | ((with_reducible refine' Cm.g_setL ?h1 ?h2 ?_); (case h1 => walk_at "look"); (case h2 => walk_at "ix"))
  | ((with_reducible refine' Cm.g_setDs ?h1 ?h2 ?h3 ?_); (case h1 => walk_at "look"); (case h2 => walk_at "size"); (case h3 => walk_at "put"))
  | ((with_reducible refine' Cm.fld_at ?h1 ?h2 ?h3 ?h4 ?_); (case h1 => walk_at "look"); (case h2 => assumption); (case h3 => assumption); (case h4 => walk_at "key"))
  | ((with_reducible refine' Cm.fldset_at ?h1 ?h2 ?h3 ?h4 ?h5 ?_); (case h1 => walk_at "look"); (case h2 => assumption); (case h3 => assumption); (case h4 => walk_at "size"); (case h5 => walk_at "put"))
  | (with_reducible refine Cm.s_fldaug0 ?_)
  | ((with_reducible refine' Cm.aug_at ?h1 ?h2 ?h3 ?h4 ?_); (case h1 => walk_at "look"); (case h2 => assumption); (case h3 => assumption); (case h4 => walk_at "key"))
  | ((with_reducible refine' Cm.augset_at ?h1 ?h4 ?h5 ?_); (case h1 => walk_at "look"); (case h4 => walk_at "size"); (case h5 => walk_at "put"))
  | (with_reducible refine Cm.in_sub_at ?_) | (with_reducible refine Cm.in_add_at ?_)
  | ((with_reducible refine' Cm.meth_at ?h1 ?h2 ?_); (case h1 => walk_at "look"); (case h2 => walk_at "key"))
  | ((with_reducible refine Cm.new_at ?h1 ?_); (case h1 => walk_at "size"); (intro _ _))
  | ((with_reducible refine Cm.and_at (A := L2.tyV _ _ _ _) ?h1 ?_); (case h1 => exact Cm.ty_lst (by walk_at "look")))
  | ((with_reducible refine' Cm.g_tupt ?h1 ?h2 ?_); (case h1 => walk_at "look"); (case h2 => exact rfl))
  | ((with_reducible refine' Cm.g_tup ?h1 ?h2 ?_); (case h1 => walk_at "lookT"); (case h2 => exact rfl))
  | (with_reducible refine Cm.g_name ?_) | (with_reducible refine Cm.g_sub ?_) | (with_reducible refine Cm.g_cons ?_) | (with_reducible refine Cm.g_nil ?_)
  | (with_reducible refine Cm.int_at ?_) | (with_reducible refine Cm.bl_at ?_) | (with_reducible refine Cm.tr_bl ?_) | (with_reducible refine Cm.tr_non ?_)
  | ((with_reducible refine' Cm.m_pop0 ?h1 ?_); (case h1 => walk_at "look"))
  | ((with_reducible refine' Cm.r_slTo ?h1 ?h2 ?_); (case h1 => walk_at "look"); (case h2 => walk_at "num2"); (intro _ _))
  | ((with_reducible refine' Cm.r_slFrom ?h1 ?h2 ?_); (case h1 => walk_at "look"); (case h2 => walk_at "num2"); (intro _ _))
  | ((with_reducible refine' Cm.at_forL ?h1 ?_); (case h1 => walk_at "look"))
  | ((with_reducible refine' Cm.at_forT ?h1 ?_); (case h1 => walk_at "look"))
  | ((with_reducible refine' Cm.at_forR ?h1 ?h2 ?_); (case h1 => walk_at "num2"); (case h2 => walk_at "num2"))
  | ((with_reducible refine' Cm.at_forZ ?h1 ?h2 ?_); (case h1 => walk_at "look"); (case h2 => walk_at "look"))
  | (with_reducible refine Cm.s_forZ ?_) | (with_reducible refine Cm.s_forR ?_)
  | ((with_reducible refine Cm.and_at (A := _ = _) ?h1 ?_); (case h1 => exact rfl))
  | ((with_reducible show L2.rIsi _ _ _ _); walk_at "isi")
  | (with_reducible refine Cm.ite_nt ?_) | (with_reducible refine Cm.ite_nf ?_)
  | (with_reducible refine L2.iteT ?_) | (with_reducible refine L2.iteF ?_)
  | dsimp only
  | fail)
local macro_rules | `(tactic| walk_at "run") => `(tactic| repeat (walk_at "st"))
local macro_rules | `(tactic| walk_at "num") => `(tactic| first
  | exact Or.inr ⟨by decide, by decide⟩ | exact Or.inl ⟨by decide, by decide⟩
  | exact Cm.wdiv (by first | decide | omega) (by first | decide | omega)
  | (show (0 : Int) < _; first | decide | omega)
  | exact ⟨by decide, by decide, by decide⟩
  | fail)
local macro_rules | `(tactic| walk_at "put") => `(tactic| exact rfl)
local macro_rules | `(tactic| walk_at "fl") => `(tactic| first | exact Cm.fl0 | (refine' Cm.flS ?hz; (case hz => walk_at "fl")) | fail)
local macro_rules | `(tactic| walk_at "size") => `(tactic| first | exact Cm.sz_lit rfl | exact Cm.sz_lt rfl | exact Cm.fs_lt rfl | decide | (refine' Nat.lt_of_le_of_lt ?ha ?hb; (case ha => walk_at "fl"); (case hb => decide)) | (simp only [List.length_cons, List.length_nil, List.length_append, List.length_map, List.length_set, List.length_replicate, PySem.sizeLine_eq]; omega) | (simp only [List.length_cons, List.length_nil, List.length_append, List.length_map, List.length_set, List.length_replicate, PySem.sizeLine_eq] at *; omega) | fail)
local macro_rules | `(tactic| walk_at "at") => `(tactic| first | assumption | (with_reducible exact Cm.at0) | (with_reducible exact Cm.at1) | (with_reducible exact Cm.at2) | (with_reducible exact Cm.at3) | (with_reducible exact Cm.at4) | (with_reducible exact Cm.at5) | (with_reducible exact Cm.at6) | (with_reducible exact Cm.at7) | (with_reducible exact Cm.at8) | (with_reducible exact Cm.at0s) | (with_reducible exact Cm.at1s) | (with_reducible exact Cm.at01s) | (with_reducible exact Cm.at10s) | fail)
local macro_rules | `(tactic| walk_at "ix") => `(tactic| first | exact Cm.ix0 (by walk_at "size") | exact Cm.ix1 (by walk_at "size") | assumption | fail)
local macro_rules | `(tactic| walk_at "key") => `(tactic| first | assumption | fail)
local macro_rules | `(tactic| walk_at "ne") => `(tactic| first
  | assumption
  | (refine Ne.symm ?_; assumption)
  | (refine' L2.ne_of_none ?h1 ?h2; (case h2 => assumption); (case h1 => walk_at "look"))
  | (refine' Ne.symm (L2.ne_of_none ?h1 ?h2); (case h2 => assumption); (case h1 => walk_at "look"))
  | fail)
local macro_rules | `(tactic| walk_at "lookT") => `(tactic| first
  | assumption
  | exact L2.SqT.of (by walk_at "look")
  | fail)
local macro_rules | `(tactic| walk_at "look") => `(tactic| first
  | assumption
  | exact L2.upd_same
  | ((fail_if_success (with_reducible refine Eq.trans L2.upd_same ?_)); (refine' Eq.trans (L2.upd_ne ?h1) ?h2); (case h1 => walk_at "ne"); (case h2 => walk_at "look"))
  | (refine' Cm.kp_look ?h1 ?h2 ?h3 ?h4; (case h1 => assumption); (case h2 => walk_at "look"); (case h3 => intro _ z; cases z); (case h4 => first | exact Or.inl rfl | exact Or.inr (by walk_at "out")))
  | fail)
local macro_rules | `(tactic| walk_at "out") => `(tactic| first
  | assumption
  | exact fun z => z
  | exact fun z => z.elim (fun e => absurd e (by walk_at "ne")) (fun e => absurd e (by walk_at "ne"))
  | exact fun e => absurd e (by walk_at "ne")
  | fail)
local macro_rules | `(tactic| walk_at "dom") => `(tactic| first
  | exact Cm.dm_refl
  | (refine Cm.dm_upd ?_; walk_at "dom")
  | (refine' Cm.dm_kp ?h1 ?h2; (case h2 => assumption); (case h1 => walk_at "dom"))
  | fail)
local macro_rules | `(tactic| walk_at "free") => `(tactic| first
  | assumption
  | exact Cm.nw_of (by assumption)
  | (refine' Cm.dm_use ?h1 ?h2; (case h2 => assumption); (case h1 => walk_at "dom"))
  | (refine' Cm.dm_use2 ?h1 ?h2; (case h2 => assumption); (case h1 => walk_at "dom"))
  | fail)
local macro_rules | `(tactic| walk_at "in") => `(tactic| first
  | exact Or.inl rfl | exact Or.inl (Or.inl rfl) | exact Or.inl (Or.inr rfl) | exact Or.inl (Or.inr (Or.inl rfl)) | exact Or.inl (Or.inr (Or.inr rfl))
  | exact Or.inl (by assumption)
  | exact Or.inr (by walk_at "free")
  | fail)
local macro_rules | `(tactic| walk_at "kp") => `(tactic| first
  | assumption
  | exact Cm.Kp.refl
  | (refine' Cm.Kp.new' ?h1 ?h2; (case h2 => assumption); (case h1 => walk_at "kp"))
  | (refine' Cm.Kp.setL' ?h1 ?h2 ?h3; (case h2 => walk_at "look"); (case h3 => walk_at "in"); (case h1 => walk_at "kp"))
  | (refine' Cm.Kp.setI' ?h1 ?h2 ?h3; (case h2 => walk_at "look"); (case h3 => walk_at "in"); (case h1 => walk_at "kp"))
  | (refine' Cm.Kp.setD' ?h1 ?h2 ?h3; (case h2 => walk_at "look"); (case h3 => walk_at "in"); (case h1 => walk_at "kp"))
  | (refine' Cm.kp_step ?h1 ?h2 ?h3; (case h2 => assumption); (case h3 => walk_at "sub"); (case h1 => walk_at "kp"))
  | fail)
local macro_rules | `(tactic| walk_at "sub") => `(tactic| first
  | exact fun _ z => z.elim
  | exact fun _ z => Or.inl z
  | (intro a z; rcases z with rfl | rfl <;> walk_at "in")
  | (intro a z; subst z; walk_at "in")
  | fail)
local macro_rules | `(tactic| walk_at "num2") => `(tactic| first | decide | omega | fail)

local macro_rules | `(tactic| walk_at "isi") => `(tactic| first | (with_reducible refine Cm.isi_non_bool ?_) | (with_reducible refine Cm.isi_non_int ?_) | (with_reducible refine Cm.isi_non_str ?_) | (with_reducible refine Cm.isi_non_tuple ?_) | (with_reducible refine Cm.isi_non_list ?_) | (with_reducible refine Cm.isi_bl_bool ?_) | (with_reducible refine Cm.isi_bl_int ?_) | (with_reducible refine Cm.isi_bl_str ?_) | (with_reducible refine Cm.isi_bl_tuple ?_) | (with_reducible refine Cm.isi_bl_list ?_) | (with_reducible refine Cm.isi_int_bool ?_) | (with_reducible refine Cm.isi_int_int ?_) | (with_reducible refine Cm.isi_int_str ?_) | (with_reducible refine Cm.isi_int_tuple ?_) | (with_reducible refine Cm.isi_int_list ?_) | (with_reducible refine Cm.isi_str_bool ?_) | (with_reducible refine Cm.isi_str_int ?_) | (with_reducible refine Cm.isi_str_str ?_) | (with_reducible refine Cm.isi_str_tuple ?_) | (with_reducible refine Cm.isi_str_list ?_) | ((with_reducible refine' Cm.isi_tup_bool ?h1 ?_); (case h1 => walk_at "look")) | ((with_reducible refine' Cm.isi_tup_int ?h1 ?_); (case h1 => walk_at "look")) | ((with_reducible refine' Cm.isi_tup_str ?h1 ?_); (case h1 => walk_at "look")) | ((with_reducible refine' Cm.isi_tup_tuple ?h1 ?_); (case h1 => walk_at "look")) | ((with_reducible refine' Cm.isi_tup_list ?h1 ?_); (case h1 => walk_at "look")) | ((with_reducible refine' Cm.isi_lst_bool ?h1 ?_); (case h1 => walk_at "look")) | ((with_reducible refine' Cm.isi_lst_int ?h1 ?_); (case h1 => walk_at "look")) | ((with_reducible refine' Cm.isi_lst_str ?h1 ?_); (case h1 => walk_at "look")) | ((with_reducible refine' Cm.isi_lst_tuple ?h1 ?_); (case h1 => walk_at "look")) | ((with_reducible refine' Cm.isi_lst_list ?h1 ?_); (case h1 => walk_at "look")) | fail)

local macro_rules | `(tactic| walk_at "key") => `(tactic| first | exact W.dF_g_blocks | exact W.dF_g_pending | exact W.dF_g_left | exact W.dF_g_picks | exact W.dF_g_fallen | exact W.dF_n_need_block | exact W.dF_n_count | exact W.dF_n_write | exact W.dF_n_settle | exact W.dF_n_read | exact W.dF_n_arm | exact W.dF_n_stop | exact W.dF_n_again | exact W.dF_n_settled)
local macro_rules | `(tactic| walk_at "put") => `(tactic| first | exact W.dF_p_blocks | exact W.dF_p_pending | exact W.dF_p_left | exact W.dF_p_picks | exact W.dF_p_fallen)
local macro_rules | `(tactic| walk_at "size") => `(tactic| (rw [W.dF_len]; decide))

local macro_rules | `(tactic| walk_at "key") => `(tactic| first | exact W.oF_g_settled | exact W.oF_g_pending | exact W.oF_g_left | exact W.oF_g_picks | exact W.oF_g_fallen)
local macro_rules | `(tactic| walk_at "put") => `(tactic| first | exact W.oF_p_settled | exact W.oF_p_pending | exact W.oF_p_left | exact W.oF_p_picks | exact W.oF_p_fallen)
local macro_rules | `(tactic| walk_at "size") => `(tactic| (rw [W.oF_len]; decide))

namespace W
open PySem PySem.Spec PyProof.Rows L2 Cm
section
variable {w : World} {K : PySem.W.Frag} {mg : Str → Option Value}
theorem cnt_len {S : DS} : S.cnt.2.pending.length ≤ S.pending.length ∧ S.cnt.2.picks = S.picks := by
  unfold DS.cnt
  split
  · exact ⟨Nat.le_refl _, rfl⟩
  · split
    · exact ⟨Nat.zero_le _, rfl⟩
    · exact ⟨Nat.le_refl _, rfl⟩
theorem pure_write_ (T : Tx w K mg) (vs : List V) (H : Hp) (Q : VK) (E : XK) (h : S_write_ K vs H Q E) : t_write_ K E { nx := fun _ H' => Q .non H', rt := Q } (start N_write_ vs) H := by
  obtain ⟨_, _, _, rfl, b, l, p, q, S, R, rfl, rfl, rfl, B, ⟨F, G, DA, OA, fg, hr⟩, rb, rl, hpe, hpi, hT, k⟩ := h
  have nbl := B.ne
  unfold t_write_
  walk_at "run"
  refine ⟨_, _, rfl, b, l, _, rfl, rfl, B, by omega, by omega, fun c1 H1 c10 c11 B1 kp1 => ?_⟩
  walk_at "run"
  refine ⟨_, _, rfl, b, l, _, rfl, rfl, B1, by omega, by omega, fun c2 H2 c20 c21 B2 kp2 => ?_⟩
  walk_at "run"
  rename_i s1 hs1
  have k3 : Kp (tabs K) No H2 (upd H2 s1 (.lst [.int (-1), .int 35, .int (10 ^ Int.toNat 18)])) := Kp.new hs1
  have n1b : s1 ≠ b := by obtain ⟨_, _, z, _⟩ := id B2; walk_at "ne"
  have n1l : s1 ≠ l := by obtain ⟨_, _, _, z, _⟩ := id B2; walk_at "ne"
  refine ⟨_, _, rfl, b, l, _, rfl, rfl, B2.keep k3 (fun z => z) (fun z => z), by omega, by omega, fun c3 H3 c30 c31 B3 kp3 => ?_⟩
  obtain ⟨j3, hj3⟩ : ∃ j3 : Int, atI [V.int (-1), V.int 35, V.int (10 ^ Int.toNat 18)] c3 = some (.int j3) := by
    have hu : c3 = 0 ∨ c3 = 1 ∨ c3 = 2 := by omega
    rcases hu with rfl | rfl | rfl
    · exact ⟨_, at0⟩
    · exact ⟨_, at1⟩
    · exact ⟨_, at2⟩
  walk_at "run"
  rename_i s2 hs2
  have k4 : Kp (tabs K) No H3 (upd H3 s2 (.lst [.int c1, .int c2, .int j3])) := Kp.new hs2
  have n2b : s2 ≠ b := by obtain ⟨_, _, z, _⟩ := id B3; walk_at "ne"
  have n2l : s2 ≠ l := by obtain ⟨_, _, _, z, _⟩ := id B3; walk_at "ne"
  refine ⟨_, _, rfl, b, l, _, rfl, rfl, B3.keep k4 (fun z => z) (fun z => z), by omega, by omega, fun c4 H4 c40 c41 B4 kp4 => ?_⟩
  obtain ⟨i, hi⟩ : ∃ i : Int, atI [V.int c1, V.int c2, V.int j3] (c4 / 4) = some (.int i) := by
    have hu : c4 / 4 = 0 ∨ c4 / 4 = 1 ∨ c4 / 4 = 2 := by omega
    rcases hu with e | e | e <;> rw [e]
    · exact ⟨_, at0⟩
    · exact ⟨_, at1⟩
    · exact ⟨_, at2⟩
  walk_at "run"
  refine ⟨_, rfl, b, l, rfl, B4, fun v d H5 hv hd B5 kp5 => ?_⟩
  have K5 : Kp (tabs K) (Bx b l) H H5 := by walk_at "kp"
  clear k3 k4 kp1 kp2 kp3 kp4 kp5 hs1 hs2 B1 B2 B3 B4
  have nF : ∀ a, F a → ¬ Bx b l a := fun a ha z => z.elim (fun e => rb ((hr b).mpr (.inl (e ▸ ha)))) (fun e => rl ((hr l).mpr (.inl (e ▸ ha))))
  have nG : ∀ a, G a → ¬ Bx b l a := fun a ha z => z.elim (fun e => rb ((hr b).mpr (.inr (e ▸ ha)))) (fun e => rl ((hr l).mpr (.inr (e ▸ ha))))
  have D5 := DA.keep K5 nF
  have O5 := OA.keep K5 nG
  have hd6 : Di 6 d := hd.up (by omega)
  have c := T.c_Disk
  have fin : ∀ (due : V) (dd : PyData) (S' : DS) (G' : Addr → Prop) (H6 : Hp), Dt H6 due dd → Di 0 dd → OwnAt H6 q S' G' → Stp (tabs K) G G' H5 H6 →
      ((¬ ((0 ≤ i ∧ i < 35) ∧ wt d ≤ 40) ∧ S' = S ∧ dd = .str "BadBlock") ∨ (((0 ≤ i ∧ i < 35) ∧ wt d ≤ 40) ∧ S.cnt.1 = true ∧ S' = S.cnt.2.push (i, d) ∧ dd = .none) ∨ (((0 ≤ i ∧ i < 35) ∧ wt d ≤ 40) ∧ S.cnt.1 = false ∧ S' = S.cnt.2 ∧ dd = .str "Stopped")) →
      tRet (tCall (S_alike_ K 9) [] E (tCons (LamX.tLam (tabs K) (TT_told_ K) fun E => tMeth (He.ga K "Disk") "write" (S_Disk_write K) [] E (tVar 1) (tCons (tVar 3) (tCons (tVar 4) tNil))) (tCons (tVar 5) tNil)))
        { nx := fun x H' => Q V.non H', rt := Q } [some (.ref b), some (.ref p), some (.ref q), some (.int i), some v, some due] H6 := by
    intro due dd S' G' H6 hdue hdd O6 st6 hc
    have D6 := D5.keep st6.kp (fun a ha z => fg a ha z)
    have B6 := B5.keep st6.kp (fun z => nG b z (.inl rfl)) (fun z => nG l z (.inr rfl))
    have hv6 := Dt.keep st6.kp hd hv
    walk_at "run"
    refine ⟨st6.kp.tab (K5.tab hT), fun H7 ext t7 => ?_⟩
    have k7 : Kp (tabs K) No H6 H7 := kp_lam ext t7
    have D7 := D6.keep k7 (fun _ _ z => z)
    have O7 := O6.keep k7 (fun _ _ z => z)
    have hv7 := Dt.keep k7 hd hv6
    obtain ⟨dx, b1, n1, kk1, bs1, ns1, h1, _⟩ := id D7
    unfold TT_told_
    walk_at "run"
    have ending : ∀ (x : V) (F' : Addr → Prop) (H9 : Hp), Dt H9 x dd → DiskAt K H9 p S' F' → Stp (tabs K) F F' H7 H9 → S_alike_ K 9 [x, due] H9 Q E := by
      intro x F' H9 hx D9 st9
      have O9 := O7.keep st9.kp (fun a ha z => by
        rcases st6.sub a ha with h | h
        · exact fg a z h
        · exact D5.dom z h)
      refine ⟨_, _, rfl, dd, hx, Dt.keep st9.kp hdd (Dt.keep k7 hdd hdue), (hdd.up (Nat.zero_le _)).dn, fun H10 k10 => ?_⟩
      have kk : Kp (tabs K) (fun a => Bx b l a ∨ R a) H H10 := ((((K5.mono fun a ha => .inl ha).trans st6.kp fun a ha => .inl (.inr ((hr a).mpr (.inr ha)))).trans k7 fun _ z => z.elim).trans st9.kp fun a ha => .inl (.inr ((hr a).mpr (.inl ha)))).trans k10 fun _ z => z.elim
      have dis : ∀ a, F' a → ¬ G' a := fun a ha hb => by
        rcases st9.sub a ha with h | h
        · rcases st6.sub a hb with h2 | h2
          · exact fg a h h2
          · exact D5.dom h h2
        · exact O7.dom hb h
      refine k S' H10 (fun a => F' a ∨ G' a) ?_ ?_ ?_ ⟨F', G', D9.keep k10 (fun _ _ z => z), O9.keep k10 (fun _ _ z => z), dis, fun _ => Iff.rfl⟩ kk (fun a ha => ?_)
      · rcases hc with ⟨_, rfl, _⟩ | ⟨_, _, rfl, _⟩ | ⟨_, _, rfl, _⟩
        · omega
        · show (S.cnt.2.pending ++ [(i, d)]).length ≤ _
          rw [List.length_append]
          have := (cnt_len (S := S)).1
          simp; omega
        · have := (cnt_len (S := S)).1; omega
      · refine .inl (Nat.le_of_eq ?_)
        rcases hc with ⟨_, rfl, _⟩ | ⟨_, _, rfl, _⟩ | ⟨_, _, rfl, _⟩
        · rfl
        · exact congrArg _ (cnt_len (S := S)).2
        · exact congrArg _ (cnt_len (S := S)).2
      · exact ((B6.keep k7 (fun z => z) (fun z => z)).keep st9.kp (fun z => nF b z (.inl rfl)) (fun z => nF l z (.inr rfl))).keep k10 (fun z => z) (fun z => z)
      · rcases ha with ha | ha
        · rcases st9.sub a ha with h | h
          · exact .inl ((hr a).mpr (.inl h))
          · exact .inr (K5.dom a (st6.kp.dom a (k7.dom a h)))
        · rcases st6.sub a ha with h | h
          · exact .inl ((hr a).mpr (.inr h))
          · exact .inr (K5.dom a h)
    refine ⟨_, _, v, rfl, p, S, F, i, d, rfl, rfl, D7, hv7, hd6, by omega, fun hbad H8 k8 => ?_, fun hok hcn H8 F8 D8 st8 => ?_, fun hok hcn H8 F8 D8 st8 => ?_⟩
    · refine ⟨"BadBlock", by decide, rfl, rfl, fun H9 k9 => ?_⟩
      rcases hc with ⟨_, rfl, rfl⟩ | ⟨h, _⟩ | ⟨h, _⟩
      · walk_at "run"
        exact ending _ F H9 rfl ((D7.keep k8 (fun _ _ z => z)).keep k9 (fun _ _ z => z)) ((Stp.refl.post k8).post k9)
      · exact absurd h hbad
      · exact absurd h hbad
    · rcases hc with ⟨h, _⟩ | ⟨_, h, rfl, rfl⟩ | ⟨_, h, _⟩
      · exact absurd hok h
      · walk_at "run"
        exact ending _ F8 H8 rfl D8 st8
      · rw [hcn] at h; cases h
    · refine ⟨"Stopped", by decide, rfl, rfl, fun H9 k9 => ?_⟩
      rcases hc with ⟨h, _⟩ | ⟨_, h, _⟩ | ⟨_, h, rfl, rfl⟩
      · exact absurd hok h
      · rw [hcn] at h; cases h
      · walk_at "run"
        exact ending _ F8 H9 rfl (D8.keep k9 (fun _ _ z => z)) (st8.post k9)
  have st0 : Stp (tabs K) G G H5 H5 := Stp.refl
  walk_at "run"
  refine if_d (fun h0 => ?_) (fun h0 => ?_)
  · walk_at "run"
    refine if_d (fun h35 => ?_) (fun h35 => ?_)
    · walk_at "run"
      refine ⟨_, rfl, d, hv, hd6, fun H6 k6 => ?_⟩
      have O6 := O5.keep k6 (fun _ _ z => z)
      have hv6 := Dt.keep k6 hd hv
      walk_at "run"
      refine if_d (fun hw => ?_) (fun hw => ?_)
      · walk_at "run"
        refine ⟨_, rfl, q, S, G, rfl, O6, by omega, by omega, fun H7 G7 O7 st7 => ?_⟩
        have hv7 := Dt.keep st7.kp hd hv6
        have st7' := st7.pre k6
        have hok : (0 ≤ i ∧ i < 35) ∧ wt d ≤ 40 := ⟨⟨h0, h35⟩, hw⟩
        walk_at "run"
        refine if_b (fun hc => ?_) (fun hc => ?_)
        · walk_at "run"
          refine if_dT rfl ?_
          obtain ⟨b', n', kk', bs', ns', h1', h2', d2', h3', d3', h4', ⟨ne1', ne2', ne3'⟩, o', f'⟩ := id O7
          have hl' : ns'.length ≤ 200 := by
            have := (cnt_len (S := S)).1
            rw [d3'.length, List.length_map]; omega
          have fn' : G7 n' := (f' n').mpr (.inr (.inr (.inl rfl)))
          walk_at "run"
          rename_i t ht
          have e1 : q ≠ n' := ne_of h1' h3' (fun z => nomatch z)
          have kn : Kp (tabs K) G7 H7 (upd (upd H7 t (.tup [.int i, v])) n' (.lst (ns' ++ [.ref t]))) := by walk_at "kp"
          refine fin .non .none (S.cnt.2.push (i, d)) G7 _ rfl trivial ⟨b', n', kk', bs', ns' ++ [.ref t], by walk_at "look", by walk_at "look", d2'.keep kn o'.bl, by walk_at "look", ?_, by walk_at "look", ⟨ne1', ne2', ne3'⟩, ⟨o'.len, o'.bl, fun q hq => ?_⟩, f'⟩ (st7'.trans ⟨kn, fun a ha => .inl ha⟩) (.inr (.inl ⟨hok, hc, rfl, rfl⟩))
          · show DtA _ _ ((S.cnt.2.pending ++ [(i, d)]).map pr)
            rw [List.map_append]
            refine (d3'.keep kn o'.prs).snoc ⟨t, [.int i, v], rfl, by walk_at "look", .cons rfl (.cons (Dt.keep kn hd hv7) .nil)⟩
          · rcases List.mem_append.mp hq with hq | hq
            · exact o'.pe q hq
            · rw [List.mem_singleton.mp hq]; exact ⟨h0, h35, hd6⟩
        · walk_at "run"
          refine if_dF (fun z => nomatch z) ?_
          walk_at "run"
          exact fin (.str "Stopped") (.str "Stopped") S.cnt.2 G7 H7 rfl trivial O7 st7' (.inr (.inr ⟨hok, hc, rfl, rfl⟩))
      · walk_at "run"
        exact fin (.str "BadBlock") (.str "BadBlock") S G H6 rfl trivial O6 (st0.post k6) (.inl ⟨fun z => hw z.2, rfl, rfl⟩)
    · walk_at "run"
      exact fin (.str "BadBlock") (.str "BadBlock") S G H5 rfl trivial O5 st0 (.inl ⟨fun z => h35 z.1.2, rfl, rfl⟩)
  · walk_at "run"
    exact fin (.str "BadBlock") (.str "BadBlock") S G H5 rfl trivial O5 st0 (.inl ⟨fun z => h0 z.1.1, rfl, rfl⟩)
end
end W

end
section
/-! ### M0: words for walking through a reading (local) -/
local macro_rules | `(tactic| walk_at "st") => `(tactic| first
  | (with_reducible refine Cm.s_seq ?_) | (with_reducible refine Cm.s_asg ?_) | (with_reducible refine Cm.s_drop ?_) | (with_reducible refine Cm.s_ret ?_) | (with_reducible refine Cm.s_if ?_) | (with_reducible refine Cm.s_next ?_) | (with_reducible refine Cm.s_retN ?_) | (with_reducible refine Cm.s_rs ?_) | (with_reducible refine Cm.s_fld0 ?_)
  | ((with_reducible refine' Cm.e_var ?hv ?_); (case hv => exact rfl))
  | (with_reducible refine Cm.e_c ?_) | (with_reducible refine Cm.e_op ?_) | (with_reducible refine Cm.e_un ?_) | (with_reducible refine Cm.e_nil ?_) | (with_reducible refine Cm.e_cons ?_) | (with_reducible refine Cm.e_tup ?_) | (with_reducible refine Cm.e_lst ?_) | (with_reducible refine Cm.e_cb ?_) | (with_reducible refine Cm.e_call ?_) | (with_reducible refine Cm.e_if ?_)
  | (with_reducible refine Cm.e_andV ?_) | (with_reducible refine Cm.e_orV ?_) | (with_reducible refine Cm.e_notV ?_) | (with_reducible refine Cm.e_fld0 ?_) | (with_reducible refine Cm.e_meth0 ?_) | (with_reducible refine Cm.e_bm0 ?_) | (with_reducible refine Cm.e_bm ?_) | (with_reducible refine Cm.e_sl ?_) | (with_reducible refine Cm.o_none ?_) | (with_reducible refine Cm.o_some ?_) | (with_reducible refine Cm.e_dnew ?_)
  | (with_reducible refine Cm.e_test ?_) | (with_reducible refine Cm.e_tr ?_) | (with_reducible refine Cm.e_and ?_) | (with_reducible refine Cm.e_or ?_) | (with_reducible refine Cm.e_not ?_) | (with_reducible refine Cm.e_yes ?_) | (with_reducible refine Cm.e_chain ?_)
  | (with_reducible refine Cm.r_i0 ?_) | (with_reducible refine Cm.r_u ?_) | (with_reducible refine Cm.r_isNo ?_) | (with_reducible refine Cm.r_notNo ?_) | (with_reducible refine Cm.r_addI ?_) | (with_reducible refine Cm.r_int1b ?_) | (with_reducible refine Cm.r_max2 ?_)
  | ((with_reducible refine Cm.r_i ?hc ?_); (case hc => walk_at "num"))
  | ((with_reducible refine Cm.r_mulI ?hc ?_); (case hc => walk_at "num"))
  | ((with_reducible refine Cm.r_eqS ?hc ?_); (case hc => exact rfl))
  | ((with_reducible refine Cm.r_neS ?hc ?_); (case hc => exact rfl))
  | ((with_reducible refine' Cm.r_ixl ?h1 ?h2 ?_); (case h1 => walk_at "look"); (case h2 => walk_at "at"))
  | ((with_reducible refine' Cm.r_ixt ?h1 ?h2 ?_); (case h1 => walk_at "look"); (case h2 => walk_at "at"))
  | ((with_reducible refine' Cm.r_ixT ?h1 ?h2 ?_); (case h1 => walk_at "lookT"); (case h2 => walk_at "at"))
  | ((with_reducible refine' Cm.r_ixds ?h1 ?h2 ?_); (case h1 => walk_at "look"); (case h2 => walk_at "key"))
  | ((with_reducible refine' Cm.r_eqe ?h1 ?h2 ?_); (case h1 => walk_at "look"); (case h2 => walk_at "look"))
  | ((with_reducible refine' Cm.r_nee ?h1 ?h2 ?_); (case h1 => walk_at "look"); (case h2 => walk_at "look"))
  | ((with_reducible refine' Cm.r_lenl ?h1 ?_); (case h1 => walk_at "look"))
  | ((with_reducible refine' Cm.r_lent ?h1 ?_); (case h1 => walk_at "look"))
  | ((with_reducible refine' Cm.r_lenT ?h1 ?_); (case h1 => walk_at "lookT"))
  | ((with_reducible refine' Cm.r_listl ?h1 ?_); (case h1 => walk_at "look"); (intro _ _))
  | ((with_reducible refine' Cm.r_tupl ?h1 ?_); (case h1 => walk_at "look"); (intro _ _))
  | ((with_reducible refine' Cm.r_addL ?h1 ?h2 ?h3 ?_); (case h1 => walk_at "look"); (case h2 => walk_at "look"); (case h3 => walk_at "size"); (intro _ _))
  | ((with_reducible refine' Cm.m_append ?h1 ?h2 ?_); (case h1 => walk_at "look"); (case h2 => walk_at "size"))
  | ((with_reducible refine' Cm.m_clear ?h1 ?_); (case h1 => walk_at "look"))
  | ((with_reducible refine' Cm.g_setL ?h1 ?h2 ?_); (case h1 => walk_at "look"); (case h2 => walk_at "ix"))
  | ((with_reducible refine' Cm.g_setDs ?h1 ?h2 ?h3 ?_); (case h1 => walk_at "look"); (case h2 => walk_at "size"); (case h3 => walk_at "put"))
  | ((with_reducible refine' Cm.fld_at ?h1 ?h2 ?h3 ?h4 ?_); (case h1 => walk_at "look"); (case h2 => assumption); (case h3 => assumption); (case h4 => walk_at "key"))
  | ((with_reducible refine' Cm.fldset_at ?h1 ?h2 ?h3 ?h4 ?h5 ?_); (case h1 => walk_at "look"); (case h2 => assumption); (case h3 => assumption); (case h4 => walk_at "size"); (case h5 => walk_at "put"))
  | (with_reducible refine Cm.s_fldaug0 ?_)
  | ((with_reducible refine' Cm.aug_at ?h1 ?h2 ?h3 ?h4 ?_); (case h1 => walk_at "look"); (case h2 => assumption); (case h3 => assumption); (case h4 => walk_at "key"))
  | ((with_reducible refine' Cm.augset_at ?h1 ?h4 ?h5 ?_); (case h1 => walk_at "look"); (case h4 => walk_at "size"); (case h5 => walk_at "put"))
  | (with_reducible refine Cm.in_sub_at ?_) | (with_reducible refine Cm.in_add_at ?_)
  | ((with_reducible refine' Cm.meth_at ?h1 ?h2 ?_); (case h1 => walk_at "look"); (case h2 => walk_at "key"))
  | ((with_reducible refine Cm.new_at ?h1 ?_); (case h1 => walk_at "size"); (intro _ _))
  | ((with_reducible refine Cm.and_at (A := L2.tyV _ _ _ _) ?h1 ?_); (case h1 => exact Cm.ty_lst (by walk_at "look")))
  | ((with_reducible refine' Cm.g_tupt ?h1 ?h2 ?_); (case h1 => walk_at "look"); (case h2 => exact rfl))
  | ((with_reducible refine' Cm.g_tup ?h1 ?h2 ?_); (case h1 => walk_at "lookT"); (case h2 => exact rfl))
  | (with_reducible refine Cm.g_name ?_) | (with_reducible refine Cm.g_sub ?_) | (with_reducible refine Cm.g_cons ?_) | (with_reducible refine Cm.g_nil ?_)
  | (with_reducible refine Cm.int_at ?_) | (with_reducible refine Cm.bl_at ?_) | (with_reducible refine Cm.tr_bl ?_) | (with_reducible refine Cm.tr_non ?_)
  | ((with_reducible refine' Cm.m_pop0 ?h1 ?_); (case h1 => walk_at "look"))
  | ((with_reducible refine' Cm.r_slTo ?h1 ?h2 ?_); (case h1 => walk_at "look"); (case h2 => walk_at "num2"); (intro _ _))
  | ((with_reducible refine' Cm.r_slFrom ?h1 ?h2 ?_); (case h1 => walk_at "look"); (case h2 => walk_at "num2"); (intro _ _))
  | ((with_reducible refine' Cm.at_forL ?h1 ?_); (case h1 => walk_at "look"))
  | ((with_reducible refine' Cm.at_forT ?h1 ?_); (case h1 => walk_at "look"))
  | ((with_reducible refine' Cm.at_forR ?h1 ?h2 ?_); (case h1 => walk_at "num2"); (case h2 => walk_at "num2"))
  | ((with_reducible refine' Cm.at_forZ ?h1 ?h2 ?_); (case h1 => walk_at "look"); (case h2 => walk_at "look"))
  | (with_reducible refine Cm.s_forZ ?_) | (with_reducible refine Cm.s_forR ?_)
  | ((with_reducible refine Cm.and_at (A := _ = _) ?h1 ?_); (case h1 => exact rfl))
  | ((with_reducible show L2.rIsi _ _ _ _); walk_at "isi")
  | (with_reducible refine Cm.ite_nt ?_) | (with_reducible refine Cm.ite_nf ?_)
  | (with_reducible refine L2.iteT ?_) | (with_reducible refine L2.iteF ?_)
  | dsimp only
  | fail)
local macro_rules | `(tactic| walk_at "run") => `(tactic| repeat (walk_at "st"))
local macro_rules | `(tactic| walk_at "num") => `(tactic| first
  | exact Or.inr ⟨by decide, by decide⟩ | exact Or.inl ⟨by decide, by decide⟩
  | exact Cm.wdiv (by first | decide | omega) (by first | decide | omega)
  | (show (0 : Int) < _; first | decide | omega)
  | exact ⟨by decide, by decide, by decide⟩
  | fail)
local macro_rules | `(tactic| walk_at "put") => `(tactic| exact rfl)
local macro_rules | `(tactic| walk_at "fl") => `(tactic| first | exact Cm.fl0 | (refine' Cm.flS ?hz; (case hz => walk_at "fl")) | fail)
local macro_rules | `(tactic| walk_at "size") => `(tactic| first | exact Cm.sz_lit rfl | exact Cm.sz_lt rfl | exact Cm.fs_lt rfl | decide | (refine' Nat.lt_of_le_of_lt ?ha ?hb; (case ha => walk_at "fl"); (case hb => decide)) | (simp only [List.length_cons, List.length_nil, List.length_append, List.length_map, List.length_set, List.length_replicate, PySem.sizeLine_eq]; omega) | (simp only [List.length_cons, List.length_nil, List.length_append, List.length_map, List.length_set, List.length_replicate, PySem.sizeLine_eq] at *; omega) | fail)
local macro_rules | `(tactic| walk_at "at") => `(tactic| first | assumption | (with_reducible exact Cm.at0) | (with_reducible exact Cm.at1) | (with_reducible exact Cm.at2) | (with_reducible exact Cm.at3) | (with_reducible exact Cm.at4) | (with_reducible exact Cm.at5) | (with_reducible exact Cm.at6) | (with_reducible exact Cm.at7) | (with_reducible exact Cm.at8) | (with_reducible exact Cm.at0s) | (with_reducible exact Cm.at1s) | (with_reducible exact Cm.at01s) | (with_reducible exact Cm.at10s) | fail)
local macro_rules | `(tactic| walk_at "ix") => `(tactic| first | exact Cm.ix0 (by walk_at "size") | exact Cm.ix1 (by walk_at "size") | assumption | fail)
local macro_rules | `(tactic| walk_at "key") => `(tactic| first | assumption | fail)
local macro_rules | `(tactic| walk_at "ne") => `(tactic| first
  | assumption
  | (refine Ne.symm ?_; assumption)
  | (refine' L2.ne_of_none ?h1 ?h2; (case h2 => assumption); (case h1 => walk_at "look"))
  | (refine' Ne.symm (L2.ne_of_none ?h1 ?h2); (case h2 => assumption); (case h1 => walk_at "look"))
  | fail)
local macro_rules | `(tactic| walk_at "lookT") => `(tactic| first
  | assumption
  | exact L2.SqT.of (by walk_at "look")
  | fail)
local macro_rules | `(tactic| walk_at "look") => `(tactic| first
  | assumption
  | exact L2.upd_same
  | ((fail_if_success (with_reducible refine Eq.trans L2.upd_same ?_)); (refine' Eq.trans (L2.upd_ne ?h1) ?h2); (case h1 => walk_at "ne"); (case h2 => walk_at "look"))
  | (refine' Cm.kp_look ?h1 ?h2 ?h3 ?h4; (case h1 => assumption); (case h2 => walk_at "look"); (case h3 => intro _ z; cases z); (case h4 => first | exact Or.inl rfl | exact Or.inr (by walk_at "out")))
  | fail)
local macro_rules | `(tactic| walk_at "out") => `(tactic| first
  | assumption
  | exact fun z => z
  | exact fun z => z.elim (fun e => absurd e (by walk_at "ne")) (fun e => absurd e (by walk_at "ne"))
  | exact fun e => absurd e (by walk_at "ne")
  | fail)
local macro_rules | `(tactic| walk_at "dom") => `(tactic| first
  | exact Cm.dm_refl
  | (refine Cm.dm_upd ?_; walk_at "dom")
  | (refine' Cm.dm_kp ?h1 ?h2; (case h2 => assumption); (case h1 => walk_at "dom"))
  | fail)
local macro_rules | `(tactic| walk_at "free") => `(tactic| first
  | assumption
  | exact Cm.nw_of (by assumption)
  | (refine' Cm.dm_use ?h1 ?h2; (case h2 => assumption); (case h1 => walk_at "dom"))
  | (refine' Cm.dm_use2 ?h1 ?h2; (case h2 => assumption); (case h1 => walk_at "dom"))
  | fail)
local macro_rules | `(tactic| walk_at "in") => `(tactic| first
  | exact Or.inl rfl | exact Or.inl (Or.inl rfl) | exact Or.inl (Or.inr rfl) | exact Or.inl (Or.inr (Or.inl rfl)) | exact Or.inl (Or.inr (Or.inr rfl))
  | exact Or.inl (by assumption)
  | exact Or.inr (by walk_at "free")
  | fail)
local macro_rules | `(tactic| walk_at "kp") => `(tactic| first
  | assumption
  | exact Cm.Kp.refl
  | (refine' Cm.Kp.new' ?h1 ?h2; (case h2 => assumption); (case h1 => walk_at "kp"))
  | (refine' Cm.Kp.setL' ?h1 ?h2 ?h3; (case h2 => walk_at "look"); (case h3 => walk_at "in"); (case h1 => walk_at "kp"))
  | (refine' Cm.Kp.setI' ?h1 ?h2 ?h3; (case h2 => walk_at "look"); (case h3 => walk_at "in"); (case h1 => walk_at "kp"))
  | (refine' Cm.Kp.setD' ?h1 ?h2 ?h3; (case h2 => walk_at "look"); (case h3 => walk_at "in"); (case h1 => walk_at "kp"))
  | (refine' Cm.kp_step ?h1 ?h2 ?h3; (case h2 => assumption); (case h3 => walk_at "sub"); (case h1 => walk_at "kp"))
  | fail)
local macro_rules | `(tactic| walk_at "sub") => `(tactic| first
  | exact fun _ z => z.elim
  | exact fun _ z => Or.inl z
  | (intro a z; rcases z with rfl | rfl <;> walk_at "in")
  | (intro a z; subst z; walk_at "in")
  | fail)
local macro_rules | `(tactic| walk_at "num2") => `(tactic| first | decide | omega | fail)

local macro_rules | `(tactic| walk_at "isi") => `(tactic| first | (with_reducible refine Cm.isi_non_bool ?_) | (with_reducible refine Cm.isi_non_int ?_) | (with_reducible refine Cm.isi_non_str ?_) | (with_reducible refine Cm.isi_non_tuple ?_) | (with_reducible refine Cm.isi_non_list ?_) | (with_reducible refine Cm.isi_bl_bool ?_) | (with_reducible refine Cm.isi_bl_int ?_) | (with_reducible refine Cm.isi_bl_str ?_) | (with_reducible refine Cm.isi_bl_tuple ?_) | (with_reducible refine Cm.isi_bl_list ?_) | (with_reducible refine Cm.isi_int_bool ?_) | (with_reducible refine Cm.isi_int_int ?_) | (with_reducible refine Cm.isi_int_str ?_) | (with_reducible refine Cm.isi_int_tuple ?_) | (with_reducible refine Cm.isi_int_list ?_) | (with_reducible refine Cm.isi_str_bool ?_) | (with_reducible refine Cm.isi_str_int ?_) | (with_reducible refine Cm.isi_str_str ?_) | (with_reducible refine Cm.isi_str_tuple ?_) | (with_reducible refine Cm.isi_str_list ?_) | ((with_reducible refine' Cm.isi_tup_bool ?h1 ?_); (case h1 => walk_at "look")) | ((with_reducible refine' Cm.isi_tup_int ?h1 ?_); (case h1 => walk_at "look")) | ((with_reducible refine' Cm.isi_tup_str ?h1 ?_); (case h1 => walk_at "look")) | ((with_reducible refine' Cm.isi_tup_tuple ?h1 ?_); (case h1 => walk_at "look")) | ((with_reducible refine' Cm.isi_tup_list ?h1 ?_); (case h1 => walk_at "look")) | ((with_reducible refine' Cm.isi_lst_bool ?h1 ?_); (case h1 => walk_at "look")) | ((with_reducible refine' Cm.isi_lst_int ?h1 ?_); (case h1 => walk_at "look")) | ((with_reducible refine' Cm.isi_lst_str ?h1 ?_); (case h1 => walk_at "look")) | ((with_reducible refine' Cm.isi_lst_tuple ?h1 ?_); (case h1 => walk_at "look")) | ((with_reducible refine' Cm.isi_lst_list ?h1 ?_); (case h1 => walk_at "look")) | fail)

local macro_rules | `(tactic| walk_at "key") => `(tactic| first | exact W.dF_g_blocks | exact W.dF_g_pending | exact W.dF_g_left | exact W.dF_g_picks | exact W.dF_g_fallen | exact W.dF_n_need_block | exact W.dF_n_count | exact W.dF_n_write | exact W.dF_n_settle | exact W.dF_n_read | exact W.dF_n_arm | exact W.dF_n_stop | exact W.dF_n_again | exact W.dF_n_settled)
local macro_rules | `(tactic| walk_at "put") => `(tactic| first | exact W.dF_p_blocks | exact W.dF_p_pending | exact W.dF_p_left | exact W.dF_p_picks | exact W.dF_p_fallen)
local macro_rules | `(tactic| walk_at "size") => `(tactic| (rw [W.dF_len]; decide))

local macro_rules | `(tactic| walk_at "key") => `(tactic| first | exact W.oF_g_settled | exact W.oF_g_pending | exact W.oF_g_left | exact W.oF_g_picks | exact W.oF_g_fallen)
local macro_rules | `(tactic| walk_at "put") => `(tactic| first | exact W.oF_p_settled | exact W.oF_p_pending | exact W.oF_p_left | exact W.oF_p_picks | exact W.oF_p_fallen)
local macro_rules | `(tactic| walk_at "size") => `(tactic| (rw [W.oF_len]; decide))

namespace W
open PySem PySem.Spec PyProof.Rows L2 Cm
section
variable {w : World} {K : PySem.W.Frag} {mg : Str → Option Value}
theorem shB (bs : List Bool) : SeqAt.shaped (.list (bs.map PyData.bool)) = true := by
  have h1 : ∀ bs : List Bool, PyData.canLayAll0 (bs.map PyData.bool) = true := fun bs => by
    induction bs with
    | nil => rfl
    | cons b bs ih => rw [List.map_cons, PyData.canLayAll0, ih]; rfl
  have h2 : ∀ bs : List Bool, PyData.depthAll (bs.map PyData.bool) = 0 := fun bs => by
    induction bs with
    | nil => rfl
    | cons b bs ih => rw [List.map_cons, PyData.depthAll, ih]; rfl
  unfold SeqAt.shaped
  rw [PyData.canLay0, PyData.depth, h1, h2]; rfl
theorem dpB {H : Hp} (bs : List Bool) : DpAll K H (bs.map V.bl) (bs.map PyData.bool) := by
  induction bs with
  | nil => exact .nil
  | cons b bs ih => exact .cons (.bl b) ih
theorem r_eqB {H : Hp} {Q : VK} {a b : Addr} {bs : List Bool} (ha : H a = some (.lst (bs.map V.bl))) (hb : H b = some (.lst (bs.map V.bl))) (q : Q (.bl true) H) : rEqA K (.ref a) (.ref b) H Q := by
  refine .inr ⟨.list (bs.map PyData.bool), .list (bs.map PyData.bool), .lst (SqL.of ha) (dpB bs), .lst (SqL.of hb) (dpB bs), shB bs, shB bs, ?_⟩
  rw [SeqAt.eqv_refl _ (SeqAt.canLay_of_shaped (shB bs))]
  exact q
theorem oF_again {b n : Addr} {l : V} {k : Addr} {f : Bool} {n' k' : Addr} : mergeK (oF b n l k f) [(.inr "pending", .ref n'), (.inr "left", .non), (.inr "picks", .ref k'), (.inr "fallen", .bl false)] = oF b n' .non k' false := by kernel_rfl
theorem pure_arms_ (T : Tx w K mg) (vs : List V) (H : Hp) (Q : VK) (E : XK) (h : S_arms_ K vs H Q E) : t_arms_ K E { nx := fun _ H' => Q .non H', rt := Q } (start N_arms_ vs) H := by
  obtain ⟨_, _, _, rfl, b, l, p, q, S, R, rfl, rfl, rfl, B, ⟨F, G, DA, OA, fg, hr⟩, rb, rl, hpe, hpi, hT, k⟩ := h
  have nbl := B.ne
  have c := T.c_Disk
  have nF : ∀ a, F a → ¬ Bx b l a := fun a ha z => z.elim (fun e => rb ((hr b).mpr (.inl (e ▸ ha)))) (fun e => rl ((hr l).mpr (.inl (e ▸ ha))))
  have nG : ∀ a, G a → ¬ Bx b l a := fun a ha z => z.elim (fun e => rb ((hr b).mpr (.inr (e ▸ ha)))) (fun e => rl ((hr l).mpr (.inr (e ▸ ha))))
  unfold t_arms_
  walk_at "run"
  refine lcR ?_
  walk_at "run"
  refine ⟨_, _, rfl, b, l, _, rfl, rfl, B, by omega, by omega, fun c1 H1 c10 c11 B1 kp1 => ?_⟩
  walk_at "run"
  intro Dl hD
  have nDb : Dl ≠ b := by obtain ⟨_, _, z, _⟩ := id B1; walk_at "ne"
  have nDl : Dl ≠ l := by obtain ⟨_, _, _, z, _⟩ := id B1; walk_at "ne"
  have kD : Kp (tabs K) No H1 (upd H1 Dl (.lst [])) := Kp.new hD
  refine coreR (fun i acc H' => ∃ bs : List Bool, acc = bs.map V.bl ∧ bs.length = i ∧ BoxAt H' b l ∧ Kp (tabs K) (Bx b l) H1 H') ⟨[], rfl, rfl, B1.keep kD (fun z => z) (fun z => z), kD.mono fun _ z => z.elim⟩ (fun i acc H' hi hl z e => ?_) (fun acc H2 hl z e => ?_)
  · obtain ⟨bs, rfl, hbl, B4, kp4⟩ := z
    unfold CStep
    walk_at "run"
    refine ⟨_, _, rfl, b, l, _, rfl, rfl, B4, by omega, by omega, fun u H5 u0 u1 B5 kp5 => ?_⟩
    have e5 := kp5.lst e (fun z => z.elim nDb nDl)
    walk_at "run"
    have k6 : Kp (tabs K) (fun a => a = Dl) H5 (upd H5 Dl (.lst (bs.map V.bl ++ [.bl (decide (V.int u = V.int 0))]))) := Kp.setL e5 rfl
    refine c_put e5 hl (by omega) ⟨bs ++ [decide (V.int u = V.int 0)], by rw [List.map_append]; rfl, by simp [hbl], B5.keep k6 (fun z => nDb z.symm) (fun z => nDl z.symm), by walk_at "kp"⟩
  obtain ⟨bs, rfl, hbl, B2, kp2⟩ := z
  have hb8 : bs.length ≤ 8 := by omega
  have K2 : Kp (tabs K) (Bx b l) H H2 := by walk_at "kp"
  have nwD : Nw H Dl := by walk_at "free"
  clear hD kD kp1 kp2 B1
  walk_at "run"
  rename_i hd hhd
  have k3 : Kp (tabs K) No H2 (upd H2 hd (.lst (bs.map V.bl))) := Kp.new hhd
  have nhb : hd ≠ b := by obtain ⟨_, _, z, _⟩ := id B2; walk_at "ne"
  have nhl : hd ≠ l := by obtain ⟨_, _, _, z, _⟩ := id B2; walk_at "ne"
  have nDh : Dl ≠ hd := by walk_at "ne"
  refine ⟨_, _, rfl, b, l, _, rfl, rfl, B2.keep k3 (fun z => z) (fun z => z), by omega, by omega, fun way H3 w0 w1 B3 kp3 => ?_⟩
  have K3 : Kp (tabs K) (Bx b l) H H3 := by walk_at "kp"
  have nwh : Nw H hd := by walk_at "free"
  have e3 := kp3.lst (k3.lst e (fun z => z)) (fun z => z.elim nDb nDl)
  have g3 := kp3.lst (upd_same (H := H2)) (fun z => z.elim nhb nhl)
  have D3 := DA.keep K3 nF
  have O3 := OA.keep K3 nG
  clear k3 kp3 hhd e B2 K2
  have nhF : ¬ F hd := fun z => DA.dom z nwh
  have nhG : ¬ G hd := fun z => OA.dom z nwh
  have nDF : ¬ F Dl := fun z => DA.dom z nwD
  have nDG : ¬ G Dl := fun z => OA.dom z nwD
  have fin : ∀ (S' : DS) (F' G' : Addr → Prop) (H6 : Hp), DiskAt K H6 p S' F' → OwnAt H6 q S' G' → S'.pending.length ≤ S.pending.length + 1 → (S'.picks.length ≤ S.picks.length ∨ S'.picks.length ≤ 8) → Kp (tabs K) (fun a => Bx b l a ∨ R a) H H6 → BoxAt H6 b l →
      (∀ a, F' a → (R a ∨ Nw H a) ∧ a ≠ hd) → (∀ a, G' a → (R a ∨ Nw H a) ∧ a ≠ hd) → (∀ a, F' a → ¬ G' a) → H6 hd = some (.lst (bs.map V.bl)) → H6 Dl = some (.lst (bs.map V.bl)) →
      rEqA K (.ref hd) (.ref Dl) H6 fun x H1 => gName 7 x [some (.ref b), some (.ref p), some (.ref q), some (.ref Dl), none, some (.ref hd), some (.int way), none] H1 (tSeq (tDrop (tBM K "list" rAppend (tVar 5) (tCons (tC (V.bl true)) tNil))) (tRet (tVar 7)) { nx := fun x H' => Q V.non H', rt := Q }) := by
    intro S' F' G' H6 D6 O6 b1 b2 K6 B6 sF sG dis h6 e6
    walk_at "run"
    refine r_eqB h6 e6 ?_
    walk_at "run"
    have k7 : Kp (tabs K) (fun a => a = hd) H6 (upd H6 hd (.lst (bs.map V.bl ++ [.bl true]))) := Kp.setL h6 rfl
    refine k S' _ (fun a => F' a ∨ G' a) b1 b2 (B6.keep k7 (fun z => nhb z.symm) (fun z => nhl z.symm)) ⟨F', G', D6.keep k7 (fun a ha z => (sF a ha).2 z), O6.keep k7 (fun a ha z => (sG a ha).2 z), dis, fun _ => Iff.rfl⟩ (K6.trans k7 fun a z => .inr (by rw [z]; exact nwh)) (fun a ha => ?_)
    rcases ha with ha | ha
    · exact (sF a ha).1
    · exact (sG a ha).1
  have c := T.c_Disk
  walk_at "run"
  refine if_d (fun h2 => ?_) (fun h2 => ?_)
  · obtain ⟨m, hm, m0, m1⟩ : ∃ m : Int, atI [V.int 3, V.int 20] way = some (.int m) ∧ 0 < m ∧ m < 100 := by
      have hu : way = 0 ∨ way = 1 := by omega
      rcases hu with rfl | rfl
      · exact ⟨_, at0, by decide, by decide⟩
      · exact ⟨_, at1, by decide, by decide⟩
    walk_at "run"
    rename_i s1 hs1
    have k4 : Kp (tabs K) No H3 (upd H3 s1 (.lst [.int 3, .int 20])) := Kp.new hs1
    refine ⟨_, _, rfl, b, l, _, rfl, rfl, B3.keep k4 (fun z => z) (fun z => z), m0, by omega, fun i H4 i0 i1 B4 kp4 => ?_⟩
    have K4 : Kp (tabs K) (Bx b l) H H4 := by walk_at "kp"
    have e4 := kp4.lst (k4.lst e3 (fun z => z)) (fun z => z.elim nDb nDl)
    have g4 := kp4.lst (k4.lst g3 (fun z => z)) (fun z => z.elim nhb nhl)
    have D4 := DA.keep K4 nF
    have O4 := OA.keep K4 nG
    clear k4 kp4 hs1 e3 g3 D3 O3 K3 B3
    obtain ⟨b', n', kk', bs', ns', h1', h2', d2', h3', d3', h4', ⟨ne1', ne2', ne3'⟩, o', f'⟩ := id O4
    have gq : G q := (f' q).mpr (.inl rfl)
    have gb : G b' := (f' b').mpr (.inr (.inl rfl))
    have gn : G n' := (f' n').mpr (.inr (.inr (.inl rfl)))
    have nqh : q ≠ hd := fun z => nhG (z ▸ gq)
    have nqD : q ≠ Dl := fun z => nDG (z ▸ gq)
    have nbD : b' ≠ Dl := fun z => nDG (z ▸ gb)
    have nnD : n' ≠ Dl := fun z => nDG (z ▸ gn)
    have nqp : p ≠ q := fun z => by
      obtain ⟨dx, b1, n1, kk1, bs1, ns1, h1, _, _, _, _, _, _, _, ff⟩ := id D4
      exact fg p ((ff p).mpr (.inl rfl)) (z ▸ gq)
    have eqb : q ≠ b' := ne_of h1' h2' (fun z => nomatch z)
    have eqn : q ≠ n' := ne_of h1' h3' (fun z => nomatch z)
    obtain ⟨dx, b1, n1, kk1, bs1, ns1, h1, _⟩ := id D4
    walk_at "run"
    have kq : Kp (tabs K) (fun a => a = q) H4 (upd (upd H4 q (.dK (oF b' n' (.int i) kk' S.fallen))) q (.dK (oF b' n' (.int i) Dl S.fallen))) := by walk_at "kp"
    refine ⟨_, _, _, rfl, p, S, F, i, hd, bs, rfl, rfl, rfl, D4.keep kq (fun a ha z => fg a ha (z ▸ gq)), by walk_at "look", fun H5 F5 D5 st5 => ?_⟩
    have ei : (if i > 0 then i else 0) = i := by split <;> omega
    walk_at "run"
    have nF' : ∀ a, G a → ¬ F a := fun a h1 h2 => fg a h2 h1
    have hG' : ∀ a, (a = q ∨ a = b' ∨ a = n' ∨ a = Dl) → (G a ∨ a = Dl) := fun a ha => by
      rcases ha with rfl | rfl | rfl | rfl
      · exact .inl gq
      · exact .inl gb
      · exact .inl gn
      · exact .inr rfl
    have kF : Kp (tabs K) (fun a => F a ∨ a = q) H4 H5 := (kq.mono fun a ha => .inr ha).trans st5.kp fun a ha => .inl (.inl ha)
    have keep : ∀ {xs : List V} {a : Addr}, H4 a = some (.lst xs) → ¬ F a → a ≠ q → H5 a = some (.lst xs) := fun h1 h2 h3 => kF.lst h1 (fun z => z.elim h2 h3)
    have O5 : OwnAt H5 q (S.arm i bs) (fun a => a = q ∨ a = b' ∨ a = n' ∨ a = Dl) := by
      refine ⟨b', n', Dl, bs', ns', ?_, keep h2' (nF' _ gb) eqb.symm, d2'.keep kF o'.bl, keep h3' (nF' _ gn) eqn.symm, d3'.keep kF o'.prs, keep e4 nDF nqD.symm, ⟨ne1', nbD, nnD⟩, ⟨o'.len, o'.bl, o'.pe⟩, fun _ => Iff.rfl⟩
      show H5 q = some (.dK (oF b' n' (.int (if i > 0 then i else 0)) Dl S.fallen))
      rw [ei]
      exact st5.kp.dK upd_same (nF' _ gq)
    have back : ∀ a, Nw (upd (upd H4 q (.dK (oF b' n' (.int i) kk' S.fallen))) q (.dK (oF b' n' (.int i) Dl S.fallen))) a → Nw H a := fun a ha => K4.dom a (kq.dom a ha)
    refine fin (S.arm i bs) F5 _ H5 D5 O5 (Nat.le_succ _) (.inr hb8) ?_ ?_ (fun a ha => ?_) (fun a ha => ?_) (fun a ha hb => ?_) (keep g4 nhF nqh.symm) (keep e4 nDF nqD.symm)
    · exact (K4.mono fun a ha => .inl ha).trans kF fun a ha => .inl (.inr (ha.elim (fun z => (hr a).mpr (.inl z)) (fun z => (hr a).mpr (.inr (z ▸ gq)))))
    · exact B4.keep kF (fun z => z.elim (fun z => nF b z (.inl rfl)) (fun z => nG q gq (.inl z.symm))) (fun z => z.elim (fun z => nF l z (.inr rfl)) (fun z => nG q gq (.inr z.symm)))
    · refine ⟨?_, fun z => ?_⟩
      · rcases st5.sub a ha with h | h
        · exact .inl ((hr a).mpr (.inl h))
        · exact .inr (back a h)
      · subst z
        rcases st5.sub _ ha with h | h
        · exact nhF h
        · exact nw_no (kq.dom _ h) g4 (fun _ z => nomatch z)
    · refine ⟨?_, fun z => ?_⟩
      · rcases hG' a ha with h | rfl
        · exact .inl ((hr a).mpr (.inr h))
        · exact .inr nwD
      · subst z
        rcases hG' _ ha with h | h
        · exact nhG h
        · exact nDh h.symm
    · rcases st5.sub a ha with h | h
      · rcases hG' a hb with h2 | rfl
        · exact fg a h h2
        · exact nDF h
      · rcases hG' a hb with h2 | rfl
        · exact O4.dom h2 (kq.dom a h)
        · exact nw_no (kq.dom _ h) e4 (fun _ z => nomatch z)
  · walk_at "run"
    refine if_d (fun h3 => ?_) (fun h3 => ?_)
    · walk_at "run"
      refine ⟨_, _, rfl, q, S, G, Dl, bs, rfl, rfl, O3, e3, by omega, by omega, fun b' n' v' k' f' e' => ?_, fun H4 G4 O4 st4 => ?_⟩
      · obtain ⟨b2, n2, kk2, bs2, ns2, h1', h2', _, _, _, _, _, _, f''⟩ := id O3
        rw [h1'] at e'
        injection e' with e'
        injection e' with e'
        injection e' with e1 e2
        injection e1 with _ e1
        injection e1 with e1
        exact fun z => nDG ((f'' Dl).mpr (.inr (.inl (by rw [z, ← e1]))))
      have D4 := D3.keep st4.kp (fun a ha z => fg a ha z)
      have e4 := st4.kp.lst e3 nDG
      have g4 := st4.kp.lst g3 nhG
      have B4 := B3.keep st4.kp (fun z => nG b z (.inl rfl)) (fun z => nG l z (.inr rfl))
      obtain ⟨dx, b1, n1, kk1, bs1, ns1, h1, _⟩ := id D4
      walk_at "run"
      refine ⟨_, _, rfl, p, S, F, hd, bs, rfl, rfl, D4, g4, fun H5 F5 D5 st5 => ?_⟩
      have nF4 : ∀ a, G4 a → ¬ F a := fun a h1 h2 => by
        rcases st4.sub a h1 with h | h
        · exact fg a h2 h
        · exact D3.dom h2 h
      have O5 := O4.keep st5.kp nF4
      walk_at "run"
      refine fin (S.fal bs) F5 G4 H5 D5 O5 (Nat.zero_le _) (.inl (Nat.le_refl _)) ?_ ?_ (fun a ha => ?_) (fun a ha => ?_) (fun a ha hb => ?_) (st5.kp.lst g4 nhF) (st5.kp.lst e4 nDF)
      · exact ((K3.mono fun a ha => .inl ha).trans st4.kp fun a ha => .inl (.inr ((hr a).mpr (.inr ha)))).trans st5.kp fun a ha => .inl (.inr ((hr a).mpr (.inl ha)))
      · exact B4.keep st5.kp (fun z => nF b z (.inl rfl)) (fun z => nF l z (.inr rfl))
      · refine ⟨?_, fun z => ?_⟩
        · rcases st5.sub a ha with h | h
          · exact .inl ((hr a).mpr (.inl h))
          · exact .inr (K3.dom a (st4.kp.dom a h))
        · subst z
          rcases st5.sub _ ha with h | h
          · exact nhF h
          · exact nw_no h g4 (fun _ z => nomatch z)
      · refine ⟨?_, fun z => ?_⟩
        · rcases st4.sub a ha with h | h
          · exact .inl ((hr a).mpr (.inr h))
          · exact .inr (K3.dom a h)
        · subst z
          rcases st4.sub _ ha with h | h
          · exact nhG h
          · exact nw_no h g3 (fun _ z => nomatch z)
      · rcases st5.sub a ha with h | h
        · exact nF4 a hb h
        · exact O4.dom hb h
    · obtain ⟨b', n', kk', bs', ns', h1', h2', d2', h3', d3', h4', ⟨ne1', ne2', ne3'⟩, o', f'⟩ := id O3
      have gq : G q := (f' q).mpr (.inl rfl)
      have gb : G b' := (f' b').mpr (.inr (.inl rfl))
      walk_at "run"
      refine ⟨.inr (.inr (.inl ⟨rfl, .inl ⟨_, h1'⟩⟩)), ?_⟩
      walk_at "run"
      rename_i pn hpn t1 ht1 t2 ht2 pk hpk t3 ht3 t4 ht4 tl htl
      have gn : G n' := (f' n').mpr (.inr (.inr (.inl rfl)))
      have eqb : q ≠ b' := ne_of h1' h2' (fun z => nomatch z)
      have fpn : Nw H pn := K3.dom _ (.inl hpn)
      have e12 : pn ≠ pk := by walk_at "ne"
      have fpk : Nw H3 pk := by walk_at "free"
      have nbn : b' ≠ pn := by walk_at "ne"
      have nbk : b' ≠ pk := by walk_at "ne"
      have nqn : q ≠ pn := by walk_at "ne"
      have nqk : q ≠ pk := by walk_at "ne"
      have nhn : pn ≠ hd := by walk_at "ne"
      have nhk : pk ≠ hd := by walk_at "ne"
      refine m_upd4 (by walk_at "look") (by walk_at "look") (by walk_at "look") (by walk_at "look") (by walk_at "look") (by walk_at "look") (by show 5 ≤ 900; decide) oF_again ?_
      generalize hHH : (upd (upd (upd (upd (upd (upd (upd H3 pn (HO.lst [])) t1 (HO.tup [V.str "pending", V.ref pn])) t2 (HO.tup [V.str "left", V.non])) pk (HO.lst [])) t3 (HO.tup [V.str "picks", V.ref pk])) t4 (HO.tup [V.str "fallen", V.bl false])) tl (HO.lst [V.ref t1, V.ref t2, V.ref t3, V.ref t4])) = HH
      have kh : Kp (tabs K) No H3 HH := by rw [← hHH]; walk_at "kp"
      have gpn : HH pn = some (.lst []) := by rw [← hHH]; walk_at "look"
      have gpk : HH pk = some (.lst []) := by rw [← hHH]; walk_at "look"
      clear hHH
      have hq' := kh.dK h1' (fun z => z)
      have kq : Kp (tabs K) (fun a => a = q) HH (upd HH q (.dK (oF b' pn .non pk false))) := Kp.setD hq' rfl
      have D4 := (D3.keep kh (fun _ _ z => z)).keep kq (fun a ha z => fg a ha (z ▸ gq))
      obtain ⟨dx, b1, n1, kk1, bs1, ns1, h1, _⟩ := id D4
      walk_at "run"
      refine ⟨_, rfl, p, S, F, rfl, D4, fun H5 F5 D5 st5 => ?_⟩
      have nF' : ∀ a, G a → ¬ F a := fun a h1 h2 => fg a h2 h1
      have npF : ¬ F pn := fun z => D3.dom z (.inl hpn)
      have nkF : ¬ F pk := fun z => D3.dom z fpk
      have kF : Kp (tabs K) (fun a => F a ∨ a = q) HH H5 := (kq.mono fun a ha => .inr ha).trans st5.kp fun a ha => .inl (.inl ha)
      have keep : ∀ {xs : List V} {a : Addr}, HH a = some (.lst xs) → ¬ F a → a ≠ q → H5 a = some (.lst xs) := fun h1 h2 h3 => kF.lst h1 (fun z => z.elim h2 h3)
      have nqh : q ≠ hd := fun z => nhG (z ▸ gq)
      have nqD : q ≠ Dl := fun z => nDG (z ▸ gq)
      have hG' : ∀ a, (a = q ∨ a = b' ∨ a = pn ∨ a = pk) → (G a ∨ Nw H3 a) := fun a ha => by
        rcases ha with rfl | rfl | rfl | rfl
        · exact .inl gq
        · exact .inl gb
        · exact .inr (.inl hpn)
        · exact .inr fpk
      have hF' : ∀ a, F5 a → F a ∨ Nw H3 a := fun a ha => (st5.sub a ha).elim .inl fun h => .inr (kh.dom a (kq.dom a h))
      have O5 : OwnAt H5 q S.again (fun a => a = q ∨ a = b' ∨ a = pn ∨ a = pk) := by
        refine ⟨b', pn, pk, bs', [], st5.kp.dK upd_same (nF' _ gq), keep (kh.lst h2' (fun z => z)) (nF' _ gb) eqb.symm, (d2'.keep kh o'.bl).keep kF o'.bl, keep gpn npF nqn.symm, rfl, keep gpk nkF nqk.symm, ⟨nbn, nbk, e12⟩, ⟨o'.len, o'.bl, fun _ z => nomatch z⟩, fun _ => Iff.rfl⟩
      walk_at "run"
      refine fin S.again F5 _ H5 D5 O5 (Nat.zero_le _) (.inr (Nat.zero_le _)) ?_ ?_ (fun a ha => ⟨?_, fun z => ?_⟩) (fun a ha => ⟨?_, fun z => ?_⟩) (fun a ha hb => ?_) (keep (kh.lst g3 (fun z => z)) nhF nqh.symm) (keep (kh.lst e3 (fun z => z)) nDF nqD.symm)
      · exact ((K3.mono fun a ha => .inl ha).trans kh fun _ z => z.elim).trans kF fun a ha => .inl (.inr (ha.elim (fun z => (hr a).mpr (.inl z)) (fun z => (hr a).mpr (.inr (z ▸ gq)))))
      · exact (B3.keep kh (fun z => z) (fun z => z)).keep kF (fun z => z.elim (fun z => nF b z (.inl rfl)) (fun z => nG q gq (.inl z.symm))) (fun z => z.elim (fun z => nF l z (.inr rfl)) (fun z => nG q gq (.inr z.symm)))
      · rcases hF' a ha with h | h
        · exact .inl ((hr a).mpr (.inl h))
        · exact .inr (K3.dom a h)
      · subst z
        rcases hF' _ ha with h | h
        · exact nhF h
        · exact nw_no h g3 (fun _ z => nomatch z)
      · rcases hG' a ha with h | h
        · exact .inl ((hr a).mpr (.inr h))
        · exact .inr (K3.dom a h)
      · subst z
        rcases hG' _ ha with h | h
        · exact nhG h
        · exact nw_no h g3 (fun _ z => nomatch z)
      · rcases st5.sub a ha with h | h
        · rcases hG' a hb with h2 | h2
          · exact fg a h h2
          · exact D3.dom h h2
        · have h' := kq.dom a h
          rcases hb with rfl | rfl | rfl | rfl
          · exact nw_no h' hq' (fun _ z => nomatch z)
          · exact nw_no h' (kh.lst h2' (fun z => z)) (fun _ z => nomatch z)
          · exact nw_no h' gpn (fun _ z => nomatch z)
          · exact nw_no h' gpk (fun _ z => nomatch z)
end
end W

end
section
/-! ### M0: words for walking through a reading (local) -/
local macro_rules | `(tactic| walk_at "st") => `(tactic| first
  | (with_reducible refine Cm.s_seq ?_) | (with_reducible refine Cm.s_asg ?_) | (with_reducible refine Cm.s_drop ?_) | (with_reducible refine Cm.s_ret ?_) | (with_reducible refine Cm.s_if ?_) | (with_reducible refine Cm.s_next ?_) | (with_reducible refine Cm.s_retN ?_) | (with_reducible refine Cm.s_rs ?_) | (with_reducible refine Cm.s_fld0 ?_)
  | ((with_reducible refine' Cm.e_var ?hv ?_); (case hv => exact rfl))
  | (with_reducible refine Cm.e_c ?_) | (with_reducible refine Cm.e_op ?_) | (with_reducible refine Cm.e_un ?_) | (with_reducible refine Cm.e_nil ?_) | (with_reducible refine Cm.e_cons ?_) | (with_reducible refine Cm.e_tup ?_) | (with_reducible refine Cm.e_lst ?_) | (with_reducible refine Cm.e_cb ?_) | (with_reducible refine Cm.e_call ?_) | (with_reducible refine Cm.e_if ?_)
  | (with_reducible refine Cm.e_andV ?_) | (with_reducible refine Cm.e_orV ?_) | (with_reducible refine Cm.e_notV ?_) | (with_reducible refine Cm.e_fld0 ?_) | (with_reducible refine Cm.e_meth0 ?_) | (with_reducible refine Cm.e_bm0 ?_) | (with_reducible refine Cm.e_bm ?_) | (with_reducible refine Cm.e_sl ?_) | (with_reducible refine Cm.o_none ?_) | (with_reducible refine Cm.o_some ?_) | (with_reducible refine Cm.e_dnew ?_)
  | (with_reducible refine Cm.e_test ?_) | (with_reducible refine Cm.e_tr ?_) | (with_reducible refine Cm.e_and ?_) | (with_reducible refine Cm.e_or ?_) | (with_reducible refine Cm.e_not ?_) | (with_reducible refine Cm.e_yes ?_) | (with_reducible refine Cm.e_chain ?_)
  | (with_reducible refine Cm.r_i0 ?_) | (with_reducible refine Cm.r_u ?_) | (with_reducible refine Cm.r_isNo ?_) | (with_reducible refine Cm.r_notNo ?_) | (with_reducible refine Cm.r_addI ?_) | (with_reducible refine Cm.r_int1b ?_) | (with_reducible refine Cm.r_max2 ?_)
  | ((with_reducible refine Cm.r_i ?hc ?_); (case hc => walk_at "num"))
  | ((with_reducible refine Cm.r_mulI ?hc ?_); (case hc => walk_at "num"))
  | ((with_reducible refine Cm.r_eqS ?hc ?_); (case hc => exact rfl))
  | ((with_reducible refine Cm.r_neS ?hc ?_); (case hc => exact rfl))
  | ((with_reducible refine' Cm.r_ixl ?h1 ?h2 ?_); (case h1 => walk_at "look"); (case h2 => walk_at "at"))
  | ((with_reducible refine' Cm.r_ixt ?h1 ?h2 ?_); (case h1 => walk_at "look"); (case h2 => walk_at "at"))
  | ((with_reducible refine' Cm.r_ixT ?h1 ?h2 ?_); (case h1 => walk_at "lookT"); (case h2 => walk_at "at"))
  | ((with_reducible refine' Cm.r_ixds ?h1 ?h2 ?_); (case h1 => walk_at "look"); (case h2 => walk_at "key"))
  | ((with_reducible refine' Cm.r_eqe ?h1 ?h2 ?_); (case h1 => walk_at "look"); (case h2 => walk_at "look"))
  | ((with_reducible refine' Cm.r_nee ?h1 ?h2 ?_); (case h1 => walk_at "look"); (case h2 => walk_at "look"))
  | ((with_reducible refine' Cm.r_lenl ?h1 ?_); (case h1 => walk_at "look"))
  | ((with_reducible refine' Cm.r_lent ?h1 ?_); (case h1 => walk_at "look"))
  | ((with_reducible refine' Cm.r_lenT ?h1 ?_); (case h1 => walk_at "lookT"))
  | ((with_reducible refine' Cm.r_listl ?h1 ?_); (case h1 => walk_at "look"); (intro _ _))
  | ((with_reducible refine' Cm.r_tupl ?h1 ?_); (case h1 => walk_at "look"); (intro _ _))
  | ((with_reducible refine' Cm.r_addL ?h1 ?h2 ?h3 ?_); (case h1 => walk_at "look"); (case h2 => walk_at "look"); (case h3 => walk_at "size"); (intro _ _))
  | ((with_reducible refine' Cm.m_append ?h1 ?h2 ?_); (case h1 => walk_at "look"); (case h2 => walk_at "size"))
  | ((with_reducible refine' Cm.m_clear ?h1 ?_); (case h1 => walk_at "look"))
  | ((with_reducible refine' Cm.g_setL ?h1 ?h2 ?_); (case h1 => walk_at "look"); (case h2 => walk_at "ix"))
  | ((with_reducible refine' Cm.g_setDs ?h1 ?h2 ?h3 ?_); (case h1 => walk_at "look"); (case h2 => walk_at "size"); (case h3 => walk_at "put"))
  | ((with_reducible refine' Cm.fld_at ?h1 ?h2 ?h3 ?h4 ?_); (case h1 => walk_at "look"); (case h2 => assumption); (case h3 => assumption); (case h4 => walk_at "key"))
  | ((with_reducible refine' Cm.fldset_at ?h1 ?h2 ?h3 ?h4 ?h5 ?_); (case h1 => walk_at "look"); (case h2 => assumption); (case h3 => assumption); (case h4 => walk_at "size"); (case h5 => walk_at "put"))
  | (with_reducible refine Cm.s_fldaug0 ?_)
  | ((with_reducible refine' Cm.aug_at ?h1 ?h2 ?h3 ?h4 ?_); (case h1 => walk_at "look"); (case h2 => assumption); (case h3 => assumption); (case h4 => walk_at "key"))
  | ((with_reducible refine' Cm.augset_at ?h1 ?h4 ?h5 ?_); (case h1 => walk_at "look"); (case h4 => walk_at "size"); (case h5 => walk_at "put"))
  | (with_reducible refine Cm.in_sub_at ?_) | (with_reducible refine Cm.in_add_at ?_)
  | ((with_reducible refine' Cm.meth_at ?h1 ?h2 ?_); (case h1 => walk_at "look"); (case h2 => walk_at "key"))
  | ((with_reducible refine Cm.new_at ?h1 ?_); (case h1 => walk_at "size"); (intro _ _))
  | ((with_reducible refine Cm.and_at (A := L2.tyV _ _ _ _) ?h1 ?_); (case h1 => exact Cm.ty_lst (by walk_at "look")))
  | ((with_reducible refine' Cm.g_tupt ?h1 ?h2 ?_); (case h1 => walk_at "look"); (case h2 => exact rfl))
  | ((with_reducible refine' Cm.g_tup ?h1 ?h2 ?_); (case h1 => walk_at "lookT"); (case h2 => exact rfl))
  | (with_reducible refine Cm.g_name ?_) | (with_reducible refine Cm.g_sub ?_) | (with_reducible refine Cm.g_cons ?_) | (with_reducible refine Cm.g_nil ?_)
  | (with_reducible refine Cm.int_at ?_) | (with_reducible refine Cm.bl_at ?_) | (with_reducible refine Cm.tr_bl ?_) | (with_reducible refine Cm.tr_non ?_)
  | ((with_reducible refine' Cm.m_pop0 ?h1 ?_); (case h1 => walk_at "look"))
  | ((with_reducible refine' Cm.r_slTo ?h1 ?h2 ?_); (case h1 => walk_at "look"); (case h2 => walk_at "num2"); (intro _ _))
  | ((with_reducible refine' Cm.r_slFrom ?h1 ?h2 ?_); (case h1 => walk_at "look"); (case h2 => walk_at "num2"); (intro _ _))
  | ((with_reducible refine' Cm.at_forL ?h1 ?_); (case h1 => walk_at "look"))
  | ((with_reducible refine' Cm.at_forT ?h1 ?_); (case h1 => walk_at "look"))
  | ((with_reducible refine' Cm.at_forR ?h1 ?h2 ?_); (case h1 => walk_at "num2"); (case h2 => walk_at "num2"))
  | ((with_reducible refine' Cm.at_forZ ?h1 ?h2 ?_); (case h1 => walk_at "look"); (case h2 => walk_at "look"))
  | (with_reducible refine Cm.s_forZ ?_) | (with_reducible refine Cm.s_forR ?_)
  | ((with_reducible refine Cm.and_at (A := _ = _) ?h1 ?_); (case h1 => exact rfl))
  | ((with_reducible show L2.rIsi _ _ _ _); walk_at "isi")
  | (with_reducible refine Cm.ite_nt ?_) | (with_reducible refine Cm.ite_nf ?_)
  | (with_reducible refine L2.iteT ?_) | (with_reducible refine L2.iteF ?_)
  | dsimp only
  | fail)
local macro_rules | `(tactic| walk_at "run") => `(tactic| repeat (walk_at "st"))
local macro_rules | `(tactic| walk_at "num") => `(tactic| first
  | exact Or.inr ⟨by decide, by decide⟩ | exact Or.inl ⟨by decide, by decide⟩
  | exact Cm.wdiv (by first | decide | omega) (by first | decide | omega)
  | (show (0 : Int) < _; first | decide | omega)
  | exact ⟨by decide, by decide, by decide⟩
  | fail)
local macro_rules | `(tactic| walk_at "put") => `(tactic| exact rfl)
local macro_rules | `(tactic| walk_at "fl") => `(tactic| first | exact Cm.fl0 | (refine' Cm.flS ?hz; (case hz => walk_at "fl")) | fail)
local macro_rules | `(tactic| walk_at "size") => `(tactic| first | exact Cm.sz_lit rfl | exact Cm.sz_lt rfl | exact Cm.fs_lt rfl | decide | (refine' Nat.lt_of_le_of_lt ?ha ?hb; (case ha => walk_at "fl"); (case hb => decide)) | (simp only [List.length_cons, List.length_nil, List.length_append, List.length_map, List.length_set, List.length_replicate, PySem.sizeLine_eq]; omega) | (simp only [List.length_cons, List.length_nil, List.length_append, List.length_map, List.length_set, List.length_replicate, PySem.sizeLine_eq] at *; omega) | fail)
local macro_rules | `(tactic| walk_at "at") => `(tactic| first | assumption | (with_reducible exact Cm.at0) | (with_reducible exact Cm.at1) | (with_reducible exact Cm.at2) | (with_reducible exact Cm.at3) | (with_reducible exact Cm.at4) | (with_reducible exact Cm.at5) | (with_reducible exact Cm.at6) | (with_reducible exact Cm.at7) | (with_reducible exact Cm.at8) | (with_reducible exact Cm.at0s) | (with_reducible exact Cm.at1s) | (with_reducible exact Cm.at01s) | (with_reducible exact Cm.at10s) | fail)
local macro_rules | `(tactic| walk_at "ix") => `(tactic| first | exact Cm.ix0 (by walk_at "size") | exact Cm.ix1 (by walk_at "size") | assumption | fail)
local macro_rules | `(tactic| walk_at "key") => `(tactic| first | assumption | fail)
local macro_rules | `(tactic| walk_at "ne") => `(tactic| first
  | assumption
  | (refine Ne.symm ?_; assumption)
  | (refine' L2.ne_of_none ?h1 ?h2; (case h2 => assumption); (case h1 => walk_at "look"))
  | (refine' Ne.symm (L2.ne_of_none ?h1 ?h2); (case h2 => assumption); (case h1 => walk_at "look"))
  | fail)
local macro_rules | `(tactic| walk_at "lookT") => `(tactic| first
  | assumption
  | exact L2.SqT.of (by walk_at "look")
  | fail)
local macro_rules | `(tactic| walk_at "look") => `(tactic| first
  | assumption
  | exact L2.upd_same
  | ((fail_if_success (with_reducible refine Eq.trans L2.upd_same ?_)); (refine' Eq.trans (L2.upd_ne ?h1) ?h2); (case h1 => walk_at "ne"); (case h2 => walk_at "look"))
  | (refine' Cm.kp_look ?h1 ?h2 ?h3 ?h4; (case h1 => assumption); (case h2 => walk_at "look"); (case h3 => intro _ z; cases z); (case h4 => first | exact Or.inl rfl | exact Or.inr (by walk_at "out")))
  | fail)
local macro_rules | `(tactic| walk_at "out") => `(tactic| first
  | assumption
  | exact fun z => z
  | exact fun z => z.elim (fun e => absurd e (by walk_at "ne")) (fun e => absurd e (by walk_at "ne"))
  | exact fun e => absurd e (by walk_at "ne")
  | fail)
local macro_rules | `(tactic| walk_at "dom") => `(tactic| first
  | exact Cm.dm_refl
  | (refine Cm.dm_upd ?_; walk_at "dom")
  | (refine' Cm.dm_kp ?h1 ?h2; (case h2 => assumption); (case h1 => walk_at "dom"))
  | fail)
local macro_rules | `(tactic| walk_at "free") => `(tactic| first
  | assumption
  | exact Cm.nw_of (by assumption)
  | (refine' Cm.dm_use ?h1 ?h2; (case h2 => assumption); (case h1 => walk_at "dom"))
  | (refine' Cm.dm_use2 ?h1 ?h2; (case h2 => assumption); (case h1 => walk_at "dom"))
  | fail)
local macro_rules | `(tactic| walk_at "in") => `(tactic| first
  | exact Or.inl rfl | exact Or.inl (Or.inl rfl) | exact Or.inl (Or.inr rfl) | exact Or.inl (Or.inr (Or.inl rfl)) | exact Or.inl (Or.inr (Or.inr rfl))
  | exact Or.inl (by assumption)
  | exact Or.inr (by walk_at "free")
  | fail)
local macro_rules | `(tactic| walk_at "kp") => `(tactic| first
  | assumption
  | exact Cm.Kp.refl
  | (refine' Cm.Kp.new' ?h1 ?h2; (case h2 => assumption); (case h1 => walk_at "kp"))
  | (refine' Cm.Kp.setL' ?h1 ?h2 ?h3; (case h2 => walk_at "look"); (case h3 => walk_at "in"); (case h1 => walk_at "kp"))
  | (refine' Cm.Kp.setI' ?h1 ?h2 ?h3; (case h2 => walk_at "look"); (case h3 => walk_at "in"); (case h1 => walk_at "kp"))
  | (refine' Cm.Kp.setD' ?h1 ?h2 ?h3; (case h2 => walk_at "look"); (case h3 => walk_at "in"); (case h1 => walk_at "kp"))
  | (refine' Cm.kp_step ?h1 ?h2 ?h3; (case h2 => assumption); (case h3 => walk_at "sub"); (case h1 => walk_at "kp"))
  | fail)
local macro_rules | `(tactic| walk_at "sub") => `(tactic| first
  | exact fun _ z => z.elim
  | exact fun _ z => Or.inl z
  | (intro a z; rcases z with rfl | rfl <;> walk_at "in")
  | (intro a z; subst z; walk_at "in")
  | fail)
local macro_rules | `(tactic| walk_at "num2") => `(tactic| first | decide | omega | fail)

local macro_rules | `(tactic| walk_at "isi") => `(tactic| first | (with_reducible refine Cm.isi_non_bool ?_) | (with_reducible refine Cm.isi_non_int ?_) | (with_reducible refine Cm.isi_non_str ?_) | (with_reducible refine Cm.isi_non_tuple ?_) | (with_reducible refine Cm.isi_non_list ?_) | (with_reducible refine Cm.isi_bl_bool ?_) | (with_reducible refine Cm.isi_bl_int ?_) | (with_reducible refine Cm.isi_bl_str ?_) | (with_reducible refine Cm.isi_bl_tuple ?_) | (with_reducible refine Cm.isi_bl_list ?_) | (with_reducible refine Cm.isi_int_bool ?_) | (with_reducible refine Cm.isi_int_int ?_) | (with_reducible refine Cm.isi_int_str ?_) | (with_reducible refine Cm.isi_int_tuple ?_) | (with_reducible refine Cm.isi_int_list ?_) | (with_reducible refine Cm.isi_str_bool ?_) | (with_reducible refine Cm.isi_str_int ?_) | (with_reducible refine Cm.isi_str_str ?_) | (with_reducible refine Cm.isi_str_tuple ?_) | (with_reducible refine Cm.isi_str_list ?_) | ((with_reducible refine' Cm.isi_tup_bool ?h1 ?_); (case h1 => walk_at "look")) | ((with_reducible refine' Cm.isi_tup_int ?h1 ?_); (case h1 => walk_at "look")) | ((with_reducible refine' Cm.isi_tup_str ?h1 ?_); (case h1 => walk_at "look")) | ((with_reducible refine' Cm.isi_tup_tuple ?h1 ?_); (case h1 => walk_at "look")) | ((with_reducible refine' Cm.isi_tup_list ?h1 ?_); (case h1 => walk_at "look")) | ((with_reducible refine' Cm.isi_lst_bool ?h1 ?_); (case h1 => walk_at "look")) | ((with_reducible refine' Cm.isi_lst_int ?h1 ?_); (case h1 => walk_at "look")) | ((with_reducible refine' Cm.isi_lst_str ?h1 ?_); (case h1 => walk_at "look")) | ((with_reducible refine' Cm.isi_lst_tuple ?h1 ?_); (case h1 => walk_at "look")) | ((with_reducible refine' Cm.isi_lst_list ?h1 ?_); (case h1 => walk_at "look")) | fail)

local macro_rules | `(tactic| walk_at "key") => `(tactic| first | exact W.dF_g_blocks | exact W.dF_g_pending | exact W.dF_g_left | exact W.dF_g_picks | exact W.dF_g_fallen | exact W.dF_n_need_block | exact W.dF_n_count | exact W.dF_n_write | exact W.dF_n_settle | exact W.dF_n_read | exact W.dF_n_arm | exact W.dF_n_stop | exact W.dF_n_again | exact W.dF_n_settled)
local macro_rules | `(tactic| walk_at "put") => `(tactic| first | exact W.dF_p_blocks | exact W.dF_p_pending | exact W.dF_p_left | exact W.dF_p_picks | exact W.dF_p_fallen)
local macro_rules | `(tactic| walk_at "size") => `(tactic| (rw [W.dF_len]; decide))

local macro_rules | `(tactic| walk_at "key") => `(tactic| first | exact W.oF_g_settled | exact W.oF_g_pending | exact W.oF_g_left | exact W.oF_g_picks | exact W.oF_g_fallen)
local macro_rules | `(tactic| walk_at "put") => `(tactic| first | exact W.oF_p_settled | exact W.oF_p_pending | exact W.oF_p_left | exact W.oF_p_picks | exact W.oF_p_fallen)
local macro_rules | `(tactic| walk_at "size") => `(tactic| (rw [W.oF_len]; decide))

namespace W
open PySem PySem.Spec PyProof.Rows L2 Cm
section
variable {w : World} {K : PySem.W.Frag} {mg : Str → Option Value}
theorem Ok_dn {S : DS} (o : S.Ok) : Dn 8 (.list S.blocks) := ⟨by rw [o.len]; decide, fun d hd => ((o.bl d hd).up (m := 7) (by decide)).dn⟩
theorem DtA.last {H : Hp} {y : V} : ∀ {xs : List V} {ds : List PyData}, DtA H (xs ++ [y]) ds → ∃ d, ds.getLast? = some d ∧ Dt H y d := fun {xs ds} h => by
  have hl := h.length
  rw [List.length_append, List.length_singleton] at hl
  obtain ⟨d, h1, h2⟩ := h.get (i := xs.length) (x := y) (by rw [List.getElem?_append_right (Nat.le_refl _)]; simp)
  refine ⟨d, ?_, h2⟩
  rw [List.getLast?_eq_getElem?, ← hl]; exact h1
theorem pure_is_ (T : Tx w K mg) (vs : List V) (H : Hp) (Q : VK) (E : XK) (h : S_is_ K vs H Q E) : t_is_ K E { nx := fun _ H' => Q .non H', rt := Q } (start N_is_ vs) H := by
  obtain ⟨_, _, _, rfl, b, l, p, q, S, R, rfl, rfl, rfl, B, ⟨F, G, DA, OA, fg, hr⟩, rb, rl, hpe, hT, k⟩ := h
  have nbl := B.ne
  have c := T.c_Disk
  have nF : ∀ a, F a → ¬ Bx b l a := fun a ha z => z.elim (fun e => rb ((hr b).mpr (.inl (e ▸ ha)))) (fun e => rl ((hr l).mpr (.inl (e ▸ ha))))
  have nG : ∀ a, G a → ¬ Bx b l a := fun a ha z => z.elim (fun e => rb ((hr b).mpr (.inr (e ▸ ha)))) (fun e => rl ((hr l).mpr (.inr (e ▸ ha))))
  have ok := DA.ok
  unfold t_is_
  walk_at "run"
  refine forR (fun i σ' H' => ∃ v3 v4, σ' = [some (.ref b), some (.ref p), some (.ref q), v3, v4, none, none, none, none, none, none, none, none] ∧ Kp (tabs K) No H H') ⟨none, none, rfl, Kp.refl⟩ ?_ ?_
  · rintro i σ' H1 hi ⟨v3, v4, rfl, kp1⟩
    have D1 := DA.keep kp1 (fun _ _ z => z)
    obtain ⟨dx, b1, n1, kk1, bs1, ns1, h1, _⟩ := id D1
    walk_at "run"
    refine ⟨_, rfl, p, S, F, rfl, D1, fun l2 bs H2 nw2 hl2 d2 kp2 => ?_⟩
    have O2 := (OA.keep kp1 (fun _ _ z => z)).keep kp2 (fun _ _ z => z)
    obtain ⟨b', n', kk', bs', ns', h1', h2', d2', _⟩ := id O2
    walk_at "run"
    refine ⟨_, _, rfl, .list S.blocks, ⟨l2, bs, rfl, hl2, d2⟩, ⟨b', bs', rfl, h2', d2'⟩, Ok_dn ok, fun H3 kp3 => ?_⟩
    have hl3 := kp3.lst hl2 (fun z => z)
    walk_at "run"
    have kk : Kp (tabs K) No H H3 := (kp1.trans kp2 fun _ z => z.elim).trans kp3 fun _ z => z.elim
    exact ⟨_, _, rfl, kk.setL' hl3 (.inr (kp1.dom _ nw2))⟩
  · rintro σ' H1 ⟨v3, v4, rfl, kp1⟩
    have B1 := B.keep kp1 (fun z => z) (fun z => z)
    walk_at "run"
    refine ⟨_, _, rfl, b, l, _, rfl, rfl, B1, by decide, by decide, fun far H2 f0 f1 B2 kp2 => ?_⟩
    walk_at "run"
    refine ⟨_, _, rfl, b, l, _, rfl, rfl, B2, by decide, by decide, fun c1 H3 c10 c11 B3 kp3 => ?_⟩
    walk_at "run"
    refine ⟨_, _, rfl, b, l, _, rfl, rfl, B3, by decide, by decide, fun c2 H4 c20 c21 B4 kp4 => ?_⟩
    walk_at "run"
    refine ⟨_, _, rfl, b, l, _, rfl, rfl, B4, by decide, by decide, fun c3 H5 c30 c31 B5 kp5 => ?_⟩
    walk_at "run"
    refine ⟨_, _, rfl, b, l, _, rfl, rfl, B5, by decide, by decide, fun c4 H6 c40 c41 B6 kp6 => ?_⟩
    walk_at "run"
    rename_i s1 hs1
    have n1b : s1 ≠ b := by obtain ⟨_, _, z, _⟩ := id B6; walk_at "ne"
    have n1l : s1 ≠ l := by obtain ⟨_, _, _, z, _⟩ := id B6; walk_at "ne"
    have k6 : Kp (tabs K) No H6 (upd H6 s1 (.lst [.int c1, .int c2, .int c3, .int (35 + far), .int (-1 - far), .int (-1 - c4)])) := Kp.new hs1
    refine ⟨_, _, rfl, b, l, _, rfl, rfl, B6.keep k6 (fun z => z) (fun z => z), by decide, by decide, fun c5 H7 c50 c51 B7 kp7 => ?_⟩
    obtain ⟨i, hi⟩ : ∃ i : Int, atI [V.int c1, V.int c2, V.int c3, V.int (35 + far), V.int (-1 - far), V.int (-1 - c4)] c5 = some (.int i) := by
      have hu : c5 = 0 ∨ c5 = 1 ∨ c5 = 2 ∨ c5 = 3 ∨ c5 = 4 ∨ c5 = 5 := by omega
      rcases hu with rfl | rfl | rfl | rfl | rfl | rfl
      · exact ⟨_, at0⟩
      · exact ⟨_, at1⟩
      · exact ⟨_, at2⟩
      · exact ⟨_, at3⟩
      · exact ⟨_, at4⟩
      · exact ⟨_, at5⟩
    have hs7 := kp7.lst (upd_same (H := H6) (a := s1)) (fun z => z.elim n1b n1l)
    have K7 : Kp (tabs K) (Bx b l) H H7 := by walk_at "kp"
    clear k6 kp1 kp2 kp3 kp4 kp5 kp6 kp7 hs1 B1 B2 B3 B4 B5 B6
    have D7 := DA.keep K7 nF
    have O7 := OA.keep K7 nG
    have fin : ∀ (due : V) (dd : PyData) (σ' : L2.St) (H8 : Hp), σ'[1]? = some (some (.ref p)) → σ'[7]? = some (some (.int i)) → σ'[8]? = some (some due) → Dt H8 due dd → Di 6 dd → Kp (tabs K) No H7 H8 →
        ((¬ (0 ≤ i ∧ i < 35) ∧ dd = .str "BadBlock") ∨ ((0 ≤ i ∧ i < 35) ∧ S.fallen = true ∧ dd = .str "Stopped") ∨ ((0 ≤ i ∧ i < 35) ∧ S.fallen = false ∧ dd = S.rd i)) →
        tRet (tCall (S_alike_ K 9) [] E (tCons (LamX.tLam (tabs K) (TT_told_ K) fun E => tMeth (He.ga K "Disk") "read" (S_Disk_read K) [] E (tVar 1) (tCons (tVar 7) tNil)) (tCons (tVar 8) tNil))) { nx := fun x H' => Q V.non H', rt := Q } σ' H8 := by
      intro due dd σ' H8 s1 s7 s8 hdue hdd k8 hc
      walk_at "run"
      refine ⟨k8.tab (K7.tab hT), fun H9 ext t9 => ?_⟩
      have k9 : Kp (tabs K) No H8 H9 := kp_lam ext t9
      have D9 := (D7.keep k8 (fun _ _ z => z)).keep k9 (fun _ _ z => z)
      obtain ⟨dx, b1, n1, kk1, bs1, ns1, h1, _⟩ := id D9
      unfold TT_told_
      walk_at "run"
      refine e_var s1 ?_
      walk_at "run"
      refine e_var s7 ?_
      walk_at "run"
      have hdue9 := Dt.keep k9 hdd hdue
      have ending : ∀ (x : V) (H10 : Hp), Dt H10 x dd → Kp (tabs K) No H9 H10 → S_alike_ K 9 [x, due] H10 Q E := by
        intro x H10 hx k10
        refine ⟨_, _, rfl, dd, hx, Dt.keep k10 hdd hdue9, (hdd.up (m := 8) (by decide)).dn, fun H11 k11 => ?_⟩
        exact k H11 ((((B7.keep k8 (fun z => z) (fun z => z)).keep k9 (fun z => z) (fun z => z)).keep k10 (fun z => z) (fun z => z)).keep k11 (fun z => z) (fun z => z)) ((((K7.trans k8 fun _ z => z.elim).trans k9 fun _ z => z.elim).trans k10 fun _ z => z.elim).trans k11 fun _ z => z.elim)
      refine ⟨_, _, rfl, p, S, F, i, rfl, rfl, D9, by omega, fun hbad => ?_, fun hok hf => ?_, fun hok hf v H10 hv k10 => ?_⟩
      · refine ⟨"BadBlock", by decide, rfl, rfl, fun H10 k10 => ?_⟩
        rcases hc with ⟨_, rfl⟩ | ⟨h, _⟩ | ⟨h, _⟩
        · refine e_cons (e_var s8 ?_)
          exact ending _ H10 rfl k10
        · exact absurd h hbad
        · exact absurd h hbad
      · refine ⟨"Stopped", by decide, rfl, rfl, fun H10 k10 => ?_⟩
        rcases hc with ⟨h, _⟩ | ⟨_, _, rfl⟩ | ⟨_, h, _⟩
        · exact absurd hok h
        · refine e_cons (e_var s8 ?_)
          exact ending _ H10 rfl k10
        · rw [hf] at h; cases h
      · rcases hc with ⟨h, _⟩ | ⟨_, h, _⟩ | ⟨_, _, rfl⟩
        · exact absurd hok h
        · rw [hf] at h; cases h
        · refine e_cons (e_var s8 ?_)
          exact ending _ H10 hv k10
    walk_at "run"
    refine if_d (fun h0 => ?_) (fun h0 => ?_)
    · walk_at "run"
      refine if_d (fun h35 => ?_) (fun h35 => ?_)
      · obtain ⟨b', n', kk', bs', ns', h1', h2', d2', h3', d3', h4', ⟨ne1', ne2', ne3'⟩, o', f'⟩ := id O7
        walk_at "run"
        refine lcL ?_
        walk_at "run"
        intro Dl hD
        have nDn : n' ≠ Dl := by walk_at "ne"
        have kD : Kp (tabs K) No H7 (upd H7 Dl (.lst [])) := Kp.new hD
        have hdi : ∀ j, ∀ d ∈ ((S.pending.take j).filter fun q => decide (q.1 = i)).map (·.2), Di 6 d := fun j d hd => by
          obtain ⟨q, hq, rfl⟩ := List.mem_map.mp hd
          exact (o'.pe q (List.mem_of_mem_take (List.mem_filter.mp hq).1)).2.2
        refine coreL (xs := ns') (fun j acc H' => Kp (tabs K) No H7 H' ∧ DtA H' acc (((S.pending.take j).filter fun q => decide (q.1 = i)).map (·.2))) ⟨kD, rfl⟩ (fun j acc H' z => z.1.lst h3' (fun z => z)) ?_ ?_
        · rintro j x acc H' hx hj hl ⟨kj, dj⟩ e
          obtain ⟨qq, t2, v, hqq, rfl, ht2, hv⟩ := pr_get d3' hx
          have ht3 := kj.tup ht2
          have hok := o'.pe qq (List.mem_of_getElem? hqq)
          have hjl : j ≤ 100000 := by
            have := d3'.length
            rw [List.length_map] at this
            omega
          have et : S.pending.take (j + 1) = S.pending.take j ++ [qq] := by rw [List.take_add_one, hqq]; rfl
          unfold CStep
          walk_at "run"
          refine if_d (fun hq => ?_) (fun hq => ?_)
          · have hq : qq.1 = i := V.int.inj hq
            walk_at "run"
            have k6 : Kp (tabs K) (fun a => a = Dl) H' (upd H' Dl (.lst (acc ++ [v]))) := Kp.setL e rfl
            refine c_put e hl hjl ⟨kj.setL' e (.inr (.inl hD)), ?_⟩
            rw [et, List.filter_append, List.map_append, List.filter_cons_of_pos (by rw [hq]; simp)]
            exact (dj.keep k6 (hdi j)).snoc (Dt.keep k6 hok.2.2 (Dt.keep kj hok.2.2 hv))
          · refine c_skip e hl ⟨kj, ?_⟩
            rw [et, List.filter_append, List.map_append, List.filter_cons_of_neg (by simpa using fun z => hq (by rw [z])), List.filter_nil, List.map_nil, List.append_nil]
            exact dj
        · rintro acc H8 hl ⟨k8, d8⟩ e8
          rw [d3'.length, List.length_map, List.take_length] at d8
          have hdi' := hdi S.pending.length
          rw [List.take_length] at hdi'
          have h2b := k8.lst h2' (fun z => z)
          have hq8 := k8.dK h1' (fun z => z)
          walk_at "run"
          rename_i z hz
          have k9 : Kp (tabs K) No H7 (upd H8 z (.lst [])) := k8.new' hz
          have kz : Kp (tabs K) No H8 (upd H8 z (.lst [])) := Kp.new hz
          refine if_b (fun hE => ?_) (fun hE => ?_)
          · have hacc : acc = [] := List.isEmpty_iff.mp hE
            subst hacc
            have hfl : ((S.pending.filter fun q => decide (q.1 = i)).map (·.2)) = [] := List.eq_nil_of_length_eq_zero d8.length.symm
            obtain ⟨d, hd⟩ : ∃ d, S.blocks[i.toNat]? = some d := ⟨_, List.getElem?_eq_getElem (by rw [o'.len]; omega)⟩
            obtain ⟨v, hv1, hv2⟩ := d2'.at hd
            have hat : atI bs' i = some v := at_nat h0 hv1
            have erd : S.rd i = d := by unfold DS.rd; rw [hfl, hd]; rfl
            have hd6 := o'.bl d (List.mem_of_getElem? hd)
            walk_at "run"
            refine if_b (fun hf => ?_) (fun hf => ?_)
            · walk_at "run"
              exact fin (.str "Stopped") (.str "Stopped") _ _ rfl rfl rfl rfl Di.str k9 (.inr (.inl ⟨⟨h0, h35⟩, hf, rfl⟩))
            · walk_at "run"
              exact fin v (S.rd i) _ _ rfl rfl rfl (by rw [erd]; exact Dt.keep k9 hd6 hv2) (by rw [erd]; exact hd6) k9 (.inr (.inr ⟨⟨h0, h35⟩, hf, rfl⟩))
          · obtain ⟨ys, y, rfl⟩ : ∃ ys y, acc = ys ++ [y] := by
              rcases List.eq_nil_or_concat acc with h | ⟨ys, y, h⟩
              · rw [h] at hE; cases hE
              · exact ⟨ys, y, by rw [h, List.concat_eq_append]⟩
            obtain ⟨d, hd1, hd2⟩ := DtA.last d8
            have hat : atI (ys ++ [y]) (-1) = some y := atI_last ys y
            have erd : S.rd i = d := by unfold DS.rd; rw [hd1]; rfl
            have hd6 := hdi' d (List.mem_of_getLast? hd1)
            walk_at "run"
            refine if_b (fun hf => ?_) (fun hf => ?_)
            · walk_at "run"
              exact fin (.str "Stopped") (.str "Stopped") _ _ rfl rfl rfl rfl Di.str k9 (.inr (.inl ⟨⟨h0, h35⟩, hf, rfl⟩))
            · walk_at "run"
              exact fin y (S.rd i) _ _ rfl rfl rfl (by rw [erd]; exact Dt.keep kz hd6 hd2) (by rw [erd]; exact hd6) k9 (.inr (.inr ⟨⟨h0, h35⟩, hf, rfl⟩))
      · walk_at "run"
        exact fin (.str "BadBlock") (.str "BadBlock") _ H7 rfl rfl rfl rfl Di.str Kp.refl (.inl ⟨fun z => h35 z.2, rfl⟩)
    · walk_at "run"
      exact fin (.str "BadBlock") (.str "BadBlock") _ H7 rfl rfl rfl rfl Di.str Kp.refl (.inl ⟨fun z => h0 z.1, rfl⟩)
end
end W

end
section
/-! ### M0: words for walking through a reading (local) -/
local macro_rules | `(tactic| walk_at "st") => `(tactic| first
  | (with_reducible refine Cm.s_seq ?_) | (with_reducible refine Cm.s_asg ?_) | (with_reducible refine Cm.s_drop ?_) | (with_reducible refine Cm.s_ret ?_) | (with_reducible refine Cm.s_if ?_) | (with_reducible refine Cm.s_next ?_) | (with_reducible refine Cm.s_retN ?_) | (with_reducible refine Cm.s_rs ?_) | (with_reducible refine Cm.s_fld0 ?_)
  | ((with_reducible refine' Cm.e_var ?hv ?_); (case hv => exact rfl))
  | (with_reducible refine Cm.e_c ?_) | (with_reducible refine Cm.e_op ?_) | (with_reducible refine Cm.e_un ?_) | (with_reducible refine Cm.e_nil ?_) | (with_reducible refine Cm.e_cons ?_) | (with_reducible refine Cm.e_tup ?_) | (with_reducible refine Cm.e_lst ?_) | (with_reducible refine Cm.e_cb ?_) | (with_reducible refine Cm.e_call ?_) | (with_reducible refine Cm.e_if ?_)
  | (with_reducible refine Cm.e_andV ?_) | (with_reducible refine Cm.e_orV ?_) | (with_reducible refine Cm.e_notV ?_) | (with_reducible refine Cm.e_fld0 ?_) | (with_reducible refine Cm.e_meth0 ?_) | (with_reducible refine Cm.e_bm0 ?_) | (with_reducible refine Cm.e_bm ?_) | (with_reducible refine Cm.e_sl ?_) | (with_reducible refine Cm.o_none ?_) | (with_reducible refine Cm.o_some ?_) | (with_reducible refine Cm.e_dnew ?_)
  | (with_reducible refine Cm.e_test ?_) | (with_reducible refine Cm.e_tr ?_) | (with_reducible refine Cm.e_and ?_) | (with_reducible refine Cm.e_or ?_) | (with_reducible refine Cm.e_not ?_) | (with_reducible refine Cm.e_yes ?_) | (with_reducible refine Cm.e_chain ?_)
  | (with_reducible refine Cm.r_i0 ?_) | (with_reducible refine Cm.r_u ?_) | (with_reducible refine Cm.r_isNo ?_) | (with_reducible refine Cm.r_notNo ?_) | (with_reducible refine Cm.r_addI ?_) | (with_reducible refine Cm.r_int1b ?_) | (with_reducible refine Cm.r_max2 ?_)
  | ((with_reducible refine Cm.r_i ?hc ?_); (case hc => walk_at "num"))
  | ((with_reducible refine Cm.r_mulI ?hc ?_); (case hc => walk_at "num"))
  | ((with_reducible refine Cm.r_eqS ?hc ?_); (case hc => exact rfl))
  | ((with_reducible refine Cm.r_neS ?hc ?_); (case hc => exact rfl))
  | ((with_reducible refine' Cm.r_ixl ?h1 ?h2 ?_); (case h1 => walk_at "look"); (case h2 => walk_at "at"))
  | ((with_reducible refine' Cm.r_ixt ?h1 ?h2 ?_); (case h1 => walk_at "look"); (case h2 => walk_at "at"))
  | ((with_reducible refine' Cm.r_ixT ?h1 ?h2 ?_); (case h1 => walk_at "lookT"); (case h2 => walk_at "at"))
  | ((with_reducible refine' Cm.r_ixds ?h1 ?h2 ?_); (case h1 => walk_at "look"); (case h2 => walk_at "key"))
  | ((with_reducible refine' Cm.r_eqe ?h1 ?h2 ?_); (case h1 => walk_at "look"); (case h2 => walk_at "look"))
  | ((with_reducible refine' Cm.r_nee ?h1 ?h2 ?_); (case h1 => walk_at "look"); (case h2 => walk_at "look"))
  | ((with_reducible refine' Cm.r_lenl ?h1 ?_); (case h1 => walk_at "look"))
  | ((with_reducible refine' Cm.r_lent ?h1 ?_); (case h1 => walk_at "look"))
  | ((with_reducible refine' Cm.r_lenT ?h1 ?_); (case h1 => walk_at "lookT"))
  | ((with_reducible refine' Cm.r_listl ?h1 ?_); (case h1 => walk_at "look"); (intro _ _))
  | ((with_reducible refine' Cm.r_tupl ?h1 ?_); (case h1 => walk_at "look"); (intro _ _))
  | ((with_reducible refine' Cm.r_addL ?h1 ?h2 ?h3 ?_); (case h1 => walk_at "look"); (case h2 => walk_at "look"); (case h3 => walk_at "size"); (intro _ _))
  | ((with_reducible refine' Cm.m_append ?h1 ?h2 ?_); (case h1 => walk_at "look"); (case h2 => walk_at "size"))
  | ((with_reducible refine' Cm.m_clear ?h1 ?_); (case h1 => walk_at "look"))
  | ((with_reducible refine' Cm.g_setL ?h1 ?h2 ?_); (case h1 => walk_at "look"); (case h2 => walk_at "ix"))
  | ((with_reducible refine' Cm.g_setDs ?h1 ?h2 ?h3 ?_); (case h1 => walk_at "look"); (case h2 => walk_at "size"); (case h3 => walk_at "put"))
  | ((with_reducible refine' Cm.fld_at ?h1 ?h2 ?h3 ?h4 ?_); (case h1 => walk_at "look"); (case h2 => assumption); (case h3 => assumption); (case h4 => walk_at "key"))
  | ((with_reducible refine' Cm.fldset_at ?h1 ?h2 ?h3 ?h4 ?h5 ?_); (case h1 => walk_at "look"); (case h2 => assumption); (case h3 => assumption); (case h4 => walk_at "size"); (case h5 => walk_at "put"))
  | (with_reducible refine Cm.s_fldaug0 ?_)
  | ((with_reducible refine' Cm.aug_at ?h1 ?h2 ?h3 ?h4 ?_); (case h1 => walk_at "look"); (case h2 => assumption); (case h3 => assumption); (case h4 => walk_at "key"))
  | ((with_reducible refine' Cm.augset_at ?h1 ?h4 ?h5 ?_); (case h1 => walk_at "look"); (case h4 => walk_at "size"); (case h5 => walk_at "put"))
  | (with_reducible refine Cm.in_sub_at ?_) | (with_reducible refine Cm.in_add_at ?_)
  | ((with_reducible refine' Cm.meth_at ?h1 ?h2 ?_); (case h1 => walk_at "look"); (case h2 => walk_at "key"))
  | ((with_reducible refine Cm.new_at ?h1 ?_); (case h1 => walk_at "size"); (intro _ _))
  | ((with_reducible refine Cm.and_at (A := L2.tyV _ _ _ _) ?h1 ?_); (case h1 => exact Cm.ty_lst (by walk_at "look")))
  | ((with_reducible refine' Cm.g_tupt ?h1 ?h2 ?_); (case h1 => walk_at "look"); (case h2 => exact rfl))
  | ((with_reducible refine' Cm.g_tup ?h1 ?h2 ?_); (case h1 => walk_at "lookT"); (case h2 => exact rfl))
  | (with_reducible refine Cm.g_name ?_) | (with_reducible refine Cm.g_sub ?_) | (with_reducible refine Cm.g_cons ?_) | (with_reducible refine Cm.g_nil ?_)
  | (with_reducible refine Cm.int_at ?_) | (with_reducible refine Cm.bl_at ?_) | (with_reducible refine Cm.tr_bl ?_) | (with_reducible refine Cm.tr_non ?_)
  | ((with_reducible refine' Cm.m_pop0 ?h1 ?_); (case h1 => walk_at "look"))
  | ((with_reducible refine' Cm.r_slTo ?h1 ?h2 ?_); (case h1 => walk_at "look"); (case h2 => walk_at "num2"); (intro _ _))
  | ((with_reducible refine' Cm.r_slFrom ?h1 ?h2 ?_); (case h1 => walk_at "look"); (case h2 => walk_at "num2"); (intro _ _))
  | ((with_reducible refine' Cm.at_forL ?h1 ?_); (case h1 => walk_at "look"))
  | ((with_reducible refine' Cm.at_forT ?h1 ?_); (case h1 => walk_at "look"))
  | ((with_reducible refine' Cm.at_forR ?h1 ?h2 ?_); (case h1 => walk_at "num2"); (case h2 => walk_at "num2"))
  | ((with_reducible refine' Cm.at_forZ ?h1 ?h2 ?_); (case h1 => walk_at "look"); (case h2 => walk_at "look"))
  | (with_reducible refine Cm.s_forZ ?_) | (with_reducible refine Cm.s_forR ?_)
  | ((with_reducible refine Cm.and_at (A := _ = _) ?h1 ?_); (case h1 => exact rfl))
  | ((with_reducible show L2.rIsi _ _ _ _); walk_at "isi")
  | (with_reducible refine Cm.ite_nt ?_) | (with_reducible refine Cm.ite_nf ?_)
  | (with_reducible refine L2.iteT ?_) | (with_reducible refine L2.iteF ?_)
  | dsimp only
  | fail)
local macro_rules | `(tactic| walk_at "run") => `(tactic| repeat (walk_at "st"))
local macro_rules | `(tactic| walk_at "num") => `(tactic| first
  | exact Or.inr ⟨by decide, by decide⟩ | exact Or.inl ⟨by decide, by decide⟩
  | exact Cm.wdiv (by first | decide | omega) (by first | decide | omega)
  | (show (0 : Int) < _; first | decide | omega)
  | exact ⟨by decide, by decide, by decide⟩
  | fail)
local macro_rules | `(tactic| walk_at "put") => `(tactic| exact rfl)
local macro_rules | `(tactic| walk_at "fl") => `(tactic| first | exact Cm.fl0 | (refine' Cm.flS ?hz; (case hz => walk_at "fl")) | fail)
local macro_rules | `(tactic| walk_at "size") => `(tactic| first | exact Cm.sz_lit rfl | exact Cm.sz_lt rfl | exact Cm.fs_lt rfl | decide | (refine' Nat.lt_of_le_of_lt ?ha ?hb; (case ha => walk_at "fl"); (case hb => decide)) | (simp only [List.length_cons, List.length_nil, List.length_append, List.length_map, List.length_set, List.length_replicate, PySem.sizeLine_eq]; omega) | (simp only [List.length_cons, List.length_nil, List.length_append, List.length_map, List.length_set, List.length_replicate, PySem.sizeLine_eq] at *; omega) | fail)
local macro_rules | `(tactic| walk_at "at") => `(tactic| first | assumption | (with_reducible exact Cm.at0) | (with_reducible exact Cm.at1) | (with_reducible exact Cm.at2) | (with_reducible exact Cm.at3) | (with_reducible exact Cm.at4) | (with_reducible exact Cm.at5) | (with_reducible exact Cm.at6) | (with_reducible exact Cm.at7) | (with_reducible exact Cm.at8) | (with_reducible exact Cm.at0s) | (with_reducible exact Cm.at1s) | (with_reducible exact Cm.at01s) | (with_reducible exact Cm.at10s) | fail)
local macro_rules | `(tactic| walk_at "ix") => `(tactic| first | exact Cm.ix0 (by walk_at "size") | exact Cm.ix1 (by walk_at "size") | assumption | fail)
local macro_rules | `(tactic| walk_at "key") => `(tactic| first | assumption | fail)
local macro_rules | `(tactic| walk_at "ne") => `(tactic| first
  | assumption
  | (refine Ne.symm ?_; assumption)
  | (refine' L2.ne_of_none ?h1 ?h2; (case h2 => assumption); (case h1 => walk_at "look"))
  | (refine' Ne.symm (L2.ne_of_none ?h1 ?h2); (case h2 => assumption); (case h1 => walk_at "look"))
  | fail)
local macro_rules | `(tactic| walk_at "lookT") => `(tactic| first
  | assumption
  | exact L2.SqT.of (by walk_at "look")
  | fail)
local macro_rules | `(tactic| walk_at "look") => `(tactic| first
  | assumption
  | exact L2.upd_same
  | ((fail_if_success (with_reducible refine Eq.trans L2.upd_same ?_)); (refine' Eq.trans (L2.upd_ne ?h1) ?h2); (case h1 => walk_at "ne"); (case h2 => walk_at "look"))
  | (refine' Cm.kp_look ?h1 ?h2 ?h3 ?h4; (case h1 => assumption); (case h2 => walk_at "look"); (case h3 => intro _ z; cases z); (case h4 => first | exact Or.inl rfl | exact Or.inr (by walk_at "out")))
  | fail)
local macro_rules | `(tactic| walk_at "out") => `(tactic| first
  | assumption
  | exact fun z => z
  | exact fun z => z.elim (fun e => absurd e (by walk_at "ne")) (fun e => absurd e (by walk_at "ne"))
  | exact fun e => absurd e (by walk_at "ne")
  | fail)
local macro_rules | `(tactic| walk_at "dom") => `(tactic| first
  | exact Cm.dm_refl
  | (refine Cm.dm_upd ?_; walk_at "dom")
  | (refine' Cm.dm_kp ?h1 ?h2; (case h2 => assumption); (case h1 => walk_at "dom"))
  | fail)
local macro_rules | `(tactic| walk_at "free") => `(tactic| first
  | assumption
  | exact Cm.nw_of (by assumption)
  | (refine' Cm.dm_use ?h1 ?h2; (case h2 => assumption); (case h1 => walk_at "dom"))
  | (refine' Cm.dm_use2 ?h1 ?h2; (case h2 => assumption); (case h1 => walk_at "dom"))
  | fail)
local macro_rules | `(tactic| walk_at "in") => `(tactic| first
  | exact Or.inl rfl | exact Or.inl (Or.inl rfl) | exact Or.inl (Or.inr rfl) | exact Or.inl (Or.inr (Or.inl rfl)) | exact Or.inl (Or.inr (Or.inr rfl))
  | exact Or.inl (by assumption)
  | exact Or.inr (by walk_at "free")
  | fail)
local macro_rules | `(tactic| walk_at "kp") => `(tactic| first
  | assumption
  | exact Cm.Kp.refl
  | (refine' Cm.Kp.new' ?h1 ?h2; (case h2 => assumption); (case h1 => walk_at "kp"))
  | (refine' Cm.Kp.setL' ?h1 ?h2 ?h3; (case h2 => walk_at "look"); (case h3 => walk_at "in"); (case h1 => walk_at "kp"))
  | (refine' Cm.Kp.setI' ?h1 ?h2 ?h3; (case h2 => walk_at "look"); (case h3 => walk_at "in"); (case h1 => walk_at "kp"))
  | (refine' Cm.Kp.setD' ?h1 ?h2 ?h3; (case h2 => walk_at "look"); (case h3 => walk_at "in"); (case h1 => walk_at "kp"))
  | (refine' Cm.kp_step ?h1 ?h2 ?h3; (case h2 => assumption); (case h3 => walk_at "sub"); (case h1 => walk_at "kp"))
  | fail)
local macro_rules | `(tactic| walk_at "sub") => `(tactic| first
  | exact fun _ z => z.elim
  | exact fun _ z => Or.inl z
  | (intro a z; rcases z with rfl | rfl <;> walk_at "in")
  | (intro a z; subst z; walk_at "in")
  | fail)
local macro_rules | `(tactic| walk_at "num2") => `(tactic| first | decide | omega | fail)

local macro_rules | `(tactic| walk_at "isi") => `(tactic| first | (with_reducible refine Cm.isi_non_bool ?_) | (with_reducible refine Cm.isi_non_int ?_) | (with_reducible refine Cm.isi_non_str ?_) | (with_reducible refine Cm.isi_non_tuple ?_) | (with_reducible refine Cm.isi_non_list ?_) | (with_reducible refine Cm.isi_bl_bool ?_) | (with_reducible refine Cm.isi_bl_int ?_) | (with_reducible refine Cm.isi_bl_str ?_) | (with_reducible refine Cm.isi_bl_tuple ?_) | (with_reducible refine Cm.isi_bl_list ?_) | (with_reducible refine Cm.isi_int_bool ?_) | (with_reducible refine Cm.isi_int_int ?_) | (with_reducible refine Cm.isi_int_str ?_) | (with_reducible refine Cm.isi_int_tuple ?_) | (with_reducible refine Cm.isi_int_list ?_) | (with_reducible refine Cm.isi_str_bool ?_) | (with_reducible refine Cm.isi_str_int ?_) | (with_reducible refine Cm.isi_str_str ?_) | (with_reducible refine Cm.isi_str_tuple ?_) | (with_reducible refine Cm.isi_str_list ?_) | ((with_reducible refine' Cm.isi_tup_bool ?h1 ?_); (case h1 => walk_at "look")) | ((with_reducible refine' Cm.isi_tup_int ?h1 ?_); (case h1 => walk_at "look")) | ((with_reducible refine' Cm.isi_tup_str ?h1 ?_); (case h1 => walk_at "look")) | ((with_reducible refine' Cm.isi_tup_tuple ?h1 ?_); (case h1 => walk_at "look")) | ((with_reducible refine' Cm.isi_tup_list ?h1 ?_); (case h1 => walk_at "look")) | ((with_reducible refine' Cm.isi_lst_bool ?h1 ?_); (case h1 => walk_at "look")) | ((with_reducible refine' Cm.isi_lst_int ?h1 ?_); (case h1 => walk_at "look")) | ((with_reducible refine' Cm.isi_lst_str ?h1 ?_); (case h1 => walk_at "look")) | ((with_reducible refine' Cm.isi_lst_tuple ?h1 ?_); (case h1 => walk_at "look")) | ((with_reducible refine' Cm.isi_lst_list ?h1 ?_); (case h1 => walk_at "look")) | fail)

local macro_rules | `(tactic| walk_at "key") => `(tactic| first | exact W.dF_g_blocks | exact W.dF_g_pending | exact W.dF_g_left | exact W.dF_g_picks | exact W.dF_g_fallen | exact W.dF_n_need_block | exact W.dF_n_count | exact W.dF_n_write | exact W.dF_n_settle | exact W.dF_n_read | exact W.dF_n_arm | exact W.dF_n_stop | exact W.dF_n_again | exact W.dF_n_settled)
local macro_rules | `(tactic| walk_at "put") => `(tactic| first | exact W.dF_p_blocks | exact W.dF_p_pending | exact W.dF_p_left | exact W.dF_p_picks | exact W.dF_p_fallen)
local macro_rules | `(tactic| walk_at "size") => `(tactic| (rw [W.dF_len]; decide))

local macro_rules | `(tactic| walk_at "key") => `(tactic| first | exact W.oF_g_settled | exact W.oF_g_pending | exact W.oF_g_left | exact W.oF_g_picks | exact W.oF_g_fallen)
local macro_rules | `(tactic| walk_at "put") => `(tactic| first | exact W.oF_p_settled | exact W.oF_p_pending | exact W.oF_p_left | exact W.oF_p_picks | exact W.oF_p_fallen)
local macro_rules | `(tactic| walk_at "size") => `(tactic| (rw [W.oF_len]; decide))

namespace W
open PySem PySem.Spec PyProof.Rows L2 Cm
/-- two sides: this one first, the other one beside; sd is a thing apart -/
structure Tw (K : PySem.W.Frag) (H : Hp) (b l sd p q : Addr) (S : DS) (R : Addr → Prop) (p' q' : Addr) (S' : DS) (R' : Addr → Prop) (n : Nat) : Prop where
  box : BoxAt H b l
  s1 : Side K H p q S R
  s2 : Side K H p' q' S' R'
  rb : ¬ R b
  rl : ¬ R l
  rb' : ¬ R' b
  rl' : ¬ R' l
  dis : ∀ a, R a → ¬ R' a
  nr : ¬ R sd
  nr' : ¬ R' sd
  nb : sd ≠ b
  nl : sd ≠ l
  dsd : ¬ Nw H sd
  l1 : S.pending.length ≤ n
  l2 : S'.pending.length ≤ n
  k1 : S.picks.length ≤ 8
  k2 : S'.picks.length ≤ 8
  tab : LamX.Tabs (tabs K) H
section
variable {w : World} {K : PySem.W.Frag} {mg : Str → Option Value} {H H' : Hp} {b l sd p q p' q' : Addr} {S S' S1 : DS} {R R' R1 : Addr → Prop} {n : Nat}
theorem Tw.swap (t : Tw K H b l sd p q S R p' q' S' R' n) : Tw K H b l sd p' q' S' R' p q S R n := ⟨t.box, t.s2, t.s1, t.rb', t.rl', t.rb, t.rl, fun a h1 h2 => t.dis a h2 h1, t.nr', t.nr, t.nb, t.nl, t.dsd, t.l2, t.l1, t.k2, t.k1, t.tab⟩
theorem box_dom (h : BoxAt H b l) {a : Addr} (ha : Bx b l a) : ¬ Nw H a := by
  obtain ⟨ns, z, h1, h2, _⟩ := h
  rcases ha with rfl | rfl
  · exact fun z => nw_no z h1 (fun _ z => nomatch z)
  · exact fun z => nw_no z h2 (fun _ z => nomatch z)
theorem Tw.deed (t : Tw K H b l sd p q S R p' q' S' R' n) (h1 : S1.pending.length ≤ S.pending.length + 1) (h2 : S1.picks.length ≤ S.picks.length ∨ S1.picks.length ≤ 8) (hb : BoxAt H' b l) (hs : Side K H' p q S1 R1) (kp : Kp (tabs K) (fun a => Bx b l a ∨ R a) H H') (sub : ∀ a, R1 a → R a ∨ Nw H a) :
    Tw K H' b l sd p q S1 R1 p' q' S' R' (n + 1) := by
  have nB : ∀ a, R' a → ¬ (Bx b l a ∨ R a) := fun a ha z => by
    rcases z with (rfl | rfl) | z
    · exact t.rb' ha
    · exact t.rl' ha
    · exact t.dis a z ha
  have ns : ¬ (Bx b l sd ∨ R sd) := fun z => by
    rcases z with (z | z) | z
    · exact t.nb z
    · exact t.nl z
    · exact t.nr z
  refine ⟨hb, hs, t.s2.keep kp nB, fun z => ?_, fun z => ?_, t.rb', t.rl', fun a ha h => ?_, fun z => ?_, t.nr', t.nb, t.nl, fun z => t.dsd (kp.dom _ z), by have := t.l1; omega, Nat.le_succ_of_le t.l2, by have := t.k1; omega, t.k2, kp.tab t.tab⟩
  · exact (sub b z).elim t.rb (box_dom t.box (.inl rfl))
  · exact (sub l z).elim t.rl (box_dom t.box (.inr rfl))
  · exact (sub a ha).elim (fun z => t.dis a z h) (t.s2.dom h)
  · exact (sub sd z).elim t.nr t.dsd
theorem Tw.draw (t : Tw K H b l sd p q S R p' q' S' R' n) (hb : BoxAt H' b l) (kp : Kp (tabs K) (Bx b l) H H') : Tw K H' b l sd p q S R p' q' S' R' n := by
  have nB : ∀ a, R a → ¬ Bx b l a := fun a ha z => by
    rcases z with rfl | rfl
    · exact t.rb ha
    · exact t.rl ha
  have nB' : ∀ a, R' a → ¬ Bx b l a := fun a ha z => by
    rcases z with rfl | rfl
    · exact t.rb' ha
    · exact t.rl' ha
  exact ⟨hb, t.s1.keep kp nB, t.s2.keep kp nB', t.rb, t.rl, t.rb', t.rl', t.dis, t.nr, t.nr', t.nb, t.nl, fun z => t.dsd (kp.dom _ z), t.l1, t.l2, t.k1, t.k2, kp.tab t.tab⟩
theorem mk_disk {E : XK} {σ : L2.St} {Q : VK} (k : ∀ p H' F', DiskAt K H' p ds0 F' → Kp (tabs K) No H H' → (∀ a, F' a → Nw H a) → Q (.ref p) H') : tMake (He.ga K "Disk") (S_Disk_init K) [] E tNil σ H Q := by
  intro x dx hx hdx ne
  have hx1 : (upd H dx (.own x)) x = none := by rw [upd_ne ne.symm]; exact hx
  have k2 : Kp (tabs K) No H (upd (upd H dx (.own x)) x (.ins (He.ga K "Disk") dx [])) := (Kp.new hdx).new' hx1
  refine ⟨_, rfl, x, dx, rfl, upd_same, fun H' F' D st => ⟨rfl, k x H' F' D (k2.trans st.kp fun a z => .inr (.inl (by rw [z]; exact hx))) fun a ha => ?_⟩⟩
  rcases st.sub a ha with h | h
  · exact .inl (by rw [h]; exact hx)
  · exact k2.dom a h
def LoopI (K : PySem.W.Frag) (a b l sd t1 t2 p1 q1 p2 q2 : Addr) : Nat → L2.St → Hp → Prop := fun n σ H => ∃ v3 v4 v5 v6 v7 v8 v9 v10 S1 R1 S2 R2, σ = [some (.ref a), some (.ref b), some (.ref sd), v3, v4, v5, v6, v7, v8, v9, v10] ∧ Tw K H b l sd p1 q1 S1 R1 p2 q2 S2 R2 n ∧
  H sd = some (.lst [.ref t1, .ref t2]) ∧ H t1 = some (.tup [.ref p1, .ref q1]) ∧ H t2 = some (.tup [.ref p2, .ref q2])
theorem law_fin {E : XK} {D : Ends} {a t1 t2 p1 q1 p2 q2 : Addr} {v3 v4 v5 v6 v8 v9 v10 : Option V} {S1 S2 : DS} {R1 R2 : Addr → Prop} (hn : n ≤ 200) (tw : Tw K H b l sd p1 q1 S1 R1 p2 q2 S2 R2 n) (h0 : H sd = some (.lst [.ref t1, .ref t2])) (h1 : H t1 = some (.tup [.ref p1, .ref q1])) (h2 : H t2 = some (.tup [.ref p2, .ref q2]))
    (hD : ∀ σ H, LoopI K a b l sd t1 t2 p1 q1 p2 q2 n σ H → D.nx σ H) :
    tIfS (tOr (tNot (tTr K (tVar 7))) (tOr (tNot (tTr K (tCall (S_is_ K) [] E (tCons (tVar 1) (tCons (tOp (rIxA K) (tOp (rIxA K) (tVar 2) (tC (V.int 0))) (tC (V.int 0))) (tCons (tOp (rIxA K) (tOp (rIxA K) (tVar 2) (tC (V.int 0))) (tC (V.int 1))) tNil))))))
      (tNot (tTr K (tCall (S_is_ K) [] E (tCons (tVar 1) (tCons (tOp (rIxA K) (tOp (rIxA K) (tVar 2) (tC (V.int 1))) (tC (V.int 0))) (tCons (tOp (rIxA K) (tOp (rIxA K) (tVar 2) (tC (V.int 1))) (tC (V.int 1))) tNil)))))))) (tRet (tC (V.bl false))) tNext D
      [some (.ref a), some (.ref b), some (.ref sd), v3, v4, v5, v6, some (.bl true), v8, v9, v10] H := by
  have nB : ¬ Bx b l sd := fun z => z.elim tw.nb tw.nl
  have l1 := tw.l1
  have l2 := tw.l2
  walk_at "run"
  refine ⟨_, _, _, rfl, b, l, p1, q1, S1, R1, rfl, rfl, rfl, tw.box, tw.s1, tw.rb, tw.rl, by omega, tw.tab, fun H3 B3 k3 => ?_⟩
  have tw3 := tw.draw B3 k3
  have h03 := k3.lst h0 nB
  have h13 := k3.tup h1
  have h23 := k3.tup h2
  walk_at "run"
  refine ⟨_, _, _, rfl, b, l, p2, q2, S2, R2, rfl, rfl, rfl, tw3.box, tw3.s2, tw3.rb', tw3.rl', by omega, tw3.tab, fun H4 B4 k4 => ?_⟩
  walk_at "run"
  exact hD _ _ ⟨v3, v4, v5, v6, _, v8, v9, v10, S1, R1, S2, R2, rfl, tw3.draw B4 k4, k4.lst h03 nB, k4.tup h13, k4.tup h23⟩
theorem law_settle (T : Tx w K mg) {E : XK} {NX : L2.St → Hp → Prop} {σ : L2.St} {due : V} {dd : PyData} {S3 : DS} {F G3 : Addr → Prop} (s4 : σ[4]? = some (some (.ref p))) (s8 : σ[8]? = some (some due)) (hT : LamX.Tabs (tabs K) H) (DA : DiskAt K H p S F) (OA : OwnAt H q S3 G3) (fg : ∀ a, F a → ¬ G3 a) (hdd : Di 0 dd) (hdue : Dt H due dd)
    (hc : (S.cnt.1 = true ∧ S3 = S.cnt.2.stl ∧ dd = .none) ∨ (S.cnt.1 = false ∧ S3 = S.cnt.2 ∧ dd = .str "Stopped"))
    (hD : ∀ F3 H13, DiskAt K H13 p S3 F3 → OwnAt H13 q S3 G3 → (∀ a, F3 a → ¬ G3 a) → Kp (tabs K) F H H13 → (∀ a, F3 a → F a ∨ Nw H a) → NX (σ.set 7 (some (.bl true))) H13) :
    LamX.tLam (tabs K) (TT_told_ K) (fun E => tMeth (He.ga K "Disk") "settle" (S_Disk_settle K) [] E (tVar 4) tNil) σ H fun x H1 => tCons (tVar 8) tNil σ H1 fun xs H2 => S_alike_ K 9 ((x :: xs) ++ []) H2 (fun x H1 => gName 7 x σ H1 NX) E := by
  have c := T.c_Disk
  refine ⟨hT, fun H9 ext t9 => ?_⟩
  have k9 : Kp (tabs K) No H H9 := kp_lam ext t9
  have D9 := DA.keep k9 (fun _ _ z => z)
  have O9 := OA.keep k9 (fun _ _ z => z)
  obtain ⟨dx, b1, n1, kk1, bs1, ns1, h1, _⟩ := id D9
  unfold TT_told_
  walk_at "run"
  refine e_var s4 ?_
  walk_at "run"
  have ending : ∀ (x : V) (F3 : Addr → Prop) (H10 : Hp), Dt H10 x dd → DiskAt K H10 p S3 F3 → Stp (tabs K) F F3 H9 H10 → tCons (tVar 8) tNil σ H10 fun xs H2 => S_alike_ K 9 ((x :: xs) ++ []) H2 (fun x H1 => gName 7 x σ H1 NX) E := by
    intro x F3 H10 hx D10 st10
    have O10 := O9.keep st10.kp (fun a h1 h2 => fg a h2 h1)
    refine e_cons (e_var s8 ?_)
    refine ⟨_, _, rfl, dd, hx, Dt.keep st10.kp hdd (Dt.keep k9 hdd hdue), (hdd.up (m := 8) (by decide)).dn, fun H11 k11 => ?_⟩
    refine hD F3 H11 (D10.keep k11 (fun _ _ z => z)) (O10.keep k11 (fun _ _ z => z)) (fun a h1 h2 => ?_) ((((k9.mono fun _ z => z.elim).trans st10.kp fun a ha => .inl ha).trans k11 fun _ z => z.elim)) (fun a ha => ?_)
    · rcases st10.sub a h1 with h | h
      · exact fg a h h2
      · exact O9.dom h2 h
    · rcases st10.sub a ha with h | h
      · exact .inl h
      · exact .inr (k9.dom a h)
  refine ⟨_, rfl, p, S, F, rfl, D9, fun hcn H10 F10 D10 st10 => ?_, fun hcn H10 F10 D10 st10 => ⟨"Stopped", by decide, rfl, rfl, fun H11 k11 => ?_⟩⟩
  · rcases hc with ⟨_, rfl, rfl⟩ | ⟨h, _⟩
    · exact ending _ F10 H10 rfl D10 st10
    · rw [hcn] at h; cases h
  · rcases hc with ⟨h, _⟩ | ⟨_, rfl, rfl⟩
    · rw [hcn] at h; cases h
    · exact ending _ F10 H11 rfl (D10.keep k11 (fun _ _ z => z)) (st10.post k11)
theorem pure_law (T : Tx w K mg) (vs : List V) (H : Hp) (Q : VK) (E : XK) (h : S_law K vs H Q E) : t_law K E { nx := fun _ H' => Q .non H', rt := Q } (start N_law vs) H := by
  obtain ⟨_, rfl, a, ns, rfl, hS, hn, hT, k⟩ := h
  have c := T.c_Disk
  unfold t_law
  walk_at "run"
  refine ⟨_, rfl, a, ns, rfl, hS, hn, fun b l H1 B1 nwb nwl kp1 => ?_⟩
  walk_at "run"
  refine mk_disk fun p1 H2 F1 D1 kp2 f1 => ?_
  walk_at "run"
  refine ⟨rfl, fun q1 H3 G1 O1 kp3 g1 => ?_⟩
  walk_at "run"
  rename_i t1 ht1
  refine mk_disk fun p2 H4 F2 D2 kp4 f2 => ?_
  walk_at "run"
  refine ⟨rfl, fun q2 H5 G2 O2 kp5 g2 => ?_⟩
  walk_at "run"
  rename_i t2 ht2 sd hsd
  have kt1 : Kp (tabs K) No H3 (upd H3 t1 (.tup [.ref p1, .ref q1])) := Kp.new ht1
  have kt2 : Kp (tabs K) No H5 (upd H5 t2 (.tup [.ref p2, .ref q2])) := Kp.new ht2
  have ks : Kp (tabs K) No (upd H5 t2 (.tup [.ref p2, .ref q2])) (upd (upd H5 t2 (.tup [.ref p2, .ref q2])) sd (.lst [.ref t1, .ref t2])) := Kp.new hsd
  have k36 : Kp (tabs K) No H3 (upd (upd H5 t2 (.tup [.ref p2, .ref q2])) sd (.lst [.ref t1, .ref t2])) := (((kt1.trans kp4 fun _ z => z.elim).trans kp5 fun _ z => z.elim).trans kt2 fun _ z => z.elim).trans ks fun _ z => z.elim
  have k56 : Kp (tabs K) No H5 (upd (upd H5 t2 (.tup [.ref p2, .ref q2])) sd (.lst [.ref t1, .ref t2])) := kt2.trans ks fun _ z => z.elim
  have gsd : (upd (upd H5 t2 (.tup [.ref p2, .ref q2])) sd (.lst [.ref t1, .ref t2])) sd = some (.lst [.ref t1, .ref t2]) := upd_same
  have gt2 := ks.tup (upd_same (H := H5) (a := t2) (o := .tup [.ref p2, .ref q2]))
  have gt1 := ((((kp4.trans kp5 fun _ z => z.elim).trans kt2 fun _ z => z.elim).trans ks fun _ z => z.elim) : Kp (tabs K) No _ _).tup (upd_same (H := H3) (a := t1) (o := .tup [.ref p1, .ref q1]))
  have nsd5 : Nw H5 sd := by walk_at "free"
  have k35 : Kp (tabs K) No H3 H5 := (kt1.trans kp4 fun _ z => z.elim).trans kp5 fun _ z => z.elim
  have B3 := (B1.keep kp2 (fun z => z) (fun z => z)).keep kp3 (fun z => z) (fun z => z)
  have D13 := D1.keep kp3 (fun _ _ z => z)
  have o35 : ∀ a, ¬ Nw H3 a → ¬ Nw H5 a := fun a h z => h (k35.dom a z)
  have dB : ∀ a, Bx b l a → ¬ Nw H3 a := fun a ha => box_dom B3 ha
  have fr1 : ∀ a, (F1 a ∨ G1 a) → Nw H1 a := fun a ha => ha.elim (fun z => f1 a z) (fun z => kp2.dom a (g1 a z))
  have in1 : ∀ a, (F1 a ∨ G1 a) → ¬ Nw H3 a := fun a ha => ha.elim (fun z => D13.dom z) (fun z => O1.dom z)
  have fr2 : ∀ a, (F2 a ∨ G2 a) → Nw H3 a := fun a ha => kt1.dom a (ha.elim (fun z => f2 a z) (fun z => kp4.dom a (g2 a z)))
  have D25 := D2.keep kp5 (fun _ _ z => z)
  have tw0 : Tw K (upd (upd H5 t2 (.tup [.ref p2, .ref q2])) sd (.lst [.ref t1, .ref t2])) b l sd p1 q1 ds0 (fun a => F1 a ∨ G1 a) p2 q2 ds0 (fun a => F2 a ∨ G2 a) 0 := by
    refine ⟨B3.keep k36 (fun z => z) (fun z => z), ⟨F1, G1, D13.keep k36 (fun _ _ z => z), O1.keep k36 (fun _ _ z => z), fun a h1 h2 => D1.dom h1 (g1 a h2), fun _ => Iff.rfl⟩, ⟨F2, G2, D25.keep k56 (fun _ _ z => z), O2.keep k56 (fun _ _ z => z), fun a h1 h2 => D2.dom h1 (g2 a h2), fun _ => Iff.rfl⟩,
      fun z => box_dom B1 (.inl rfl) (fr1 b z), fun z => box_dom B1 (.inr rfl) (fr1 l z), fun z => dB b (.inl rfl) (fr2 b z), fun z => dB l (.inr rfl) (fr2 l z), fun a h1 h2 => in1 a h1 (fr2 a h2), fun z => o35 sd (in1 sd z) nsd5, fun z => z.elim (fun z => D25.dom z nsd5) (fun z => O2.dom z nsd5),
      fun z => o35 b (dB b (.inl rfl)) (z ▸ nsd5), fun z => o35 l (dB l (.inr rfl)) (z ▸ nsd5), fun z => nw_no z gsd (fun _ z => nomatch z), Nat.zero_le _, Nat.zero_le _, Nat.zero_le _, Nat.zero_le _, k36.tab (kp3.tab (kp2.tab (kp1.tab hT)))⟩
  revert tw0 gsd gt1 gt2
  generalize (upd (upd H5 t2 (.tup [.ref p2, .ref q2])) sd (.lst [.ref t1, .ref t2])) = H6
  clear k36 k56 ks kt1 kt2 nsd5 k35 B3 D13 o35 dB fr1 in1 fr2 D25 hsd ht1 ht2 D1 D2 O1 O2 f1 f2 g1 g2 kp1 kp2 kp3 kp4 kp5 B1 nwb nwl
  intro gsd gt2 gt1 tw0
  refine ⟨_, _, rfl, b, l, _, rfl, rfl, tw0.box, by omega, by omega, fun m H7 m0 m1 B7 kp7 => ?_⟩
  have tw7 := tw0.draw B7 kp7
  have g7 := kp7.lst gsd (fun z => z.elim tw0.nb tw0.nl)
  have g71 := kp7.tup gt1
  have g72 := kp7.tup gt2
  walk_at "run"
  refine forR (LoopI K a b l sd t1 t2 p1 q1 p2 q2) ⟨none, none, none, none, none, none, none, none, _, _, _, _, rfl, tw7, g7, g71, g72⟩ ?_ ?_
  · rintro n σ' H8 hn8 ⟨v3, v4, v5, v6, v7, v8, v9, v10, S1, R1, S2, R2, rfl, tw, g0, g1, g2⟩
    walk_at "run"
    refine ⟨_, _, rfl, b, l, _, rfl, rfl, tw.box, by omega, by omega, fun c1 H9 c10 c11 B9 kp9 => ?_⟩
    have tw9 := tw.draw B9 kp9
    have g09 := kp9.lst g0 (fun z => z.elim tw.nb tw.nl)
    have g19 := kp9.tup g1
    have g29 := kp9.tup g2
    obtain ⟨t, p, q, p', q', S, R, S', R', hat, ht, tws, back⟩ : ∃ t p q p' q' S R S' R', atI [V.ref t1, V.ref t2] (c1 / 3) = some (.ref t) ∧ H9 t = some (.tup [.ref p, .ref q]) ∧ Tw K H9 b l sd p q S R p' q' S' R' n ∧
        ∀ H n S R S' R', Tw K H b l sd p q S R p' q' S' R' n → ∃ S1 R1 S2 R2, Tw K H b l sd p1 q1 S1 R1 p2 q2 S2 R2 n := by
      have hu : c1 / 3 = 0 ∨ c1 / 3 = 1 := by omega
      rcases hu with e | e <;> rw [e]
      · exact ⟨t1, p1, q1, p2, q2, S1, R1, S2, R2, at0, g19, tw9, fun _ _ S R S' R' t => ⟨S, R, S', R', t⟩⟩
      · exact ⟨t2, p2, q2, p1, q1, S2, R2, S1, R1, at1, g29, tw9.swap, fun _ _ S R S' R' t => ⟨S', R', S, R, t.swap⟩⟩
    clear tw9 tw kp9 g0 g1 g2
    walk_at "run"
    refine ⟨_, _, rfl, b, l, _, rfl, rfl, tws.box, by omega, by omega, fun way H10 w0 w1 B10 kp10 => ?_⟩
    have tw10 := tws.draw B10 kp10
    have nsB : ¬ Bx b l sd := fun z => z.elim tws.nb tws.nl
    have g010 := kp10.lst g09 nsB
    have g110 := kp10.tup g19
    have g210 := kp10.tup g29
    have hl1 := tw10.l1
    have hk1 := tw10.k1
    clear tws kp10 g09 g19 g29 B10 B9 ht
    have nR : ¬ (Bx b l sd ∨ R sd) := fun z => z.elim nsB tw10.nr
    have fin : ∀ (v8 v9 v10 : Option V) (S3 : DS) (R3 : Addr → Prop) (H11 : Hp), S3.pending.length ≤ S.pending.length + 1 → (S3.picks.length ≤ S.picks.length ∨ S3.picks.length ≤ 8) → BoxAt H11 b l → Side K H11 p q S3 R3 → Kp (tabs K) (fun a => Bx b l a ∨ R a) H10 H11 → (∀ a, R3 a → R a ∨ Nw H10 a) → _ := fun v8 v9 v10 S3 R3 H11 h1 h2 h3 h4 h5 h6 =>
      have tw11 := tw10.deed h1 h2 h3 h4 h5 h6
      let ⟨_, _, _, _, tw12⟩ := back _ _ _ _ _ _ tw11
      law_fin (E := E) (D := { nx := LoopI K a b l sd t1 t2 p1 q1 p2 q2 (n + 1), rt := Q, bk := fun σ H => tRet (tC (V.bl true)) { nx := fun x H' => Q V.non H', rt := Q } σ H, ct := LoopI K a b l sd t1 t2 p1 q1 p2 q2 (n + 1) }) (v3 := some (.int (n : Int))) (v4 := some (.ref p)) (v5 := some (.ref q)) (v6 := some (.int way)) (v8 := v8) (v9 := v9) (v10 := v10)
        (by omega) tw12 (h5.lst g010 nR) (h5.tup g110) (h5.tup g210) (fun _ _ h => h)
    walk_at "run"
    refine if_d (fun hw => ?_) (fun hw => ?_)
    · walk_at "run"
      refine ⟨_, _, _, rfl, b, l, p, q, S, R, rfl, rfl, rfl, tw10.box, tw10.s1, tw10.rb, tw10.rl, by omega, by omega, tw10.tab, fun S3 H11 R3 h1 h2 B11 s11 k11 sub11 => ?_⟩
      exact fin _ _ _ S3 R3 H11 h1 h2 B11 s11 k11 sub11
    · walk_at "run"
      refine if_d (fun hw2 => ?_) (fun hw2 => ?_)
      · walk_at "run"
        obtain ⟨F, G, DA, OA, fg, hr⟩ := id tw10.s1
        refine ⟨_, rfl, q, S, G, rfl, OA, by omega, by omega, fun H11 G11 O11 st11 => ?_⟩
        have nF : ∀ a, F a → ¬ Bx b l a := fun a ha z => z.elim (fun e => tw10.rb ((hr b).mpr (.inl (e ▸ ha)))) (fun e => tw10.rl ((hr l).mpr (.inl (e ▸ ha))))
        have nG : ∀ a, G a → ¬ Bx b l a := fun a ha z => z.elim (fun e => tw10.rb ((hr b).mpr (.inr (e ▸ ha)))) (fun e => tw10.rl ((hr l).mpr (.inr (e ▸ ha))))
        have last : ∀ (v8 v9 v10 : Option V) (S3 : DS) (G3 F3 : Addr → Prop) (H12 H13 : Hp), Stp (tabs K) G G3 H10 H12 → S3.pending.length ≤ S.pending.length → S3.picks = S.picks → DiskAt K H13 p S3 F3 → OwnAt H13 q S3 G3 → (∀ a, F3 a → ¬ G3 a) → Kp (tabs K) F H12 H13 → (∀ a, F3 a → F a ∨ Nw H12 a) → _ := fun v8 v9 v10 S3 G3 F3 H12 H13 st h1 h2 D13 O13 dis k13 sub13 =>
          fin v8 v9 v10 S3 (fun a => F3 a ∨ G3 a) H13 (by omega) (.inl (by rw [h2]; exact Nat.le_refl _)) ((tw10.box.keep st.kp (fun z => nG b z (.inl rfl)) (fun z => nG l z (.inr rfl))).keep k13 (fun z => nF b z (.inl rfl)) (fun z => nF l z (.inr rfl))) ⟨F3, G3, D13, O13, dis, fun _ => Iff.rfl⟩
            ((st.kp.mono fun a ha => .inr ((hr a).mpr (.inr ha))).trans k13 fun a ha => .inl (.inr ((hr a).mpr (.inl ha)))) (fun a ha => ha.elim (fun z => (sub13 a z).elim (fun z => .inl ((hr a).mpr (.inl z))) (fun z => .inr (st.kp.dom a z))) (fun z => (st.sub a z).elim (fun z => .inl ((hr a).mpr (.inr z))) .inr))
        have fgs : ∀ {G3 : Addr → Prop} {H12 : Hp}, Stp (tabs K) G G3 H10 H12 → ∀ a, F a → ¬ G3 a := fun st a h1 h2 => (st.sub a h2).elim (fun z => fg a h1 z) (fun z => DA.dom h1 z)
        walk_at "run"
        refine if_b (fun hc => ?_) (fun hc => ?_)
        · walk_at "run"
          refine if_dT rfl ?_
          obtain ⟨b', n', kk', bs', ns', h1', h2', d2', h3', d3', h4', ⟨ne1', ne2', ne3'⟩, o', f'⟩ := id O11
          have gq : G11 q := (f' q).mpr (.inl rfl)
          have gb : G11 b' := (f' b').mpr (.inr (.inl rfl))
          have eqb : q ≠ b' := ne_of h1' h2' (fun z => nomatch z)
          have eqn : q ≠ n' := ne_of h1' h3' (fun z => nomatch z)
          have eqk : q ≠ kk' := ne_of h1' h4' (fun z => nomatch z)
          walk_at "run"
          refine s_forL ?_
          walk_at "run"
          refine forL (xs := ns') (fun i σ' H' => ∃ v9 v10 bs2, σ' = [some (.ref a), some (.ref b), some (.ref sd), some (.int (n : Int)), some (.ref p), some (.ref q), some (.int way), v7, some .non, v9, v10] ∧ Kp (tabs K) (fun a => a = b') H11 H' ∧ H' b' = some (.lst bs2) ∧
            DtA H' bs2 ((S.cnt.2.pending.take i).foldl apl S.cnt.2.blocks)) ⟨v9, v10, bs', rfl, Kp.refl, h2', d2'⟩ (fun i σ' H' ⟨_, _, _, _, z, _⟩ => z.lst h3' ne1'.symm) ?_ ?_
          · rintro i x σ' H' hx ⟨v1, v2, bs2, rfl, kp, g2, gd⟩
            obtain ⟨qq, t2', v, hqq, rfl, ht2, hv⟩ := pr_get d3' hx
            have hok := o'.pe qq (List.mem_of_getElem? hqq)
            have ht3 := kp.tup ht2
            have hq' := kp.dK h1' eqb
            have fo := apls_ok (qs := S.cnt.2.pending.take i) o'.bl fun q hq => (o'.pe q (List.mem_of_mem_take hq)).2.2
            have hlen : bs2.length = 35 := gd.length.trans (fo.2.trans o'.len)
            have hix : ixN bs2.length qq.1 = some qq.1.toNat := ix_nat hok.1 (by rw [hlen]; exact hok.2.1)
            have et : S.cnt.2.pending.take (i + 1) = S.cnt.2.pending.take i ++ [qq] := by rw [List.take_add_one, hqq]; rfl
            walk_at "run"
            have kb : Kp (tabs K) (fun a => a = b') H' (upd H' b' (.lst (bs2.set qq.1.toNat v))) := Kp.setL g2 rfl
            refine ⟨_, _, _, rfl, kp.setL' g2 (.inl rfl), upd_same, ?_⟩
            rw [et, List.foldl_append]
            exact (gd.keep kb fo.1).set (Dt.keep kb hok.2.2 (Dt.keep kp hok.2.2 hv))
          · rintro σ' H' ⟨v1, v2, bs2, rfl, kp, g2, gd⟩
            rw [d3'.length, List.length_map, List.take_length] at gd
            have hq' := kp.dK h1' eqb
            have hk' := kp.lst h4' ne2'.symm
            have kpG : Kp (tabs K) G11 H11 H' := kp.mono fun a ha => by rw [ha]; exact gb
            walk_at "run"
            rename_i m hm
            have ok' := o'.stl
            have e1 : b' ≠ m := by walk_at "ne"
            have e2 : m ≠ kk' := by walk_at "ne"
            have eqm : q ≠ m := by walk_at "ne"
            have kn : Kp (tabs K) (fun a => a = q) H' (upd (upd H' m (.lst [])) q (.dK (oF b' m (lv S.cnt.2.left) kk' S.cnt.2.fallen))) := by walk_at "kp"
            have nwm : Nw H11 m := kp.dom m (.inl hm)
            have st12 : Stp (tabs K) G11 (fun a => a = q ∨ a = b' ∨ a = m ∨ a = kk') H11 (upd (upd H' m (.lst [])) q (.dK (oF b' m (lv S.cnt.2.left) kk' S.cnt.2.fallen))) := ⟨kpG.trans kn fun a z => .inl (by rw [z]; exact gq), fun a ha => by
              rcases ha with rfl | rfl | rfl | rfl
              · exact .inl gq
              · exact .inl gb
              · exact .inr nwm
              · exact .inl ((f' _).mpr (.inr (.inr (.inr rfl))))⟩
            have st13 := st11.trans st12
            refine law_settle (S := S) (S3 := S.cnt.2.stl) (dd := .none) (due := .non) (F := F) (q := q) T rfl rfl (st13.kp.tab tw10.tab) (DA.keep st13.kp (fun a h1 h2 => fg a h1 h2)) ⟨b', m, kk', bs2, [], by walk_at "look", by walk_at "look", gd.keep kn ok'.bl, by walk_at "look", rfl, by walk_at "look", ⟨e1, ne2', e2⟩, ok', fun _ => Iff.rfl⟩ (fgs st13) Di.none rfl (.inl ⟨hc, rfl, rfl⟩)
              (fun F3 H13 D13 O13 dis k13 sub13 => last _ _ _ S.cnt.2.stl _ F3 _ H13 st13 (Nat.zero_le _) (cnt_len (S := S)).2 D13 O13 dis k13 sub13)
        · walk_at "run"
          refine if_dF (fun z => nomatch z) ?_
          walk_at "run"
          exact law_settle (S := S) (S3 := S.cnt.2) (dd := .str "Stopped") (F := F) T rfl rfl (st11.kp.tab tw10.tab) (DA.keep st11.kp (fun a h1 h2 => fg a h1 h2)) O11 (fgs st11) Di.str rfl (.inr ⟨hc, rfl, rfl⟩)
            (fun F3 H13 D13 O13 dis k13 sub13 => last _ _ _ S.cnt.2 G11 F3 H11 H13 st11 (cnt_len (S := S)).1 (cnt_len (S := S)).2 D13 O13 dis k13 sub13)
      · walk_at "run"
        refine ⟨_, _, _, rfl, b, l, p, q, S, R, rfl, rfl, rfl, tw10.box, tw10.s1, tw10.rb, tw10.rl, by omega, by omega, tw10.tab, fun S3 H11 R3 h1 h2 B11 s11 k11 sub11 => ?_⟩
        exact fin _ _ _ S3 R3 H11 h1 h2 B11 s11 k11 sub11
  · rintro σ' H8 ⟨v3, v4, v5, v6, v7, v8, v9, v10, S1, R1, S2, R2, rfl, tw, g0, g1, g2⟩
    walk_at "run"
    exact k _
end
end W

end
section
/-! ### M0: words for walking through a reading (local) -/
local macro_rules | `(tactic| walk_at "st") => `(tactic| first
  | (with_reducible refine Cm.s_seq ?_) | (with_reducible refine Cm.s_asg ?_) | (with_reducible refine Cm.s_drop ?_) | (with_reducible refine Cm.s_ret ?_) | (with_reducible refine Cm.s_if ?_) | (with_reducible refine Cm.s_next ?_) | (with_reducible refine Cm.s_retN ?_) | (with_reducible refine Cm.s_rs ?_) | (with_reducible refine Cm.s_fld0 ?_)
  | ((with_reducible refine' Cm.e_var ?hv ?_); (case hv => exact rfl))
  | (with_reducible refine Cm.e_c ?_) | (with_reducible refine Cm.e_op ?_) | (with_reducible refine Cm.e_un ?_) | (with_reducible refine Cm.e_nil ?_) | (with_reducible refine Cm.e_cons ?_) | (with_reducible refine Cm.e_tup ?_) | (with_reducible refine Cm.e_lst ?_) | (with_reducible refine Cm.e_cb ?_) | (with_reducible refine Cm.e_call ?_) | (with_reducible refine Cm.e_if ?_)
  | (with_reducible refine Cm.e_andV ?_) | (with_reducible refine Cm.e_orV ?_) | (with_reducible refine Cm.e_notV ?_) | (with_reducible refine Cm.e_fld0 ?_) | (with_reducible refine Cm.e_meth0 ?_) | (with_reducible refine Cm.e_bm0 ?_) | (with_reducible refine Cm.e_bm ?_) | (with_reducible refine Cm.e_sl ?_) | (with_reducible refine Cm.o_none ?_) | (with_reducible refine Cm.o_some ?_) | (with_reducible refine Cm.e_dnew ?_)
  | (with_reducible refine Cm.e_test ?_) | (with_reducible refine Cm.e_tr ?_) | (with_reducible refine Cm.e_and ?_) | (with_reducible refine Cm.e_or ?_) | (with_reducible refine Cm.e_not ?_) | (with_reducible refine Cm.e_yes ?_) | (with_reducible refine Cm.e_chain ?_)
  | (with_reducible refine Cm.r_i0 ?_) | (with_reducible refine Cm.r_u ?_) | (with_reducible refine Cm.r_isNo ?_) | (with_reducible refine Cm.r_notNo ?_) | (with_reducible refine Cm.r_addI ?_) | (with_reducible refine Cm.r_int1b ?_) | (with_reducible refine Cm.r_max2 ?_)
  | ((with_reducible refine Cm.r_i ?hc ?_); (case hc => walk_at "num"))
  | ((with_reducible refine Cm.r_mulI ?hc ?_); (case hc => walk_at "num"))
  | ((with_reducible refine Cm.r_eqS ?hc ?_); (case hc => exact rfl))
  | ((with_reducible refine Cm.r_neS ?hc ?_); (case hc => exact rfl))
  | ((with_reducible refine' Cm.r_ixl ?h1 ?h2 ?_); (case h1 => walk_at "look"); (case h2 => walk_at "at"))
  | ((with_reducible refine' Cm.r_ixt ?h1 ?h2 ?_); (case h1 => walk_at "look"); (case h2 => walk_at "at"))
  | ((with_reducible refine' Cm.r_ixT ?h1 ?h2 ?_); (case h1 => walk_at "lookT"); (case h2 => walk_at "at"))
  | ((with_reducible refine' Cm.r_ixds ?h1 ?h2 ?_); (case h1 => walk_at "look"); (case h2 => walk_at "key"))
  | ((with_reducible refine' Cm.r_eqe ?h1 ?h2 ?_); (case h1 => walk_at "look"); (case h2 => walk_at "look"))
  | ((with_reducible refine' Cm.r_nee ?h1 ?h2 ?_); (case h1 => walk_at "look"); (case h2 => walk_at "look"))
  | ((with_reducible refine' Cm.r_lenl ?h1 ?_); (case h1 => walk_at "look"))
  | ((with_reducible refine' Cm.r_lent ?h1 ?_); (case h1 => walk_at "look"))
  | ((with_reducible refine' Cm.r_lenT ?h1 ?_); (case h1 => walk_at "lookT"))
  | ((with_reducible refine' Cm.r_listl ?h1 ?_); (case h1 => walk_at "look"); (intro _ _))
  | ((with_reducible refine' Cm.r_tupl ?h1 ?_); (case h1 => walk_at "look"); (intro _ _))
  | ((with_reducible refine' Cm.r_addL ?h1 ?h2 ?h3 ?_); (case h1 => walk_at "look"); (case h2 => walk_at "look"); (case h3 => walk_at "size"); (intro _ _))
  | ((with_reducible refine' Cm.m_append ?h1 ?h2 ?_); (case h1 => walk_at "look"); (case h2 => walk_at "size"))
  | ((with_reducible refine' Cm.m_clear ?h1 ?_); (case h1 => walk_at "look"))
  | ((with_reducible refine' Cm.g_setL ?h1 ?h2 ?_); (case h1 => walk_at "look"); (case h2 => walk_at "ix"))
  | ((with_reducible refine' Cm.g_setDs ?h1 ?h2 ?h3 ?_); (case h1 => walk_at "look"); (case h2 => walk_at "size"); (case h3 => walk_at "put"))
  | ((with_reducible refine' Cm.fld_at ?h1 ?h2 ?h3 ?h4 ?_); (case h1 => walk_at "look"); (case h2 => assumption); (case h3 => assumption); (case h4 => walk_at "key"))
  | ((with_reducible refine' Cm.fldset_at ?h1 ?h2 ?h3 ?h4 ?h5 ?_); (case h1 => walk_at "look"); (case h2 => assumption); (case h3 => assumption); (case h4 => walk_at "size"); (case h5 => walk_at "put"))
  | (with_reducible refine Cm.s_fldaug0 ?_)
  | ((with_reducible refine' Cm.aug_at ?h1 ?h2 ?h3 ?h4 ?_); (case h1 => walk_at "look"); (case h2 => assumption); (case h3 => assumption); (case h4 => walk_at "key"))
  | ((with_reducible refine' Cm.augset_at ?h1 ?h4 ?h5 ?_); (case h1 => walk_at "look"); (case h4 => walk_at "size"); (case h5 => walk_at "put"))
  | (with_reducible refine Cm.in_sub_at ?_) | (with_reducible refine Cm.in_add_at ?_)
  | ((with_reducible refine' Cm.meth_at ?h1 ?h2 ?_); (case h1 => walk_at "look"); (case h2 => walk_at "key"))
  | ((with_reducible refine Cm.new_at ?h1 ?_); (case h1 => walk_at "size"); (intro _ _))
  | ((with_reducible refine Cm.and_at (A := L2.tyV _ _ _ _) ?h1 ?_); (case h1 => exact Cm.ty_lst (by walk_at "look")))
  | ((with_reducible refine' Cm.g_tupt ?h1 ?h2 ?_); (case h1 => walk_at "look"); (case h2 => exact rfl))
  | ((with_reducible refine' Cm.g_tup ?h1 ?h2 ?_); (case h1 => walk_at "lookT"); (case h2 => exact rfl))
  | (with_reducible refine Cm.g_name ?_) | (with_reducible refine Cm.g_sub ?_) | (with_reducible refine Cm.g_cons ?_) | (with_reducible refine Cm.g_nil ?_)
  | (with_reducible refine Cm.int_at ?_) | (with_reducible refine Cm.bl_at ?_) | (with_reducible refine Cm.tr_bl ?_) | (with_reducible refine Cm.tr_non ?_)
  | ((with_reducible refine' Cm.m_pop0 ?h1 ?_); (case h1 => walk_at "look"))
  | ((with_reducible refine' Cm.r_slTo ?h1 ?h2 ?_); (case h1 => walk_at "look"); (case h2 => walk_at "num2"); (intro _ _))
  | ((with_reducible refine' Cm.r_slFrom ?h1 ?h2 ?_); (case h1 => walk_at "look"); (case h2 => walk_at "num2"); (intro _ _))
  | ((with_reducible refine' Cm.at_forL ?h1 ?_); (case h1 => walk_at "look"))
  | ((with_reducible refine' Cm.at_forT ?h1 ?_); (case h1 => walk_at "look"))
  | ((with_reducible refine' Cm.at_forR ?h1 ?h2 ?_); (case h1 => walk_at "num2"); (case h2 => walk_at "num2"))
  | ((with_reducible refine' Cm.at_forZ ?h1 ?h2 ?_); (case h1 => walk_at "look"); (case h2 => walk_at "look"))
  | (with_reducible refine Cm.s_forZ ?_) | (with_reducible refine Cm.s_forR ?_)
  | ((with_reducible refine Cm.and_at (A := _ = _) ?h1 ?_); (case h1 => exact rfl))
  | ((with_reducible show L2.rIsi _ _ _ _); walk_at "isi")
  | (with_reducible refine Cm.ite_nt ?_) | (with_reducible refine Cm.ite_nf ?_)
  | (with_reducible refine L2.iteT ?_) | (with_reducible refine L2.iteF ?_)
  | dsimp only
  | fail)
local macro_rules | `(tactic| walk_at "run") => `(tactic| repeat (walk_at "st"))
local macro_rules | `(tactic| walk_at "num") => `(tactic| first
  | exact Or.inr ⟨by decide, by decide⟩ | exact Or.inl ⟨by decide, by decide⟩
  | exact Cm.wdiv (by first | decide | omega) (by first | decide | omega)
  | (show (0 : Int) < _; first | decide | omega)
  | exact ⟨by decide, by decide, by decide⟩
  | fail)
local macro_rules | `(tactic| walk_at "put") => `(tactic| exact rfl)
local macro_rules | `(tactic| walk_at "fl") => `(tactic| first | exact Cm.fl0 | (refine' Cm.flS ?hz; (case hz => walk_at "fl")) | fail)
local macro_rules | `(tactic| walk_at "size") => `(tactic| first | exact Cm.sz_lit rfl | exact Cm.sz_lt rfl | exact Cm.fs_lt rfl | decide | (refine' Nat.lt_of_le_of_lt ?ha ?hb; (case ha => walk_at "fl"); (case hb => decide)) | (simp only [List.length_cons, List.length_nil, List.length_append, List.length_map, List.length_set, List.length_replicate, PySem.sizeLine_eq]; omega) | (simp only [List.length_cons, List.length_nil, List.length_append, List.length_map, List.length_set, List.length_replicate, PySem.sizeLine_eq] at *; omega) | fail)
local macro_rules | `(tactic| walk_at "at") => `(tactic| first | assumption | (with_reducible exact Cm.at0) | (with_reducible exact Cm.at1) | (with_reducible exact Cm.at2) | (with_reducible exact Cm.at3) | (with_reducible exact Cm.at4) | (with_reducible exact Cm.at5) | (with_reducible exact Cm.at6) | (with_reducible exact Cm.at7) | (with_reducible exact Cm.at8) | (with_reducible exact Cm.at0s) | (with_reducible exact Cm.at1s) | (with_reducible exact Cm.at01s) | (with_reducible exact Cm.at10s) | fail)
local macro_rules | `(tactic| walk_at "ix") => `(tactic| first | exact Cm.ix0 (by walk_at "size") | exact Cm.ix1 (by walk_at "size") | assumption | fail)
local macro_rules | `(tactic| walk_at "key") => `(tactic| first | assumption | fail)
local macro_rules | `(tactic| walk_at "ne") => `(tactic| first
  | assumption
  | (refine Ne.symm ?_; assumption)
  | (refine' L2.ne_of_none ?h1 ?h2; (case h2 => assumption); (case h1 => walk_at "look"))
  | (refine' Ne.symm (L2.ne_of_none ?h1 ?h2); (case h2 => assumption); (case h1 => walk_at "look"))
  | fail)
local macro_rules | `(tactic| walk_at "lookT") => `(tactic| first
  | assumption
  | exact L2.SqT.of (by walk_at "look")
  | fail)
local macro_rules | `(tactic| walk_at "look") => `(tactic| first
  | assumption
  | exact L2.upd_same
  | ((fail_if_success (with_reducible refine Eq.trans L2.upd_same ?_)); (refine' Eq.trans (L2.upd_ne ?h1) ?h2); (case h1 => walk_at "ne"); (case h2 => walk_at "look"))
  | (refine' Cm.kp_look ?h1 ?h2 ?h3 ?h4; (case h1 => assumption); (case h2 => walk_at "look"); (case h3 => intro _ z; cases z); (case h4 => first | exact Or.inl rfl | exact Or.inr (by walk_at "out")))
  | fail)
local macro_rules | `(tactic| walk_at "out") => `(tactic| first
  | assumption
  | exact fun z => z
  | exact fun z => z.elim (fun e => absurd e (by walk_at "ne")) (fun e => absurd e (by walk_at "ne"))
  | exact fun e => absurd e (by walk_at "ne")
  | fail)
local macro_rules | `(tactic| walk_at "dom") => `(tactic| first
  | exact Cm.dm_refl
  | (refine Cm.dm_upd ?_; walk_at "dom")
  | (refine' Cm.dm_kp ?h1 ?h2; (case h2 => assumption); (case h1 => walk_at "dom"))
  | fail)
local macro_rules | `(tactic| walk_at "free") => `(tactic| first
  | assumption
  | exact Cm.nw_of (by assumption)
  | (refine' Cm.dm_use ?h1 ?h2; (case h2 => assumption); (case h1 => walk_at "dom"))
  | (refine' Cm.dm_use2 ?h1 ?h2; (case h2 => assumption); (case h1 => walk_at "dom"))
  | fail)
local macro_rules | `(tactic| walk_at "in") => `(tactic| first
  | exact Or.inl rfl | exact Or.inl (Or.inl rfl) | exact Or.inl (Or.inr rfl) | exact Or.inl (Or.inr (Or.inl rfl)) | exact Or.inl (Or.inr (Or.inr rfl))
  | exact Or.inl (by assumption)
  | exact Or.inr (by walk_at "free")
  | fail)
local macro_rules | `(tactic| walk_at "kp") => `(tactic| first
  | assumption
  | exact Cm.Kp.refl
  | (refine' Cm.Kp.new' ?h1 ?h2; (case h2 => assumption); (case h1 => walk_at "kp"))
  | (refine' Cm.Kp.setL' ?h1 ?h2 ?h3; (case h2 => walk_at "look"); (case h3 => walk_at "in"); (case h1 => walk_at "kp"))
  | (refine' Cm.Kp.setI' ?h1 ?h2 ?h3; (case h2 => walk_at "look"); (case h3 => walk_at "in"); (case h1 => walk_at "kp"))
  | (refine' Cm.Kp.setD' ?h1 ?h2 ?h3; (case h2 => walk_at "look"); (case h3 => walk_at "in"); (case h1 => walk_at "kp"))
  | (refine' Cm.kp_step ?h1 ?h2 ?h3; (case h2 => assumption); (case h3 => walk_at "sub"); (case h1 => walk_at "kp"))
  | fail)
local macro_rules | `(tactic| walk_at "sub") => `(tactic| first
  | exact fun _ z => z.elim
  | exact fun _ z => Or.inl z
  | (intro a z; rcases z with rfl | rfl <;> walk_at "in")
  | (intro a z; subst z; walk_at "in")
  | fail)
local macro_rules | `(tactic| walk_at "num2") => `(tactic| first | decide | omega | fail)

local macro_rules | `(tactic| walk_at "isi") => `(tactic| first | (with_reducible refine Cm.isi_non_bool ?_) | (with_reducible refine Cm.isi_non_int ?_) | (with_reducible refine Cm.isi_non_str ?_) | (with_reducible refine Cm.isi_non_tuple ?_) | (with_reducible refine Cm.isi_non_list ?_) | (with_reducible refine Cm.isi_bl_bool ?_) | (with_reducible refine Cm.isi_bl_int ?_) | (with_reducible refine Cm.isi_bl_str ?_) | (with_reducible refine Cm.isi_bl_tuple ?_) | (with_reducible refine Cm.isi_bl_list ?_) | (with_reducible refine Cm.isi_int_bool ?_) | (with_reducible refine Cm.isi_int_int ?_) | (with_reducible refine Cm.isi_int_str ?_) | (with_reducible refine Cm.isi_int_tuple ?_) | (with_reducible refine Cm.isi_int_list ?_) | (with_reducible refine Cm.isi_str_bool ?_) | (with_reducible refine Cm.isi_str_int ?_) | (with_reducible refine Cm.isi_str_str ?_) | (with_reducible refine Cm.isi_str_tuple ?_) | (with_reducible refine Cm.isi_str_list ?_) | ((with_reducible refine' Cm.isi_tup_bool ?h1 ?_); (case h1 => walk_at "look")) | ((with_reducible refine' Cm.isi_tup_int ?h1 ?_); (case h1 => walk_at "look")) | ((with_reducible refine' Cm.isi_tup_str ?h1 ?_); (case h1 => walk_at "look")) | ((with_reducible refine' Cm.isi_tup_tuple ?h1 ?_); (case h1 => walk_at "look")) | ((with_reducible refine' Cm.isi_tup_list ?h1 ?_); (case h1 => walk_at "look")) | ((with_reducible refine' Cm.isi_lst_bool ?h1 ?_); (case h1 => walk_at "look")) | ((with_reducible refine' Cm.isi_lst_int ?h1 ?_); (case h1 => walk_at "look")) | ((with_reducible refine' Cm.isi_lst_str ?h1 ?_); (case h1 => walk_at "look")) | ((with_reducible refine' Cm.isi_lst_tuple ?h1 ?_); (case h1 => walk_at "look")) | ((with_reducible refine' Cm.isi_lst_list ?h1 ?_); (case h1 => walk_at "look")) | fail)

local macro_rules | `(tactic| walk_at "key") => `(tactic| first | exact W.dF_g_blocks | exact W.dF_g_pending | exact W.dF_g_left | exact W.dF_g_picks | exact W.dF_g_fallen | exact W.dF_n_need_block | exact W.dF_n_count | exact W.dF_n_write | exact W.dF_n_settle | exact W.dF_n_read | exact W.dF_n_arm | exact W.dF_n_stop | exact W.dF_n_again | exact W.dF_n_settled)
local macro_rules | `(tactic| walk_at "put") => `(tactic| first | exact W.dF_p_blocks | exact W.dF_p_pending | exact W.dF_p_left | exact W.dF_p_picks | exact W.dF_p_fallen)
local macro_rules | `(tactic| walk_at "size") => `(tactic| (rw [W.dF_len]; decide))

local macro_rules | `(tactic| walk_at "key") => `(tactic| first | exact W.oF_g_settled | exact W.oF_g_pending | exact W.oF_g_left | exact W.oF_g_picks | exact W.oF_g_fallen)
local macro_rules | `(tactic| walk_at "put") => `(tactic| first | exact W.oF_p_settled | exact W.oF_p_pending | exact W.oF_p_left | exact W.oF_p_picks | exact W.oF_p_fallen)
local macro_rules | `(tactic| walk_at "size") => `(tactic| (rw [W.oF_len]; decide))

namespace W
open PySem PySem.Spec PyProof.Rows L2 Cm
section
variable {w : World} {K : PySem.W.Frag} {mg : Str → Option Value}
theorem pure_take_ (vs : List V) (H : Hp) (Q : VK) (E : XK) (h : S_take_ K vs H Q E) : t_take_ K E { nx := fun _ H' => Q .non H', rt := Q } (start N_take_ vs) H := by
  obtain ⟨_, _, rfl, b, l, m, rfl, rfl, B, m0, m1, k⟩ := h
  obtain ⟨ns, z, hb, hl, hn⟩ := id B
  have nbl := B.ne
  unfold t_take_
  walk_at "run"
  refine if_b (fun hE => ?_) (fun hE => ?_)
  · walk_at "run"
    exact k _ _ (Int.emod_nonneg _ (by omega)) (Int.emod_lt_of_pos _ m0) ⟨ns, _, by walk_at "look", by walk_at "look", hn⟩ (by walk_at "kp")
  · cases ns with
    | nil => cases hE
    | cons n ns =>
      have hn' : ns.length ≤ 62 := by simpa using hn
      rw [List.map_cons] at hl
      walk_at "run"
      refine if_d (fun h => ?_) (fun h => ?_)
      · walk_at "run"
        exact k _ _ (Int.emod_nonneg _ (by omega)) (Int.emod_lt_of_pos _ m0) ⟨ns, _, by walk_at "look", by walk_at "look", by omega⟩ (by walk_at "kp")
      · walk_at "run"
        refine if_d (fun h => ?_) (fun h => ?_)
        · walk_at "run"
          exact k _ _ (Int.emod_nonneg _ (by omega)) (Int.emod_lt_of_pos _ m0) ⟨ns, _, by walk_at "look", by walk_at "look", by omega⟩ (by walk_at "kp")
        · walk_at "run"
          exact k _ _ (Int.emod_nonneg _ (by omega)) (Int.emod_lt_of_pos _ m0) ⟨(n / m) :: ns, _, by walk_at "look", by walk_at "look", by simp; omega⟩ (by walk_at "kp")
theorem pure_begun_ (vs : List V) (H : Hp) (Q : VK) (E : XK) (h : S_begun_ K vs H Q E) : t_begun_ K E { nx := fun _ H' => Q .non H', rt := Q } (start N_begun_ vs) H := by
  obtain ⟨_, rfl, a, ns, rfl, hS, hn, k⟩ := h
  unfold t_begun_
  walk_at "run"
  refine s_forL ?_
  walk_at "run"
  refine ⟨a, rfl, ⟨_, hS⟩, ?_⟩
  refine forLs (xs := ns.map V.int) (fun i σ' H' => ∃ (z : Int) (v : Option V), σ' = [some (.ref a), some (.int z), v] ∧ H' = H) ⟨0, none, rfl, rfl⟩ (fun i σ' H' z => by obtain ⟨_, _, _, rfl⟩ := z; exact hS) ?_ ?_
  · rintro i x σ' H' hx ⟨z, v, rfl, rfl⟩
    obtain ⟨u, rfl⟩ : ∃ u, x = V.int u := by
      rw [List.getElem?_map] at hx
      cases e : ns[i]? with
      | none => rw [e] at hx; cases hx
      | some u => rw [e] at hx; exact ⟨u, (Option.some.inj hx).symm⟩
    walk_at "run"
    exact ⟨_, _, rfl, rfl⟩
  · rintro σ' H' ⟨z, v, rfl, rfl⟩
    walk_at "run"
    refine r_listL hS (fun l hl => ?_)
    walk_at "run"
    refine r_lenL (xs := ns.map V.int) ?_ ?_
    · rcases hS with (h | ⟨o, h⟩) | h
      · exact SqL.of (by walk_at "look")
      · exact .inl (.inr ⟨o, by walk_at "look"⟩)
      · exact .inr h
    · walk_at "run"
      refine r_mulI ?_ ?_
      · refine .inr ?_
        split <;> exact ⟨by decide, by decide⟩
      walk_at "run"
      rename_i b hb
      exact k b l _ ⟨ns, _, by walk_at "look", by walk_at "look", hn⟩ (by walk_at "free") (.inl hl) (by walk_at "kp")
end
end W

end
section
/-! ### M0: words for walking through a reading (local) -/
local macro_rules | `(tactic| walk_at "st") => `(tactic| first
  | (with_reducible refine Cm.s_seq ?_) | (with_reducible refine Cm.s_asg ?_) | (with_reducible refine Cm.s_drop ?_) | (with_reducible refine Cm.s_ret ?_) | (with_reducible refine Cm.s_if ?_) | (with_reducible refine Cm.s_next ?_) | (with_reducible refine Cm.s_retN ?_) | (with_reducible refine Cm.s_rs ?_) | (with_reducible refine Cm.s_fld0 ?_)
  | ((with_reducible refine' Cm.e_var ?hv ?_); (case hv => exact rfl))
  | (with_reducible refine Cm.e_c ?_) | (with_reducible refine Cm.e_op ?_) | (with_reducible refine Cm.e_un ?_) | (with_reducible refine Cm.e_nil ?_) | (with_reducible refine Cm.e_cons ?_) | (with_reducible refine Cm.e_tup ?_) | (with_reducible refine Cm.e_lst ?_) | (with_reducible refine Cm.e_cb ?_) | (with_reducible refine Cm.e_call ?_) | (with_reducible refine Cm.e_if ?_)
  | (with_reducible refine Cm.e_andV ?_) | (with_reducible refine Cm.e_orV ?_) | (with_reducible refine Cm.e_notV ?_) | (with_reducible refine Cm.e_fld0 ?_) | (with_reducible refine Cm.e_meth0 ?_) | (with_reducible refine Cm.e_bm0 ?_) | (with_reducible refine Cm.e_bm ?_) | (with_reducible refine Cm.e_sl ?_) | (with_reducible refine Cm.o_none ?_) | (with_reducible refine Cm.o_some ?_) | (with_reducible refine Cm.e_dnew ?_)
  | (with_reducible refine Cm.e_test ?_) | (with_reducible refine Cm.e_tr ?_) | (with_reducible refine Cm.e_and ?_) | (with_reducible refine Cm.e_or ?_) | (with_reducible refine Cm.e_not ?_) | (with_reducible refine Cm.e_yes ?_) | (with_reducible refine Cm.e_chain ?_)
  | (with_reducible refine Cm.r_i0 ?_) | (with_reducible refine Cm.r_u ?_) | (with_reducible refine Cm.r_isNo ?_) | (with_reducible refine Cm.r_notNo ?_) | (with_reducible refine Cm.r_addI ?_) | (with_reducible refine Cm.r_int1b ?_) | (with_reducible refine Cm.r_max2 ?_)
  | ((with_reducible refine Cm.r_i ?hc ?_); (case hc => walk_at "num"))
  | ((with_reducible refine Cm.r_mulI ?hc ?_); (case hc => walk_at "num"))
  | ((with_reducible refine Cm.r_eqS ?hc ?_); (case hc => exact rfl))
  | ((with_reducible refine Cm.r_neS ?hc ?_); (case hc => exact rfl))
  | ((with_reducible refine' Cm.r_ixl ?h1 ?h2 ?_); (case h1 => walk_at "look"); (case h2 => walk_at "at"))
  | ((with_reducible refine' Cm.r_ixt ?h1 ?h2 ?_); (case h1 => walk_at "look"); (case h2 => walk_at "at"))
  | ((with_reducible refine' Cm.r_ixT ?h1 ?h2 ?_); (case h1 => walk_at "lookT"); (case h2 => walk_at "at"))
  | ((with_reducible refine' Cm.r_ixds ?h1 ?h2 ?_); (case h1 => walk_at "look"); (case h2 => walk_at "key"))
  | ((with_reducible refine' Cm.r_eqe ?h1 ?h2 ?_); (case h1 => walk_at "look"); (case h2 => walk_at "look"))
  | ((with_reducible refine' Cm.r_nee ?h1 ?h2 ?_); (case h1 => walk_at "look"); (case h2 => walk_at "look"))
  | ((with_reducible refine' Cm.r_lenl ?h1 ?_); (case h1 => walk_at "look"))
  | ((with_reducible refine' Cm.r_lent ?h1 ?_); (case h1 => walk_at "look"))
  | ((with_reducible refine' Cm.r_lenT ?h1 ?_); (case h1 => walk_at "lookT"))
  | ((with_reducible refine' Cm.r_listl ?h1 ?_); (case h1 => walk_at "look"); (intro _ _))
  | ((with_reducible refine' Cm.r_tupl ?h1 ?_); (case h1 => walk_at "look"); (intro _ _))
  | ((with_reducible refine' Cm.r_addL ?h1 ?h2 ?h3 ?_); (case h1 => walk_at "look"); (case h2 => walk_at "look"); (case h3 => walk_at "size"); (intro _ _))
  | ((with_reducible refine' Cm.m_append ?h1 ?h2 ?_); (case h1 => walk_at "look"); (case h2 => walk_at "size"))
  | ((with_reducible refine' Cm.m_clear ?h1 ?_); (case h1 => walk_at "look"))
  | ((with_reducible refine' Cm.g_setL ?h1 ?h2 ?_); (case h1 => walk_at "look"); (case h2 => walk_at "ix"))
  | ((with_reducible refine' Cm.g_setDs ?h1 ?h2 ?h3 ?_); (case h1 => walk_at "look"); (case h2 => walk_at "size"); (case h3 => walk_at "put"))
  | ((with_reducible refine' Cm.fld_at ?h1 ?h2 ?h3 ?h4 ?_); (case h1 => walk_at "look"); (case h2 => assumption); (case h3 => assumption); (case h4 => walk_at "key"))
  | ((with_reducible refine' Cm.fldset_at ?h1 ?h2 ?h3 ?h4 ?h5 ?_); (case h1 => walk_at "look"); (case h2 => assumption); (case h3 => assumption); (case h4 => walk_at "size"); (case h5 => walk_at "put"))
  | (with_reducible refine Cm.s_fldaug0 ?_)
  | ((with_reducible refine' Cm.aug_at ?h1 ?h2 ?h3 ?h4 ?_); (case h1 => walk_at "look"); (case h2 => assumption); (case h3 => assumption); (case h4 => walk_at "key"))
  | ((with_reducible refine' Cm.augset_at ?h1 ?h4 ?h5 ?_); (case h1 => walk_at "look"); (case h4 => walk_at "size"); (case h5 => walk_at "put"))
  | (with_reducible refine Cm.in_sub_at ?_) | (with_reducible refine Cm.in_add_at ?_)
  | ((with_reducible refine' Cm.meth_at ?h1 ?h2 ?_); (case h1 => walk_at "look"); (case h2 => walk_at "key"))
  | ((with_reducible refine Cm.new_at ?h1 ?_); (case h1 => walk_at "size"); (intro _ _))
  | ((with_reducible refine Cm.and_at (A := L2.tyV _ _ _ _) ?h1 ?_); (case h1 => exact Cm.ty_lst (by walk_at "look")))
  | ((with_reducible refine' Cm.g_tupt ?h1 ?h2 ?_); (case h1 => walk_at "look"); (case h2 => exact rfl))
  | ((with_reducible refine' Cm.g_tup ?h1 ?h2 ?_); (case h1 => walk_at "lookT"); (case h2 => exact rfl))
  | (with_reducible refine Cm.g_name ?_) | (with_reducible refine Cm.g_sub ?_) | (with_reducible refine Cm.g_cons ?_) | (with_reducible refine Cm.g_nil ?_)
  | (with_reducible refine Cm.int_at ?_) | (with_reducible refine Cm.bl_at ?_) | (with_reducible refine Cm.tr_bl ?_) | (with_reducible refine Cm.tr_non ?_)
  | ((with_reducible refine' Cm.m_pop0 ?h1 ?_); (case h1 => walk_at "look"))
  | ((with_reducible refine' Cm.r_slTo ?h1 ?h2 ?_); (case h1 => walk_at "look"); (case h2 => walk_at "num2"); (intro _ _))
  | ((with_reducible refine' Cm.r_slFrom ?h1 ?h2 ?_); (case h1 => walk_at "look"); (case h2 => walk_at "num2"); (intro _ _))
  | ((with_reducible refine' Cm.at_forL ?h1 ?_); (case h1 => walk_at "look"))
  | ((with_reducible refine' Cm.at_forT ?h1 ?_); (case h1 => walk_at "look"))
  | ((with_reducible refine' Cm.at_forR ?h1 ?h2 ?_); (case h1 => walk_at "num2"); (case h2 => walk_at "num2"))
  | ((with_reducible refine' Cm.at_forZ ?h1 ?h2 ?_); (case h1 => walk_at "look"); (case h2 => walk_at "look"))
  | (with_reducible refine Cm.s_forZ ?_) | (with_reducible refine Cm.s_forR ?_)
  | ((with_reducible refine Cm.and_at (A := _ = _) ?h1 ?_); (case h1 => exact rfl))
  | ((with_reducible show L2.rIsi _ _ _ _); walk_at "isi")
  | (with_reducible refine Cm.ite_nt ?_) | (with_reducible refine Cm.ite_nf ?_)
  | (with_reducible refine L2.iteT ?_) | (with_reducible refine L2.iteF ?_)
  | dsimp only
  | fail)
local macro_rules | `(tactic| walk_at "run") => `(tactic| repeat (walk_at "st"))
local macro_rules | `(tactic| walk_at "num") => `(tactic| first
  | exact Or.inr ⟨by decide, by decide⟩ | exact Or.inl ⟨by decide, by decide⟩
  | exact Cm.wdiv (by first | decide | omega) (by first | decide | omega)
  | (show (0 : Int) < _; first | decide | omega)
  | exact ⟨by decide, by decide, by decide⟩
  | fail)
local macro_rules | `(tactic| walk_at "put") => `(tactic| exact rfl)
local macro_rules | `(tactic| walk_at "fl") => `(tactic| first | exact Cm.fl0 | (refine' Cm.flS ?hz; (case hz => walk_at "fl")) | fail)
local macro_rules | `(tactic| walk_at "size") => `(tactic| first | exact Cm.sz_lit rfl | exact Cm.sz_lt rfl | exact Cm.fs_lt rfl | decide | (refine' Nat.lt_of_le_of_lt ?ha ?hb; (case ha => walk_at "fl"); (case hb => decide)) | (simp only [List.length_cons, List.length_nil, List.length_append, List.length_map, List.length_set, List.length_replicate, PySem.sizeLine_eq]; omega) | (simp only [List.length_cons, List.length_nil, List.length_append, List.length_map, List.length_set, List.length_replicate, PySem.sizeLine_eq] at *; omega) | fail)
local macro_rules | `(tactic| walk_at "at") => `(tactic| first | assumption | (with_reducible exact Cm.at0) | (with_reducible exact Cm.at1) | (with_reducible exact Cm.at2) | (with_reducible exact Cm.at3) | (with_reducible exact Cm.at4) | (with_reducible exact Cm.at5) | (with_reducible exact Cm.at6) | (with_reducible exact Cm.at7) | (with_reducible exact Cm.at8) | (with_reducible exact Cm.at0s) | (with_reducible exact Cm.at1s) | (with_reducible exact Cm.at01s) | (with_reducible exact Cm.at10s) | fail)
local macro_rules | `(tactic| walk_at "ix") => `(tactic| first | exact Cm.ix0 (by walk_at "size") | exact Cm.ix1 (by walk_at "size") | assumption | fail)
local macro_rules | `(tactic| walk_at "key") => `(tactic| first | assumption | fail)
local macro_rules | `(tactic| walk_at "ne") => `(tactic| first
  | assumption
  | (refine Ne.symm ?_; assumption)
  | (refine' L2.ne_of_none ?h1 ?h2; (case h2 => assumption); (case h1 => walk_at "look"))
  | (refine' Ne.symm (L2.ne_of_none ?h1 ?h2); (case h2 => assumption); (case h1 => walk_at "look"))
  | fail)
local macro_rules | `(tactic| walk_at "lookT") => `(tactic| first
  | assumption
  | exact L2.SqT.of (by walk_at "look")
  | fail)
local macro_rules | `(tactic| walk_at "look") => `(tactic| first
  | assumption
  | exact L2.upd_same
  | ((fail_if_success (with_reducible refine Eq.trans L2.upd_same ?_)); (refine' Eq.trans (L2.upd_ne ?h1) ?h2); (case h1 => walk_at "ne"); (case h2 => walk_at "look"))
  | (refine' Cm.kp_look ?h1 ?h2 ?h3 ?h4; (case h1 => assumption); (case h2 => walk_at "look"); (case h3 => intro _ z; cases z); (case h4 => first | exact Or.inl rfl | exact Or.inr (by walk_at "out")))
  | fail)
local macro_rules | `(tactic| walk_at "out") => `(tactic| first
  | assumption
  | exact fun z => z
  | exact fun z => z.elim (fun e => absurd e (by walk_at "ne")) (fun e => absurd e (by walk_at "ne"))
  | exact fun e => absurd e (by walk_at "ne")
  | fail)
local macro_rules | `(tactic| walk_at "dom") => `(tactic| first
  | exact Cm.dm_refl
  | (refine Cm.dm_upd ?_; walk_at "dom")
  | (refine' Cm.dm_kp ?h1 ?h2; (case h2 => assumption); (case h1 => walk_at "dom"))
  | fail)
local macro_rules | `(tactic| walk_at "free") => `(tactic| first
  | assumption
  | exact Cm.nw_of (by assumption)
  | (refine' Cm.dm_use ?h1 ?h2; (case h2 => assumption); (case h1 => walk_at "dom"))
  | (refine' Cm.dm_use2 ?h1 ?h2; (case h2 => assumption); (case h1 => walk_at "dom"))
  | fail)
local macro_rules | `(tactic| walk_at "in") => `(tactic| first
  | exact Or.inl rfl | exact Or.inl (Or.inl rfl) | exact Or.inl (Or.inr rfl) | exact Or.inl (Or.inr (Or.inl rfl)) | exact Or.inl (Or.inr (Or.inr rfl))
  | exact Or.inl (by assumption)
  | exact Or.inr (by walk_at "free")
  | fail)
local macro_rules | `(tactic| walk_at "kp") => `(tactic| first
  | assumption
  | exact Cm.Kp.refl
  | (refine' Cm.Kp.new' ?h1 ?h2; (case h2 => assumption); (case h1 => walk_at "kp"))
  | (refine' Cm.Kp.setL' ?h1 ?h2 ?h3; (case h2 => walk_at "look"); (case h3 => walk_at "in"); (case h1 => walk_at "kp"))
  | (refine' Cm.Kp.setI' ?h1 ?h2 ?h3; (case h2 => walk_at "look"); (case h3 => walk_at "in"); (case h1 => walk_at "kp"))
  | (refine' Cm.Kp.setD' ?h1 ?h2 ?h3; (case h2 => walk_at "look"); (case h3 => walk_at "in"); (case h1 => walk_at "kp"))
  | (refine' Cm.kp_step ?h1 ?h2 ?h3; (case h2 => assumption); (case h3 => walk_at "sub"); (case h1 => walk_at "kp"))
  | fail)
local macro_rules | `(tactic| walk_at "sub") => `(tactic| first
  | exact fun _ z => z.elim
  | exact fun _ z => Or.inl z
  | (intro a z; rcases z with rfl | rfl <;> walk_at "in")
  | (intro a z; subst z; walk_at "in")
  | fail)
local macro_rules | `(tactic| walk_at "num2") => `(tactic| first | decide | omega | fail)

local macro_rules | `(tactic| walk_at "isi") => `(tactic| first | (with_reducible refine Cm.isi_non_bool ?_) | (with_reducible refine Cm.isi_non_int ?_) | (with_reducible refine Cm.isi_non_str ?_) | (with_reducible refine Cm.isi_non_tuple ?_) | (with_reducible refine Cm.isi_non_list ?_) | (with_reducible refine Cm.isi_bl_bool ?_) | (with_reducible refine Cm.isi_bl_int ?_) | (with_reducible refine Cm.isi_bl_str ?_) | (with_reducible refine Cm.isi_bl_tuple ?_) | (with_reducible refine Cm.isi_bl_list ?_) | (with_reducible refine Cm.isi_int_bool ?_) | (with_reducible refine Cm.isi_int_int ?_) | (with_reducible refine Cm.isi_int_str ?_) | (with_reducible refine Cm.isi_int_tuple ?_) | (with_reducible refine Cm.isi_int_list ?_) | (with_reducible refine Cm.isi_str_bool ?_) | (with_reducible refine Cm.isi_str_int ?_) | (with_reducible refine Cm.isi_str_str ?_) | (with_reducible refine Cm.isi_str_tuple ?_) | (with_reducible refine Cm.isi_str_list ?_) | ((with_reducible refine' Cm.isi_tup_bool ?h1 ?_); (case h1 => walk_at "look")) | ((with_reducible refine' Cm.isi_tup_int ?h1 ?_); (case h1 => walk_at "look")) | ((with_reducible refine' Cm.isi_tup_str ?h1 ?_); (case h1 => walk_at "look")) | ((with_reducible refine' Cm.isi_tup_tuple ?h1 ?_); (case h1 => walk_at "look")) | ((with_reducible refine' Cm.isi_tup_list ?h1 ?_); (case h1 => walk_at "look")) | ((with_reducible refine' Cm.isi_lst_bool ?h1 ?_); (case h1 => walk_at "look")) | ((with_reducible refine' Cm.isi_lst_int ?h1 ?_); (case h1 => walk_at "look")) | ((with_reducible refine' Cm.isi_lst_str ?h1 ?_); (case h1 => walk_at "look")) | ((with_reducible refine' Cm.isi_lst_tuple ?h1 ?_); (case h1 => walk_at "look")) | ((with_reducible refine' Cm.isi_lst_list ?h1 ?_); (case h1 => walk_at "look")) | fail)

local macro_rules | `(tactic| walk_at "key") => `(tactic| first | exact W.dF_g_blocks | exact W.dF_g_pending | exact W.dF_g_left | exact W.dF_g_picks | exact W.dF_g_fallen | exact W.dF_n_need_block | exact W.dF_n_count | exact W.dF_n_write | exact W.dF_n_settle | exact W.dF_n_read | exact W.dF_n_arm | exact W.dF_n_stop | exact W.dF_n_again | exact W.dF_n_settled)
local macro_rules | `(tactic| walk_at "put") => `(tactic| first | exact W.dF_p_blocks | exact W.dF_p_pending | exact W.dF_p_left | exact W.dF_p_picks | exact W.dF_p_fallen)
local macro_rules | `(tactic| walk_at "size") => `(tactic| (rw [W.dF_len]; decide))

local macro_rules | `(tactic| walk_at "key") => `(tactic| first | exact W.oF_g_settled | exact W.oF_g_pending | exact W.oF_g_left | exact W.oF_g_picks | exact W.oF_g_fallen)
local macro_rules | `(tactic| walk_at "put") => `(tactic| first | exact W.oF_p_settled | exact W.oF_p_pending | exact W.oF_p_left | exact W.oF_p_picks | exact W.oF_p_fallen)
local macro_rules | `(tactic| walk_at "size") => `(tactic| (rw [W.oF_len]; decide))

namespace W
open PySem PySem.Spec PyProof.Rows L2 Cm
section
variable {w : World} {K : PySem.W.Frag} {mg : Str → Option Value}
theorem pure_weight_ {n : Nat} (vs : List V) (H : Hp) (Q : VK) (E : XK) (h : S_weight_ K (n + 1) vs H Q E) : t_weight_ K n E { nx := fun _ H' => Q .non H', rt := Q } (start N_weight_ vs) H := by
  obtain ⟨v, rfl, d, hv, hd, k⟩ := h
  unfold t_weight_
  walk_at "run"
  refine r_isi hv (.inr (.inr (.inr (.inl rfl)))) ?_
  cases h1 : isT d "tuple" with
  | false =>
    walk_at "run"
    have e : wt d = 1 := by
      cases d <;> first | (simp [isT] at h1; done) | simp [wt]
    rw [← e]
    exact k H Kp.refl
  | true =>
    cases d with
    | tuple ds =>
      cases n with
      | zero => cases hd
      | succ n =>
      obtain ⟨a, xs, rfl, ha, hA⟩ := hv
      obtain ⟨hz, hd⟩ := hd
      have hlen := hA.length
      walk_at "run"
      refine lcT ?_
      walk_at "run"
      intro Dl hD
      refine coreT (xs := xs) (fun i acc H' => Kp (tabs K) No H H' ∧ acc = ((ds.take i).map wt).map V.int) ⟨Kp.new hD, rfl⟩ (fun i acc H' z => z.1.tup ha) (fun i x acc H' hx hi hl z e => ?_) (fun acc H' hl z e => ?_)
      · obtain ⟨kp, rfl⟩ := z
        obtain ⟨d, hd1, hd2⟩ := hA.get hx
        unfold CStep
        walk_at "run"
        have hdd := hd d (List.mem_of_getElem? hd1)
        refine ⟨_, rfl, d, Dt.keep kp hdd hd2, hdd, fun H2 k2 => ?_⟩
        refine c_put (by walk_at "look") hl (by omega) ⟨by walk_at "kp", ?_⟩
        rw [wts_take hd1, List.map_append]; rfl
      · obtain ⟨kp, rfl⟩ := z
        refine ⟨Dl, (ds.map wt), rfl, ?_, ?_⟩
        · rw [hlen, List.take_length] at e
          exact SqL.of e
        · have q := k H' (by walk_at "kp")
          rw [show wt (.tuple ds) = wts ds from by simp [wt], wts_sum] at q
          exact q
    | _ => cases h1
theorem pure_alike_ {n : Nat} (vs : List V) (H : Hp) (Q : VK) (E : XK) (h : S_alike_ K (n + 1) vs H Q E) : t_alike_ K n E { nx := fun _ H' => Q .non H', rt := Q } (start N_alike_ vs) H := by
  obtain ⟨x, y, rfl, d, hx, hy, hd, k⟩ := h
  have k0 := k H Kp.refl
  unfold t_alike_
  cases d with
  | none =>
    obtain rfl : x = .non := hx
    obtain rfl : y = .non := hy
    walk_at "run"
    refine if_dT rfl ?_
    walk_at "run"
    exact q_dec rfl k0
  | bool b =>
    obtain rfl : x = .bl b := hx
    obtain rfl : y = .bl b := hy
    walk_at "run"
    refine if_dF (fun z => nomatch z) ?_
    walk_at "run"
    exact q_dec rfl k0
  | int b =>
    obtain rfl : x = .int b := hx
    obtain rfl : y = .int b := hy
    walk_at "run"
    refine if_dF (fun z => nomatch z) ?_
    walk_at "run"
    exact q_dec rfl k0
  | str b =>
    obtain rfl : x = .str b := hx
    obtain rfl : y = .str b := hy
    walk_at "run"
    refine if_dF (fun z => nomatch z) ?_
    walk_at "run"
    exact q_dec rfl k0
  | tuple ds =>
    cases n with
    | zero => cases hd
    | succ n =>
    obtain ⟨hz, hdd⟩ := id hd
    obtain ⟨a, xs, rfl, ha, hA⟩ := id hx
    obtain ⟨b, ys, rfl, hb, hB⟩ := id hy
    walk_at "run"
    refine if_dF (fun z => nomatch z) ?_
    walk_at "run"
    refine if_ndF rfl ?_
    walk_at "run"
    refine if_ndF rfl ?_
    have e1 := hA.length
    have e2 := hB.length
    walk_at "run"
    refine if_ndF (by rw [e1, e2]) ?_
    walk_at "run"
    refine forR (fun i σ' H' => ∃ v, σ' = [some (.ref a), some (.ref b), v] ∧ Kp (tabs K) No H H') ⟨none, rfl, Kp.refl⟩ ?_ ?_
    · rintro i σ' H' hi ⟨v, rfl, kp⟩
      obtain ⟨x1, hx1, hx2⟩ : ∃ x1, xs[i]? = some x1 ∧ True := ⟨_, List.getElem?_eq_getElem (by omega), trivial⟩
      obtain ⟨d, hd1, hd2⟩ := hA.get hx1
      obtain ⟨y1, hy1, hy2⟩ := hB.at hd1
      have at1 : atI xs (i : Int) = some x1 := atI_nat hx1
      have at2 : atI ys (i : Int) = some y1 := atI_nat hy1
      have hdn := hdd d (List.mem_of_getElem? hd1)
      walk_at "run"
      refine ⟨_, _, rfl, d, Dt.same kp hdn hd2, Dt.same kp hdn hy2, hdn, fun H2 k2 => ?_⟩
      walk_at "run"
      exact ⟨_, rfl, by walk_at "kp"⟩
    · rintro σ' H' ⟨v, rfl, kp⟩
      walk_at "run"
      exact k H' kp
  | list ds =>
    cases n with
    | zero => cases hd
    | succ n =>
    obtain ⟨hz, hdd⟩ := id hd
    obtain ⟨a, xs, rfl, ha, hA⟩ := id hx
    obtain ⟨b, ys, rfl, hb, hB⟩ := id hy
    walk_at "run"
    refine if_dF (fun z => nomatch z) ?_
    walk_at "run"
    refine if_ndF rfl ?_
    walk_at "run"
    refine if_ndF rfl ?_
    have e1 := hA.length
    have e2 := hB.length
    walk_at "run"
    refine if_ndF (by rw [e1, e2]) ?_
    walk_at "run"
    refine forR (fun i σ' H' => ∃ v, σ' = [some (.ref a), some (.ref b), v] ∧ Kp (tabs K) No H H') ⟨none, rfl, Kp.refl⟩ ?_ ?_
    · rintro i σ' H' hi ⟨v, rfl, kp⟩
      obtain ⟨x1, hx1, hx2⟩ : ∃ x1, xs[i]? = some x1 ∧ True := ⟨_, List.getElem?_eq_getElem (by omega), trivial⟩
      obtain ⟨d, hd1, hd2⟩ := hA.get hx1
      obtain ⟨y1, hy1, hy2⟩ := hB.at hd1
      have at1 : atI xs (i : Int) = some x1 := atI_nat hx1
      have at2 : atI ys (i : Int) = some y1 := atI_nat hy1
      have hdn := hdd d (List.mem_of_getElem? hd1)
      walk_at "run"
      refine ⟨_, _, rfl, d, Dt.same kp hdn hd2, Dt.same kp hdn hy2, hdn, fun H2 k2 => ?_⟩
      walk_at "run"
      exact ⟨_, rfl, by walk_at "kp"⟩
    · rintro σ' H' ⟨v, rfl, kp⟩
      walk_at "run"
      exact k H' kp
  | dict ds => exact hx.elim
end
end W

end
section
/-! ### M0: words for walking through a reading (local) -/
local macro_rules | `(tactic| walk_at "st") => `(tactic| first
  | (with_reducible refine Cm.s_seq ?_) | (with_reducible refine Cm.s_asg ?_) | (with_reducible refine Cm.s_drop ?_) | (with_reducible refine Cm.s_ret ?_) | (with_reducible refine Cm.s_if ?_) | (with_reducible refine Cm.s_next ?_) | (with_reducible refine Cm.s_retN ?_) | (with_reducible refine Cm.s_rs ?_) | (with_reducible refine Cm.s_fld0 ?_)
  | ((with_reducible refine' Cm.e_var ?hv ?_); (case hv => exact rfl))
  | (with_reducible refine Cm.e_c ?_) | (with_reducible refine Cm.e_op ?_) | (with_reducible refine Cm.e_un ?_) | (with_reducible refine Cm.e_nil ?_) | (with_reducible refine Cm.e_cons ?_) | (with_reducible refine Cm.e_tup ?_) | (with_reducible refine Cm.e_lst ?_) | (with_reducible refine Cm.e_cb ?_) | (with_reducible refine Cm.e_call ?_) | (with_reducible refine Cm.e_if ?_)
  | (with_reducible refine Cm.e_andV ?_) | (with_reducible refine Cm.e_orV ?_) | (with_reducible refine Cm.e_notV ?_) | (with_reducible refine Cm.e_fld0 ?_) | (with_reducible refine Cm.e_meth0 ?_) | (with_reducible refine Cm.e_bm0 ?_) | (with_reducible refine Cm.e_bm ?_) | (with_reducible refine Cm.e_sl ?_) | (with_reducible refine Cm.o_none ?_) | (with_reducible refine Cm.o_some ?_) | (with_reducible refine Cm.e_dnew ?_)
  | (with_reducible refine Cm.e_test ?_) | (with_reducible refine Cm.e_tr ?_) | (with_reducible refine Cm.e_and ?_) | (with_reducible refine Cm.e_or ?_) | (with_reducible refine Cm.e_not ?_) | (with_reducible refine Cm.e_yes ?_) | (with_reducible refine Cm.e_chain ?_)
  | (with_reducible refine Cm.r_i0 ?_) | (with_reducible refine Cm.r_u ?_) | (with_reducible refine Cm.r_isNo ?_) | (with_reducible refine Cm.r_notNo ?_) | (with_reducible refine Cm.r_addI ?_) | (with_reducible refine Cm.r_int1b ?_) | (with_reducible refine Cm.r_max2 ?_)
  | ((with_reducible refine Cm.r_i ?hc ?_); (case hc => walk_at "num"))
  | ((with_reducible refine Cm.r_mulI ?hc ?_); (case hc => walk_at "num"))
  | ((with_reducible refine Cm.r_eqS ?hc ?_); (case hc => exact rfl))
  | ((with_reducible refine Cm.r_neS ?hc ?_); (case hc => exact rfl))
  | ((with_reducible refine' Cm.r_ixl ?h1 ?h2 ?_); (case h1 => walk_at "look"); (case h2 => walk_at "at"))
  | ((with_reducible refine' Cm.r_ixt ?h1 ?h2 ?_); (case h1 => walk_at "look"); (case h2 => walk_at "at"))
  | ((with_reducible refine' Cm.r_ixT ?h1 ?h2 ?_); (case h1 => walk_at "lookT"); (case h2 => walk_at "at"))
  | ((with_reducible refine' Cm.r_ixds ?h1 ?h2 ?_); (case h1 => walk_at "look"); (case h2 => walk_at "key"))
  | ((with_reducible refine' Cm.r_eqe ?h1 ?h2 ?_); (case h1 => walk_at "look"); (case h2 => walk_at "look"))
  | ((with_reducible refine' Cm.r_nee ?h1 ?h2 ?_); (case h1 => walk_at "look"); (case h2 => walk_at "look"))
  | ((with_reducible refine' Cm.r_lenl ?h1 ?_); (case h1 => walk_at "look"))
  | ((with_reducible refine' Cm.r_lent ?h1 ?_); (case h1 => walk_at "look"))
  | ((with_reducible refine' Cm.r_lenT ?h1 ?_); (case h1 => walk_at "lookT"))
  | ((with_reducible refine' Cm.r_listl ?h1 ?_); (case h1 => walk_at "look"); (intro _ _))
  | ((with_reducible refine' Cm.r_tupl ?h1 ?_); (case h1 => walk_at "look"); (intro _ _))
  | ((with_reducible refine' Cm.r_addL ?h1 ?h2 ?h3 ?_); (case h1 => walk_at "look"); (case h2 => walk_at "look"); (case h3 => walk_at "size"); (intro _ _))
  | ((with_reducible refine' Cm.m_append ?h1 ?h2 ?_); (case h1 => walk_at "look"); (case h2 => walk_at "size"))
  | ((with_reducible refine' Cm.m_clear ?h1 ?_); (case h1 => walk_at "look"))
  | ((with_reducible refine' Cm.g_setL ?h1 ?h2 ?_); (case h1 => walk_at "look"); (case h2 => walk_at "ix"))
  | ((with_reducible refine' Cm.g_setDs ?h1 ?h2 ?h3 ?_); (case h1 => walk_at "look"); (case h2 => walk_at "size"); (case h3 => walk_at "put"))
  | ((with_reducible refine' Cm.fld_at ?h1 ?h2 ?h3 ?h4 ?_); (case h1 => walk_at "look"); (case h2 => assumption); (case h3 => assumption); (case h4 => walk_at "key"))
  | ((with_reducible refine' Cm.fldset_at ?h1 ?h2 ?h3 ?h4 ?h5 ?_); (case h1 => walk_at "look"); (case h2 => assumption); (case h3 => assumption); (case h4 => walk_at "size"); (case h5 => walk_at "put"))
  | (with_reducible refine Cm.s_fldaug0 ?_)
  | ((with_reducible refine' Cm.aug_at ?h1 ?h2 ?h3 ?h4 ?_); (case h1 => walk_at "look"); (case h2 => assumption); (case h3 => assumption); (case h4 => walk_at "key"))
  | ((with_reducible refine' Cm.augset_at ?h1 ?h4 ?h5 ?_); (case h1 => walk_at "look"); (case h4 => walk_at "size"); (case h5 => walk_at "put"))
  | (with_reducible refine Cm.in_sub_at ?_) | (with_reducible refine Cm.in_add_at ?_)
  | ((with_reducible refine' Cm.meth_at ?h1 ?h2 ?_); (case h1 => walk_at "look"); (case h2 => walk_at "key"))
  | ((with_reducible refine Cm.new_at ?h1 ?_); (case h1 => walk_at "size"); (intro _ _))
  | ((with_reducible refine Cm.and_at (A := L2.tyV _ _ _ _) ?h1 ?_); (case h1 => exact Cm.ty_lst (by walk_at "look")))
  | ((with_reducible refine' Cm.g_tupt ?h1 ?h2 ?_); (case h1 => walk_at "look"); (case h2 => exact rfl))
  | ((with_reducible refine' Cm.g_tup ?h1 ?h2 ?_); (case h1 => walk_at "lookT"); (case h2 => exact rfl))
  | (with_reducible refine Cm.g_name ?_) | (with_reducible refine Cm.g_sub ?_) | (with_reducible refine Cm.g_cons ?_) | (with_reducible refine Cm.g_nil ?_)
  | (with_reducible refine Cm.int_at ?_) | (with_reducible refine Cm.bl_at ?_) | (with_reducible refine Cm.tr_bl ?_) | (with_reducible refine Cm.tr_non ?_)
  | ((with_reducible refine' Cm.m_pop0 ?h1 ?_); (case h1 => walk_at "look"))
  | ((with_reducible refine' Cm.r_slTo ?h1 ?h2 ?_); (case h1 => walk_at "look"); (case h2 => walk_at "num2"); (intro _ _))
  | ((with_reducible refine' Cm.r_slFrom ?h1 ?h2 ?_); (case h1 => walk_at "look"); (case h2 => walk_at "num2"); (intro _ _))
  | ((with_reducible refine' Cm.at_forL ?h1 ?_); (case h1 => walk_at "look"))
  | ((with_reducible refine' Cm.at_forT ?h1 ?_); (case h1 => walk_at "look"))
  | ((with_reducible refine' Cm.at_forR ?h1 ?h2 ?_); (case h1 => walk_at "num2"); (case h2 => walk_at "num2"))
  | ((with_reducible refine' Cm.at_forZ ?h1 ?h2 ?_); (case h1 => walk_at "look"); (case h2 => walk_at "look"))
  | (with_reducible refine Cm.s_forZ ?_) | (with_reducible refine Cm.s_forR ?_)
  | ((with_reducible refine Cm.and_at (A := _ = _) ?h1 ?_); (case h1 => exact rfl))
  | ((with_reducible show L2.rIsi _ _ _ _); walk_at "isi")
  | (with_reducible refine Cm.ite_nt ?_) | (with_reducible refine Cm.ite_nf ?_)
  | (with_reducible refine L2.iteT ?_) | (with_reducible refine L2.iteF ?_)
  | dsimp only
  | fail)
local macro_rules | `(tactic| walk_at "run") => `(tactic| repeat (walk_at "st"))
local macro_rules | `(tactic| walk_at "num") => `(tactic| first
  | exact Or.inr ⟨by decide, by decide⟩ | exact Or.inl ⟨by decide, by decide⟩
  | exact Cm.wdiv (by first | decide | omega) (by first | decide | omega)
  | (show (0 : Int) < _; first | decide | omega)
  | exact ⟨by decide, by decide, by decide⟩
  | fail)
local macro_rules | `(tactic| walk_at "put") => `(tactic| exact rfl)
local macro_rules | `(tactic| walk_at "fl") => `(tactic| first | exact Cm.fl0 | (refine' Cm.flS ?hz; (case hz => walk_at "fl")) | fail)
local macro_rules | `(tactic| walk_at "size") => `(tactic| first | exact Cm.sz_lit rfl | exact Cm.sz_lt rfl | exact Cm.fs_lt rfl | decide | (refine' Nat.lt_of_le_of_lt ?ha ?hb; (case ha => walk_at "fl"); (case hb => decide)) | (simp only [List.length_cons, List.length_nil, List.length_append, List.length_map, List.length_set, List.length_replicate, PySem.sizeLine_eq]; omega) | (simp only [List.length_cons, List.length_nil, List.length_append, List.length_map, List.length_set, List.length_replicate, PySem.sizeLine_eq] at *; omega) | fail)
local macro_rules | `(tactic| walk_at "at") => `(tactic| first | assumption | (with_reducible exact Cm.at0) | (with_reducible exact Cm.at1) | (with_reducible exact Cm.at2) | (with_reducible exact Cm.at3) | (with_reducible exact Cm.at4) | (with_reducible exact Cm.at5) | (with_reducible exact Cm.at6) | (with_reducible exact Cm.at7) | (with_reducible exact Cm.at8) | (with_reducible exact Cm.at0s) | (with_reducible exact Cm.at1s) | (with_reducible exact Cm.at01s) | (with_reducible exact Cm.at10s) | fail)
local macro_rules | `(tactic| walk_at "ix") => `(tactic| first | exact Cm.ix0 (by walk_at "size") | exact Cm.ix1 (by walk_at "size") | assumption | fail)
local macro_rules | `(tactic| walk_at "key") => `(tactic| first | assumption | fail)
local macro_rules | `(tactic| walk_at "ne") => `(tactic| first
  | assumption
  | (refine Ne.symm ?_; assumption)
  | (refine' L2.ne_of_none ?h1 ?h2; (case h2 => assumption); (case h1 => walk_at "look"))
  | (refine' Ne.symm (L2.ne_of_none ?h1 ?h2); (case h2 => assumption); (case h1 => walk_at "look"))
  | fail)
local macro_rules | `(tactic| walk_at "lookT") => `(tactic| first
  | assumption
  | exact L2.SqT.of (by walk_at "look")
  | fail)
local macro_rules | `(tactic| walk_at "look") => `(tactic| first
  | assumption
  | exact L2.upd_same
  | ((fail_if_success (with_reducible refine Eq.trans L2.upd_same ?_)); (refine' Eq.trans (L2.upd_ne ?h1) ?h2); (case h1 => walk_at "ne"); (case h2 => walk_at "look"))
  | (refine' Cm.kp_look ?h1 ?h2 ?h3 ?h4; (case h1 => assumption); (case h2 => walk_at "look"); (case h3 => intro _ z; cases z); (case h4 => first | exact Or.inl rfl | exact Or.inr (by walk_at "out")))
  | fail)
local macro_rules | `(tactic| walk_at "out") => `(tactic| first
  | assumption
  | exact fun z => z
  | exact fun z => z.elim (fun e => absurd e (by walk_at "ne")) (fun e => absurd e (by walk_at "ne"))
  | exact fun e => absurd e (by walk_at "ne")
  | fail)
local macro_rules | `(tactic| walk_at "dom") => `(tactic| first
  | exact Cm.dm_refl
  | (refine Cm.dm_upd ?_; walk_at "dom")
  | (refine' Cm.dm_kp ?h1 ?h2; (case h2 => assumption); (case h1 => walk_at "dom"))
  | fail)
local macro_rules | `(tactic| walk_at "free") => `(tactic| first
  | assumption
  | exact Cm.nw_of (by assumption)
  | (refine' Cm.dm_use ?h1 ?h2; (case h2 => assumption); (case h1 => walk_at "dom"))
  | (refine' Cm.dm_use2 ?h1 ?h2; (case h2 => assumption); (case h1 => walk_at "dom"))
  | fail)
local macro_rules | `(tactic| walk_at "in") => `(tactic| first
  | exact Or.inl rfl | exact Or.inl (Or.inl rfl) | exact Or.inl (Or.inr rfl) | exact Or.inl (Or.inr (Or.inl rfl)) | exact Or.inl (Or.inr (Or.inr rfl))
  | exact Or.inl (by assumption)
  | exact Or.inr (by walk_at "free")
  | fail)
local macro_rules | `(tactic| walk_at "kp") => `(tactic| first
  | assumption
  | exact Cm.Kp.refl
  | (refine' Cm.Kp.new' ?h1 ?h2; (case h2 => assumption); (case h1 => walk_at "kp"))
  | (refine' Cm.Kp.setL' ?h1 ?h2 ?h3; (case h2 => walk_at "look"); (case h3 => walk_at "in"); (case h1 => walk_at "kp"))
  | (refine' Cm.Kp.setI' ?h1 ?h2 ?h3; (case h2 => walk_at "look"); (case h3 => walk_at "in"); (case h1 => walk_at "kp"))
  | (refine' Cm.Kp.setD' ?h1 ?h2 ?h3; (case h2 => walk_at "look"); (case h3 => walk_at "in"); (case h1 => walk_at "kp"))
  | (refine' Cm.kp_step ?h1 ?h2 ?h3; (case h2 => assumption); (case h3 => walk_at "sub"); (case h1 => walk_at "kp"))
  | fail)
local macro_rules | `(tactic| walk_at "sub") => `(tactic| first
  | exact fun _ z => z.elim
  | exact fun _ z => Or.inl z
  | (intro a z; rcases z with rfl | rfl <;> walk_at "in")
  | (intro a z; subst z; walk_at "in")
  | fail)
local macro_rules | `(tactic| walk_at "num2") => `(tactic| first | decide | omega | fail)

local macro_rules | `(tactic| walk_at "isi") => `(tactic| first | (with_reducible refine Cm.isi_non_bool ?_) | (with_reducible refine Cm.isi_non_int ?_) | (with_reducible refine Cm.isi_non_str ?_) | (with_reducible refine Cm.isi_non_tuple ?_) | (with_reducible refine Cm.isi_non_list ?_) | (with_reducible refine Cm.isi_bl_bool ?_) | (with_reducible refine Cm.isi_bl_int ?_) | (with_reducible refine Cm.isi_bl_str ?_) | (with_reducible refine Cm.isi_bl_tuple ?_) | (with_reducible refine Cm.isi_bl_list ?_) | (with_reducible refine Cm.isi_int_bool ?_) | (with_reducible refine Cm.isi_int_int ?_) | (with_reducible refine Cm.isi_int_str ?_) | (with_reducible refine Cm.isi_int_tuple ?_) | (with_reducible refine Cm.isi_int_list ?_) | (with_reducible refine Cm.isi_str_bool ?_) | (with_reducible refine Cm.isi_str_int ?_) | (with_reducible refine Cm.isi_str_str ?_) | (with_reducible refine Cm.isi_str_tuple ?_) | (with_reducible refine Cm.isi_str_list ?_) | ((with_reducible refine' Cm.isi_tup_bool ?h1 ?_); (case h1 => walk_at "look")) | ((with_reducible refine' Cm.isi_tup_int ?h1 ?_); (case h1 => walk_at "look")) | ((with_reducible refine' Cm.isi_tup_str ?h1 ?_); (case h1 => walk_at "look")) | ((with_reducible refine' Cm.isi_tup_tuple ?h1 ?_); (case h1 => walk_at "look")) | ((with_reducible refine' Cm.isi_tup_list ?h1 ?_); (case h1 => walk_at "look")) | ((with_reducible refine' Cm.isi_lst_bool ?h1 ?_); (case h1 => walk_at "look")) | ((with_reducible refine' Cm.isi_lst_int ?h1 ?_); (case h1 => walk_at "look")) | ((with_reducible refine' Cm.isi_lst_str ?h1 ?_); (case h1 => walk_at "look")) | ((with_reducible refine' Cm.isi_lst_tuple ?h1 ?_); (case h1 => walk_at "look")) | ((with_reducible refine' Cm.isi_lst_list ?h1 ?_); (case h1 => walk_at "look")) | fail)

local macro_rules | `(tactic| walk_at "key") => `(tactic| first | exact W.dF_g_blocks | exact W.dF_g_pending | exact W.dF_g_left | exact W.dF_g_picks | exact W.dF_g_fallen | exact W.dF_n_need_block | exact W.dF_n_count | exact W.dF_n_write | exact W.dF_n_settle | exact W.dF_n_read | exact W.dF_n_arm | exact W.dF_n_stop | exact W.dF_n_again | exact W.dF_n_settled)
local macro_rules | `(tactic| walk_at "put") => `(tactic| first | exact W.dF_p_blocks | exact W.dF_p_pending | exact W.dF_p_left | exact W.dF_p_picks | exact W.dF_p_fallen)
local macro_rules | `(tactic| walk_at "size") => `(tactic| (rw [W.dF_len]; decide))

local macro_rules | `(tactic| walk_at "key") => `(tactic| first | exact W.oF_g_settled | exact W.oF_g_pending | exact W.oF_g_left | exact W.oF_g_picks | exact W.oF_g_fallen)
local macro_rules | `(tactic| walk_at "put") => `(tactic| first | exact W.oF_p_settled | exact W.oF_p_pending | exact W.oF_p_left | exact W.oF_p_picks | exact W.oF_p_fallen)
local macro_rules | `(tactic| walk_at "size") => `(tactic| (rw [W.oF_len]; decide))

namespace W
open PySem PySem.Spec PyProof.Rows L2 Cm
section
variable {w : World} {K : PySem.W.Frag} {mg : Str → Option Value}
theorem oF_made {b n : Addr} {l : V} {k : Addr} {f : Bool} : mergeK [] [(.inr "settled", .ref b), (.inr "pending", .ref n), (.inr "left", l), (.inr "picks", .ref k), (.inr "fallen", .bl f)] = oF b n l k f := by kernel_rfl
theorem flat_one {α : Type} (x : α) : ∀ n : Nat, (List.replicate n [x]).flatten = List.replicate n x
  | 0 => rfl
  | n + 1 => by rw [List.replicate_succ, List.flatten_cons, flat_one x n]; rfl
theorem pure_made_ (vs : List V) (H : Hp) (Q : VK) (E : XK) (h : S_made_ K vs H Q E) : t_made_ K E { nx := fun _ H' => Q .non H', rt := Q } (start N_made_ vs) H := by
  obtain ⟨rfl, k⟩ := h
  unfold t_made_
  walk_at "run"
  refine e_disp fun q hq => ?_
  refine e_pcons ?_
  walk_at "run"
  rename_i z hz
  refine r_rep upd_same (by decide) (by decide) (by decide) fun b hb => ?_
  rw [flat_one]
  refine e_pcons ?_
  walk_at "run"
  rename_i n hn
  refine e_pcons ?_
  walk_at "run"
  refine e_pcons ?_
  walk_at "run"
  rename_i kk hk
  refine e_pcons ?_
  walk_at "run"
  refine e_pnil ?_
  have e1 : q ≠ z := by walk_at "ne"
  have e2 : q ≠ b := by walk_at "ne"
  have e3 : q ≠ n := by walk_at "ne"
  have e4 : q ≠ kk := by walk_at "ne"
  have e5 : b ≠ n := by walk_at "ne"
  have e6 : b ≠ kk := by walk_at "ne"
  have e7 : n ≠ kk := by walk_at "ne"
  refine ⟨by walk_at "look", [(.inr "settled", .ref b), (.inr "pending", .ref n), (.inr "left", .non), (.inr "picks", .ref kk), (.inr "fallen", .bl false)], rfl, (by show 5 ≤ 15; decide), ?_⟩
  rw [oF_made]
  refine k q _ (fun a => a = q ∨ a = b ∨ a = n ∨ a = kk) ⟨b, n, kk, List.replicate 35 .non, [], by walk_at "look", by walk_at "look", dta_nones 35, by walk_at "look", rfl, by walk_at "look", ⟨e5, e6, e7⟩, ok0, fun a => Iff.rfl⟩ (by walk_at "kp") (fun a ha => ?_)
  rcases ha with rfl | rfl | rfl | rfl
  · exact .inl hq
  · walk_at "free"
  · walk_at "free"
  · walk_at "free"
theorem atB {bits : List Bool} {i : Nat} {m : Nat} (h : i < m) : ∃ b, (bits ++ List.replicate m false)[i]? = some b := by
  have hl : i < (bits ++ List.replicate m false).length := by rw [List.length_append, List.length_replicate]; omega
  exact ⟨_, List.getElem?_eq_getElem hl⟩
theorem pure_fall_ (vs : List V) (H : Hp) (Q : VK) (E : XK) (h : S_fall_ K vs H Q E) : t_fall_ K E { nx := fun _ H' => Q .non H', rt := Q } (start N_fall_ vs) H := by
  obtain ⟨_, _, rfl, q, S, F, l, bits, rfl, rfl, ⟨b, n, kk, bs, ns, h1, h2, d2, h3, d3, h4, ⟨ne1, ne2, ne3⟩, o, f⟩, hl, hpl, hbl, hne, k⟩ := h
  have elb : l ≠ b := hne _ _ _ _ _ h1
  have fq : F q := (f q).mpr (.inl rfl)
  have fb : F b := (f b).mpr (.inr (.inl rfl))
  have eqb : q ≠ b := ne_of h1 h2 (fun z => nomatch z)
  have eqn : q ≠ n := ne_of h1 h3 (fun z => nomatch z)
  have eqk : q ≠ kk := ne_of h1 h4 (fun z => nomatch z)
  have hnl := d3.length
  rw [List.length_map] at hnl
  unfold t_fall_
  walk_at "run"
  refine forR (fun i σ' H' => ∃ v1 v2 v3 bs', σ' = [some (.ref q), some (.ref l), v1, v2, v3] ∧ Kp (tabs K) (fun a => a = b) H H' ∧ H' b = some (.lst bs') ∧
    DtA H' bs' (((S.pending.zip (bits ++ List.replicate 200 false)).take i).foldl fapl S.blocks)) ?_ ?_ ?_
  · exact ⟨none, none, none, bs, rfl, Kp.refl, h2, d2⟩
  · rintro i σ' H' hi ⟨v1, v2, v3, bs', rfl, kp, g2, gd⟩
    have hin : i < ns.length := by omega
    obtain ⟨x, hx⟩ : ∃ x, ns[i]? = some x := ⟨_, List.getElem?_eq_getElem hin⟩
    obtain ⟨qq, t2, v, hqq, rfl, ht2, hv⟩ := pr_get d3 hx
    obtain ⟨bt, hbt⟩ := atB (bits := bits) (i := i) (m := 200) (by omega)
    have hok := o.pe qq (List.mem_of_getElem? hqq)
    have ht3 := kp.tup ht2
    have g1 := kp.dK h1 (by exact eqb)
    have g3 := kp.lst h3 (by exact ne1.symm)
    have gl := kp.lst hl (by exact elb)
    have fo := fapls_ok (qs := (S.pending.zip (bits ++ List.replicate 200 false)).take i) o.bl fun q hq => (o.pe q.1 (List.of_mem_zip (List.mem_of_mem_take hq)).1).2.2
    have hlen : bs'.length = 35 := gd.length.trans (fo.2.trans o.len)
    have hix : ixN bs'.length qq.1 = some qq.1.toNat := ix_nat hok.1 (by rw [hlen]; exact hok.2.1)
    have hat : atI ns (i : Int) = some (.ref t2) := atI_nat hx
    have ezip : (S.pending.zip (bits ++ List.replicate 200 false)).take (i + 1) = (S.pending.zip (bits ++ List.replicate 200 false)).take i ++ [(qq, bt)] := zip_take hqq hbt
    walk_at "run"
    rename_i l2 hl2 z hz
    refine r_rep upd_same (by decide) (by decide) (by decide) fun y hy => ?_
    rw [flat_one]
    have e1 : l2 ≠ z := by walk_at "ne"
    have e2 : l2 ≠ y := by walk_at "ne"
    walk_at "run"
    rename_i u hu
    have hat2 : atI (bits.map V.bl ++ List.replicate (Int.toNat 200) (V.bl false)) (i : Int) = some (.bl bt) := by
      refine atI_nat ?_
      rw [show bits.map V.bl ++ List.replicate (Int.toNat 200) (V.bl false) = (bits ++ List.replicate 200 false).map V.bl by simp, List.getElem?_map, hbt]; rfl
    walk_at "run"
    have kt : Kp (tabs K) No H' (upd (upd (upd (upd H' l2 (.lst (bits.map V.bl))) z (.lst [.bl false])) y (.lst (List.replicate (Int.toNat 200) (.bl false)))) u (.lst (bits.map V.bl ++ List.replicate (Int.toNat 200) (.bl false)))) := by walk_at "kp"
    revert kt
    generalize hHH : (upd (upd (upd (upd H' l2 (.lst (bits.map V.bl))) z (.lst [.bl false])) y (.lst (List.replicate (Int.toNat 200) (.bl false)))) u (.lst (bits.map V.bl ++ List.replicate (Int.toNat 200) (.bl false)))) = HH
    intro kt
    have w1 := kt.dK g1 (fun z => z)
    have w2 := kt.lst g2 (fun z => z)
    have wd := gd.keep kt fo.1
    have kpp : Kp (tabs K) (fun a => a = b) H HH := kp.trans kt fun _ z => z.elim
    cases bt with
    | true =>
      walk_at "run"
      have kb : Kp (tabs K) (fun a => a = b) HH (upd HH b (.lst (bs'.set qq.1.toNat v))) := Kp.setL w2 rfl
      have kn : Kp (tabs K) (fun a => a = b) H (upd HH b (.lst (bs'.set qq.1.toNat v))) := by walk_at "kp"
      refine ⟨_, _, _, _, rfl, kn, upd_same, ?_⟩
      rw [ezip, List.foldl_append]
      exact (wd.keep kb fo.1).set (Dt.keep kn hok.2.2 hv)
    | false =>
      walk_at "run"
      refine ⟨_, _, _, _, rfl, kpp, w2, ?_⟩
      rw [ezip, List.foldl_append]
      exact wd
  · rintro σ' H' ⟨v1, v2, v3, bs', rfl, kp, g2, gd⟩
    have g1 := kp.dK h1 (by exact eqb)
    have g4 := kp.lst h4 (by exact ne2.symm)
    have em : (S.pending.zip (bits ++ List.replicate 200 false)).length = ns.length := by
      rw [List.length_zip, List.length_append, List.length_replicate]; omega
    rw [show ((ns.length : Nat) : Int).toNat = ns.length by omega, ← em, List.take_length, fal_pad] at gd
    walk_at "run"
    rename_i m hm
    have ok' := o.fal bits
    have e1 : b ≠ m := by walk_at "ne"
    have e2 : m ≠ kk := by walk_at "ne"
    have kb : Kp (tabs K) (fun a => a = q) H' (upd (upd (upd H' m (.lst [])) q (.dK (oF b m (lv S.left) kk S.fallen))) q (.dK (oF b m (lv S.left) kk true))) := by walk_at "kp"
    have kn : Kp (tabs K) F H (upd (upd (upd H' m (.lst [])) q (.dK (oF b m (lv S.left) kk S.fallen))) q (.dK (oF b m (lv S.left) kk true))) := (kp.mono fun a z => by rw [z]; exact fb).trans kb fun a z => by rw [z]; exact .inl fq
    refine k _ (fun a => a = q ∨ a = b ∨ a = m ∨ a = kk) ⟨b, m, kk, bs', [], by walk_at "look", by walk_at "look", gd.keep kb ok'.bl, by walk_at "look", rfl, by walk_at "look", ⟨e1, ne2, e2⟩, ok', fun a => Iff.rfl⟩ ⟨kn, fun a ha => ?_⟩
    rcases ha with rfl | rfl | rfl | rfl
    · exact .inl fq
    · exact .inl fb
    · exact .inr (by walk_at "free")
    · exact .inl ((f _).mpr (.inr (.inr (.inr rfl))))
theorem pure_count_ (vs : List V) (H : Hp) (Q : VK) (E : XK) (h : S_count_ K vs H Q E) : t_count_ K E { nx := fun _ H' => Q .non H', rt := Q } (start N_count_ vs) H := by
  obtain ⟨_, rfl, q, ⟨sb, sp, sl, sk, sf⟩, F, rfl, OA, hp, hk, k⟩ := h
  obtain ⟨b, n, kk, bs, ns, h1, h2, d2, h3, d3, h4, ⟨ne1, ne2, ne3⟩, o, f⟩ := id OA
  have fq : F q := (f q).mpr (.inl rfl)
  have st0 : Stp (tabs K) F F H H := ⟨Kp.refl, fun a ha => .inl ha⟩
  have h1 : H q = some (.dK (oF b n (lv sl) kk sf)) := h1
  have h4 : H kk = some (.lst (sk.map V.bl)) := h4
  unfold t_count_
  cases sf with
  | true =>
    walk_at "run"
    have e : (DS.mk sb sp sl sk true).cnt = (false, DS.mk sb sp sl sk true) := by unfold DS.cnt; rw [if_pos rfl]
    rw [e] at k
    exact k H F OA st0
  | false =>
    cases sl with
    | none =>
      have h1 : H q = some (.dK (oF b n .non kk false)) := h1
      have e : (DS.mk sb sp none sk false).cnt = (true, DS.mk sb sp none sk false) := rfl
      rw [e] at k
      walk_at "run"
      refine if_dF (fun z => nomatch z) ?_
      walk_at "run"
      refine if_ndF rfl ?_
      walk_at "run"
      exact k H F OA st0
    | some i =>
      have h1 : H q = some (.dK (oF b n (.int i) kk false)) := h1
      walk_at "run"
      refine if_d (fun hz => ?_) (fun hz => ?_)
      · have hz : i = 0 := V.int.inj hz
        subst hz
        have e : (DS.mk sb sp (some 0) sk false).cnt = (false, (DS.mk sb sp (some 0) sk false).fal sk) := rfl
        rw [e] at k
        walk_at "run"
        refine ⟨_, _, rfl, q, _, F, kk, sk, rfl, rfl, OA, h4, hp, hk, fun b' n' v' k' f' e' => ?_, fun H' F' D' st => ?_⟩
        · rw [h1] at e'
          injection e' with e'
          injection e' with e'
          injection e' with e1 e2
          injection e1 with _ e1
          injection e1 with e1
          rw [← e1]; exact ne2.symm
        walk_at "run"
        exact k H' F' D' st
      · have e : (DS.mk sb sp (some i) sk false).cnt = (true, (DS.mk sb sp (some (i - 1)) sk false)) := by
          unfold DS.cnt
          rw [if_neg (show ¬ (false = true) by decide), if_neg (fun z => hz (by injection z with z; rw [z]))]; rfl
        rw [e] at k
        walk_at "run"
        refine if_ndT (fun z => nomatch z) ?_
        walk_at "run"
        have epb : q ≠ b := ne_of h1 h2 (fun z => nomatch z)
        have epn : q ≠ n := ne_of h1 h3 (fun z => nomatch z)
        have epk : q ≠ kk := ne_of h1 h4 (fun z => nomatch z)
        have kn : Kp (tabs K) (fun a => a = q) H (upd H q (.dK (oF b n (.int (i - 1)) kk false))) := by walk_at "kp"
        refine k _ F ⟨b, n, kk, bs, ns, upd_same, by walk_at "look", d2.keep kn o.bl, by walk_at "look", d3.keep kn o.prs, by walk_at "look", ⟨ne1, ne2, ne3⟩, ⟨o.len, o.bl, o.pe⟩, f⟩ ⟨kn.mono fun a ha => by rw [ha]; exact fq, fun a ha => .inl ha⟩
end
end W

end
section
/-! ### M0: words for walking through a reading (local) -/
local macro_rules | `(tactic| walk_at "st") => `(tactic| first
  | (with_reducible refine Cm.s_seq ?_) | (with_reducible refine Cm.s_asg ?_) | (with_reducible refine Cm.s_drop ?_) | (with_reducible refine Cm.s_ret ?_) | (with_reducible refine Cm.s_if ?_) | (with_reducible refine Cm.s_next ?_) | (with_reducible refine Cm.s_retN ?_) | (with_reducible refine Cm.s_rs ?_) | (with_reducible refine Cm.s_fld0 ?_)
  | ((with_reducible refine' Cm.e_var ?hv ?_); (case hv => exact rfl))
  | (with_reducible refine Cm.e_c ?_) | (with_reducible refine Cm.e_op ?_) | (with_reducible refine Cm.e_un ?_) | (with_reducible refine Cm.e_nil ?_) | (with_reducible refine Cm.e_cons ?_) | (with_reducible refine Cm.e_tup ?_) | (with_reducible refine Cm.e_lst ?_) | (with_reducible refine Cm.e_cb ?_) | (with_reducible refine Cm.e_call ?_) | (with_reducible refine Cm.e_if ?_)
  | (with_reducible refine Cm.e_andV ?_) | (with_reducible refine Cm.e_orV ?_) | (with_reducible refine Cm.e_notV ?_) | (with_reducible refine Cm.e_fld0 ?_) | (with_reducible refine Cm.e_meth0 ?_) | (with_reducible refine Cm.e_bm0 ?_) | (with_reducible refine Cm.e_bm ?_) | (with_reducible refine Cm.e_sl ?_) | (with_reducible refine Cm.o_none ?_) | (with_reducible refine Cm.o_some ?_) | (with_reducible refine Cm.e_dnew ?_)
  | (with_reducible refine Cm.e_test ?_) | (with_reducible refine Cm.e_tr ?_) | (with_reducible refine Cm.e_and ?_) | (with_reducible refine Cm.e_or ?_) | (with_reducible refine Cm.e_not ?_) | (with_reducible refine Cm.e_yes ?_) | (with_reducible refine Cm.e_chain ?_)
  | (with_reducible refine Cm.r_i0 ?_) | (with_reducible refine Cm.r_u ?_) | (with_reducible refine Cm.r_isNo ?_) | (with_reducible refine Cm.r_notNo ?_) | (with_reducible refine Cm.r_addI ?_) | (with_reducible refine Cm.r_int1b ?_) | (with_reducible refine Cm.r_max2 ?_)
  | ((with_reducible refine Cm.r_i ?hc ?_); (case hc => walk_at "num"))
  | ((with_reducible refine Cm.r_mulI ?hc ?_); (case hc => walk_at "num"))
  | ((with_reducible refine Cm.r_eqS ?hc ?_); (case hc => exact rfl))
  | ((with_reducible refine Cm.r_neS ?hc ?_); (case hc => exact rfl))
  | ((with_reducible refine' Cm.r_ixl ?h1 ?h2 ?_); (case h1 => walk_at "look"); (case h2 => walk_at "at"))
  | ((with_reducible refine' Cm.r_ixt ?h1 ?h2 ?_); (case h1 => walk_at "look"); (case h2 => walk_at "at"))
  | ((with_reducible refine' Cm.r_ixT ?h1 ?h2 ?_); (case h1 => walk_at "lookT"); (case h2 => walk_at "at"))
  | ((with_reducible refine' Cm.r_ixds ?h1 ?h2 ?_); (case h1 => walk_at "look"); (case h2 => walk_at "key"))
  | ((with_reducible refine' Cm.r_eqe ?h1 ?h2 ?_); (case h1 => walk_at "look"); (case h2 => walk_at "look"))
  | ((with_reducible refine' Cm.r_nee ?h1 ?h2 ?_); (case h1 => walk_at "look"); (case h2 => walk_at "look"))
  | ((with_reducible refine' Cm.r_lenl ?h1 ?_); (case h1 => walk_at "look"))
  | ((with_reducible refine' Cm.r_lent ?h1 ?_); (case h1 => walk_at "look"))
  | ((with_reducible refine' Cm.r_lenT ?h1 ?_); (case h1 => walk_at "lookT"))
  | ((with_reducible refine' Cm.r_listl ?h1 ?_); (case h1 => walk_at "look"); (intro _ _))
  | ((with_reducible refine' Cm.r_tupl ?h1 ?_); (case h1 => walk_at "look"); (intro _ _))
  | ((with_reducible refine' Cm.r_addL ?h1 ?h2 ?h3 ?_); (case h1 => walk_at "look"); (case h2 => walk_at "look"); (case h3 => walk_at "size"); (intro _ _))
  | ((with_reducible refine' Cm.m_append ?h1 ?h2 ?_); (case h1 => walk_at "look"); (case h2 => walk_at "size"))
  | ((with_reducible refine' Cm.m_clear ?h1 ?_); (case h1 => walk_at "look"))
  | ((with_reducible refine' Cm.g_setL ?h1 ?h2 ?_); (case h1 => walk_at "look"); (case h2 => walk_at "ix"))
  | ((with_reducible refine' Cm.g_setDs ?h1 ?h2 ?h3 ?_); (case h1 => walk_at "look"); (case h2 => walk_at "size"); (case h3 => walk_at "put"))
  | ((with_reducible refine' Cm.fld_at ?h1 ?h2 ?h3 ?h4 ?_); (case h1 => walk_at "look"); (case h2 => assumption); (case h3 => assumption); (case h4 => walk_at "key"))
  | ((with_reducible refine' Cm.fldset_at ?h1 ?h2 ?h3 ?h4 ?h5 ?_); (case h1 => walk_at "look"); (case h2 => assumption); (case h3 => assumption); (case h4 => walk_at "size"); (case h5 => walk_at "put"))
  | (with_reducible refine Cm.s_fldaug0 ?_)
  | ((with_reducible refine' Cm.aug_at ?h1 ?h2 ?h3 ?h4 ?_); (case h1 => walk_at "look"); (case h2 => assumption); (case h3 => assumption); (case h4 => walk_at "key"))
  | ((with_reducible refine' Cm.augset_at ?h1 ?h4 ?h5 ?_); (case h1 => walk_at "look"); (case h4 => walk_at "size"); (case h5 => walk_at "put"))
  | (with_reducible refine Cm.in_sub_at ?_) | (with_reducible refine Cm.in_add_at ?_)
  | ((with_reducible refine' Cm.meth_at ?h1 ?h2 ?_); (case h1 => walk_at "look"); (case h2 => walk_at "key"))
  | ((with_reducible refine Cm.new_at ?h1 ?_); (case h1 => walk_at "size"); (intro _ _))
  | ((with_reducible refine Cm.and_at (A := L2.tyV _ _ _ _) ?h1 ?_); (case h1 => exact Cm.ty_lst (by walk_at "look")))
  | ((with_reducible refine' Cm.g_tupt ?h1 ?h2 ?_); (case h1 => walk_at "look"); (case h2 => exact rfl))
  | ((with_reducible refine' Cm.g_tup ?h1 ?h2 ?_); (case h1 => walk_at "lookT"); (case h2 => exact rfl))
  | (with_reducible refine Cm.g_name ?_) | (with_reducible refine Cm.g_sub ?_) | (with_reducible refine Cm.g_cons ?_) | (with_reducible refine Cm.g_nil ?_)
  | (with_reducible refine Cm.int_at ?_) | (with_reducible refine Cm.bl_at ?_) | (with_reducible refine Cm.tr_bl ?_) | (with_reducible refine Cm.tr_non ?_)
  | ((with_reducible refine' Cm.m_pop0 ?h1 ?_); (case h1 => walk_at "look"))
  | ((with_reducible refine' Cm.r_slTo ?h1 ?h2 ?_); (case h1 => walk_at "look"); (case h2 => walk_at "num2"); (intro _ _))
  | ((with_reducible refine' Cm.r_slFrom ?h1 ?h2 ?_); (case h1 => walk_at "look"); (case h2 => walk_at "num2"); (intro _ _))
  | ((with_reducible refine' Cm.at_forL ?h1 ?_); (case h1 => walk_at "look"))
  | ((with_reducible refine' Cm.at_forT ?h1 ?_); (case h1 => walk_at "look"))
  | ((with_reducible refine' Cm.at_forR ?h1 ?h2 ?_); (case h1 => walk_at "num2"); (case h2 => walk_at "num2"))
  | ((with_reducible refine' Cm.at_forZ ?h1 ?h2 ?_); (case h1 => walk_at "look"); (case h2 => walk_at "look"))
  | (with_reducible refine Cm.s_forZ ?_) | (with_reducible refine Cm.s_forR ?_)
  | ((with_reducible refine Cm.and_at (A := _ = _) ?h1 ?_); (case h1 => exact rfl))
  | ((with_reducible show L2.rIsi _ _ _ _); walk_at "isi")
  | (with_reducible refine Cm.ite_nt ?_) | (with_reducible refine Cm.ite_nf ?_)
  | (with_reducible refine L2.iteT ?_) | (with_reducible refine L2.iteF ?_)
  | dsimp only
  | fail)
local macro_rules | `(tactic| walk_at "run") => `(tactic| repeat (walk_at "st"))
local macro_rules | `(tactic| walk_at "num") => `(tactic| first
  | exact Or.inr ⟨by decide, by decide⟩ | exact Or.inl ⟨by decide, by decide⟩
  | exact Cm.wdiv (by first | decide | omega) (by first | decide | omega)
  | (show (0 : Int) < _; first | decide | omega)
  | exact ⟨by decide, by decide, by decide⟩
  | fail)
local macro_rules | `(tactic| walk_at "put") => `(tactic| exact rfl)
local macro_rules | `(tactic| walk_at "fl") => `(tactic| first | exact Cm.fl0 | (refine' Cm.flS ?hz; (case hz => walk_at "fl")) | fail)
local macro_rules | `(tactic| walk_at "size") => `(tactic| first | exact Cm.sz_lit rfl | exact Cm.sz_lt rfl | exact Cm.fs_lt rfl | decide | (refine' Nat.lt_of_le_of_lt ?ha ?hb; (case ha => walk_at "fl"); (case hb => decide)) | (simp only [List.length_cons, List.length_nil, List.length_append, List.length_map, List.length_set, List.length_replicate, PySem.sizeLine_eq]; omega) | (simp only [List.length_cons, List.length_nil, List.length_append, List.length_map, List.length_set, List.length_replicate, PySem.sizeLine_eq] at *; omega) | fail)
local macro_rules | `(tactic| walk_at "at") => `(tactic| first | assumption | (with_reducible exact Cm.at0) | (with_reducible exact Cm.at1) | (with_reducible exact Cm.at2) | (with_reducible exact Cm.at3) | (with_reducible exact Cm.at4) | (with_reducible exact Cm.at5) | (with_reducible exact Cm.at6) | (with_reducible exact Cm.at7) | (with_reducible exact Cm.at8) | (with_reducible exact Cm.at0s) | (with_reducible exact Cm.at1s) | (with_reducible exact Cm.at01s) | (with_reducible exact Cm.at10s) | fail)
local macro_rules | `(tactic| walk_at "ix") => `(tactic| first | exact Cm.ix0 (by walk_at "size") | exact Cm.ix1 (by walk_at "size") | assumption | fail)
local macro_rules | `(tactic| walk_at "key") => `(tactic| first | assumption | fail)
local macro_rules | `(tactic| walk_at "ne") => `(tactic| first
  | assumption
  | (refine Ne.symm ?_; assumption)
  | (refine' L2.ne_of_none ?h1 ?h2; (case h2 => assumption); (case h1 => walk_at "look"))
  | (refine' Ne.symm (L2.ne_of_none ?h1 ?h2); (case h2 => assumption); (case h1 => walk_at "look"))
  | fail)
local macro_rules | `(tactic| walk_at "lookT") => `(tactic| first
  | assumption
  | exact L2.SqT.of (by walk_at "look")
  | fail)
local macro_rules | `(tactic| walk_at "look") => `(tactic| first
  | assumption
  | exact L2.upd_same
  | ((fail_if_success (with_reducible refine Eq.trans L2.upd_same ?_)); (refine' Eq.trans (L2.upd_ne ?h1) ?h2); (case h1 => walk_at "ne"); (case h2 => walk_at "look"))
  | (refine' Cm.kp_look ?h1 ?h2 ?h3 ?h4; (case h1 => assumption); (case h2 => walk_at "look"); (case h3 => intro _ z; cases z); (case h4 => first | exact Or.inl rfl | exact Or.inr (by walk_at "out")))
  | fail)
local macro_rules | `(tactic| walk_at "out") => `(tactic| first
  | assumption
  | exact fun z => z
  | exact fun z => z.elim (fun e => absurd e (by walk_at "ne")) (fun e => absurd e (by walk_at "ne"))
  | exact fun e => absurd e (by walk_at "ne")
  | fail)
local macro_rules | `(tactic| walk_at "dom") => `(tactic| first
  | exact Cm.dm_refl
  | (refine Cm.dm_upd ?_; walk_at "dom")
  | (refine' Cm.dm_kp ?h1 ?h2; (case h2 => assumption); (case h1 => walk_at "dom"))
  | fail)
local macro_rules | `(tactic| walk_at "free") => `(tactic| first
  | assumption
  | exact Cm.nw_of (by assumption)
  | (refine' Cm.dm_use ?h1 ?h2; (case h2 => assumption); (case h1 => walk_at "dom"))
  | (refine' Cm.dm_use2 ?h1 ?h2; (case h2 => assumption); (case h1 => walk_at "dom"))
  | fail)
local macro_rules | `(tactic| walk_at "in") => `(tactic| first
  | exact Or.inl rfl | exact Or.inl (Or.inl rfl) | exact Or.inl (Or.inr rfl) | exact Or.inl (Or.inr (Or.inl rfl)) | exact Or.inl (Or.inr (Or.inr rfl))
  | exact Or.inl (by assumption)
  | exact Or.inr (by walk_at "free")
  | fail)
local macro_rules | `(tactic| walk_at "kp") => `(tactic| first
  | assumption
  | exact Cm.Kp.refl
  | (refine' Cm.Kp.new' ?h1 ?h2; (case h2 => assumption); (case h1 => walk_at "kp"))
  | (refine' Cm.Kp.setL' ?h1 ?h2 ?h3; (case h2 => walk_at "look"); (case h3 => walk_at "in"); (case h1 => walk_at "kp"))
  | (refine' Cm.Kp.setI' ?h1 ?h2 ?h3; (case h2 => walk_at "look"); (case h3 => walk_at "in"); (case h1 => walk_at "kp"))
  | (refine' Cm.Kp.setD' ?h1 ?h2 ?h3; (case h2 => walk_at "look"); (case h3 => walk_at "in"); (case h1 => walk_at "kp"))
  | (refine' Cm.kp_step ?h1 ?h2 ?h3; (case h2 => assumption); (case h3 => walk_at "sub"); (case h1 => walk_at "kp"))
  | fail)
local macro_rules | `(tactic| walk_at "sub") => `(tactic| first
  | exact fun _ z => z.elim
  | exact fun _ z => Or.inl z
  | (intro a z; rcases z with rfl | rfl <;> walk_at "in")
  | (intro a z; subst z; walk_at "in")
  | fail)
local macro_rules | `(tactic| walk_at "num2") => `(tactic| first | decide | omega | fail)

local macro_rules | `(tactic| walk_at "isi") => `(tactic| first | (with_reducible refine Cm.isi_non_bool ?_) | (with_reducible refine Cm.isi_non_int ?_) | (with_reducible refine Cm.isi_non_str ?_) | (with_reducible refine Cm.isi_non_tuple ?_) | (with_reducible refine Cm.isi_non_list ?_) | (with_reducible refine Cm.isi_bl_bool ?_) | (with_reducible refine Cm.isi_bl_int ?_) | (with_reducible refine Cm.isi_bl_str ?_) | (with_reducible refine Cm.isi_bl_tuple ?_) | (with_reducible refine Cm.isi_bl_list ?_) | (with_reducible refine Cm.isi_int_bool ?_) | (with_reducible refine Cm.isi_int_int ?_) | (with_reducible refine Cm.isi_int_str ?_) | (with_reducible refine Cm.isi_int_tuple ?_) | (with_reducible refine Cm.isi_int_list ?_) | (with_reducible refine Cm.isi_str_bool ?_) | (with_reducible refine Cm.isi_str_int ?_) | (with_reducible refine Cm.isi_str_str ?_) | (with_reducible refine Cm.isi_str_tuple ?_) | (with_reducible refine Cm.isi_str_list ?_) | ((with_reducible refine' Cm.isi_tup_bool ?h1 ?_); (case h1 => walk_at "look")) | ((with_reducible refine' Cm.isi_tup_int ?h1 ?_); (case h1 => walk_at "look")) | ((with_reducible refine' Cm.isi_tup_str ?h1 ?_); (case h1 => walk_at "look")) | ((with_reducible refine' Cm.isi_tup_tuple ?h1 ?_); (case h1 => walk_at "look")) | ((with_reducible refine' Cm.isi_tup_list ?h1 ?_); (case h1 => walk_at "look")) | ((with_reducible refine' Cm.isi_lst_bool ?h1 ?_); (case h1 => walk_at "look")) | ((with_reducible refine' Cm.isi_lst_int ?h1 ?_); (case h1 => walk_at "look")) | ((with_reducible refine' Cm.isi_lst_str ?h1 ?_); (case h1 => walk_at "look")) | ((with_reducible refine' Cm.isi_lst_tuple ?h1 ?_); (case h1 => walk_at "look")) | ((with_reducible refine' Cm.isi_lst_list ?h1 ?_); (case h1 => walk_at "look")) | fail)

local macro_rules | `(tactic| walk_at "key") => `(tactic| first | exact W.dF_g_blocks | exact W.dF_g_pending | exact W.dF_g_left | exact W.dF_g_picks | exact W.dF_g_fallen | exact W.dF_n_need_block | exact W.dF_n_count | exact W.dF_n_write | exact W.dF_n_settle | exact W.dF_n_read | exact W.dF_n_arm | exact W.dF_n_stop | exact W.dF_n_again | exact W.dF_n_settled)
local macro_rules | `(tactic| walk_at "put") => `(tactic| first | exact W.dF_p_blocks | exact W.dF_p_pending | exact W.dF_p_left | exact W.dF_p_picks | exact W.dF_p_fallen)
local macro_rules | `(tactic| walk_at "size") => `(tactic| (rw [W.dF_len]; decide))

local macro_rules | `(tactic| walk_at "key") => `(tactic| first | exact W.oF_g_settled | exact W.oF_g_pending | exact W.oF_g_left | exact W.oF_g_picks | exact W.oF_g_fallen)
local macro_rules | `(tactic| walk_at "put") => `(tactic| first | exact W.oF_p_settled | exact W.oF_p_pending | exact W.oF_p_left | exact W.oF_p_picks | exact W.oF_p_fallen)
local macro_rules | `(tactic| walk_at "size") => `(tactic| (rw [W.oF_len]; decide))

namespace W
open PySem PySem.Spec PyProof.Rows L2 Cm
section
variable {w : World} {K : PySem.W.Frag} {mg : Str → Option Value}
theorem pure_nest_ {n : Nat} (vs : List V) (H : Hp) (Q : VK) (E : XK) (h : S_nest_ K (n + 1) vs H Q E) : t_nest_ K n E { nx := fun _ H' => Q .non H', rt := Q } (start N_nest_ vs) H := by
  obtain ⟨_, _, _, rfl, b, l, q, m, xs, ds, rfl, rfl, rfl, hm, B, hq, hA, hd0, hdl, nqb, nql, k⟩ := h
  have hlen := hA.length
  have nbl := B.ne
  unfold t_nest_
  walk_at "run"
  refine ⟨_, _, rfl, b, l, _, rfl, rfl, B, by omega, by omega, fun at_ H1 h0 h1 B1 kp1 => ?_⟩
  have g1 := kp1.lst hq (fun z => z.elim nqb nql)
  have hA1 := hA.keep kp1 hd0
  walk_at "run"
  refine if_d (fun hz => ?_) (fun hz => ?_)
  · obtain rfl : m = 0 := by have := V.int.inj hz; omega
    walk_at "run"
    rename_i p hp
    refine k (.ref p) (.tuple ds) _ ⟨p, xs, rfl, upd_same, ?_⟩ ⟨by omega, hd0⟩ (B1.keep (T := tabs K) (S := No) (Kp.new hp) (fun z => z) (fun z => z)) (by walk_at "kp")
    exact hA1.keep (T := tabs K) (S := No) (Kp.new hp) hd0
  · cases m with
    | zero => exact absurd rfl hz
    | succ m =>
      have e1 : (((m + 1 : Nat) : Int) - 1) = ((m : Nat) : Int) := by omega
      cases n with
      | zero => omega
      | succ n =>
      walk_at "run"
      refine ⟨_, _, rfl, b, l, 3, rfl, rfl, B1, by decide, by decide, fun c H2 c0 c1 B2 kp2 => ?_⟩
      have g2 := kp2.lst g1 (fun z => z.elim nqb nql)
      have hA2 := hA1.keep kp2 hd0
      walk_at "run"
      refine if_d (fun hc => ?_) (fun hc => ?_)
      · walk_at "run"
        rename_i l1 hl1
        have k3 : Kp (tabs K) No H2 (upd H2 l1 (.lst (xs.take at_.toNat))) := Kp.new hl1
        have nb1 : l1 ≠ b := by obtain ⟨_, _, z, _⟩ := id B2; walk_at "ne"
        have nl1 : l1 ≠ l := by obtain ⟨_, _, _, z, _⟩ := id B2; walk_at "ne"
        rw [e1]
        refine ⟨_, _, _, rfl, b, l, l1, m, xs.take at_.toNat, ds.take at_.toNat, rfl, rfl, rfl, by omega, B2.keep k3 (fun z => z) (fun z => z), upd_same, (hA2.take).keep k3 (fun d hd => hd0 d (List.mem_of_mem_take hd)), fun d hd => hd0 d (List.mem_of_mem_take hd), by rw [List.length_take]; omega, nb1, nl1, fun v1 d1 H3 hv1 hd1 B3 kp3 => ?_⟩
        have g3 := kp3.lst (k3.lst g2 (fun z => z)) (fun z => z.elim nqb nql)
        have hA3 := (hA2.keep k3 hd0).keep kp3 hd0
        walk_at "run"
        rename_i p0 hp0 l2 hl2
        have k4 : Kp (tabs K) No H3 (upd (upd H3 p0 (.tup [])) l2 (.lst (xs.drop at_.toNat))) := by walk_at "kp"
        have nb2 : l2 ≠ b := by obtain ⟨_, _, z, _⟩ := id B3; walk_at "ne"
        have nl2 : l2 ≠ l := by obtain ⟨_, _, _, z, _⟩ := id B3; walk_at "ne"
        rw [e1]
        refine ⟨_, _, _, rfl, b, l, l2, m, xs.drop at_.toNat, ds.drop at_.toNat, rfl, rfl, rfl, by omega, B3.keep k4 (fun z => z) (fun z => z), upd_same, (hA3.drop).keep k4 (fun d hd => hd0 d (List.mem_of_mem_drop hd)), fun d hd => hd0 d (List.mem_of_mem_drop hd), by rw [List.length_drop]; omega, nb2, nl2, fun v2 d2 H4 hv2 hd2 B4 kp4 => ?_⟩
        walk_at "run"
        rename_i p hp
        have k5 : Kp (tabs K) No H4 (upd H4 p (.tup [v1, .ref p0, v2])) := Kp.new hp
        have hp0' : H4 p0 = some (.tup []) := by walk_at "look"
        have kv : Kp (tabs K) (Bx b l) H3 (upd H4 p (.tup [v1, .ref p0, v2])) := by walk_at "kp"
        refine k (.ref p) (.tuple [d1, .tuple [], d2]) _ ⟨p, _, rfl, upd_same, .cons (Dt.keep kv hd1 hv1) (.cons ⟨p0, [], rfl, by walk_at "look", rfl⟩ (.cons (Dt.keep k5 hd2 hv2) .nil))⟩ ⟨by show 3 ≤ 100000; decide, fun d hd => ?_⟩ (B4.keep k5 (fun z => z) (fun z => z)) (by walk_at "kp")
        rcases List.mem_cons.mp hd with rfl | hd
        · exact hd1
        rcases List.mem_cons.mp hd with rfl | hd
        · exact ⟨by show 0 ≤ 100000; decide, fun d hd => nomatch hd⟩
        rcases List.mem_cons.mp hd with rfl | hd
        · exact hd2
        · cases hd
      · walk_at "run"
        rename_i l1 hl1 t1 ht1 l2 hl2
        have k4 : Kp (tabs K) No H2 (upd (upd (upd H2 l1 (.lst (xs.take at_.toNat))) t1 (.tup (xs.take at_.toNat))) l2 (.lst (xs.drop at_.toNat))) := by walk_at "kp"
        have nb2 : l2 ≠ b := by obtain ⟨_, _, z, _⟩ := id B2; walk_at "ne"
        have nl2 : l2 ≠ l := by obtain ⟨_, _, _, z, _⟩ := id B2; walk_at "ne"
        rw [e1]
        refine ⟨_, _, _, rfl, b, l, l2, m, xs.drop at_.toNat, ds.drop at_.toNat, rfl, rfl, rfl, by omega, B2.keep k4 (fun z => z) (fun z => z), upd_same, (hA2.drop).keep k4 (fun d hd => hd0 d (List.mem_of_mem_drop hd)), fun d hd => hd0 d (List.mem_of_mem_drop hd), by rw [List.length_drop]; omega, nb2, nl2, fun v2 d2 H4 hv2 hd2 B4 kp4 => ?_⟩
        walk_at "run"
        rename_i p hp
        have ht1' : (upd H4 p (.tup [v2])) t1 = some (.tup (xs.take at_.toNat)) := by walk_at "look"
        have k5 : Kp (tabs K) No H4 (upd H4 p (.tup [v2])) := Kp.new hp
        have kv : Kp (tabs K) (Bx b l) H2 (upd H4 p (.tup [v2])) := by walk_at "kp"
        have hA5 := (hA2.take (i := at_.toNat)).keep kv (fun d hd => hd0 d (List.mem_of_mem_take hd))
        have B5 := B4.keep k5 (fun z => z) (fun z => z)
        have hdr : ∀ d ∈ ds.take at_.toNat ++ [d2], Di (m + 1) d := fun d hd => by
          rcases List.mem_append.mp hd with hd | hd
          · exact (hd0 d (List.mem_of_mem_take hd)).up (Nat.zero_le _)
          · rw [List.mem_singleton.mp hd]; exact hd2
        have hdl2 : (ds.take at_.toNat ++ [d2]).length ≤ 100000 := by rw [List.length_append, List.length_take]; simp; omega
        refine r_catT ht1' upd_same ?_ (fun hx0 => ?_) (fun _ z => nomatch z) (fun hx0 _ u hu => ?_)
        · rw [List.length_take, sizeLine_eq]; simp; omega
        · refine k (.ref p) (.tuple (ds.take at_.toNat ++ [d2])) _ ⟨p, [v2], rfl, upd_same, ?_⟩ ⟨hdl2, hdr⟩ B5 (by walk_at "kp")
          have := hA5.append (ys := [v2]) (es := [d2]) (.cons (Dt.keep k5 hd2 hv2) .nil)
          rw [hx0] at this
          exact this
        · have k6 : Kp (tabs K) No (upd H4 p (.tup [v2])) (upd (upd H4 p (.tup [v2])) u (.tup (xs.take at_.toNat ++ [v2]))) := Kp.new hu
          refine k (.ref u) (.tuple (ds.take at_.toNat ++ [d2])) _ ⟨u, _, rfl, upd_same, ?_⟩ ⟨hdl2, hdr⟩ (B5.keep k6 (fun z => z) (fun z => z)) (by walk_at "kp")
          exact (hA5.append (ys := [v2]) (es := [d2]) (.cons (Dt.keep k5 hd2 hv2) .nil)).keep k6 hdr
theorem pure_what_ (vs : List V) (H : Hp) (Q : VK) (E : XK) (h : S_what_ K vs H Q E) : t_what_ K E { nx := fun _ H' => Q .non H', rt := Q } (start N_what_ vs) H := by
  obtain ⟨_, rfl, b, l, rfl, B, k⟩ := h
  have nbl := B.ne
  unfold t_what_
  walk_at "run"
  refine ⟨_, _, rfl, b, l, _, rfl, rfl, B, by omega, by omega, fun way H1 w0 w1 B1 kp1 => ?_⟩
  walk_at "run"
  refine if_d (fun hw => ?_) (fun hw => ?_)
  · walk_at "run"
    refine ⟨_, _, rfl, b, l, _, rfl, rfl, B1, by omega, by omega, fun c H2 c0 c1 B2 kp2 => ?_⟩
    walk_at "run"
    rename_i s hs
    have ks : Kp (tabs K) No H2 (upd H2 s (.lst [.int c, .str "text", .non, .bl true])) := Kp.new hs
    have nsb : s ≠ b := by obtain ⟨_, _, z, _⟩ := id B2; walk_at "ne"
    have nsl : s ≠ l := by obtain ⟨_, _, _, z, _⟩ := id B2; walk_at "ne"
    refine lcR ?_
    walk_at "run"
    refine ⟨_, _, rfl, b, l, 8, rfl, rfl, B2.keep ks (fun z => z) (fun z => z), by omega, by omega, fun m H3 m0 m1 B3 kp3 => ?_⟩
    have hs3 := kp3.lst (upd_same (H := H2) (a := s)) (fun z => z.elim nsb nsl)
    walk_at "run"
    intro Dl hD
    have nDb : Dl ≠ b := by obtain ⟨_, _, z, _⟩ := id B3; walk_at "ne"
    have nDl : Dl ≠ l := by obtain ⟨_, _, _, z, _⟩ := id B3; walk_at "ne"
    have nDs : s ≠ Dl := by walk_at "ne"
    have kD : Kp (tabs K) No H3 (upd H3 Dl (.lst [])) := Kp.new hD
    refine coreR (fun i acc H' => ∃ ds : List PyData, DtA H' acc ds ∧ (∀ d ∈ ds, Di 0 d) ∧ ds.length = i ∧ BoxAt H' b l ∧ Kp (tabs K) (Bx b l) H3 H' ∧ H' s = some (.lst [.int c, .str "text", .non, .bl true])) ⟨[], rfl, (fun _ z => nomatch z), rfl, B3.keep kD (fun z => z) (fun z => z), kD.mono fun _ z => z.elim, by walk_at "look"⟩ (fun i acc H' hi hl z e => ?_) (fun acc H' hl z e => ?_)
    · obtain ⟨ds, hA, hd0, hdl, B4, kp4, hs4⟩ := z
      unfold CStep
      walk_at "run"
      refine ⟨_, _, rfl, b, l, 4, rfl, rfl, B4, by omega, by omega, fun u H5 u0 u1 B5 kp5 => ?_⟩
      have hs5 := kp5.lst hs4 (fun z => z.elim nsb nsl)
      have e5 := kp5.lst e (fun z => z.elim nDb nDl)
      have fin : ∀ (v : V) (d : PyData), atI [V.int c, .str "text", .non, .bl true] u = some v → Dt H5 v d → Di 0 d → rIxA K (.ref s) (.int u) H5 fun y H4 => ∃ acc, H4 Dl = some (.lst acc) ∧ acc.length < sizeLine ∧ CI (fun i acc H' => ∃ ds : List PyData, DtA H' acc ds ∧ (∀ d ∈ ds, Di 0 d) ∧ ds.length = i ∧ BoxAt H' b l ∧ Kp (tabs K) (Bx b l) H3 H' ∧ H' s = some (.lst [.int c, .str "text", .non, .bl true])) Dl (i + 1) (upd H4 Dl (.lst (acc ++ [y]))) := fun v d ha hv hd => by
        refine r_ixl hs5 ha ?_
        have k6 : Kp (tabs K) (fun a => a = Dl) H5 (upd H5 Dl (.lst (acc ++ [v]))) := Kp.setL e5 rfl
        refine c_put e5 hl (by omega) ⟨ds ++ [d], ((hA.keep kp5 hd0).keep k6 hd0).snoc (Dt.keep k6 hd hv), fun d' hd' => ?_, by simp [hdl], B5.keep k6 (fun z => nDb z.symm) (fun z => nDl z.symm), by walk_at "kp", by walk_at "look"⟩
        rcases List.mem_append.mp hd' with q | q
        · exact hd0 d' q
        · rw [List.mem_singleton.mp q]; exact hd
      have hu : u = 0 ∨ u = 1 ∨ u = 2 ∨ u = 3 := by omega
      rcases hu with rfl | rfl | rfl | rfl
      · exact fin _ (.int c) at0 rfl Di.int
      · exact fin _ (.str "text") at1 rfl Di.str
      · exact fin _ .none at2 rfl Di.none
      · exact fin _ (.bool true) (atI_nat (j := 3) rfl) rfl Di.bool
    · obtain ⟨ds, hA, hd0, hdl, B4, kp4, hs4⟩ := z
      walk_at "run"
      refine ⟨_, _, rfl, b, l, 4, rfl, rfl, B4, by omega, by omega, fun u H5 u0 u1 B5 kp5 => ?_⟩
      walk_at "run"
      obtain ⟨un, rfl⟩ : ∃ un : Nat, u = (un : Int) := ⟨u.toNat, by omega⟩
      refine ⟨_, _, _, rfl, b, l, Dl, un, acc, ds, rfl, rfl, rfl, (by show un ≤ 3; omega), B5, kp5.lst e (fun z => z.elim nDb nDl), hA.keep kp5 hd0, hd0, by omega, nDb, nDl, fun v d H6 hv hd B6 kp6 => ?_⟩
      walk_at "run"
      exact k v d H6 hv (hd.up (by omega)) B6 (by walk_at "kp")
  · walk_at "run"
    refine ⟨_, _, rfl, b, l, 100, rfl, rfl, B1, by omega, by omega, fun c H2 c0 c1 B2 kp2 => ?_⟩
    walk_at "run"
    refine ⟨_, _, rfl, b, l, 9, rfl, rfl, B2, by omega, by omega, fun c' H3 c0' c1' B3 kp3 => ?_⟩
    walk_at "run"
    rename_i t1 ht1 t2 ht2 t3 ht3 t4 ht4 t5 ht5 t6 ht6 t7 ht7 s hs
    suffices go : ∀ HH : Hp, Kp (tabs K) No H3 HH → HH t1 = some (.tup [.int 1, .int c', .non]) → HH t2 = some (.tup [.str "a", .ref t1]) → HH t3 = some (.tup []) → HH t4 = some (.tup [.int 2]) → HH t5 = some (.tup [.ref t4]) →
        HH t6 = some (.tup [.bl true, .ref t5]) → HH t7 = some (.tup [.ref t3, .ref t6]) → HH s = some (.lst [.non, .int c, .ref t2, .str "text", .ref t7]) → rIxA K (.ref s) (.int way) HH Q from
      go _ (by walk_at "kp") (by walk_at "look") (by walk_at "look") (by walk_at "look") (by walk_at "look") (by walk_at "look") (by walk_at "look") (by walk_at "look") (by walk_at "look")
    intro HH kf g1 g2 g3 g4 g5 g6 g7 gs
    have BF := B3.keep kf (fun z => z) (fun z => z)
    have kF : Kp (tabs K) (Bx b l) H HH := by walk_at "kp"
    have hw' : way ≠ 5 := fun z => hw (by rw [z])
    have hu : way = 0 ∨ way = 1 ∨ way = 2 ∨ way = 3 ∨ way = 4 := by omega
    have two : ∀ {n : Nat} {d e : PyData}, Di n d → Di n e → Di (n + 1) (.tuple [d, e]) := fun {n d e} h1 h2 => ⟨by show 2 ≤ 100000; decide, fun x hx => by
      rcases List.mem_cons.mp hx with rfl | hx
      · exact h1
      · rw [List.mem_singleton.mp hx]; exact h2⟩
    have one : ∀ {n : Nat} {d : PyData}, Di n d → Di (n + 1) (.tuple [d]) := fun {n d} h1 => ⟨by show 1 ≤ 100000; decide, fun x hx => by rw [List.mem_singleton.mp hx]; exact h1⟩
    rcases hu with rfl | rfl | rfl | rfl | rfl
    · exact r_ixl gs at0 (k _ .none HH rfl Di.none BF kF)
    · exact r_ixl gs at1 (k _ (.int c) HH rfl Di.int BF kF)
    · refine r_ixl gs at2 (k _ (.tuple [.str "a", .tuple [.int 1, .int c', .none]]) HH ⟨t2, _, rfl, g2, .cons rfl (.cons ⟨t1, _, rfl, g1, .cons rfl (.cons rfl (.cons rfl .nil))⟩ .nil)⟩ (two (n := 4) Di.str ?_) BF kF)
      refine ⟨by show 3 ≤ 100000; decide, fun x hx => ?_⟩
      rcases List.mem_cons.mp hx with rfl | hx
      · exact Di.int
      rcases List.mem_cons.mp hx with rfl | hx
      · exact Di.int
      rw [List.mem_singleton.mp hx]; exact Di.none
    · exact r_ixl gs at3 (k _ (.str "text") HH rfl Di.str BF kF)
    · exact r_ixl gs at4 (k _ (.tuple [.tuple [], .tuple [.bool true, .tuple [.tuple [.int 2]]]]) HH ⟨t7, _, rfl, g7, .cons ⟨t3, _, rfl, g3, rfl⟩ (.cons ⟨t6, _, rfl, g6, .cons rfl (.cons ⟨t5, _, rfl, g5, .cons ⟨t4, _, rfl, g4, .cons rfl .nil⟩ .nil⟩ .nil)⟩ .nil)⟩
        (two (n := 4) ⟨by show 0 ≤ 100000; decide, (fun _ z => nomatch z)⟩ (two (n := 3) Di.bool (one (n := 2) (one (n := 1) Di.int)))) BF kF)
end
end W

end
section
namespace W
open PySem PySem.Spec PyProof.Rows L2 Cm
section
variable {P : Program} {w : World} {K : PySem.W.Frag} {mg : Str → Option Value} {base : Heap}
theorem ok_begun_ (T : Tx w K mg) : DOk P w K mg base 1 ("_law_begun", none) ["_law_script"] (S_begun_ K) := by
  refine dok_of (T.dfn 14 (d := d_begun_) rfl) sc_begun_ (fun _ _ _ _ _ _ us hl => match us, hl with | [_], _ => rfl) len1 (fun cdv A outer s H vs Q E hr h => ⟨t_begun_ K E, ?_, pure_begun_ vs H Q E h⟩)
  exact (pss_cons (ps_set (i := 1) sc_begun_.nd rfl (by first | exact Or.inl rfl | exact Or.inr rfl) pe_int)
      (pss_cons (ps_for (passes_of rfl) rfl (pi_seq (pv 0)) (pg_name (i := 2) sc_begun_.nd rfl (by first | exact Or.inl rfl | exact Or.inr rfl)) (pss_one (ps_set (i := 1) sc_begun_.nd rfl (by first | exact Or.inl rfl | exact Or.inr rfl) (pe_op op_mod (pe_op op_addA (pe_op op_addA (pe_op op_mulA (pv 1) pe_int) (pe_op op_mulA (pv 2) pe_int)) pe_int) pe_int))))
      (pss_one (ps_ret (pe_lst (pa_cons (pe_callTy (call_listA rfl) (by rfl) T.n_list bt_list (pa_cons (pv 0) pa_nil)) (pa_cons (pe_op op_mulA (pv 1) (pe_callTy call_int1 (by rfl) T.n_int bt_int (pa_cons (pe_cmpR op_gt (pe_callB call_lenA (by rfl) T.n_len bt_len (pa_cons (pv 0) pa_nil)) pe_int (nomark _)) pa_nil))) pa_nil)))))))
theorem ok_take_ (T : Tx w K mg) : DOk P w K mg base 1 ("_law_take", none) ["_law_box", "_law_many"] (S_take_ K) := by
  refine dok_of (T.dfn 15 (d := d_take_) rfl) sc_take_ (fun _ _ _ _ _ _ us hl => match us, hl with | [_, _], _ => rfl) len2 (fun cdv A outer s H vs Q E hr h => ⟨t_take_ K E, ?_, pure_take_ vs H Q E h⟩)
  exact (pss_cons (ps_if (pt_cmpR (op_eqA hr.units) (pe_ix (ix_any (hu_of hr)) (pv 0) pe_int (fun _ _ => rfl)) (pe_lst pa_nil) (nomark _)) (pss_cons (ps_asg (pe_op op_mod (pe_op op_mulA (pe_ix (ix_any (hu_of hr)) (pv 0) pe_int (fun _ _ => rfl)) pe_int) pe_int) (pg_sub (pv 0) pe_int (set_any (hu_of hr))))
      (pss_one (ps_ret (pe_op op_mod (pe_op op_fdivW (pe_ix (ix_any (hu_of hr)) (pv 0) pe_int (fun _ _ => rfl)) pe_int) (pv 1))))) pss_nil)
      (pss_cons (ps_set (i := 2) sc_take_.nd rfl (by first | exact Or.inl rfl | exact Or.inr rfl) (pe_ix (ix_any (hu_of hr)) (pe_ix (ix_any (hu_of hr)) (pv 0) pe_int (fun _ _ => rfl)) pe_int (fun _ _ => rfl)))
      (pss_cons (ps_asg (pe_op op_fdivW (pv 2) (pv 1)) (pg_sub (pe_ix (ix_any (hu_of hr)) (pv 0) pe_int (fun _ _ => rfl)) pe_int (set_any (hu_of hr))))
      (pss_cons (ps_if (PW.pt (pw_or (pt_cmpR (op_eqA hr.units) (pe_ix (ix_any (hu_of hr)) (pe_ix (ix_any (hu_of hr)) (pv 0) pe_int (fun _ _ => rfl)) pe_int (fun _ _ => rfl)) pe_int (nomark _)) (pw_or1 (pt_cmpR (op_eqA hr.units) (pe_ix (ix_any (hu_of hr)) (pe_ix (ix_any (hu_of hr)) (pv 0) pe_int (fun _ _ => rfl)) pe_int (fun _ _ => rfl)) (pe_un un_neg pe_int) (nomark _))))) (pss_one (ps_expr (pe_bm PySem.F.plainAttrs_list PySem.F.slot_list_pop PySem.F.type_list_pop mt_popAt (pe_ix (ix_any (hu_of hr)) (pv 0) pe_int (fun _ _ => rfl)) (pa_cons pe_int pa_nil)))) pss_nil)
      (pss_one (ps_ret (pe_op op_mod (pv 2) (pv 1))))))))
theorem ok_alike_ (T : Tx w K mg) : ∀ n : Nat, DOk P w K mg base (1 + n) ("_law_alike", none) ["_law_found", "_law_due"] (S_alike_ K n)
  | 0 => dok_false (T.dfn 16 (d := d_alike_) rfl) sc_alike_ (fun _ _ _ _ _ _ us hl => match us, hl with | [_, _], _ => rfl)
  | n + 1 => by
    have ih : DOk P w K mg base (1 + n) ("_law_alike", none) ["_law_found", "_law_due"] (S_alike_ K n) := ok_alike_ T n
    rw [show 1 + (n + 1) = (1 + n) + 1 from rfl]
    obtain ⟨fd_alike_, b_alike_, k_alike_, G_alike_, _⟩ := ih
    refine dok_of (T.dfn 16 (d := d_alike_) rfl) sc_alike_ (fun _ _ _ _ _ _ us hl => match us, hl with | [_, _], _ => rfl) len2 (fun cdv A outer s H vs Q E hr h => ⟨t_alike_ K n E, ?_, pure_alike_ vs H Q E h⟩)
    exact (pss_cons (ps_if (pt_cmpR op_isNo (pv 1) pe_non (nomark _)) (pss_one (ps_ret (pe_cmpR op_isNo (pv 0) pe_non (nomark _)))) pss_nil)
      (pss_cons (ps_if (pt_truth (pe_callB call_isi (by rfl) T.n_isinstance bt_isinstance (pa_cons (pv 1) (pa_cons (pe_bltn (v := .ty "bool") (by rfl) T.n_bool bt_bool rfl) pa_nil))) (by intro _; rfl)) (pss_one (ps_ret (pe_and (pe_callB call_isi (by rfl) T.n_isinstance bt_isinstance (pa_cons (pv 0) (pa_cons (pe_bltn (v := .ty "bool") (by rfl) T.n_bool bt_bool rfl) pa_nil))) (pe_one (pe_cmpR (op_eqA hr.units) (pv 0) (pv 1) (nomark _)))))) pss_nil)
      (pss_cons (ps_if (pt_truth (pe_callB call_isi (by rfl) T.n_isinstance bt_isinstance (pa_cons (pv 1) (pa_cons (pe_bltn (v := .ty "int") (by rfl) T.n_int bt_int rfl) pa_nil))) (by intro _; rfl)) (pss_one (ps_ret (pe_and (pe_callB call_isi (by rfl) T.n_isinstance bt_isinstance (pa_cons (pv 0) (pa_cons (pe_bltn (v := .ty "int") (by rfl) T.n_int bt_int rfl) pa_nil))) (pe_and (pe_not (pe_callB call_isi (by rfl) T.n_isinstance bt_isinstance (pa_cons (pv 0) (pa_cons (pe_bltn (v := .ty "bool") (by rfl) T.n_bool bt_bool rfl) pa_nil)))) (pe_one (pe_cmpR (op_eqA hr.units) (pv 0) (pv 1) (nomark _))))))) pss_nil)
      (pss_cons (ps_if (pt_truth (pe_callB call_isi (by rfl) T.n_isinstance bt_isinstance (pa_cons (pv 1) (pa_cons (pe_bltn (v := .ty "str") (by rfl) T.n_str bt_str rfl) pa_nil))) (by intro _; rfl)) (pss_one (ps_ret (pe_and (pe_callB call_isi (by rfl) T.n_isinstance bt_isinstance (pa_cons (pv 0) (pa_cons (pe_bltn (v := .ty "str") (by rfl) T.n_str bt_str rfl) pa_nil))) (pe_one (pe_cmpR (op_eqA hr.units) (pv 0) (pv 1) (nomark _)))))) pss_nil)
      (pss_cons (ps_if (PW.pt (pw_or (pt_cmpR (op_neA hr.units) (pe_callB call_isi (by rfl) T.n_isinstance bt_isinstance (pa_cons (pv 1) (pa_cons (pe_bltn (v := .ty "tuple") (by rfl) T.n_tuple bt_tuple rfl) pa_nil))) (pe_callB call_isi (by rfl) T.n_isinstance bt_isinstance (pa_cons (pv 0) (pa_cons (pe_bltn (v := .ty "tuple") (by rfl) T.n_tuple bt_tuple rfl) pa_nil))) (nomark _)) (pw_or1 (pt_cmpR (op_neA hr.units) (pe_callB call_isi (by rfl) T.n_isinstance bt_isinstance (pa_cons (pv 1) (pa_cons (pe_bltn (v := .ty "list") (by rfl) T.n_list bt_list rfl) pa_nil))) (pe_callB call_isi (by rfl) T.n_isinstance bt_isinstance (pa_cons (pv 0) (pa_cons (pe_bltn (v := .ty "list") (by rfl) T.n_list bt_list rfl) pa_nil))) (nomark _))))) (pss_one (ps_ret pe_bl)) pss_nil)
      (pss_cons (ps_if (pt_cmpR (op_neA hr.units) (pe_callB call_lenA (by rfl) T.n_len bt_len (pa_cons (pv 0) pa_nil)) (pe_callB call_lenA (by rfl) T.n_len bt_len (pa_cons (pv 1) pa_nil)) (nomark _)) (pss_one (ps_ret pe_bl)) pss_nil)
      (pss_cons (ps_for (passes_of rfl) rfl (pi_range1 (by rfl) T.n_range (pa_cons (pe_callB call_lenA (by rfl) T.n_len bt_len (pa_cons (pv 1) pa_nil)) pa_nil)) (pg_name (i := 2) sc_alike_.nd rfl (by first | exact Or.inl rfl | exact Or.inr rfl)) (pss_one (ps_if (pt_not (pt_truth (pe_call G_alike_ (hr.mono (by omega)) (by rfl) T.g_alike_ k_alike_ b_alike_ .nil (psG rfl rfl rfl rfl) (pa_cons (pe_ix (ix_any (hu_of hr)) (pv 0) (pv 2) (fun _ _ => rfl)) (pa_cons (pe_ix (ix_any (hu_of hr)) (pv 1) (pv 2) (fun _ _ => rfl)) pa_nil))) (by intro _; rfl))) (pss_one (ps_ret pe_bl)) pss_nil)))
      (pss_one (ps_ret pe_bl)))))))))
theorem ok_nest_ (T : Tx w K mg) : ∀ n : Nat, DOk P w K mg base (2 + n) ("_law_nest", none) ["_law_box", "_law_parts", "_law_deep"] (S_nest_ K n)
  | 0 => dok_false (T.dfn 18 (d := d_nest_) rfl) sc_nest_ (fun _ _ _ _ _ _ us hl => match us, hl with | [_, _, _], _ => rfl)
  | n + 1 => by
    have ih : DOk P w K mg base (2 + n) ("_law_nest", none) ["_law_box", "_law_parts", "_law_deep"] (S_nest_ K n) := ok_nest_ T n
    rw [show 2 + (n + 1) = (2 + n) + 1 from rfl]
    obtain ⟨fd_nest_, b_nest_, k_nest_, G_nest_, _⟩ := ih
    obtain ⟨fd_take_, b_take_, k_take_, G_take_, _⟩ := ok_take_ (P := P) (base := base) T
    refine dok_of (T.dfn 18 (d := d_nest_) rfl) sc_nest_ (fun _ _ _ _ _ _ us hl => match us, hl with | [_, _, _], _ => rfl) len3 (fun cdv A outer s H vs Q E hr h => ⟨t_nest_ K n E, ?_, pure_nest_ vs H Q E h⟩)
    exact (pss_cons (ps_set (i := 3) sc_nest_.nd rfl (by first | exact Or.inl rfl | exact Or.inr rfl) (pe_call G_take_ (hr.mono (by omega)) (by rfl) T.g_take_ k_take_ b_take_ .nil (psG rfl rfl rfl rfl) (pa_cons (pv 0) (pa_cons (pe_op op_addA (pe_callB call_lenA (by rfl) T.n_len bt_len (pa_cons (pv 1) pa_nil)) pe_int) pa_nil))))
      (pss_cons (ps_if (pt_cmpR (op_eqA hr.units) (pv 2) pe_int (nomark _)) (pss_one (ps_ret (pe_callTy call_tuple_of (by rfl) T.n_tuple bt_tuple (pa_cons (pv 1) pa_nil)))) pss_nil)
      (pss_cons (ps_if (pt_cmpR (op_eqA hr.units) (pe_call G_take_ (hr.mono (by omega)) (by rfl) T.g_take_ k_take_ b_take_ .nil (psG rfl rfl rfl rfl) (pa_cons (pv 0) (pa_cons pe_int pa_nil))) pe_int (nomark _)) (pss_one (ps_ret (pe_tup (pa_cons (pe_call G_nest_ (hr.mono (by omega)) (by rfl) T.g_nest_ k_nest_ b_nest_ .nil (psG rfl rfl rfl rfl) (pa_cons (pv 0) (pa_cons (pe_slice sl_any (pv 1) po_none (po_some (pv 3))) (pa_cons (pe_op op_sub (pv 2) pe_int) pa_nil)))) (pa_cons (pe_tup pa_nil) (pa_cons (pe_call G_nest_ (hr.mono (by omega)) (by rfl) T.g_nest_ k_nest_ b_nest_ .nil (psG rfl rfl rfl rfl) (pa_cons (pv 0) (pa_cons (pe_slice sl_any (pv 1) (po_some (pv 3)) po_none) (pa_cons (pe_op op_sub (pv 2) pe_int) pa_nil)))) pa_nil)))))) pss_nil)
      (pss_one (ps_ret (pe_op op_addA (pe_callTy call_tuple_of (by rfl) T.n_tuple bt_tuple (pa_cons (pe_slice sl_any (pv 1) po_none (po_some (pv 3))) pa_nil)) (pe_tup (pa_cons (pe_call G_nest_ (hr.mono (by omega)) (by rfl) T.g_nest_ k_nest_ b_nest_ .nil (psG rfl rfl rfl rfl) (pa_cons (pv 0) (pa_cons (pe_slice sl_any (pv 1) (po_some (pv 3)) po_none) (pa_cons (pe_op op_sub (pv 2) pe_int) pa_nil)))) pa_nil))))))))
theorem ok_what_ (T : Tx w K mg) : DOk P w K mg base 7 ("_law_what", none) ["_law_box"] (S_what_ K) := by
  obtain ⟨fd_nest_, b_nest_, k_nest_, G_nest_, _⟩ := ok_nest_ (P := P) (base := base) T 4
  obtain ⟨fd_take_, b_take_, k_take_, G_take_, _⟩ := ok_take_ (P := P) (base := base) T
  refine dok_of (T.dfn 19 (d := d_what_) rfl) sc_what_ (fun _ _ _ _ _ _ us hl => match us, hl with | [_], _ => rfl) len1 (fun cdv A outer s H vs Q E hr h => ⟨t_what_ K E, ?_, pure_what_ vs H Q E h⟩)
  exact (pss_cons (ps_set (i := 1) sc_what_.nd rfl (by first | exact Or.inl rfl | exact Or.inr rfl) (pe_call G_take_ (hr.mono (by omega)) (by rfl) T.g_take_ k_take_ b_take_ .nil (psG rfl rfl rfl rfl) (pa_cons (pv 0) (pa_cons pe_int pa_nil))))
      (pss_cons (ps_if (pt_cmpR (op_eqA hr.units) (pv 1) pe_int (nomark _)) (pss_cons (ps_set (i := 2) sc_what_.nd rfl (by first | exact Or.inl rfl | exact Or.inr rfl) (pe_lst (pa_cons (pe_call G_take_ (hr.mono (by omega)) (by rfl) T.g_take_ k_take_ b_take_ .nil (psG rfl rfl rfl rfl) (pa_cons (pv 0) (pa_cons pe_int pa_nil))) (pa_cons pe_str (pa_cons pe_non (pa_cons pe_bl pa_nil))))))
      (pss_cons (by first | exact (ps_setLc (i := 3) (own := [("_law_k", 4)]) (g := (gName 4)) (tt := tYes) (by rfl) sc_what_.nd rfl rfl (sw_true rfl rfl rfl (by decide +kernel)) (pi_range1 (by rfl) T.n_range (pa_cons (pe_op op_addA pe_int (pe_call G_take_ (hr.mono (by omega)) (by rfl) T.g_take_ k_take_ b_take_ .nil (psG rfl rfl rfl rfl) (pa_cons (pv 0) (pa_cons pe_int pa_nil)))) pa_nil)) (blkOk_by (own := [("_law_k", 4)]) (N := N_what_) (sc := defScope s_what_) (by decide +kernel)) (fun _ _ _ _ _ => (pg_name (i := 4) sc_what_.nd rfl (by first | exact Or.inl rfl | exact Or.inr rfl))) (fun _ _ _ _ _ => pts_nil) (fun _ _ _ _ _ => (pe_ix (ix_any (hu_of hr)) (pv 2) (pe_call G_take_ (hr.mono (by omega)) (by rfl) T.g_take_ k_take_ b_take_ .nil psN (pa_cons (pv 0) (pa_cons pe_int pa_nil))) (fun _ _ => rfl)))) | exact (ps_set (i := 3) sc_what_.nd rfl (by first | exact Or.inl rfl | exact Or.inr rfl) (pe_lc (own := [("_law_k", 4)]) (g := (gName 4)) (tt := tYes) (by rfl) sc_what_.nd (pi_range1 (by rfl) T.n_range (pa_cons (pe_op op_addA pe_int (pe_call G_take_ (hr.mono (by omega)) (by rfl) T.g_take_ k_take_ b_take_ .nil (psG rfl rfl rfl rfl) (pa_cons (pv 0) (pa_cons pe_int pa_nil)))) pa_nil)) (blkOk_by (own := [("_law_k", 4)]) (N := N_what_) (sc := defScope s_what_) (by decide +kernel)) (fun _ _ _ _ _ => (pg_name (i := 4) sc_what_.nd rfl (by first | exact Or.inl rfl | exact Or.inr rfl))) (fun _ _ _ _ _ => pts_nil) (fun _ _ _ _ _ => (pe_ix (ix_any (hu_of hr)) (pv 2) (pe_call G_take_ (hr.mono (by omega)) (by rfl) T.g_take_ k_take_ b_take_ .nil psN (pa_cons (pv 0) (pa_cons pe_int pa_nil))) (fun _ _ => rfl))))))
      (pss_one (ps_ret (pe_call G_nest_ (hr.mono (by omega)) (by rfl) T.g_nest_ k_nest_ b_nest_ .nil (psG rfl rfl rfl rfl) (pa_cons (pv 0) (pa_cons (pv 3) (pa_cons (pe_call G_take_ (hr.mono (by omega)) (by rfl) T.g_take_ k_take_ b_take_ .nil (psG rfl rfl rfl rfl) (pa_cons (pv 0) (pa_cons pe_int pa_nil))) pa_nil)))))))) pss_nil)
      (pss_cons (ps_set (i := 2) sc_what_.nd rfl (by first | exact Or.inl rfl | exact Or.inr rfl) (pe_lst (pa_cons pe_non (pa_cons (pe_call G_take_ (hr.mono (by omega)) (by rfl) T.g_take_ k_take_ b_take_ .nil (psG rfl rfl rfl rfl) (pa_cons (pv 0) (pa_cons pe_int pa_nil))) (pa_cons (pe_tup (pa_cons pe_str (pa_cons (pe_tup (pa_cons pe_int (pa_cons (pe_call G_take_ (hr.mono (by omega)) (by rfl) T.g_take_ k_take_ b_take_ .nil (psG rfl rfl rfl rfl) (pa_cons (pv 0) (pa_cons pe_int pa_nil))) (pa_cons pe_non pa_nil)))) pa_nil))) (pa_cons pe_str (pa_cons (pe_tup (pa_cons (pe_tup pa_nil) (pa_cons (pe_tup (pa_cons pe_bl (pa_cons (pe_tup (pa_cons (pe_tup (pa_cons pe_int pa_nil)) pa_nil)) pa_nil))) pa_nil))) pa_nil)))))))
      (pss_one (ps_ret (pe_ix (ix_any (hu_of hr)) (pv 2) (pv 1) (fun _ _ => rfl)))))))
theorem ok_weight_ (T : Tx w K mg) : ∀ n : Nat, DOk P w K mg base (1 + n) ("_law_weight", none) ["_law_what_here"] (S_weight_ K n)
  | 0 => dok_false (T.dfn 20 (d := d_weight_) rfl) sc_weight_ (fun _ _ _ _ _ _ us hl => match us, hl with | [_], _ => rfl)
  | n + 1 => by
    have ih : DOk P w K mg base (1 + n) ("_law_weight", none) ["_law_what_here"] (S_weight_ K n) := ok_weight_ T n
    rw [show 1 + (n + 1) = (1 + n) + 1 from rfl]
    obtain ⟨fd_weight_, b_weight_, k_weight_, G_weight_, _⟩ := ih
    refine dok_of (T.dfn 20 (d := d_weight_) rfl) sc_weight_ (fun _ _ _ _ _ _ us hl => match us, hl with | [_], _ => rfl) len1 (fun cdv A outer s H vs Q E hr h => ⟨t_weight_ K n E, ?_, pure_weight_ vs H Q E h⟩)
    exact (pss_cons (ps_if (pt_not (pt_truth (pe_callB call_isi (by rfl) T.n_isinstance bt_isinstance (pa_cons (pv 0) (pa_cons (pe_bltn (v := .ty "tuple") (by rfl) T.n_tuple bt_tuple rfl) pa_nil))) (by intro _; rfl))) (pss_one (ps_ret pe_int)) pss_nil)
      (pss_one (ps_ret (pe_callB (cr_sum rfl) (by rfl) T.n_sum bt_sum (pa_cons (pe_lc (own := [("_law_one", 1)]) (g := (gName 1)) (tt := tYes) (by rfl) sc_weight_.nd (pi_seq (pv 0)) (blkOk_by (own := [("_law_one", 1)]) (N := N_weight_) (sc := defScope s_weight_) (by decide +kernel)) (fun _ _ _ _ _ => (pg_name (i := 1) sc_weight_.nd rfl (by first | exact Or.inl rfl | exact Or.inr rfl))) (fun _ _ _ _ _ => pts_nil) (fun _ _ _ _ _ => (pe_call G_weight_ (hr.mono (by omega)) (by rfl) T.g_weight_ k_weight_ b_weight_ .nil psN (pa_cons (pv 1) pa_nil)))) pa_nil)))))
theorem ok_made_ (T : Tx w K mg) : DOk P w K mg base 1 ("_law_made", none) [] (S_made_ K) := by
  refine dok_of (T.dfn 21 (d := d_made_) rfl) sc_made_ (fun _ _ _ _ _ _ us hl => match us, hl with | [], _ => rfl) len0 (fun cdv A outer s H vs Q E hr h => ⟨t_made_ K E, ?_, pure_made_ vs H Q E h⟩)
  exact (pss_one (ps_ret (pe_disp (pps_cons pe_str (pe_op op_mulA (pe_lst (pa_cons pe_non pa_nil)) pe_int) (pps_cons pe_str (pe_lst pa_nil) (pps_cons pe_str pe_non (pps_cons pe_str (pe_lst pa_nil) (pps_cons pe_str pe_bl pps_nil))))) (by rfl) (by rfl) (fun z => by cases z) (by decide))))
theorem ok_fall_ (T : Tx w K mg) : DOk P w K mg base 1 ("_law_fall", none) ["_law_own", "_law_picks"] (S_fall_ K) := by
  refine dok_of (T.dfn 22 (d := d_fall_) rfl) sc_fall_ (fun _ _ _ _ _ _ us hl => match us, hl with | [_, _], _ => rfl) len2 (fun cdv A outer s H vs Q E hr h => ⟨t_fall_ K E, ?_, pure_fall_ vs H Q E h⟩)
  exact (pss_cons (ps_for (passes_of rfl) rfl (pi_range1 (by rfl) T.n_range (pa_cons (pe_callB call_lenA (by rfl) T.n_len bt_len (pa_cons (pe_ix (ix_any (hu_of hr)) (pv 0) pe_str (fun _ _ => rfl)) pa_nil)) pa_nil)) (pg_name (i := 2) sc_fall_.nd rfl (by first | exact Or.inl rfl | exact Or.inr rfl)) (pss_cons (ps_asg (pe_ix (ix_any (hu_of hr)) (pe_ix (ix_any (hu_of hr)) (pv 0) pe_str (fun _ _ => rfl)) (pv 2) (fun _ _ => rfl)) (pg_tup (by rfl) (pgs_cons (pg_name (i := 3) sc_fall_.nd rfl (by first | exact Or.inl rfl | exact Or.inr rfl)) (pgs_cons (pg_name (i := 4) sc_fall_.nd rfl (by first | exact Or.inl rfl | exact Or.inr rfl)) pgs_nil))))
      (pss_one (ps_if (pt_truth (pe_ix (ix_any (hu_of hr)) (pe_op op_addA (pe_callTy (call_listA rfl) (by rfl) T.n_list bt_list (pa_cons (pv 1) pa_nil)) (pe_op op_mulA (pe_lst (pa_cons pe_bl pa_nil)) pe_int)) (pv 2) (fun _ _ => rfl)) (by intro _; rfl)) (pss_one (ps_asg (pv 4) (pg_sub (pe_ix (ix_any (hu_of hr)) (pv 0) pe_str (fun _ _ => rfl)) (pv 3) (set_any (hu_of hr))))) pss_nil))))
      (pss_cons (ps_asg (pe_lst pa_nil) (pg_sub (pv 0) pe_str (set_any (hu_of hr))))
      (pss_one (ps_asg pe_bl (pg_sub (pv 0) pe_str (set_any (hu_of hr)))))))
theorem ok_count_ (T : Tx w K mg) : DOk P w K mg base 2 ("_law_count", none) ["_law_own"] (S_count_ K) := by
  obtain ⟨fd_fall_, b_fall_, k_fall_, G_fall_, _⟩ := ok_fall_ (P := P) (base := base) T
  refine dok_of (T.dfn 23 (d := d_count_) rfl) sc_count_ (fun _ _ _ _ _ _ us hl => match us, hl with | [_], _ => rfl) len1 (fun cdv A outer s H vs Q E hr h => ⟨t_count_ K E, ?_, pure_count_ vs H Q E h⟩)
  exact (pss_cons (ps_if (pt_truth (pe_ix (ix_any (hu_of hr)) (pv 0) pe_str (fun _ _ => rfl)) (by intro _; rfl)) (pss_one (ps_ret pe_bl)) pss_nil)
      (pss_cons (ps_if (pt_cmpR (op_eqA hr.units) (pe_ix (ix_any (hu_of hr)) (pv 0) pe_str (fun _ _ => rfl)) pe_int (nomark _)) (pss_cons (ps_expr (pe_call G_fall_ (hr.mono (by omega)) (by rfl) T.g_fall_ k_fall_ b_fall_ .nil (psG rfl rfl rfl rfl) (pa_cons (pv 0) (pa_cons (pe_ix (ix_any (hu_of hr)) (pv 0) pe_str (fun _ _ => rfl)) pa_nil))))
      (pss_one (ps_ret pe_bl))) pss_nil)
      (pss_cons (ps_if (pt_cmpR op_notNo (pe_ix (ix_any (hu_of hr)) (pv 0) pe_str (fun _ _ => rfl)) pe_non (nomark _)) (pss_one (ps_asg (pe_op op_sub (pe_ix (ix_any (hu_of hr)) (pv 0) pe_str (fun _ _ => rfl)) pe_int) (pg_sub (pv 0) pe_str (set_any (hu_of hr))))) pss_nil)
      (pss_one (ps_ret pe_bl)))))
theorem ok_write_ (T : Tx w K mg) (TB : ∀ p ∈ tf, LamX.TabB base mg (He.cT K p).1 (He.cT K p).2) : DOk P w K mg base 12 ("_law_write", none) ["_law_box", "_law_disk", "_law_own"] (S_write_ K) := by
  obtain ⟨fd_Disk_write, b_Disk_write, k_Disk_write, G_Disk_write, _⟩ := ok_Disk_write (P := P) (base := base) T
  obtain ⟨fd_alike_, b_alike_, k_alike_, G_alike_, _⟩ := ok_alike_ (P := P) (base := base) T 9
  obtain ⟨fd_count_, b_count_, k_count_, G_count_, _⟩ := ok_count_ (P := P) (base := base) T
  obtain ⟨fd_take_, b_take_, k_take_, G_take_, _⟩ := ok_take_ (P := P) (base := base) T
  obtain ⟨fd_weight_, b_weight_, k_weight_, G_weight_, _⟩ := ok_weight_ (P := P) (base := base) T 7
  obtain ⟨fd_what_, b_what_, k_what_, G_what_, _⟩ := ok_what_ (P := P) (base := base) T
  refine dok_ofC (T.dfn 25 (d := d_write_) rfl) sc_write_ (fun _ _ _ _ _ _ us hl => match us, hl with | [_, _, _], _ => rfl) len3 (fun cdv A outer s H vs Q E hcd hr h => ⟨t_write_ K E, ?_, pure_write_ T vs H Q E h⟩)
  subst hcd
  exact (pss_cons (ps_set (i := 3) sc_write_.nd rfl (by first | exact Or.inl rfl | exact Or.inr rfl) (pe_ix (ix_any (hu_of hr)) (pe_lst (pa_cons (pe_call G_take_ (hr.mono (by omega)) (by rfl) T.g_take_ k_take_ b_take_ .nil (psG rfl rfl rfl rfl) (pa_cons (pv 0) (pa_cons pe_int pa_nil))) (pa_cons (pe_call G_take_ (hr.mono (by omega)) (by rfl) T.g_take_ k_take_ b_take_ .nil (psG rfl rfl rfl rfl) (pa_cons (pv 0) (pa_cons pe_int pa_nil))) (pa_cons (pe_ix (ix_any (hu_of hr)) (pe_lst (pa_cons (pe_un un_neg pe_int) (pa_cons pe_int (pa_cons (pe_op op_pow pe_int pe_int) pa_nil)))) (pe_call G_take_ (hr.mono (by omega)) (by rfl) T.g_take_ k_take_ b_take_ .nil (psG rfl rfl rfl rfl) (pa_cons (pv 0) (pa_cons pe_int pa_nil))) (fun _ _ => rfl)) pa_nil)))) (pe_op op_fdivW (pe_call G_take_ (hr.mono (by omega)) (by rfl) T.g_take_ k_take_ b_take_ .nil (psG rfl rfl rfl rfl) (pa_cons (pv 0) (pa_cons pe_int pa_nil))) pe_int) (fun _ _ => rfl)))
      (pss_cons (ps_set (i := 4) sc_write_.nd rfl (by first | exact Or.inl rfl | exact Or.inr rfl) (pe_call G_what_ (hr.mono (by omega)) (by rfl) T.g_what_ k_what_ b_what_ .nil (psG rfl rfl rfl rfl) (pa_cons (pv 0) pa_nil)))
      (pss_cons (ps_set (i := 5) sc_write_.nd rfl (by first | exact Or.inl rfl | exact Or.inr rfl) pe_str)
      (pss_cons (ps_if (PW.pt (pw_and (pt_chain op_le op_lt pe_int (pv 3) pe_int) (pw_and1 (pt_cmpR op_le (pe_call G_weight_ (hr.mono (by omega)) (by rfl) T.g_weight_ k_weight_ b_weight_ .nil (psG rfl rfl rfl rfl) (pa_cons (pv 4) pa_nil)) pe_int (nomark _))))) (pss_cons (ps_set (i := 5) sc_write_.nd rfl (by first | exact Or.inl rfl | exact Or.inr rfl) (pe_ifExp (pt_truth (pe_call G_count_ (hr.mono (by omega)) (by rfl) T.g_count_ k_count_ b_count_ .nil (psG rfl rfl rfl rfl) (pa_cons (pv 2) pa_nil)) (by intro _; rfl)) pe_non pe_str))
      (pss_one (ps_if (pt_cmpR op_isNo (pv 5) pe_non (nomark _)) (pss_one (ps_expr (pe_bm PySem.F.plainAttrs_list PySem.F.slot_list_append PySem.F.type_list_append mt_append (pe_ix (ix_any (hu_of hr)) (pv 2) pe_str (fun _ _ => rfl)) (pa_cons (pe_tup (pa_cons (pv 3) (pa_cons (pv 4) pa_nil))) pa_nil)))) pss_nil))) pss_nil)
      (pss_one (ps_ret (pe_call G_alike_ (hr.mono (by omega)) (by rfl) T.g_alike_ k_alike_ b_alike_ .nil (psG rfl rfl rfl rfl) (pa_cons (lam_told_ T TB (at_ := ("_law_write", none)) (by decide) (by rfl) (by rfl) hr (by show LamX.lamSB (defScope s_write_) _ = true; decide +kernel) (by rfl) (by rfl) (fun _ _ _ _ _ => rfl) (fun A outer s H E f c' hr => (pe_meth (pv 1) T.c_Disk T.m_Disk_write G_Disk_write (hr.mono (by omega)) b_Disk_write .nil (psG rfl rfl rfl rfl) (pa_cons (pv 3) (pa_cons (pv 4) pa_nil))))) (pa_cons (pv 5) pa_nil)))))))))
theorem ok_arms_ (T : Tx w K mg) : DOk P w K mg base 2 ("_law_arms", none) ["_law_box", "_law_disk", "_law_own"] (S_arms_ K) := by
  obtain ⟨fd_Disk_again, b_Disk_again, k_Disk_again, G_Disk_again, _⟩ := ok_Disk_again (P := P) (base := base) T
  obtain ⟨fd_Disk_arm, b_Disk_arm, k_Disk_arm, G_Disk_arm, _⟩ := ok_Disk_arm (P := P) (base := base) T
  obtain ⟨fd_Disk_stop, b_Disk_stop, k_Disk_stop, G_Disk_stop, _⟩ := ok_Disk_stop (P := P) (base := base) T
  obtain ⟨fd_fall_, b_fall_, k_fall_, G_fall_, _⟩ := ok_fall_ (P := P) (base := base) T
  obtain ⟨fd_take_, b_take_, k_take_, G_take_, _⟩ := ok_take_ (P := P) (base := base) T
  refine dok_of (T.dfn 26 (d := d_arms_) rfl) sc_arms_ (fun _ _ _ _ _ _ us hl => match us, hl with | [_, _, _], _ => rfl) len3 (fun cdv A outer s H vs Q E hr h => ⟨t_arms_ K E, ?_, pure_arms_ T vs H Q E h⟩)
  exact (pss_cons (by first | exact (ps_setLc (i := 3) (own := [("_law_k", 4)]) (g := (gName 4)) (tt := tYes) (by rfl) sc_arms_.nd rfl rfl (sw_true rfl rfl rfl (by decide +kernel)) (pi_range1 (by rfl) T.n_range (pa_cons (pe_call G_take_ (hr.mono (by omega)) (by rfl) T.g_take_ k_take_ b_take_ .nil (psG rfl rfl rfl rfl) (pa_cons (pv 0) (pa_cons pe_int pa_nil))) pa_nil)) (blkOk_by (own := [("_law_k", 4)]) (N := N_arms_) (sc := defScope s_arms_) (by decide +kernel)) (fun _ _ _ _ _ => (pg_name (i := 4) sc_arms_.nd rfl (by first | exact Or.inl rfl | exact Or.inr rfl))) (fun _ _ _ _ _ => pts_nil) (fun _ _ _ _ _ => (pe_cmpR (op_eqA hr.units) (pe_call G_take_ (hr.mono (by omega)) (by rfl) T.g_take_ k_take_ b_take_ .nil psN (pa_cons (pv 0) (pa_cons pe_int pa_nil))) pe_int (nomark _)))) | exact (ps_set (i := 3) sc_arms_.nd rfl (by first | exact Or.inl rfl | exact Or.inr rfl) (pe_lc (own := [("_law_k", 4)]) (g := (gName 4)) (tt := tYes) (by rfl) sc_arms_.nd (pi_range1 (by rfl) T.n_range (pa_cons (pe_call G_take_ (hr.mono (by omega)) (by rfl) T.g_take_ k_take_ b_take_ .nil (psG rfl rfl rfl rfl) (pa_cons (pv 0) (pa_cons pe_int pa_nil))) pa_nil)) (blkOk_by (own := [("_law_k", 4)]) (N := N_arms_) (sc := defScope s_arms_) (by decide +kernel)) (fun _ _ _ _ _ => (pg_name (i := 4) sc_arms_.nd rfl (by first | exact Or.inl rfl | exact Or.inr rfl))) (fun _ _ _ _ _ => pts_nil) (fun _ _ _ _ _ => (pe_cmpR (op_eqA hr.units) (pe_call G_take_ (hr.mono (by omega)) (by rfl) T.g_take_ k_take_ b_take_ .nil psN (pa_cons (pv 0) (pa_cons pe_int pa_nil))) pe_int (nomark _))))))
      (pss_cons (ps_set (i := 5) sc_arms_.nd rfl (by first | exact Or.inl rfl | exact Or.inr rfl) (pe_callTy (call_listA rfl) (by rfl) T.n_list bt_list (pa_cons (pv 3) pa_nil)))
      (pss_cons (ps_set (i := 6) sc_arms_.nd rfl (by first | exact Or.inl rfl | exact Or.inr rfl) (pe_call G_take_ (hr.mono (by omega)) (by rfl) T.g_take_ k_take_ b_take_ .nil (psG rfl rfl rfl rfl) (pa_cons (pv 0) (pa_cons pe_int pa_nil))))
      (pss_cons (ps_if (pt_cmpR op_lt (pv 6) pe_int (nomark _)) (pss_cons (ps_asg (pe_call G_take_ (hr.mono (by omega)) (by rfl) T.g_take_ k_take_ b_take_ .nil (psG rfl rfl rfl rfl) (pa_cons (pv 0) (pa_cons (pe_ix (ix_any (hu_of hr)) (pe_lst (pa_cons pe_int (pa_cons pe_int pa_nil))) (pv 6) (fun _ _ => rfl)) pa_nil))) (pg_sub (pv 2) pe_str (set_any (hu_of hr))))
      (pss_cons (ps_asg (pv 3) (pg_sub (pv 2) pe_str (set_any (hu_of hr))))
      (pss_one (ps_expr (pe_meth (pv 1) T.c_Disk T.m_Disk_arm G_Disk_arm (hr.mono (by omega)) b_Disk_arm .nil (psG rfl rfl rfl rfl) (pa_cons (pe_ix (ix_any (hu_of hr)) (pv 2) pe_str (fun _ _ => rfl)) (pa_cons (pv 5) pa_nil))))))) (pss_one (ps_if (pt_cmpR (op_eqA hr.units) (pv 6) pe_int (nomark _)) (pss_cons (ps_expr (pe_call G_fall_ (hr.mono (by omega)) (by rfl) T.g_fall_ k_fall_ b_fall_ .nil (psG rfl rfl rfl rfl) (pa_cons (pv 2) (pa_cons (pv 3) pa_nil))))
      (pss_one (ps_expr (pe_meth (pv 1) T.c_Disk T.m_Disk_stop G_Disk_stop (hr.mono (by omega)) b_Disk_stop .nil (psG rfl rfl rfl rfl) (pa_cons (pv 5) pa_nil))))) (pss_cons (ps_expr (pe_bm PySem.F.plainAttrs_dict PySem.F.slot_dict_update PySem.F.type_dict_update (mt_upd rfl) (pv 2) (pa_cons (pe_lst (pa_cons (pe_tup (pa_cons pe_str (pa_cons (pe_lst pa_nil) pa_nil))) (pa_cons (pe_tup (pa_cons pe_str (pa_cons pe_non pa_nil))) (pa_cons (pe_tup (pa_cons pe_str (pa_cons (pe_lst pa_nil) pa_nil))) (pa_cons (pe_tup (pa_cons pe_str (pa_cons pe_bl pa_nil))) pa_nil))))) pa_nil)))
      (pss_one (ps_expr (pe_meth0 (pv 1) T.c_Disk T.m_Disk_again G_Disk_again (hr.mono (by omega)) b_Disk_again .nil (psG rfl rfl rfl rfl))))))))
      (pss_cons (ps_set (i := 7) sc_arms_.nd rfl (by first | exact Or.inl rfl | exact Or.inr rfl) (pe_cmpR (op_eqA hr.units) (pv 5) (pv 3) (nomark _)))
      (pss_cons (ps_expr (pe_bm PySem.F.plainAttrs_list PySem.F.slot_list_append PySem.F.type_list_append mt_append (pv 5) (pa_cons pe_bl pa_nil)))
      (pss_one (ps_ret (pv 7)))))))))
theorem ok_is_ (T : Tx w K mg) (TB : ∀ p ∈ tf, LamX.TabB base mg (He.cT K p).1 (He.cT K p).2) : DOk P w K mg base 11 ("_law_is", none) ["_law_box", "_law_disk", "_law_own"] (S_is_ K) := by
  obtain ⟨fd_Disk_read, b_Disk_read, k_Disk_read, G_Disk_read, _⟩ := ok_Disk_read (P := P) (base := base) T
  obtain ⟨fd_Disk_settled, b_Disk_settled, k_Disk_settled, G_Disk_settled, _⟩ := ok_Disk_settled (P := P) (base := base) T
  obtain ⟨fd_alike_, b_alike_, k_alike_, G_alike_, _⟩ := ok_alike_ (P := P) (base := base) T 9
  obtain ⟨fd_take_, b_take_, k_take_, G_take_, _⟩ := ok_take_ (P := P) (base := base) T
  refine dok_ofC (T.dfn 27 (d := d_is_) rfl) sc_is_ (fun _ _ _ _ _ _ us hl => match us, hl with | [_, _, _], _ => rfl) len3 (fun cdv A outer s H vs Q E hcd hr h => ⟨t_is_ K E, ?_, pure_is_ T vs H Q E h⟩)
  subst hcd
  exact (pss_cons (ps_for (passes_of rfl) rfl (pi_range1 (by rfl) T.n_range (pa_cons pe_int pa_nil)) (pg_name (i := 3) sc_is_.nd rfl (by first | exact Or.inl rfl | exact Or.inr rfl)) (pss_cons (ps_set (i := 4) sc_is_.nd rfl (by first | exact Or.inl rfl | exact Or.inr rfl) (pe_meth0 (pv 1) T.c_Disk T.m_Disk_settled G_Disk_settled (hr.mono (by omega)) b_Disk_settled .nil (psG rfl rfl rfl rfl)))
      (pss_cons (ps_if (pt_not (pt_truth (pe_call G_alike_ (hr.mono (by omega)) (by rfl) T.g_alike_ k_alike_ b_alike_ .nil (psG rfl rfl rfl rfl) (pa_cons (pv 4) (pa_cons (pe_ix (ix_any (hu_of hr)) (pv 2) pe_str (fun _ _ => rfl)) pa_nil))) (by intro _; rfl))) (pss_one (ps_ret pe_bl)) pss_nil)
      (pss_one (ps_expr (pe_bm0 PySem.F.plainAttrs_list PySem.F.slot_list_clear PySem.F.type_list_clear mt_clear (pv 4)))))))
      (pss_cons (ps_set (i := 5) sc_is_.nd rfl (by first | exact Or.inl rfl | exact Or.inr rfl) (pe_call G_take_ (hr.mono (by omega)) (by rfl) T.g_take_ k_take_ b_take_ .nil (psG rfl rfl rfl rfl) (pa_cons (pv 0) (pa_cons (pe_op op_pow pe_int pe_int) pa_nil))))
      (pss_cons (ps_set (i := 6) sc_is_.nd rfl (by first | exact Or.inl rfl | exact Or.inr rfl) (pe_lst (pa_cons (pe_call G_take_ (hr.mono (by omega)) (by rfl) T.g_take_ k_take_ b_take_ .nil (psG rfl rfl rfl rfl) (pa_cons (pv 0) (pa_cons pe_int pa_nil))) (pa_cons (pe_call G_take_ (hr.mono (by omega)) (by rfl) T.g_take_ k_take_ b_take_ .nil (psG rfl rfl rfl rfl) (pa_cons (pv 0) (pa_cons pe_int pa_nil))) (pa_cons (pe_call G_take_ (hr.mono (by omega)) (by rfl) T.g_take_ k_take_ b_take_ .nil (psG rfl rfl rfl rfl) (pa_cons (pv 0) (pa_cons pe_int pa_nil))) (pa_cons (pe_op op_addA pe_int (pv 5)) (pa_cons (pe_op op_sub (pe_un un_neg pe_int) (pv 5)) (pa_cons (pe_op op_sub (pe_un un_neg pe_int) (pe_call G_take_ (hr.mono (by omega)) (by rfl) T.g_take_ k_take_ b_take_ .nil (psG rfl rfl rfl rfl) (pa_cons (pv 0) (pa_cons pe_int pa_nil)))) pa_nil))))))))
      (pss_cons (ps_set (i := 7) sc_is_.nd rfl (by first | exact Or.inl rfl | exact Or.inr rfl) (pe_ix (ix_any (hu_of hr)) (pv 6) (pe_call G_take_ (hr.mono (by omega)) (by rfl) T.g_take_ k_take_ b_take_ .nil (psG rfl rfl rfl rfl) (pa_cons (pv 0) (pa_cons pe_int pa_nil))) (fun _ _ => rfl)))
      (pss_cons (ps_set (i := 8) sc_is_.nd rfl (by first | exact Or.inl rfl | exact Or.inr rfl) pe_str)
      (pss_cons (ps_if (pt_chain op_le op_lt pe_int (pv 7) pe_int) (pss_cons (by first | exact (ps_setLc (i := 9) (own := [("_law_one", 10), ("_law_what_here", 11)]) (g := (gTup K 2 (gCons (gName 10) (gCons (gName 11) gNil)))) (tt := (tTest (tOp (rEqA K) (tVar 10) (tVar 7)))) (by rfl) sc_is_.nd rfl rfl (sw_true rfl rfl rfl (by decide +kernel)) (pi_seq (pe_ix (ix_any (hu_of hr)) (pv 2) pe_str (fun _ _ => rfl))) (blkOk_by (own := [("_law_one", 10), ("_law_what_here", 11)]) (N := N_is_) (sc := defScope s_is_) (by decide +kernel)) (fun _ _ _ _ _ => (pg_tup (by rfl) (pgs_cons (pg_name (i := 10) sc_is_.nd rfl (by first | exact Or.inl rfl | exact Or.inr rfl)) (pgs_cons (pg_name (i := 11) sc_is_.nd rfl (by first | exact Or.inl rfl | exact Or.inr rfl)) pgs_nil)))) (fun _ _ _ _ _ => (pts_one (pt_cmpR (op_eqA hr.units) (pv 10) (pv 7) (nomark _)))) (fun _ _ _ _ _ => (pv 11))) | exact (ps_set (i := 9) sc_is_.nd rfl (by first | exact Or.inl rfl | exact Or.inr rfl) (pe_lc (own := [("_law_one", 10), ("_law_what_here", 11)]) (g := (gTup K 2 (gCons (gName 10) (gCons (gName 11) gNil)))) (tt := (tTest (tOp (rEqA K) (tVar 10) (tVar 7)))) (by rfl) sc_is_.nd (pi_seq (pe_ix (ix_any (hu_of hr)) (pv 2) pe_str (fun _ _ => rfl))) (blkOk_by (own := [("_law_one", 10), ("_law_what_here", 11)]) (N := N_is_) (sc := defScope s_is_) (by decide +kernel)) (fun _ _ _ _ _ => (pg_tup (by rfl) (pgs_cons (pg_name (i := 10) sc_is_.nd rfl (by first | exact Or.inl rfl | exact Or.inr rfl)) (pgs_cons (pg_name (i := 11) sc_is_.nd rfl (by first | exact Or.inl rfl | exact Or.inr rfl)) pgs_nil)))) (fun _ _ _ _ _ => (pts_one (pt_cmpR (op_eqA hr.units) (pv 10) (pv 7) (nomark _)))) (fun _ _ _ _ _ => (pv 11)))))
      (pss_cons (ps_set (i := 12) sc_is_.nd rfl (by first | exact Or.inl rfl | exact Or.inr rfl) (pe_ifExp (pt_cmpR (op_eqA hr.units) (pv 9) (pe_lst pa_nil) (nomark _)) (pe_ix (ix_any (hu_of hr)) (pe_ix (ix_any (hu_of hr)) (pv 2) pe_str (fun _ _ => rfl)) (pv 7) (fun _ _ => rfl)) (pe_ix (ix_any (hu_of hr)) (pv 9) (pe_un un_neg pe_int) (fun _ _ => rfl))))
      (pss_one (ps_set (i := 8) sc_is_.nd rfl (by first | exact Or.inl rfl | exact Or.inr rfl) (pe_ifExp (pt_truth (pe_ix (ix_any (hu_of hr)) (pv 2) pe_str (fun _ _ => rfl)) (by intro _; rfl)) pe_str (pv 12)))))) pss_nil)
      (pss_one (ps_ret (pe_call G_alike_ (hr.mono (by omega)) (by rfl) T.g_alike_ k_alike_ b_alike_ .nil (psG rfl rfl rfl rfl) (pa_cons (lam_told_ T TB (at_ := ("_law_is", none)) (by decide) (by rfl) (by rfl) hr (by show LamX.lamSB (defScope s_is_) _ = true; decide +kernel) (by rfl) (by rfl) (fun _ _ _ _ _ => rfl) (fun A outer s H E f c' hr => (pe_meth (pv 1) T.c_Disk T.m_Disk_read G_Disk_read (hr.mono (by omega)) b_Disk_read .nil (psG rfl rfl rfl rfl) (pa_cons (pv 7) pa_nil)))) (pa_cons (pv 8) pa_nil)))))))))))
theorem ok_law (T : Tx w K mg) (TB : ∀ p ∈ tf, LamX.TabB base mg (He.cT K p).1 (He.cT K p).2) : DOk P w K mg base 13 ("law", none) ["_law_script"] (S_law K) := by
  obtain ⟨fd_Disk_init, b_Disk_init, k_Disk_init, G_Disk_init, _⟩ := ok_Disk_init (P := P) (base := base) T
  obtain ⟨fd_Disk_settle, b_Disk_settle, k_Disk_settle, G_Disk_settle, _⟩ := ok_Disk_settle (P := P) (base := base) T
  obtain ⟨fd_alike_, b_alike_, k_alike_, G_alike_, _⟩ := ok_alike_ (P := P) (base := base) T 9
  obtain ⟨fd_arms_, b_arms_, k_arms_, G_arms_, _⟩ := ok_arms_ (P := P) (base := base) T
  obtain ⟨fd_begun_, b_begun_, k_begun_, G_begun_, _⟩ := ok_begun_ (P := P) (base := base) T
  obtain ⟨fd_count_, b_count_, k_count_, G_count_, _⟩ := ok_count_ (P := P) (base := base) T
  obtain ⟨fd_is_, b_is_, k_is_, G_is_, _⟩ := ok_is_ (P := P) (base := base) T TB
  obtain ⟨fd_made_, b_made_, k_made_, G_made_, _⟩ := ok_made_ (P := P) (base := base) T
  obtain ⟨fd_take_, b_take_, k_take_, G_take_, _⟩ := ok_take_ (P := P) (base := base) T
  obtain ⟨fd_write_, b_write_, k_write_, G_write_, _⟩ := ok_write_ (P := P) (base := base) T TB
  refine dok_ofC (T.dfn 28 (d := d_law) rfl) sc_law (fun _ _ _ _ _ _ us hl => match us, hl with | [_], _ => rfl) len1 (fun cdv A outer s H vs Q E hcd hr h => ⟨t_law K E, ?_, pure_law T vs H Q E h⟩)
  subst hcd
  exact (pss_cons (ps_set (i := 1) sc_law.nd rfl (by first | exact Or.inl rfl | exact Or.inr rfl) (pe_call G_begun_ (hr.mono (by omega)) (by rfl) T.g_begun_ k_begun_ b_begun_ .nil (psG rfl rfl rfl rfl) (pa_cons (pv 0) pa_nil)))
      (pss_cons (ps_set (i := 2) sc_law.nd rfl (by first | exact Or.inl rfl | exact Or.inr rfl) (pe_lst (pa_cons (pe_tup (pa_cons (pe_make0 T.mk_Disk G_Disk_init (hr.mono (by omega)) (by rfl) T.g_Disk b_Disk_init .nil (psG rfl rfl rfl rfl)) (pa_cons (pe_call0 G_made_ (hr.mono (by omega)) (by rfl) T.g_made_ k_made_ b_made_ .nil (psG rfl rfl rfl rfl)) pa_nil))) (pa_cons (pe_tup (pa_cons (pe_make0 T.mk_Disk G_Disk_init (hr.mono (by omega)) (by rfl) T.g_Disk b_Disk_init .nil (psG rfl rfl rfl rfl)) (pa_cons (pe_call0 G_made_ (hr.mono (by omega)) (by rfl) T.g_made_ k_made_ b_made_ .nil (psG rfl rfl rfl rfl)) pa_nil))) pa_nil))))
      (pss_cons (ps_for (passes_of rfl) rfl (pi_range1 (by rfl) T.n_range (pa_cons (pe_call G_take_ (hr.mono (by omega)) (by rfl) T.g_take_ k_take_ b_take_ .nil (psG rfl rfl rfl rfl) (pa_cons (pv 1) (pa_cons pe_int pa_nil))) pa_nil)) (pg_name (i := 3) sc_law.nd rfl (by first | exact Or.inl rfl | exact Or.inr rfl)) (pss_cons (ps_asg (pe_ix (ix_any (hu_of hr)) (pv 2) (pe_op op_fdivW (pe_call G_take_ (hr.mono (by omega)) (by rfl) T.g_take_ k_take_ b_take_ .nil (psG rfl rfl rfl rfl) (pa_cons (pv 1) (pa_cons pe_int pa_nil))) pe_int) (fun _ _ => rfl)) (pg_tup (by rfl) (pgs_cons (pg_name (i := 4) sc_law.nd rfl (by first | exact Or.inl rfl | exact Or.inr rfl)) (pgs_cons (pg_name (i := 5) sc_law.nd rfl (by first | exact Or.inl rfl | exact Or.inr rfl)) pgs_nil))))
      (pss_cons (ps_set (i := 6) sc_law.nd rfl (by first | exact Or.inl rfl | exact Or.inr rfl) (pe_call G_take_ (hr.mono (by omega)) (by rfl) T.g_take_ k_take_ b_take_ .nil (psG rfl rfl rfl rfl) (pa_cons (pv 1) (pa_cons pe_int pa_nil))))
      (pss_cons (ps_if (pt_cmpR op_lt (pv 6) pe_int (nomark _)) (pss_one (ps_set (i := 7) sc_law.nd rfl (by first | exact Or.inl rfl | exact Or.inr rfl) (pe_call G_write_ (hr.mono (by omega)) (by rfl) T.g_write_ k_write_ b_write_ .nil (psG rfl rfl rfl rfl) (pa_cons (pv 1) (pa_cons (pv 4) (pa_cons (pv 5) pa_nil)))))) (pss_one (ps_if (pt_cmpR op_lt (pv 6) pe_int (nomark _)) (pss_cons (ps_set (i := 8) sc_law.nd rfl (by first | exact Or.inl rfl | exact Or.inr rfl) (pe_ifExp (pt_truth (pe_call G_count_ (hr.mono (by omega)) (by rfl) T.g_count_ k_count_ b_count_ .nil (psG rfl rfl rfl rfl) (pa_cons (pv 5) pa_nil)) (by intro _; rfl)) pe_non pe_str))
      (pss_cons (ps_if (pt_cmpR op_isNo (pv 8) pe_non (nomark _)) (pss_cons (ps_for (passes_of rfl) rfl (pi_seq (pe_ix (ix_any (hu_of hr)) (pv 5) pe_str (fun _ _ => rfl))) (pg_tup (by rfl) (pgs_cons (pg_name (i := 9) sc_law.nd rfl (by first | exact Or.inl rfl | exact Or.inr rfl)) (pgs_cons (pg_name (i := 10) sc_law.nd rfl (by first | exact Or.inl rfl | exact Or.inr rfl)) pgs_nil))) (pss_one (ps_asg (pv 10) (pg_sub (pe_ix (ix_any (hu_of hr)) (pv 5) pe_str (fun _ _ => rfl)) (pv 9) (set_any (hu_of hr))))))
      (pss_one (ps_asg (pe_lst pa_nil) (pg_sub (pv 5) pe_str (set_any (hu_of hr)))))) pss_nil)
      (pss_one (ps_set (i := 7) sc_law.nd rfl (by first | exact Or.inl rfl | exact Or.inr rfl) (pe_call G_alike_ (hr.mono (by omega)) (by rfl) T.g_alike_ k_alike_ b_alike_ .nil (psG rfl rfl rfl rfl) (pa_cons (lam_told_ T TB (at_ := ("law", none)) (by decide) (by rfl) (by rfl) hr (by show LamX.lamSB (defScope s_law) _ = true; decide +kernel) (by rfl) (by rfl) (fun _ _ _ _ _ => rfl) (fun A outer s H E f c' hr => (pe_meth0 (pv 4) T.c_Disk T.m_Disk_settle G_Disk_settle (hr.mono (by omega)) b_Disk_settle .nil (psG rfl rfl rfl rfl)))) (pa_cons (pv 8) pa_nil))))))) (pss_one (ps_set (i := 7) sc_law.nd rfl (by first | exact Or.inl rfl | exact Or.inr rfl) (pe_call G_arms_ (hr.mono (by omega)) (by rfl) T.g_arms_ k_arms_ b_arms_ .nil (psG rfl rfl rfl rfl) (pa_cons (pv 1) (pa_cons (pv 4) (pa_cons (pv 5) pa_nil)))))))))
      (pss_one (ps_if (PW.pt (pw_or (pt_not (pt_truth (pv 7) (by intro _; rfl))) (pw_or (pt_not (pt_truth (pe_call G_is_ (hr.mono (by omega)) (by rfl) T.g_is_ k_is_ b_is_ .nil (psG rfl rfl rfl rfl) (pa_cons (pv 1) (pa_cons (pe_ix (ix_any (hu_of hr)) (pe_ix (ix_any (hu_of hr)) (pv 2) pe_int (fun _ _ => rfl)) pe_int (fun _ _ => rfl)) (pa_cons (pe_ix (ix_any (hu_of hr)) (pe_ix (ix_any (hu_of hr)) (pv 2) pe_int (fun _ _ => rfl)) pe_int (fun _ _ => rfl)) pa_nil)))) (by intro _; rfl))) (pw_or1 (pt_not (pt_truth (pe_call G_is_ (hr.mono (by omega)) (by rfl) T.g_is_ k_is_ b_is_ .nil (psG rfl rfl rfl rfl) (pa_cons (pv 1) (pa_cons (pe_ix (ix_any (hu_of hr)) (pe_ix (ix_any (hu_of hr)) (pv 2) pe_int (fun _ _ => rfl)) pe_int (fun _ _ => rfl)) (pa_cons (pe_ix (ix_any (hu_of hr)) (pe_ix (ix_any (hu_of hr)) (pv 2) pe_int (fun _ _ => rfl)) pe_int (fun _ _ => rfl)) pa_nil)))) (by intro _; rfl))))))) (pss_one (ps_ret pe_bl)) pss_nil))))))
      (pss_one (ps_ret pe_bl)))))
end
end W

end
section
namespace W
open PySem PySem.Spec PyProof.Rows L2 Cm
def loose0 : List Str := ["StillError", "BadDeal", "BadHand", "BadLetter", "BadTime", "BadKey", "BadHouse", "NoCopy", "Behind", "BadBlock", "BadEntry", "BadText", "Stopped", "BLOCKS", "MOST_WEIGHT", "weight_of", "Disk", "_law_begun", "_law_take", "_law_alike", "_law_class", "_law_nest", "_law_what", "_law_weight", "_law_made"]
def loose1 : List Str := ["_law_fall", "_law_count", "_law_told", "_law_write", "_law_arms", "_law_is"]
def loose : List Str := loose0 ++ (loose1)
abbrev R : PySem.W.OpenRow := PySem.W.OpenLaw.row PySem.Challenge.rw_stillcopy_k05_disks
abbrev hk : PySem.W.Hook := He.hookX 6 fa fn [] tf exf
def ob (s : PySem.W.SharedT) : He.AlX := He.obsX 6 fa fn [] tf exf (HandSHeadRun.getT s)
theorem ob_eq (s : PySem.W.SharedT) : ob s = hk.obs s.abs := He.obsX_eq (HandSHeadRun.getT_eq s)
theorem run (w : World) : HandSHeadRun.RunEq R (PySem.W.view R.prog [34]) hk ob 6000 loose w := by
  intro os
  kernel_rfl
end W

end
section
/-! ### the end -/
namespace W
open PySem PySem.Spec PyProof.Rows L2 Cm
theorem noX {P : Program} {w : World} {outer : List Env} {H : Hp} {s : Shared} {e : Value} {s' : Shared} (z : L2N.CX P w outer H s (fun _ _ _ => False) e s') : False := by
  obtain ⟨_, _, _, _, _, _, _, _, _, _, _, _, z⟩ := z
  exact z
end W

namespace W
open PySem PySem.Spec PyProof.Rows L2 Cm
theorem law_at {w : World} {h : Heap} {K : PySem.W.Frag} {mg : Str → Option Value} {f : Addr} (KX : K.In h) (G : h.Ns mainGlobals mg) (hmg : mg "law" = some (.ref f)) (c : He.SaysX fa fn [] tf exf w h K) : LamX.LawAtS PySem.Challenge.rw_stillcopy_k05_disks w K (L2N.CX (PySem.Challenge.rw_stillcopy_k05_disks).prog w) 13 63 "_law_script" mg f h := by
  have T : Tx w K mg := ⟨h, KX, G, c⟩
  have e : f = He.fAd K ("law", none) := by
    have z := hmg.symm.trans T.g_law
    injection z with z
    injection z
  subst e
  obtain ⟨fd, F⟩ := T.dfn 28 (d := d_law) rfl
  refine ⟨fd, tf.map (He.cT K), S_law K, ?_, ?_, ?_, fun s u => F.bindsA (ps := ["_law_script"]) (fun _ _ _ _ _ _ us hl => match us, hl with | [_], _ => rfl) s [u] rfl, fun H a ns hl _ hT hS => ⟨_, rfl, a, ns, rfl, hS, hl, fun p hp => ?_, fun _ => rfl⟩, fun base hK hN TB => ?_⟩
  · intro p hp
    obtain ⟨d, hd, rfl⟩ := List.mem_map.mp hp
    exact c.empty d hd
  · intro p hp
    obtain ⟨d, hd, rfl⟩ := List.mem_map.mp hp
    exact c.out d hd
  · intro p hp
    obtain ⟨d, hd, rfl⟩ := List.mem_map.mp hp
    exact PySem.W.codeHd_of_K KX (c.hd d hd)
  · obtain ⟨d, hd, rfl⟩ := List.mem_map.mp hp
    exact LamX.TabS.nil (hT _ (List.mem_map.mpr ⟨d, hd, rfl⟩))
  · obtain ⟨fd', _, _, ok, oc, od, osl, lk⟩ := ok_law (P := (PySem.Challenge.rw_stillcopy_k05_disks).prog) (base := base) T (fun p hp => TB _ (List.mem_map.mpr ⟨p, hp, rfl⟩))
    obtain ⟨oc', od', dV, kV, doc, pm, an, cdv, ct, osl', e, lk', _⟩ := F.ex
    have z := lk.symm.trans lk'
    injection z with z
    injection z with _ _ z
    injection z with z
    rw [← z]
    exact ok
end W
theorem PySem.Challenge.cw_stillcopy_k05_disks_holds : PySem.Challenge.rw_stillcopy_k05_disks.Holds := by
  w_on; o_law
  refine HandSHeadRun.head_any (r := W.R) (q := PySem.W.view W.R.prog [34]) (H := W.hk) (ob := W.ob) (M := 6000) (loose := W.loose) (d := HandSHeadRun.topDef W.R.prog 34) (kwd := []) W.ob_eq
    (by kernel_rfl) (fun s => by kernel_rfl) W.run (by kernel_rfl) (by kernel_rfl) (by kernel_rfl) (by rfl) (by first | assumption | decide +kernel) (by decide +kernel) ⟨rfl, rfl, rfl, rfl, rfl, by decide +kernel⟩ ?hw ?hc
  case hw => w_witness2
  case hc =>
    refine LamX.walk_ofTsE (l := PySem.Challenge.rw_stillcopy_k05_disks) (n := 63) (k := 13) (x := "_law_script") (CX := fun w => L2N.CX (PySem.Challenge.rw_stillcopy_k05_disks).prog w) rfl (by decide) (by kernel_rfl) ⟨rfl, by decide, by decide⟩ ?F (fun _ _ _ _ _ z => W.noX z)
    intro w mg fa h Y G hmg0
    have hmg : mg ("law" : PySem.Str) = some (.ref fa) := by
      have e : (HandSHeadRun.topDef W.R.prog 34).name = ("law" : PySem.Str) := by kernel_rfl
      rw [← e]
      exact hmg0
    obtain ⟨K, KX, c⟩ := Y
    exact ⟨K, KX, W.law_at KX G hmg c⟩

end
