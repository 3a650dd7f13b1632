import PyProof.Rows.All
import Wide.All
import OpenK.AllK
import Wide.FinOn
import KE.KStateDown
import KE.GoesMore
import KE.KDictPairs
import KE.KExcIs
import Lean
import HandS.ForMost
import HandS.ForExc
import HandS.Defaults
import HandS.Conv
import HandS.Flow
import HandS.Small
import HandS.TupAny
import HandS.Wide
import HandS.IsInst
import HandS.ExcIs
import HandS.HotCalls
import HandS.SetFor
import HandS.Zip
import HandS.More
import HandS.Strs
import HandS.ExcInit
import HandS.ExcInitHot
import HandS.ExcField
import HandS.Dict
import HandS.Lambda
import HandS.Head0
import HandS.Head1
import HandS.Head2
import HandS.HeadEnd
import HandS.HeadHook1
import HandS.HeadHook2
import HandS.HeadHook3
import HandS.HeadHook4
import HandS.HeadWalk
import KE.DataMinMax
import KE.SortData
import KE.SortLaws
import HandS.Style
import HandS.RaiseMore
import HandS.Codes
import HandS.Text
import HandS.Deep
import HandS.Iter
import PySem.Challenge.RW_stillcopy_k19_texts_refused
set_option Elab.async false
set_option linter.all false
set_option maxRecDepth 100000
set_option maxHeartbeats 1000000
section
namespace Cm
open PySem PySem.Spec PyProof.Rows L2
section
variable {X : Cx}
def rIxD : R2 := fun x y H Q => ∃ a v, x = .ref a ∧ DGet H a y (some v) ∧ Q v H
theorem tail_typed {prog : Program} {w : World} {A : Around} {E : Value → Shared → Prop} {s : Shared} {value slice : Expr} {T id : String} {o i : Value} {Q : Value → Shared → Prop}
  (hT : s.TypeIs o T) (hl : typeLookup (.type T) "__getitem__" = pure (some (.builtin id))) (hs : subscripted slice false o i = operate [o, i] (getItem o i)) (h : wpAny (model prog w) A (getItem o i) Q E s) :
  wpAny (model prog w) A (subscriptTail value slice o i) Q E s := by
 unfold subscriptTail
 refine wpAny_bind ?_
 rw [getitemInPython_of_ne hT.not_modules]
 refine wpAny_bind (wpAny_specialOf hT hl ?_)
 have fin : wpAny (model prog w) A (subscripted slice false o i) (fun r s₃ => wpAny (model prog w) A (letTemporaryGo value o r >>= fun _ => pure r) Q E s₃) E s := by
  rw [hs]
  exact wpAny_operating (wpAny_mono h (fun r s₃ h₃ => wpAny_bind (wpAny_letTemporaryGo (wpAny_pure h₃))) fun _ _ x => x)
 first
  | exact wpAny_pure (wpAny_bind fin)
  | exact wpAny_bind (wpAny_pure (wpAny_bind fin))
  | exact wpAny_bind fin
theorem ix_dict (hu : X.A.units + 1 < cLine) : IxR X rIxD := by
 intro value slice pins s σ H x y v u Q I rx ry h hs
 obtain ⟨a, z, rfl, g, q⟩ := h
 obtain rfl : v = Value.ref a := rx
 exact tail_typed (dict_typeIs I g) PySem.F.slot_dict_getitem.lookup hs (d_getItem hu I g ry fun w' s3 I3 rw' => ⟨z, H, I3, rw', q⟩)
def rIxA (K : PySem.W.Frag) : R2 := fun x y H Q => (rIxL K x y H Q ∨ rIxT K x y H Q ∨ rIxS x y H Q) ∨ rIxD x y H Q
theorem ix_any (hu : X.A.units + 1 < cLine) : IxR X (rIxA X.K) := ix_seq.or (ix_dict hu)
def rSetA : TSet := fun o i v H Q => rSetL o i v H Q ∨ rSetD o i v H Q
theorem set_any (hu : X.A.units + 1 < cLine) : PSet X rSetA := by
 intro pins s σ H o i v ov iv u Q I ro ri rv h
 rcases h with h | h
 ·exact set_list pins s σ H o i v ov iv u Q I ro ri rv h
 ·exact set_dict hu pins s σ H o i v ov iv u Q I ro ri rv h
def rEqE (K : PySem.W.Frag) : R2 := fun x y H Q => ∃ a b xs, x = .ref a ∧ y = .ref b ∧ SqL K H a xs ∧ SqL K H b [] ∧ Q (.bl xs.isEmpty) H
def rNeE (K : PySem.W.Frag) : R2 := fun x y H Q => ∃ a b xs, x = .ref a ∧ y = .ref b ∧ SqL K H a xs ∧ SqL K H b [] ∧ Q (.bl (!xs.isEmpty)) H
theorem op_eqE (hu : X.A.units + 64 < cLine) : OpR X (compareOp .Eq) (rEqE X.K) := by
 intro pins s σ H x y v u Q I rx ry h
 obtain ⟨a, b, xs, rfl, rfl, ha, hb, q⟩ := h
 obtain rfl : v = Value.ref a := rx
 obtain rfl : u = Value.ref b := ry
 obtain ⟨its, r1, p1, _⟩ := I.list ha
 obtain ⟨its2, r2, p2, _⟩ := I.list hb
 cases r2
 cases r1 with
 | nil => exact SeqAt.eq_listAt (e := fun _ => true) p1.isList p2.isList rfl (by omega) (fun j h1 => absurd h1 (by simp)) ⟨.bl true, H, I, rfl, q⟩
 | cons z zs => exact SeqAt.eq_list_lengthsAt p1.isList p2.isList (by simp) (by omega) ⟨.bl false, H, I, rfl, q⟩
theorem op_neE (hu : X.A.units + 64 < cLine) : OpR X (compareOp .NotEq) (rNeE X.K) := by
 intro pins s σ H x y v u Q I rx ry h
 obtain ⟨a, b, xs, rfl, rfl, ha, hb, q⟩ := h
 obtain rfl : v = Value.ref a := rx
 obtain rfl : u = Value.ref b := ry
 obtain ⟨its, r1, p1, _⟩ := I.list ha
 obtain ⟨its2, r2, p2, _⟩ := I.list hb
 cases r2
 cases r1 with
 | nil => exact SeqAt.RcNeAt.lists (e := fun _ => true) p1.isList p2.isList rfl (by omega) (fun j h1 => absurd h1 (by simp)) X.prog X.w X.xe _ ⟨.bl false, H, I, rfl, q⟩
 | cons z zs => exact SeqAt.RcNeAt.lists_lengths p1.isList p2.isList (by simp) (by omega) X.prog X.w X.xe _ ⟨.bl true, H, I, rfl, q⟩
def rEqA (K : PySem.W.Frag) : R2 := fun x y H Q => (rEq x y H Q ∨ rEqE K x y H Q) ∨ rEqD K x y H Q
def rNeA (K : PySem.W.Frag) : R2 := fun x y H Q => (rNe x y H Q ∨ rNeE K x y H Q) ∨ rNeD K x y H Q
theorem op_eqA (hu : X.A.units + 64 < cLine) : OpR X (compareOp .Eq) (rEqA X.K) := (op_eq.or (op_eqE hu)).or (op_eqD hu)
theorem op_neA (hu : X.A.units + 64 < cLine) : OpR X (compareOp .NotEq) (rNeA X.K) := (op_ne.or (op_neE hu)).or (op_neD hu)
def rAddT : R2 := fun x y H Q => ∃ i j : Str, x = .str i ∧ y = .str j ∧ i.length + j.length ≤ sizeLine ∧ Q (.str (i ++ j)) H
def rAddA (K : PySem.W.Frag) : R2 := fun x y H Q => ((rI0 (fun i j => .int (i + j)) x y H Q ∨ rAddT x y H Q) ∨ rCat x y H Q) ∨ rCatA K x y H Q
theorem op_addA : OpR X (binaryOp .Add) (rAddA X.K) := ((op_add.or op_add_str).or op_cat).or op_catA
def rMulA : R2 := fun x y H Q => rI CMul (fun i j => .int (i * j)) x y H Q ∨ rRep x y H Q
theorem op_mulA : OpR X (binaryOp .Mult) rMulA := op_mul.or op_rep
def rDIn : R2 := fun y x H Q => ∃ a o, x = .ref a ∧ DGet H a y o ∧ Q (.bl o.isSome) H
def rDNotIn : R2 := fun y x H Q => ∃ a o, x = .ref a ∧ DGet H a y o ∧ Q (.bl (!o.isSome)) H
theorem op_dIn (hu : X.A.units + 1 < cLine) : OpR X (compareOp .In) rDIn := by
 intro pins s σ H y x v u Q I ry rx h
 obtain ⟨a, o, rfl, g, q⟩ := h
 obtain rfl : u = Value.ref a := rx
 exact d_in hu I g ry fun s3 I3 => ⟨.bl o.isSome, H, I3, rfl, q⟩
theorem op_dNotIn (hu : X.A.units + 1 < cLine) : OpR X (compareOp .NotIn) rDNotIn := by
 intro pins s σ H y x v u Q I ry rx h
 obtain ⟨a, o, rfl, g, q⟩ := h
 obtain rfl : u = Value.ref a := rx
 exact d_notIn hu I g ry fun s3 I3 => ⟨.bl (!o.isSome), H, I3, rfl, q⟩
def rInA (K : PySem.W.Frag) : R2 := fun x y H Q => rIn K false x y H Q ∨ rDIn x y H Q
def rNotInA (K : PySem.W.Frag) : R2 := fun x y H Q => rIn K true x y H Q ∨ rDNotIn x y H Q
theorem op_inA (hu : X.A.units + 64 < cLine) : OpR X (compareOp .In) (rInA X.K) := op_in_seq.or (op_dIn (by omega))
theorem op_notInA (hu : X.A.units + 64 < cLine) : OpR X (compareOp .NotIn) (rNotInA X.K) := op_notIn_seq.or (op_dNotIn (by omega))
def rLenA (K : PySem.W.Frag) : List V → Hp → VK → Prop := fun xs H Q => ((∃ p ys, xs = [.ref p] ∧ (SqL K H p ys ∨ SqT K H p ys) ∧ Q (.int ys.length) H) ∨ (∃ z : Str, xs = [.str z] ∧ z.length ≤ sizeLine ∧ Q (.int z.length) H))
theorem call_lenA : CallR X (.builtin "len") (rLenA X.K) := call_len_seq.or call_len_str
def rSlAny (K : PySem.W.Frag) : V → Option Int → Option Int → Hp → VK → Prop := fun x lo hi H Q => rSlL K x lo hi H Q ∨ rSlA K x lo hi H Q
theorem sl_any : SlR X (rSlAny X.K) := sl_list.or sl_tupA
end
end Cm
end
section
namespace Cm
open PySem PySem.Spec PyProof.Rows L2
theorem bt_len : bootBuiltins "len" = some (.builtin "len") := by decide +kernel
theorem bt_abs : bootBuiltins "abs" = some (.builtin "abs") := by decide +kernel
theorem bt_isinstance : bootBuiltins "isinstance" = some (.builtin "isinstance") := by decide +kernel
theorem bt_list : bootBuiltins "list" = some (.type "list") := by decide +kernel
theorem bt_tuple : bootBuiltins "tuple" = some (.type "tuple") := by decide +kernel
theorem bt_int : bootBuiltins "int" = some (.type "int") := by decide +kernel
theorem bt_str : bootBuiltins "str" = some (.type "str") := by decide +kernel
theorem bt_bool : bootBuiltins "bool" = some (.type "bool") := by decide +kernel
theorem bt_ValueError : bootBuiltins "ValueError" = some (.type "ValueError") := by decide +kernel
def rIsNo : R2 := fun x y H Q => y = .non ∧ Q (.bl (decide (x = .non))) H
def rNotNo : R2 := fun x y H Q => y = .non ∧ Q (.bl (!decide (x = .non))) H
def rInt1 : List V → Hp → VK → Prop := fun xs H Q => (∃ i, xs = [.int i] ∧ Q (.int i) H) ∨ ∃ k, xs = [.bl k] ∧ Q (.int (if k then 1 else 0)) H
def rStrI : List V → Hp → VK → Prop := fun xs H Q => ∃ i : Int, xs = [.int i] ∧ i.natAbs.log2 < 1920 ∧ Q (.str (toString i)) H
def rMax2 : List V → Hp → VK → Prop := fun xs H Q => ∃ i j : Int, xs = [.int i, .int j] ∧ Q (.int (if j > i then j else i)) H
def rMin2 : List V → Hp → VK → Prop := fun xs H Q => ∃ i j : Int, xs = [.int i, .int j] ∧ Q (.int (if j < i then j else i)) H
def rAbs : List V → Hp → VK → Prop := fun xs H Q => ∃ i : Int, xs = [.int i] ∧ Q (.int (if i < 0 then -i else i)) H
def rTupleA (K : PySem.W.Frag) : List V → Hp → VK → Prop := fun xs H Q => ∃ p ys, xs = [.ref p] ∧ ((SqL K H p ys ∧ ∀ l, H l = none → Q (.ref l) (upd H l (.tup ys))) ∨ (SqT K H p ys ∧ Q (.ref p) H))
def rListS (K : PySem.W.Frag) : List V → Hp → VK → Prop := fun xs H Q => ∃ p ys, xs = [.ref p] ∧ (SqL K H p ys ∨ SqT K H p ys) ∧ ∀ l, H l = none → Q (.ref l) (upd H l (.lst ys))
def rListDk : List V → Hp → VK → Prop := fun xs H Q => ∃ (a : Addr) (kvs : List (Key × V)), xs = [.ref a] ∧ Rd H a (.dK kvs) ∧ ∀ p, H p = none → Q (.ref p) (upd H p (.lst (kvs.map fun kv => kV kv.1)))
def rListA (K : PySem.W.Frag) : List V → Hp → VK → Prop := fun xs H Q => rListS K xs H Q ∨ rListDk xs H Q
section
variable {X : Cx}
theorem op_isNo : OpR X (compareOp .Is) rIsNo := op_isN
theorem op_notNo : OpR X (compareOp .IsNot) rNotNo := op_notN
theorem call_listA (hc : X.calm = true) : CallR X (.type "list") (rListA X.K) := call_list_of.or (call_listD hc)
def tTr (K : PySem.W.Frag) (ta : TE) : TT := fun σ H Q => ta σ H fun x H' => ∃ k, TruV K x H' k ∧ Q k H'
def iSeq (K : PySem.W.Frag) (tl : TE) : TI := fun σ H R => iList K tl σ H R ∨ iTup K tl σ H R
theorem pi_seq {tg l : Expr} {tl : TE} (hl : PE X l tl) : PI X tg l (iSeq X.K tl) := ⟨fun pins s σ H R I h => by
 rcases h with h | h
 ·exact (pi_list hl).run pins s σ H R I h
 ·exact (pi_tup hl).run pins s σ H R I h⟩
theorem psG {E : XK} {E₁ : Value → Shared → Prop} (hs : X.stack = X.env :: X.outer) (hf : X.env.frame = some X.env.locals) (hex : X.ex = [])
  (hx : X.xe = fun e s' => wpAny (model X.prog X.w) X.A (leaving X.env e) (fun _ s'' => L2N.CX X.prog X.w X.outer X.H_0 X.s_0 E e s'') E₁ s') : Passes (L2N.CX X.prog X.w) X E := L2N.passes_call (L2N.takes_of hs hf hex hx) (fun _ _ _ _ h => h)
theorem psN : Passes (L2N.CX X.prog X.w) X E0 := fun _ _ _ _ _ _ _ h => by
 obtain ⟨_, _, _, _, _, _, _, _, _, _, _, _, z⟩ := h
 exact z.elim
theorem tkN : L2N.Takes X (fun _ _ _ _ => False) := fun _ _ x => by
 obtain ⟨_, _, _, _, _, _, _, _, _, _, _, _, _, _, _, _, z⟩ := x
 exact z.elim
def tRs (E : XK) (C : Addr) : TS := fun _ _ H => E (.ref C) none H
end
def sp0 (f : Hp → VK → XK → Prop) : Sp := fun vs H Q E => vs = [] ∧ f H Q E
def sp1 (f : V → Hp → VK → XK → Prop) : Sp := fun vs H Q E => ∃ a, vs = [a] ∧ f a H Q E
def sp2 (f : V → V → Hp → VK → XK → Prop) : Sp := fun vs H Q E => ∃ a b, vs = [a, b] ∧ f a b H Q E
def sp3 (f : V → V → V → Hp → VK → XK → Prop) : Sp := fun vs H Q E => ∃ a b c, vs = [a, b, c] ∧ f a b c H Q E
def sp4 (f : V → V → V → V → Hp → VK → XK → Prop) : Sp := fun vs H Q E => ∃ a b c d, vs = [a, b, c, d] ∧ f a b c d H Q E
def sp5 (f : V → V → V → V → V → Hp → VK → XK → Prop) : Sp := fun vs H Q E => ∃ a b c d e, vs = [a, b, c, d, e] ∧ f a b c d e H Q E
section
variable {P : Program} {w : World} {K : PySem.W.Frag} {mg : Str → Option Value} {base : Heap}
def DOk (P : Program) (w : World) (K : PySem.W.Frag) (mg : Str → Option Value) (base : Heap) (k : Nat) (at_ : Str × Option Str) (ps : List Str) (sp : Sp) : Prop :=
 ∃ fd, Binds K fd ps [] ∧ PySem.W.keepIn K (.ref (He.fAd K at_)) = true ∧ FnOk P w K mg base (L2N.CX P w) k (He.fAd K at_) fd ps sp ∧ ∃ oc od osl, K.lookup (He.fAd K at_) = some ⟨oc, od, .func fd, osl⟩
theorem dok_of {x qual : Str} {params : Arguments} {body : List Stmt} {scope : Scope} {at_ : Str × Option Str} {N ps : List Str} {k : Nat} {sp : Sp} (F : ∃ fd, FunD K x qual params body scope [] [] (He.fAd K at_) fd) (S : FnScope N ps scope)
  (hb : ∀ (kV doc pm : Value) (an : Option Addr) (cdv ct : Value) (us : List Value), us.length = ps.length → bindArgs (PySem.W.fnOf x qual params body scope .none kV doc pm an cdv ct) ⟨us, []⟩ = pure (ps.zip us)) (len : ∀ vs H Q E, sp vs H Q E → vs.length = ps.length)
  (hbody : ∀ (cdv : Value) (A : Around) (outer : List Env) (s : Shared) (H : Hp) (vs : List V) (Q : VK) (E : XK), Room k (A.deeper (envOfC qual scope s.heap.objs.size (He.fAd K at_) cdv)) → sp vs H Q E →
   ∃ t, PSs (cxOf (L2N.CX P w) P w K mg base N qual scope (He.fAd K at_) cdv A outer s H E) body t ∧ t { nx := fun _ H' => Q .non H', rt := Q } (start N vs) H) : DOk P w K mg base (k + 1) at_ ps sp := by
 obtain ⟨fd, F⟩ := F
 refine ⟨fd, F.bindsN hb, F.kp, F.ok S len hbody, ?_⟩
 obtain ⟨oc, od, dV, kV, doc, pm, an, cdv, ct, osl, rfl, lk, hcd, _, _⟩ := F.ex
 exact ⟨oc, od, osl, lk⟩
theorem dok_ofC {x qual : Str} {params : Arguments} {body : List Stmt} {scope : Scope} {at_ : Str × Option Str} {N ps : List Str} {k : Nat} {sp : Sp} (F : ∃ fd, FunD K x qual params body scope [] [] (He.fAd K at_) fd) (S : FnScope N ps scope)
  (hb : ∀ (kV doc pm : Value) (an : Option Addr) (cdv ct : Value) (us : List Value), us.length = ps.length → bindArgs (PySem.W.fnOf x qual params body scope .none kV doc pm an cdv ct) ⟨us, []⟩ = pure (ps.zip us)) (len : ∀ vs H Q E, sp vs H Q E → vs.length = ps.length)
  (hbody : ∀ (cdv : Value) (A : Around) (outer : List Env) (s : Shared) (H : Hp) (vs : List V) (Q : VK) (E : XK), cdv = .ref (He.codeOf K at_) → Room k (A.deeper (envOfC qual scope s.heap.objs.size (He.fAd K at_) cdv)) → sp vs H Q E →
   ∃ t, PSs (cxOf (L2N.CX P w) P w K mg base N qual scope (He.fAd K at_) cdv A outer s H E) body t ∧ t { nx := fun _ H' => Q .non H', rt := Q } (start N vs) H) : DOk P w K mg base (k + 1) at_ ps sp := by
 obtain ⟨fd, F⟩ := F
 refine ⟨fd, F.bindsN hb, F.kp, ?_⟩
 obtain ⟨oc, od, dV, kV, doc, pm, an, cdv, ct, osl, rfl, lk, hcd, _, _⟩ := F.ex
 obtain ⟨c, e⟩ := He.codeIn_ref hcd
 subst e
 refine ⟨?_, oc, od, osl, lk⟩
 exact fn_of lk hcd S len fun A outer s H vs Q E hr hsp => hbody (.ref c) A outer s H vs Q E (by rw [He.codeOf_eq lk rfl]) hr hsp
theorem dok_false {x qual : Str} {params : Arguments} {body : List Stmt} {scope : Scope} {at_ : Str × Option Str} {N ps : List Str} {k : Nat} (F : ∃ fd, FunD K x qual params body scope [] [] (He.fAd K at_) fd) (S : FnScope N ps scope)
  (hb : ∀ (kV doc pm : Value) (an : Option Addr) (cdv ct : Value) (us : List Value), us.length = ps.length → bindArgs (PySem.W.fnOf x qual params body scope .none kV doc pm an cdv ct) ⟨us, []⟩ = pure (ps.zip us)) : DOk P w K mg base (k + 1) at_ ps (fun _ _ _ _ => False) :=
 dok_of F S hb (fun _ _ _ _ h => h.elim) (fun _ _ _ _ _ _ _ _ _ h => h.elim)
end
theorem len1 {f : V → Hp → VK → XK → Prop} (vs : List V) (H : Hp) (Q : VK) (E : XK) (h : sp1 f vs H Q E) : vs.length = 1 := by
 obtain ⟨_, rfl, _⟩ := h; rfl
theorem len2 {f : V → V → Hp → VK → XK → Prop} (vs : List V) (H : Hp) (Q : VK) (E : XK) (h : sp2 f vs H Q E) : vs.length = 2 := by
 obtain ⟨_, _, rfl, _⟩ := h; rfl
end Cm
end
section
namespace Cm
open PySem PySem.Spec PyProof.Rows L2 L2H
def lamN (X : Cx) (A : Around) (outer : List Env) (s : Shared) (H : Hp) (E : XK) (scope : Scope) (f c' : Addr) : Cx :=
 (LamX.lamCx X A outer s H E scope f c').tr [] fun e s' =>
  wpAny (model X.prog X.w) (A.deeper (LamX.lamEnv X scope s.heap.objs.size f c')) (leaving (LamX.lamEnv X scope s.heap.objs.size f c') e)
   (fun _ s2 => L2N.CX X.prog X.w outer H s E e s2) (fun e2 s2 => L2N.CX X.prog X.w outer H s E e2 s2) s'
section
variable {X : Cx} {pins : List (Addr × Obj)} {σ : L2.St} {H : Hp} {s : Shared}
abbrev zCx (CXg : CXT) (X : Cx) (Ng : List Str) (qg : Str) (sg : Scope) (g : Addr) (cdg : Value) (s : Shared) (H : Hp) (Eg : XK) : Cx := cxOf CXg X.prog X.w X.K X.mg X.base Ng qg sg g cdg X.A X.stack s H Eg
theorem act_n {CXg : CXT} {Eg : XK} {Ng : List Str} {qg : Str} {sg : Scope} {g f c' : Addr} {cdg pm ctv : Value} {params : Arguments} {body : Expr} {scope : Scope} {k i : Nat} {a : Str}
  {pn : List (Addr × Obj)} {xe : Value → Shared → Prop} {W : WX} {E : XK} {tb : TE} {p1 p2 : Pos} (I : Inv X pins σ H s) (L : LamX.LamS X.env.scope scope)
  (hf : s.heap.get? f = some (PySem.W.kla_obj "<lambda>" (X.env.qual ++ "<lambda>") params body scope (cloFrom X.env.cells scope.names []) pm c' ctv)) (hfn : H f = none) (hfr : f ∉ frs X.stack)
  (hbind : bindArgs (PySem.W.kla_fn "<lambda>" (X.env.qual ++ "<lambda>") params body scope (cloFrom X.env.cells scope.names []) pm (.ref c') ctv) ⟨[], []⟩ = pure [])
  (tk : L2N.Takes ((zCx CXg X Ng qg sg g cdg s H Eg).tr pn xe) W) (hW : ∀ cls d σ' H', E cls d H' → W cls d σ' H') (hr : Room (k + 1) (X.A.deeper (envOfC qg sg s.heap.objs.size g cdg)))
  (hbody : ∀ (A : Around) (outer : List Env) (s : Shared) (H : Hp), Room k (A.deeper (LamX.lamEnv X scope s.heap.objs.size f c')) → PE (lamN X A outer s H E scope f c') body tb)
  (hN : Ng[i]? = some a) (hv : Vis sg a) (hd : (a == ("__debug__" : Str)) = false := by decide) (hcd : (a == ("__classdict__" : Str)) = false := by decide) :
  PE ((zCx CXg X Ng qg sg g cdg s H Eg).tr pn xe) (.Call (.Name a p1) [] [] p2) (fun σZ HZ Q => σZ[i]? = some (some (.ref f)) ∧ HZ c' = some (LamX.CodeO c' (X.env.qual ++ "<lambda>")) ∧ tb σ HZ Q) := by
 constructor
 rintro pinsZ sZ σZ HZ Q IZ ⟨hslot, hcode, ht⟩
 have nm := (pe_var (X := (zCx CXg X Ng qg sg g cdg s H Eg).tr pn xe) (pos := p1) (i := i) hN hv hd hcd).run pinsZ sZ σZ HZ (fun v H1 => v = .ref f ∧ H1 = HZ) IZ ⟨.ref f, hslot, rfl, rfl⟩
 refine wpAny_Call_Name_kw (thn nm ?_)
 rintro u s1 ⟨v, H1, I1, r1, rfl, rfl⟩
 obtain rfl : u = Value.ref f := r1
 have at1 := I1.base.keep f _ hf hfn hfr (fun z => nomatch (show f ∈ ([] : List Addr) from z))
 refine PySem.W.callWith_F0 ⟨_, _, _, _, at1⟩ ?_
 obtain ⟨⟨oc, vs, t, hoc, hdc, hvc⟩, _, _⟩ := I1.hok c' _ hcode
 have inner : codeAny (model X.prog X.w) (X.A.deeper (envOfC qg sg s.heap.objs.size g cdg)) (.call (.ref f) ⟨[], []⟩)
   (CR (L2N.CX X.prog X.w) (envOfC qg sg s.heap.objs.size g cdg :: X.stack) X.prog X.w H1 s1 Q E) s1 := by
  refine PySem.W.kla_callFunE hr.depth at1 rfl L.co L.gen rfl ⟨c', oc, vs, t, rfl, hoc, hdc, hvc⟩ ?_
  rw [hbind]
  refine wpAny_pure (wpAny_newFunctionEnv (fun y hy => (L.own y hy).2) (fun y hy => absurd hy (by simp)) (fun h1 hns hsb => ⟨I1.nolimit.fresh _ hsb, ?_⟩) L.kind)
  have kp : ∀ b o, s1.heap.get? b = some o → h1.get? b = some o := fun b o e => hsb.extBut b o (Nat.ne_of_lt (Heap.lt_size e)) (Heap.get?_push_of_some _ e)
  have J0 := LamX.lam_start2 (E := E) (f := f) (c' := c') (tk := s1.toks + ([] : List (Str × Value)).length) I L I1.env0 hr.hd I1.base hns kp
  have J := J0.toTry (fun e s' => wpAny (model X.prog X.w) ((X.A.deeper (envOfC qg sg s.heap.objs.size g cdg)).deeper (LamX.lamEnv X scope s1.heap.objs.size f c')) (leaving (LamX.lamEnv X scope s1.heap.objs.size f c') e)
   (fun _ s2 => L2N.CX X.prog X.w (envOfC qg sg s.heap.objs.size g cdg :: X.stack) H1 s1 E e s2) (fun e2 s2 => L2N.CX X.prog X.w (envOfC qg sg s.heap.objs.size g cdg :: X.stack) H1 s1 E e2 s2) s')
  have go := (hbody _ _ s1 H1 (hr.deeper _)).run [] _ σ H1 Q J ht
  refine PySem.W.kla_codeExpr (wpAny_mono go ?_ fun e s' hq => hq)
  rintro v s' ⟨w', H', J', rv, q⟩
  exact ⟨w', H', J'.os, J'.bare, J'.base, J'.hok, rv, q⟩
 have out : Passes (L2N.CX X.prog X.w) ((zCx CXg X Ng qg sg g cdg s H Eg).tr pn xe) E := L2N.passes_call tk hW
 refine wpAny_call (codeAny_mono inner ?_)
 rintro (e | fl) s' hq
 ·exact out pinsZ σZ H1 s1 e s' I1 hq
 ·cases fl with
  | ret u => exact I1.after hq
  | next => exact False.elim hq
  | brk => exact False.elim hq
  | cont => exact False.elim hq
end
def GivesN (X : Cx) (k : Nat) (Ng : List Str) (x : Str) (sg : Scope) (g : Addr) (cdg : Value) (bg : List Stmt) (a : Str) (q : Str) (TT : (XK → Hp → VK → Prop) → Hp → VK → Prop) : Prop :=
 ∀ (f c' : Addr) (s : Shared) (H : Hp) (Q : VK) (tl : XK → Hp → VK → Prop), Room k (X.A.deeper (envOfC x sg s.heap.objs.size g cdg)) →
  (∀ (W : WX) (pn : List (Addr × Obj)) (xe : Value → Shared → Prop) (E : XK) (p1 p2 : Pos), L2N.Takes ((zCx CX0 X Ng x sg g cdg s H E0).tr pn xe) W → (∀ cls d σ' H', E cls d H' → W cls d σ' H') →
   PE ((zCx CX0 X Ng x sg g cdg s H E0).tr pn xe) (.Call (.Name a p1) [] [] p2) (fun σZ HZ Q => σZ[0]? = some (some (.ref f)) ∧ HZ c' = some (LamX.CodeO c' q) ∧ tl E HZ Q)) →
  H c' = some (LamX.CodeO c' q) → TT tl H Q → ∃ t, PSs (zCx CX0 X Ng x sg g cdg s H E0).nox bg t ∧ t { nx := fun _ H' => Q .non H', rt := Q } (L2.start Ng [.ref f]) H
section
variable {X : Cx}
theorem lam_n {T : List (Addr × Str)} {TT : (XK → Hp → VK → Prop) → Hp → VK → Prop} {x a : Str} {g c P : Addr} {k : Nat} {pg : Arguments} {bg : List Stmt} {sg : Scope} {fd : FuncData} {Ng : List Str} {params : Arguments} {body : Expr} {scope : Scope} {t : XK → TE} {p lpos pos : Pos}
  (F : FunD X.K x x pg bg sg [] [] g fd) (hg : Gl X x) (hm : X.mg x = some (.ref g)) (hb : L2.Binds X.K fd [a] []) (Sg : FnScope Ng [a] sg) (hNg : Ng[0]? = some a) (hva : Vis sg a)
  (hG : ∀ cdv, GivesN X (k + 1) Ng x sg g cdv bg a (X.env.qual ++ "<lambda>") TT) (TB : LamX.TabB X.base X.mg c P) (hcode : X.env.code = .ref c) (hmT : (P, X.env.qual ++ "<lambda>") ∈ T) (hu : ∀ p ∈ T, p.1 = P → p.2 = X.env.qual ++ "<lambda>")
  (hr : Room (k + 2) X.A) (L : LamX.LamS X.env.scope scope) (hdef : defaultsOf params X.env = ([], [])) (hbind : ∀ (q : Str) (cl : List (Str × Addr)) (pm cv ctv : Value), bindArgs (PySem.W.kla_fn "<lambda>" q params body scope cl pm cv ctv) ⟨[], []⟩ = pure [])
  (hbody : ∀ (A : Around) (outer : List Env) (s : Shared) (H : Hp) (E : XK) (f c' : Addr), Room k (A.deeper (LamX.lamEnv X scope s.heap.objs.size f c')) → PE (lamN X A outer s H E scope f c') body (t E))
  (hdb : (x == ("__debug__" : Str)) = false := by decide) (hd : (a == ("__debug__" : Str)) = false := by decide) (hcd : (a == ("__classdict__" : Str)) = false := by decide) :
  PE X (.Call (.Name x p) [.Lambda params body scope lpos] [] pos) (LamX.tLam T TT t) := by
 obtain ⟨oc, od, dV, kV, doc, pm0, an, cdv, ct, osl, rfl, lk, hcg, _, _⟩ := F.ex
 constructor
 rintro pins s σ H Q I ⟨hT, h⟩
 refine wpAny_Call_Name_kw (ld_glob I hg hm ?_ hdb)
 refine PySem.W.callWith_K (h₀ := X.base) I.ok.mod.kin F.kp ?_ (by rfl) (by rfl)
 refine Calls.spliced_cons (LamX.lam_make2 I TB hcode hmT hu hT hdef (L.has I.ok) ?_)
 intro f c' pm' ctv H1 s' I1 eN T1 hf hfn hfr hco
 refine Calls.spliced_nil ⟨I1.kIn, ?_⟩
 have inner : codeAny (model X.prog X.w) X.A (.call (.ref g) ⟨[.ref f], []⟩) (CR CX0 X.stack X.prog X.w H1 s' Q E0) s' := by
  refine LamX.run_ofS (N := Ng) (ps := [a]) (us := [.ref f]) (vs := [.ref f]) lk hcg Sg hr I1.env0 (hb s' [.ref f] I1.kIn rfl) (.cons rfl .nil) rfl ?_
  intro hr'
  obtain ⟨t', ht', hq'⟩ := hG cdv f c' s' H1 Q (fun E H' Q' => t E σ H' Q') hr'
   (fun W pn xe E p1 p2 tk hW => act_n (i := 0) I1 L hf hfn hfr (hbind _ _ _ _ _) tk hW hr' (fun A outer s H hr2 => hbody A outer s H E f c' hr2) hNg hva hd hcd) hco (h H1 eN T1)
  exact ⟨t', ht'.nox, hq'⟩
 refine wpAny_call (codeAny_mono inner ?_)
 rintro (e | fl) s2 hq
 ·exact (show False from hq).elim
 ·cases fl with
  | ret u => exact I1.after hq
  | next => exact False.elim hq
  | brk => exact False.elim hq
  | cont => exact False.elim hq
theorem call_pin {k : Nat} {f : Addr} {x : Str} {params : Arguments} {body : List Stmt} {scope : Scope} {fd : FuncData} {N ps : List Str} {sp : Sp} {p : Addr × Obj} {q pos : Pos} {e : Expr} {es : List Expr} {t : TA}
  (F : FunD X.K x x params body scope [] [] f fd) (S : FnScope N ps scope) (len : ∀ vs H Q E, sp vs H Q E → vs.length = ps.length) (hr : RoomH (k + 1) X.A) (hot : Hot1 X.A p) (hp : p ∈ X.pn) (hg : Gl X x) (hm : X.mg x = some (.ref f)) (hb : L2.Binds X.K fd ps [])
  (hbody : ∀ (cdv : Value) (s : Shared) (H : Hp) (vs : List V) (Q : VK), RoomH k (X.A.deeper (envOfC x scope s.heap.objs.size f cdv)) → sp vs H Q E0 →
   ∃ t, PSs (cxH CX0 X.prog X.w X.K X.mg X.base N x scope f cdv X.A X.stack s H E0 p) body t ∧ t { nx := fun _ H' => Q .non H', rt := Q } (L2.start N vs) H)
  (ha : PA X (e :: es) t) (hdb : (x == ("__debug__" : Str)) = false := by decide) (he : starEach (e :: es) X.env = (false, eval e X.env) :: starEach es X.env := by rfl) (hpl : (backTo pos (starEach es X.env)).any (·.1) = false := by rfl) :
  PE X (.Call (.Name x q) (e :: es) [] pos) (tCall sp [] E0 t) := by
 obtain ⟨oc, od, dV, kV, doc, pm0, an, cdv, ct, osl, rfl, lk, hcd, _, _⟩ := F.ex
 constructor
 intro pins s σ H Q I h
 refine wpAny_Call_Name_kw (ld_glob I hg hm ?_ hdb)
 refine PySem.W.callWith_K (h₀ := X.base) I.ok.mod.kin F.kp (thn (ha.run pos pins s σ H _ I h) ?_) he hpl
 rintro us s1 ⟨vs, H1, I1, r, hsp⟩
 rw [List.append_nil] at hsp
 refine ⟨I1.kIn, ?_⟩
 have hl := len _ _ _ _ hsp
 have hlu : us.length = ps.length := by rw [← r.length]; exact hl
 have bd := hb s1 us I1.kIn (by rw [List.append_nil]; exact hlu)
 rw [List.append_nil] at bd
 have P1 := I1.pin p (List.mem_append_left _ hp)
 have hpin : PinOk X.stack H1 s1 p := ⟨P1.1, P1.2.1, fun hm => (List.mem_cons.mp (I1.stkSub p.1 hm)).elim P1.2.2.1 P1.2.2.2.1, P1.2.2.2.2⟩
 have hkind : ∀ y ∈ ps.zip us, scope.names.lookup y.1 = some .local ∨ (scope.names.lookup y.1 = some .cell ∧ ((cellsFrom (s1.heap.objs.size + 1) scope.names []).lookup y.1).isSome = true) := by
  rintro ⟨n, v⟩ hy
  rcases S.par n (List.of_mem_zip hy).1 with z | z
  ·exact .inl z
  ·exact .inr ⟨z, PySem.W.cellsFrom_some _ _ _ (.inl z)⟩
 have inner : codeAny (model X.prog X.w) X.A (.call (.ref f) ⟨us, []⟩) (CR CX0 X.stack X.prog X.w H1 s1 Q E0) s1 := by
  refine codeAny_call_function hr.depth (I1.kIn _ _ lk) rfl S.co S.gen rfl (PySem.W.codeRec_of I1.kIn hcd) (bd _ _ _ _ ?_)
  refine wpAny_newFunctionEnv_cells S.kind hkind ?_
  rintro env rfl s2 xx
  refine ⟨I1.nolimit.keeps xx.toInCall.keep, codeAny_func ?_⟩
  obtain ⟨t', ht', hq'⟩ := hbody cdv s1 H1 vs Q (hr.deeper _) hsp
  have J : Inv (cxH CX0 X.prog X.w X.K X.mg X.base N x scope f cdv X.A X.stack s1 H1 E0 p) [] (L2.start N vs) H1 s2 := inv_startH S hpin I1.env0 hl r xx
  refine wpAny_mono (ht'.run [] s2 (L2.start N vs) H1 _ J hq') ?_ fun _ _ hs => hs
  intro fl s' hs
  cases fl with
  | ret u =>
   obtain ⟨v, σ', H', J', rv, z⟩ := hs
   exact ⟨v, H', J'.os, J'.bare, J'.base, J'.hok, rv, z⟩
  | next =>
   obtain ⟨σ', H', J', z⟩ := hs
   exact ⟨V.non, H', J'.os, J'.bare, J'.base, J'.hok, rfl, z⟩
  | brk =>
   obtain ⟨_, _, _, z⟩ := hs
   exact False.elim z
  | cont =>
   obtain ⟨_, _, _, z⟩ := hs
   exact False.elim z
 refine wpAny_call (codeAny_mono inner ?_)
 rintro (e | fl) s' hq
 ·exact (show False from hq).elim
 ·cases fl with
  | ret u => exact I1.after hq
  | next => exact False.elim hq
  | brk => exact False.elim hq
  | cont => exact False.elim hq
end
end Cm
namespace Cm
open PySem PySem.Spec PyProof.Rows L2 L2H
def kinds : List Str := ["BadDeal", "BadHand", "BadLetter", "BadTime", "BadKey", "BadHouse", "NoCopy", "Behind", "BadBlock", "BadEntry", "BadText", "Stopped"]
def ecOk (K : PySem.W.Frag) (D : Addr) : Bool := decide (PySem.W.findIn K (.ref D) "__getattribute__" = some (some (.builtin "BaseException.__getattribute__"))) && (decide (PySem.W.findIn K (.ref D) "__getattr__" = some none) && (decide (PySem.W.subIn K (.ref D) (.type "BaseException") = some true) &&
 (PySem.W.hasDictIn K D && (decide (PySem.W.findIn K (.ref D) "__class__" = some (some (.builtin "object.__class__"))) && (decide (PySem.W.specialIn K (.builtin "object.__class__") "__get__" = some (some (.builtin "getset_descriptor.__get__"))) && (decide (PySem.W.takesIn K (.builtin "object.__class__") = some true) && decide (PySem.W.mroIn K D (.type "object") = some true)))))))
theorem ec_of {K : PySem.W.Frag} {D : Addr} (h : ecOk K D = true) : ExcC K D := by
 unfold ecOk at h
 simp only [Bool.and_eq_true, decide_eq_true_eq] at h
 exact ⟨h.1, h.2.1, h.2.2.1, h.2.2.2.1, h.2.2.2.2.1, h.2.2.2.2.2.1, h.2.2.2.2.2.2.1, h.2.2.2.2.2.2.2⟩
def exK (K : PySem.W.Frag) : Bool := kinds.all fun x => ecOk K (He.ga K x) && (decide (PySem.W.kitOne K (.ref (He.ga K x)) (.type "ValueError") = some true) && kinds.all fun y => decide (PySem.W.kitOne K (.ref (He.ga K x)) (.ref (He.ga K y)) = some (x == y)))
theorem exK_of {K : PySem.W.Frag} (h : exK K = true) {x : Str} (hx : x ∈ kinds) : ExcC K (He.ga K x) ∧ PySem.W.kitOne K (.ref (He.ga K x)) (.type "ValueError") = some true ∧ ∀ y ∈ kinds, PySem.W.kitOne K (.ref (He.ga K x)) (.ref (He.ga K y)) = some (x == y) := by
 have z := List.all_eq_true.mp h x hx
 simp only [Bool.and_eq_true, decide_eq_true_eq] at z
 exact ⟨ec_of z.1, z.2.1, fun y hy => of_decide_eq_true (List.all_eq_true.mp z.2.2 y hy)⟩
def rCntB (K : PySem.W.Frag) : V → List V → Hp → VK → Prop := fun x xs H Q => ∃ (p : Addr) (bs : List Bool) (k : Bool), x = .ref p ∧ xs = [.bl k] ∧ SqL K H p (bs.map V.bl) ∧ Q (.int (bs.count k : Nat)) H
theorem cntB {k : Bool} : ∀ {bs : List Bool} {us : List Value}, Vals (bs.map V.bl) us → us.countP (eqU (.bl k)) = bs.count k
 | [], _, .nil => rfl
 | b :: bs, u :: us, .cons r t => by
  rw [List.countP_cons, List.count_cons, cntB t, eqU_of r rfl]; rfl
theorem mt_cntB {X : Cx} : MtR X "list.count" (rCntB X.K) := by
 intro pins s σ H x xs v us Q I rx rxs h
 obtain ⟨p, bs, k, rfl, rfl, hs, q⟩ := h
 cases rx
 obtain ⟨u, rfl, ru⟩ := rxs.one
 obtain ⟨its, rv, ⟨⟨cls, dd, data, sl⟩, n, ho, hc, hdn, hd⟩, hlen⟩ := I.list hs
 simp only at hc hd
 subst hc hd
 refine call_meets PySem.F.slot_list_count ⟨_, ho, rfl⟩ PySem.F.entry_list_count (PySem.F.args_list_count_2 _ _)
  (SeqAt.list_countAt p its.toArray n dd sl u (eqU (.bl k))) ⟨ho, fun y hy => mem_eqAt ru rfl rv (by rw [List.all_map]; exact List.all_eq_true.mpr fun _ _ => rfl) y (by simpa using hy), ?_⟩
 refine ⟨.int (bs.count k : Nat), H, I.tok _, ⟨s.toks, ?_⟩, q⟩
 show Value.int ((its.toArray.toList.countP (eqU (.bl k)) : Nat) : Int) s.toks = Value.int ((bs.count k : Nat) : Int) s.toks
 rw [show its.toArray.toList.countP (eqU (.bl k)) = bs.count k from cntB rv]
theorem kinds_at : ∀ x ∈ kinds, (kinds.map (x == ·)).count true = 1 ∧ ∃ j, j < 12 ∧ (kinds.map (x == ·))[j]? = some true ∧ (∀ m, m < j → (kinds.map (x == ·))[m]? = some false) ∧ kinds[j]? = some x := by decide
theorem inj_map {α β : Type} {f : α → β} : ∀ {l : List α}, (l.map f).Nodup → ∀ {a b : α}, a ∈ l → b ∈ l → f a = f b → a = b
 | [], _, _, _, h, _, _ => nomatch h
 | x :: l, hn, a, b, ha, hb, e => by
  rw [List.map_cons, List.nodup_cons] at hn
  rcases List.mem_cons.mp ha with rfl | ha'
  ·rcases List.mem_cons.mp hb with rfl | hb
   ·rfl
   ·exact absurd (e ▸ List.mem_map_of_mem hb) hn.1
  ·rcases List.mem_cons.mp hb with rfl | hb'
   ·exact absurd (e ▸ List.mem_map_of_mem ha') hn.1
   ·exact inj_map hn.2 ha' hb' e
end Cm
end
section
namespace Cm
open PySem PySem.Spec PyProof.Rows L2
section
variable {K : PySem.W.Frag} {σ : L2.St} {H : Hp} {Q : VK} {QB : Bool → Hp → Prop} {QA : List V → Hp → Prop} {i : Nat} {v x y z : V} {ta tb te tv : TE} {t u c : TT} {tr : TA} {D : Ends} {t1 t2 : TS} {a b p C dx : Addr} {fs : List (Str × V)} {f : Str}
theorem e_var (h : σ[i]? = some (some v)) (q : Q v H) : tVar i σ H Q := ⟨v, h, q⟩
theorem e_c (q : Q v H) : tC v σ H Q := q
theorem e_op {r : R2} (q : ta σ H fun x H1 => tb σ H1 fun y H2 => r x y H2 Q) : tOp r ta tb σ H Q := q
theorem e_un {r : V → Hp → VK → Prop} (q : ta σ H fun x H1 => r x H1 Q) : tUn r ta σ H Q := q
theorem e_nil (q : QA [] H) : tNil σ H QA := q
theorem e_cons (q : ta σ H fun x H1 => tr σ H1 fun xs H2 => QA (x :: xs) H2) : tCons ta tr σ H QA := q
theorem e_tup (q : tr σ H fun xs H1 => xs.length ≤ sizeLine ∧ ∀ p, H1 p = none → Q (.ref p) (upd H1 p (.tup xs))) : tTup tr σ H Q := q
theorem e_lst (q : tr σ H fun xs H1 => xs.length ≤ sizeLine ∧ ∀ p, H1 p = none → Q (.ref p) (upd H1 p (.lst xs))) : tLst tr σ H Q := q
theorem e_cb {r : List V → Hp → VK → Prop} (q : tr σ H fun vs H1 => r vs H1 Q) : tCB r tr σ H Q := q
theorem e_call {sp : Sp} {E : XK} (q : tr σ H fun vs H1 => sp (vs ++ []) H1 Q E) : tCall sp [] E tr σ H Q := q
theorem e_if (q : t σ H fun c H1 => if c = true then ta σ H1 Q else tb σ H1 Q) : tIf t ta tb σ H Q := q
theorem e_andV (q : ta σ H fun x H1 => ∃ c, x = .bl c ∧ if c = true then tb σ H1 Q else Q (.bl false) H1) : tAndV ta tb σ H Q := q
theorem e_orV (q : ta σ H fun x H1 => ∃ c, x = .bl c ∧ if c = true then Q (.bl true) H1 else tb σ H1 Q) : tOrV ta tb σ H Q := q
theorem e_notV (q : ta σ H fun x H1 => ∃ c, x = .bl c ∧ Q (.bl (!c)) H1) : tNotV ta σ H Q := q
theorem e_fld0 (q : ta σ H fun x H1 => ∃ a C dx fs v, x = .ref a ∧ H1 a = some (.ins C dx fs) ∧ Cls K C ∧ NoAttr K C f ∧ fs.lookup f = some v ∧ Q v H1) : tFld K ta f σ H Q := q
theorem fld_at {C dx : Addr} {fs : List (Str × V)} {v : V} (h : H a = some (.ins C dx fs)) (hc : Cls K C) (hn : NoAttr K C f) (hl : fs.lookup f = some v) (q : Q v H) :
  ∃ a' C dx fs v, V.ref a = V.ref a' ∧ H a' = some (.ins C dx fs) ∧ Cls K C ∧ NoAttr K C f ∧ fs.lookup f = some v ∧ Q v H := ⟨a, C, dx, fs, v, rfl, h, hc, hn, hl, q⟩
theorem e_meth0 {sp : Sp} {E : XK} {m : Str} (q : ta σ H fun x H1 => ∃ a dx fs, x = .ref a ∧ H1 a = some (.ins C dx fs) ∧ fs.lookup m = none ∧ tr σ H1 fun vs H2 => sp (x :: (vs ++ [])) H2 Q E) : tMeth C m sp [] E ta tr σ H Q := q
theorem meth_at {m : Str} {R : Prop} (h : H a = some (.ins C dx fs)) (hl : fs.lookup m = none) (q : R) : ∃ a' dx fs, V.ref a = V.ref a' ∧ H a' = some (.ins C dx fs) ∧ fs.lookup m = none ∧ R := ⟨a, dx, fs, rfl, h, hl, q⟩
theorem e_bm0 {ty : String} {r : V → List V → Hp → VK → Prop} (q : ta σ H fun x H1 => tyV K ty x H1 ∧ r x [] H1 Q) : tBM0 K ty r ta σ H Q := q
theorem e_bm {ty : String} {r : V → List V → Hp → VK → Prop} (q : ta σ H fun x H1 => tyV K ty x H1 ∧ tr σ H1 fun xs H2 => r x xs H2 Q) : tBM K ty r ta tr σ H Q := q
theorem ty_lst {xs : List V} (h : H a = some (.lst xs)) : tyV K "list" (.ref a) H := .inl ⟨rfl, _, SqL.of h⟩
theorem e_sl {r : V → Option Int → Option Int → Hp → VK → Prop} {tl th : TO} (q : ta σ H fun x H1 => tl σ H1 fun l H2 => th σ H2 fun u H3 => r x l u H3 Q) : tSl r ta tl th σ H Q := q
theorem o_none {QO : Option Int → Hp → Prop} (q : QO none H) : tNoPart σ H QO := q
theorem o_some {QO : Option Int → Hp → Prop} (q : ta σ H fun x H1 => ∃ i, x = .int i ∧ QO (some i) H1) : tPart ta σ H QO := q
theorem int_at {R : Int → Prop} {j : Int} (q : R j) : ∃ i, V.int j = V.int i ∧ R i := ⟨j, rfl, q⟩
theorem bl_at {R : Bool → Prop} {b : Bool} (q : R b) : ∃ k, V.bl b = V.bl k ∧ R k := ⟨b, rfl, q⟩
theorem e_dnew (q : ∀ p, H p = none → Q (.ref p) (upd H p (.dK []))) : tDNewK σ H Q := q
theorem e_test (q : ta σ H fun x H1 => ∃ k, x = .bl k ∧ QB k H1) : tTest ta σ H QB := q
theorem e_tr (q : ta σ H fun x H1 => ∃ k, TruV K x H1 k ∧ QB k H1) : tTr K ta σ H QB := q
theorem tr_bl {R : Bool → Prop} {b : Bool} (q : R b) : ∃ k, TruV K (.bl b) H k ∧ R k := ⟨b, rfl, q⟩
theorem tr_non {R : Bool → Prop} (q : R false) : ∃ k, TruV K .non H k ∧ R k := ⟨false, rfl, q⟩
theorem e_and (q : t σ H fun c H1 => if c = true then u σ H1 QB else QB false H1) : tAnd t u σ H QB := q
theorem e_or (q : t σ H fun c H1 => if c = true then QB true H1 else u σ H1 QB) : tOr t u σ H QB := q
theorem e_not (q : t σ H fun c H1 => QB (!c) H1) : tNot t σ H QB := q
theorem e_yes (q : QB true H) : tYes σ H QB := q
theorem e_chain {r r' : R2} {tc : TE} (q : ta σ H fun x H1 => tb σ H1 fun y H2 => r x y H2 fun z H3 => ∃ k, z = .bl k ∧ if k = true then tc σ H3 fun w H4 => r' y w H4 Q else Q (.bl false) H3) : tChain r r' ta tb tc σ H Q := q
theorem r_i0 {g : Int → Int → V} {i j : Int} (q : Q (g i j) H) : rI0 g (.int i) (.int j) H Q := ⟨i, j, rfl, rfl, q⟩
theorem r_i {Cn : Int → Int → Prop} {g : Int → Int → V} {i j : Int} (h : Cn i j) (q : Q (g i j) H) : rI Cn g (.int i) (.int j) H Q := ⟨i, j, rfl, rfl, h, q⟩
theorem r_u {g : Int → V} {i : Int} (q : Q (g i) H) : rU g (.int i) H Q := ⟨i, rfl, q⟩
theorem r_isNo (q : Q (.bl (decide (x = .non))) H) : rIsNo x .non H Q := ⟨rfl, q⟩
theorem r_notNo (q : Q (.bl (!decide (x = .non))) H) : rNotNo x .non H Q := ⟨rfl, q⟩
theorem r_addI {i j : Int} (q : Q (.int (i + j)) H) : rAddA K (.int i) (.int j) H Q := .inl (.inl (.inl ⟨i, j, rfl, rfl, q⟩))
theorem r_addL {xs ys : List V} (ha : H a = some (.lst xs)) (hb : H b = some (.lst ys)) (hz : xs.length + ys.length ≤ sizeLine) (q : ∀ p, H p = none → Q (.ref p) (upd H p (.lst (xs ++ ys)))) : rAddA K (.ref a) (.ref b) H Q := .inl (.inr ⟨a, b, xs, ys, rfl, rfl, ha, hb, hz, q⟩)
theorem r_mulI {i j : Int} (h : CMul i j) (q : Q (.int (i * j)) H) : rMulA (.int i) (.int j) H Q := .inl ⟨i, j, rfl, rfl, h, q⟩
theorem r_eqS (h : scal x y = true) (q : Q (.bl (decide (x = y))) H) : rEqA K x y H Q := .inl (.inl ⟨h, q⟩)
theorem r_neS (h : scal x y = true) (q : Q (.bl (!decide (x = y))) H) : rNeA K x y H Q := .inl (.inl ⟨h, q⟩)
theorem r_eqE {xs : List V} (ha : SqL K H a xs) (hb : SqL K H b []) (q : Q (.bl xs.isEmpty) H) : rEqA K (.ref a) (.ref b) H Q := .inl (.inr ⟨a, b, xs, rfl, rfl, ha, hb, q⟩)
theorem r_neE {xs : List V} (ha : SqL K H a xs) (hb : SqL K H b []) (q : Q (.bl (!xs.isEmpty)) H) : rNeA K (.ref a) (.ref b) H Q := .inl (.inr ⟨a, b, xs, rfl, rfl, ha, hb, q⟩)
theorem r_ixL {xs : List V} {i : Int} {v : V} (h : SqL K H p xs) (e : atI xs i = some v) (q : Q v H) : rIxA K (.ref p) (.int i) H Q := .inl (.inl ⟨p, xs, i, v, rfl, rfl, h, e, q⟩)
theorem r_ixT {xs : List V} {i : Int} {v : V} (h : SqT K H p xs) (e : atI xs i = some v) (q : Q v H) : rIxA K (.ref p) (.int i) H Q := .inl (.inr (.inl ⟨p, xs, i, v, rfl, rfl, h, e, q⟩))
theorem r_ixD {kvs : List (Key × V)} {k : Key} {v : V} (h : Rd H p (.dK kvs)) (e : valV kvs k = some v) (q : Q v H) : rIxA K (.ref p) (kV k) H Q := .inr ⟨p, v, rfl, .inl ⟨kvs, k, h, rfl, e.symm⟩, q⟩
theorem r_ixDs {kvs : List (Key × V)} {k : Str} {v : V} (h : Rd H p (.dK kvs)) (e : valV kvs (.inr k) = some v) (q : Q v H) : rIxA K (.ref p) (.str k) H Q := r_ixD (k := .inr k) h e q
theorem r_ixDi {kvs : List (Key × V)} {k : Int} {v : V} (h : Rd H p (.dK kvs)) (e : valV kvs (.inl k) = some v) (q : Q v H) : rIxA K (.ref p) (.int k) H Q := r_ixD (k := .inl k) h e q
theorem r_lenL {xs : List V} (h : SqL K H p xs) (q : Q (.int xs.length) H) : rLenA K [.ref p] H Q := .inl ⟨p, xs, rfl, .inl h, q⟩
theorem r_lenT {xs : List V} (h : SqT K H p xs) (q : Q (.int xs.length) H) : rLenA K [.ref p] H Q := .inl ⟨p, xs, rfl, .inr h, q⟩
theorem r_listL {xs : List V} (h : SqL K H p xs) (q : ∀ l, H l = none → Q (.ref l) (upd H l (.lst xs))) : rListA K [.ref p] H Q := .inl ⟨p, xs, rfl, .inl h, q⟩
theorem r_int1b {k : Bool} (q : Q (.int (if k then 1 else 0)) H) : rInt1 [.bl k] H Q := .inr ⟨k, rfl, q⟩
theorem r_max2 {i j : Int} (q : Q (.int (if j > i then j else i)) H) : rMax2 [.int i, .int j] H Q := ⟨i, j, rfl, q⟩
theorem r_tupL {xs : List V} (h : SqL K H p xs) (q : ∀ l, H l = none → Q (.ref l) (upd H l (.tup xs))) : rTupleA K [.ref p] H Q := ⟨p, xs, rfl, .inl ⟨h, q⟩⟩
theorem m_append {xs : List V} (h : H p = some (.lst xs)) (hz : xs.length < sizeLine) (q : Q .non (upd H p (.lst (xs ++ [y])))) : rAppend (.ref p) [y] H Q := ⟨p, xs, y, rfl, rfl, h, hz, q⟩
theorem m_clear {xs : List V} (h : H p = some (.lst xs)) (q : Q .non (upd H p (.lst []))) : rClear (.ref p) [] H Q := ⟨p, xs, rfl, rfl, h, q⟩
theorem g_name {QS : L2.St → Hp → Prop} (q : QS (σ.set i (some v)) H) : gName i v σ H QS := q
theorem g_setL {xs : List V} {k : Int} {j : Nat} {QS : Hp → Prop} (h : H p = some (.lst xs)) (e : ixN xs.length k = some j) (q : QS (upd H p (.lst (xs.set j v)))) : rSetA (.ref p) (.int k) v H QS := .inl ⟨p, xs, k, j, rfl, rfl, h, e, q⟩
theorem g_setDs {kvs kvs' : List (Key × V)} {k : Str} {QS : Hp → Prop} (h : H p = some (.dK kvs)) (hz : kvs.length < sizeLine) (e : putK kvs (.inr k) v = kvs') (q : QS (upd H p (.dK kvs'))) : rSetA (.ref p) (.str k) v H QS := .inr ⟨p, _, rfl, DPut.k (k := .inr k) h hz, by rw [e]; exact q⟩
theorem g_setDi {kvs : List (Key × V)} {k : Int} {QS : Hp → Prop} (h : H p = some (.dK kvs)) (hz : kvs.length < sizeLine) (q : QS (upd H p (.dK (putK kvs (.inl k) v)))) : rSetA (.ref p) (.int k) v H QS := .inr ⟨p, _, rfl, DPut.k (k := .inl k) h hz, q⟩
theorem g_sub {to ti : TE} {ts : TSet} {QS : L2.St → Hp → Prop} (q : to σ H fun o H1 => ti σ H1 fun i H2 => ts o i v H2 fun H3 => QS σ H3) : gSub to ti ts v σ H QS := q
theorem g_tup {n : Nat} {gs : TGs} {xs : List V} {QS : L2.St → Hp → Prop} (h : SqT K H p xs) (e : xs.length = n) (q : gs xs σ H QS) : gTup K n gs (.ref p) σ H QS := ⟨p, xs, rfl, h, e, q⟩
theorem g_cons {g : TG} {gs : TGs} {xs : List V} {QS : L2.St → Hp → Prop} (q : g x σ H fun σ' H' => gs xs σ' H' QS) : gCons g gs (x :: xs) σ H QS := ⟨x, xs, rfl, q⟩
theorem g_nil {QS : L2.St → Hp → Prop} (q : QS σ H) : gNil [] σ H QS := ⟨rfl, q⟩
theorem s_seq (q : t1 { D with nx := t2 D } σ H) : tSeq t1 t2 D σ H := q
theorem s_next (q : D.nx σ H) : tNext D σ H := q
theorem s_asg {g : TG} (q : ta σ H fun x H1 => g x σ H1 D.nx) : tAsg ta g D σ H := q
theorem s_drop (q : ta σ H fun _ H1 => D.nx σ H1) : tDrop ta D σ H := q
theorem s_ret (q : ta σ H D.rt) : tRet ta D σ H := q
theorem s_retN (q : D.rt .non H) : tRetN D σ H := q
theorem s_if (q : t σ H fun b H1 => if b = true then t1 D σ H1 else t2 D σ H1) : tIfS t t1 t2 D σ H := q
theorem s_rs {E : XK} (q : E (.ref C) none H) : tRs E C D σ H := q
theorem s_fld0 (q : tv σ H fun y H1 => ta σ H1 fun x H2 => ∃ a C dx fs, x = .ref a ∧ H2 a = some (.ins C dx fs) ∧ Cls K C ∧ NoAttr K C f ∧ fs.length < 1000 ∧ D.nx σ (upd H2 a (.ins C dx (putF f y fs)))) : sFld K ta tv f D σ H := q
theorem fldset_at {R : Hp → Prop} {fs' : List (Str × V)} (h : H a = some (.ins C dx fs)) (hc : Cls K C) (hn : NoAttr K C f) (hl : fs.length < 1000) (e : putF f y fs = fs') (q : R (upd H a (.ins C dx fs'))) :
  ∃ a' C dx fs, V.ref a = V.ref a' ∧ H a' = some (.ins C dx fs) ∧ Cls K C ∧ NoAttr K C f ∧ fs.length < 1000 ∧ R (upd H a' (.ins C dx (putF f y fs))) := ⟨a, C, dx, fs, rfl, h, hc, hn, hl, by rw [e]; exact q⟩
theorem s_fldaug0 {rd : V → V → Hp → VK → Prop} (q : ta σ H fun x H1 => ∃ a C dx fs v, x = .ref a ∧ H1 a = some (.ins C dx fs) ∧ Cls K C ∧ NoAttr K C f ∧ fs.lookup f = some v ∧
  tv σ H1 fun y H2 => rd v y H2 fun z H3 => ∃ dx fs, H3 a = some (.ins C dx fs) ∧ fs.length < 1000 ∧ D.nx σ (upd H3 a (.ins C dx (putF f z fs)))) : sFldAug K ta tv rd f D σ H := q
theorem aug_at {P : Addr → Addr → Addr → List (Str × V) → V → Prop} (h : H a = some (.ins C dx fs)) (hc : Cls K C) (hn : NoAttr K C f) (hl : fs.lookup f = some v) (q : P a C dx fs v) :
  ∃ a' C dx fs v, V.ref a = V.ref a' ∧ H a' = some (.ins C dx fs) ∧ Cls K C ∧ NoAttr K C f ∧ fs.lookup f = some v ∧ P a' C dx fs v := ⟨a, C, dx, fs, v, rfl, h, hc, hn, hl, q⟩
theorem augset_at {R : Hp → Prop} {fs' : List (Str × V)} (h : H a = some (.ins C dx fs)) (hl : fs.length < 1000) (e : putF f z fs = fs') (q : R (upd H a (.ins C dx fs'))) :
  ∃ dx fs, H a = some (.ins C dx fs) ∧ fs.length < 1000 ∧ R (upd H a (.ins C dx (putF f z fs))) := ⟨dx, fs, h, hl, by rw [e]; exact q⟩
theorem in_sub_at {i j : Int} (q : Q (.int (i - j)) H) : L2.rSub (.int i) (.int j) H Q := ⟨i, j, rfl, rfl, q⟩
theorem in_add_at {i j : Int} (q : Q (.int (i + j)) H) : L2.rAdd (.int i) (.int j) H Q := ⟨i, j, rfl, rfl, q⟩
theorem fl0 : ([] : List (Str × V)).length ≤ 0 := Nat.le_refl _
theorem flS {n : Nat} {fs : List (Str × V)} (h : fs.length ≤ n) : (putF f v fs).length ≤ n + 1 := Nat.le_trans (length_putF f v fs) (Nat.succ_le_succ h)
theorem if_d {p : Prop} [Decidable p] {A B : Prop} (h1 : p → A) (h2 : ¬ p → B) : if decide p = true then A else B := by
 by_cases h : p
 ·rw [decide_eq_true h, if_pos rfl]; exact h1 h
 ·rw [decide_eq_false h, if_neg Bool.false_ne_true]; exact h2 h
theorem if_dT {p : Prop} [Decidable p] {A B : Prop} (h : p) (q : A) : if decide p = true then A else B := by
 rw [decide_eq_true h, if_pos rfl]; exact q
theorem if_dF {p : Prop} [Decidable p] {A B : Prop} (h : ¬ p) (q : B) : if decide p = true then A else B := by
 rw [decide_eq_false h, if_neg Bool.false_ne_true]; exact q
theorem if_ndF {p : Prop} [Decidable p] {A B : Prop} (h : p) (q : B) : if (!decide p) = true then A else B := by
 rw [decide_eq_true h]; exact iteF q
theorem if_b {b : Bool} {A B : Prop} (h1 : b = true → A) (h2 : b = false → B) : if b = true then A else B := by
 cases b
 ·exact iteF (h2 rfl)
 ·exact iteT (h1 rfl)
theorem at0 {x : V} {xs : List V} : atI (x :: xs) 0 = some x := atI_nat (j := 0) rfl
theorem at1 {x y : V} {xs : List V} : atI (x :: y :: xs) 1 = some y := atI_nat (j := 1) rfl
theorem at2 {x y z : V} {xs : List V} : atI (x :: y :: z :: xs) 2 = some z := atI_nat (j := 2) rfl
end
def Imm : HO → Bool
 | .frz _ (.dK _) => false
 | .tup _ | .own _ | .ext _ | .frz _ _ | .xd _ | .met _ _ | .rng _ _ => true
 | _ => false
def Nw (H : Hp) (a : Addr) : Prop := H a = none ∨ ∃ ps, H a = some (.tbl ps)
theorem nw_of {H : Hp} {a : Addr} (h : H a = none) : Nw H a := .inl h
theorem nw_no {H : Hp} {a : Addr} {o : HO} (h : Nw H a) (e : H a = some o) (n : ∀ ps, o ≠ .tbl ps) : False := by
 rcases h with h | ⟨ps, h⟩
 ·rw [h] at e; cases e
 ·rw [h] at e; cases e; exact n ps rfl
structure Kp (T : List (Addr × Str)) (S : Addr → Prop) (H H' : Hp) : Prop where
 old : ∀ a o, H a = some o → (∀ ps, o ≠ .tbl ps) → ¬ S a → H' a = some o
 imm : ∀ a o, H a = some o → Imm o = true → H' a = some o
 tab : LamX.Tabs T H → LamX.Tabs T H'
 dom : ∀ a, Nw H' a → Nw H a
abbrev No : Addr → Prop := fun _ => False
section
variable {T : List (Addr × Str)} {S S' : Addr → Prop} {H H1 H2 : Hp} {a p : Addr} {o : HO}
theorem Kp.refl : Kp T S H H := ⟨fun _ _ h _ _ => h, fun _ _ h _ => h, fun h => h, fun _ h => h⟩
theorem Kp.trans (k : Kp T S H H1) (k' : Kp T S' H1 H2) (h : ∀ a, S' a → S a ∨ Nw H a) : Kp T S H H2 :=
 ⟨fun a o e n ns => k'.old a o (k.old a o e n ns) n (fun z => (h a z).elim ns (fun q => nw_no q e n)), fun a o e i => k'.imm a o (k.imm a o e i) i, fun t => k'.tab (k.tab t), fun a e => k.dom a (k'.dom a e)⟩
theorem Kp.mono (k : Kp T S H H1) (h : ∀ a, S a → S' a) : Kp T S' H H1 := ⟨fun a o e n ns => k.old a o e n fun z => ns (h a z), k.imm, k.tab, k.dom⟩
theorem Kp.lst {xs : List V} (k : Kp T S H H1) (e : H a = some (.lst xs)) (n : ¬ S a) : H1 a = some (.lst xs) := k.old a _ e (fun _ z => nomatch z) n
theorem Kp.ins {C dx : Addr} {fs : List (Str × V)} (k : Kp T S H H1) (e : H a = some (.ins C dx fs)) (n : ¬ S a) : H1 a = some (.ins C dx fs) := k.old a _ e (fun _ z => nomatch z) n
theorem Kp.dK {kvs : List (Key × V)} (k : Kp T S H H1) (e : H a = some (.dK kvs)) (n : ¬ S a) : H1 a = some (.dK kvs) := k.old a _ e (fun _ z => nomatch z) n
theorem Kp.tup {xs : List V} (k : Kp T S H H1) (e : H a = some (.tup xs)) : H1 a = some (.tup xs) := k.imm a _ e rfl
theorem Kp.free (k : Kp T S H H1) (h : H1 a = none) : Nw H a := k.dom a (.inl h)
theorem tabs_upd (h : ∀ q : Addr × Str, LamX.TabS H q.1 q.2 → LamX.TabS H1 q.1 q.2) : LamX.Tabs T H → LamX.Tabs T H1 := fun t q hq => h q (t q hq)
theorem Kp.new (hp : H p = none) : Kp T S H (upd H p o) := by
 have ex : ∀ b u, H b = some u → upd H p o b = some u := fun b u e => by rw [upd_ne (ne_of_none e hp)]; exact e
 exact ⟨fun b u e _ _ => ex b u e, fun b u e _ => ex b u e, fun t => t.ext ex, fun b e => by
  by_cases hb : b = p
  ·rw [hb]; exact .inl hp
  ·unfold Nw at e; rw [upd_ne hb] at e; exact e⟩
theorem Kp.set {u : HO} (hp : H p = some u) (hu : Imm u = false) (hu2 : ∀ ps, u ≠ .tbl ps) (hs : S p) (ho : ∀ ps, o ≠ .tbl ps := by intro _ z; cases z) : Kp T S H (upd H p o) := by
 have ne : ∀ b v, H b = some v → Imm v = true → b ≠ p := fun b v e i z => by rw [z, hp] at e; cases e; rw [i] at hu; cases hu
 have nt : ∀ b ps, H b = some (.tbl ps) → b ≠ p := fun b ps e z => by rw [z, hp] at e; cases e; exact hu2 ps rfl
 refine ⟨fun b v e _ n => by rw [upd_ne (fun z => n (by rw [z]; exact hs))]; exact e, fun b v e i => by rw [upd_ne (ne b v e i)]; exact e, tabs_upd fun q t => ?_, fun b e => ?_⟩
 ·obtain ⟨ps, h1, h2, h3⟩ := t
  refine ⟨ps, by rw [upd_ne (nt _ ps h1)]; exact h1, h2, fun pos cv hc => ?_⟩
  obtain ⟨c, e1, e2⟩ := h3 pos cv hc
  exact ⟨c, e1, by rw [upd_ne (ne c _ e2 rfl)]; exact e2⟩
 ·by_cases hb : b = p
  ·rw [hb] at e; exact (nw_no e upd_same ho).elim
  ·unfold Nw at e; rw [upd_ne hb] at e; exact e
theorem Kp.setL {xs : List V} (hp : H p = some (.lst xs)) (hs : S p) (ho : ∀ ps, o ≠ .tbl ps := by intro _ z; cases z) : Kp T S H (upd H p o) := Kp.set hp rfl (fun _ z => nomatch z) hs ho
theorem Kp.setI {C dx : Addr} {fs : List (Str × V)} (hp : H p = some (.ins C dx fs)) (hs : S p) (ho : ∀ ps, o ≠ .tbl ps := by intro _ z; cases z) : Kp T S H (upd H p o) := Kp.set hp rfl (fun _ z => nomatch z) hs ho
theorem Kp.setD {kvs : List (Key × V)} (hp : H p = some (.dK kvs)) (hs : S p) (ho : ∀ ps, o ≠ .tbl ps := by intro _ z; cases z) : Kp T S H (upd H p o) := Kp.set hp rfl (fun _ z => nomatch z) hs ho
theorem Kp.setX' {u : HO} (k : Kp T S H H1) (hp : H1 p = some u) (hu : Imm u = false) (hu2 : ∀ ps, u ≠ .tbl ps) (hs : S p ∨ Nw H p) (ho : ∀ ps, o ≠ .tbl ps := by intro _ z; cases z) : Kp T S H (upd H1 p o) := k.trans (S' := fun a => a = p) (Kp.set hp hu hu2 rfl ho) fun a z => by rw [z]; exact hs
theorem Kp.new' (k : Kp T S H H1) (hp : H1 p = none) : Kp T S H (upd H1 p o) := k.trans (S' := No) (Kp.new hp) fun _ z => z.elim
end
end Cm
namespace Cm
open PySem PySem.Spec PyProof.Rows L2
section
variable {K : PySem.W.Frag} {σ : L2.St} {H : Hp} {Q : VK} {v x y z : V} {a b p : Addr}
theorem r_ixl {xs : List V} {i : Int} {v : V} (h : H p = some (.lst xs)) (e : atI xs i = some v) (q : Q v H) : rIxA K (.ref p) (.int i) H Q := r_ixL (SqL.of h) e q
theorem r_ixt {xs : List V} {i : Int} {v : V} (h : H p = some (.tup xs)) (e : atI xs i = some v) (q : Q v H) : rIxA K (.ref p) (.int i) H Q := r_ixT (SqT.of h) e q
theorem r_ixds {kvs : List (Key × V)} {k : Str} {v : V} (h : H p = some (.dK kvs)) (e : valV kvs (.inr k) = some v) (q : Q v H) : rIxA K (.ref p) (.str k) H Q := r_ixDs (.inl h) e q
theorem r_eqe {xs : List V} (ha : H a = some (.lst xs)) (hb : H b = some (.lst [])) (q : Q (.bl xs.isEmpty) H) : rEqA K (.ref a) (.ref b) H Q := r_eqE (SqL.of ha) (SqL.of hb) q
theorem r_nee {xs : List V} (ha : H a = some (.lst xs)) (hb : H b = some (.lst [])) (q : Q (.bl (!xs.isEmpty)) H) : rNeA K (.ref a) (.ref b) H Q := r_neE (SqL.of ha) (SqL.of hb) q
theorem r_lenl {xs : List V} (h : H p = some (.lst xs)) (q : Q (.int xs.length) H) : rLenA K [.ref p] H Q := r_lenL (SqL.of h) q
theorem r_lent {xs : List V} (h : H p = some (.tup xs)) (q : Q (.int xs.length) H) : rLenA K [.ref p] H Q := r_lenT (SqT.of h) q
theorem r_listl {xs : List V} (h : H p = some (.lst xs)) (q : ∀ l, H l = none → Q (.ref l) (upd H l (.lst xs))) : rListA K [.ref p] H Q := r_listL (SqL.of h) q
theorem r_tupl {xs : List V} (h : H p = some (.lst xs)) (q : ∀ l, H l = none → Q (.ref l) (upd H l (.tup xs))) : rTupleA K [.ref p] H Q := r_tupL (SqL.of h) q
theorem new_at {n : Nat} {R : Addr → Prop} (hz : n ≤ sizeLine) (q : ∀ p, H p = none → R p) : n ≤ sizeLine ∧ ∀ p, H p = none → R p := ⟨hz, q⟩
theorem and_at {A B : Prop} (h : A) (q : B) : A ∧ B := ⟨h, q⟩
theorem g_tupt {n : Nat} {gs : TGs} {xs : List V} {QS : L2.St → Hp → Prop} (h : H p = some (.tup xs)) (e : xs.length = n) (q : gs xs σ H QS) : gTup K n gs (.ref p) σ H QS := g_tup (SqT.of h) e q
theorem ix0 {n : Nat} (h : 0 < n) : ixN n 0 = some 0 := by
 unfold ixN
 rw [if_pos (by decide), if_pos (by omega)]; rfl
theorem ix1 {n : Nat} (h : 1 < n) : ixN n 1 = some 1 := by
 unfold ixN
 rw [if_pos (by decide), if_pos (by omega)]; rfl
end
end Cm
namespace Cm
open PySem PySem.Spec PyProof.Rows L2
def Dm (H H' : Hp) : Prop := ∀ a, Nw H' a → Nw H a
section
variable {T : List (Addr × Str)} {S S' : Addr → Prop} {H H1 H2 : Hp} {a p : Addr} {o : HO}
theorem dm_refl : Dm H H := fun _ h => h
theorem dm_upd (d : Dm H H1) (ho : ∀ ps, o ≠ .tbl ps := by intro _ z; cases z) : Dm H (upd H1 p o) := fun b e => by
 by_cases hb : b = p
 ·rw [hb] at e; exact (nw_no e upd_same ho).elim
 ·unfold Nw at e; rw [upd_ne hb] at e; exact d b e
theorem dm_kp (d : Dm H H1) (k : Kp T S H1 H2) : Dm H H2 := fun b e => d b (k.dom b e)
theorem dm_use (d : Dm H H1) (h : H1 a = none) : Nw H a := d a (.inl h)
theorem dm_use2 (d : Dm H H1) (h : Nw H1 a) : Nw H a := d a h
theorem kp_look (k : Kp T S H H1) (e : H a = some o) (nt : ∀ ps, o ≠ .tbl ps) (n : Imm o = true ∨ ¬ S a) : H1 a = some o := by
 rcases n with n | n
 ·exact k.imm a o e n
 ·exact k.old a o e nt n
theorem kp_step (k : Kp T S H H1) (k' : Kp T S' H1 H2) (h : ∀ a, S' a → S a ∨ Nw H a) : Kp T S H H2 := k.trans k' h
end
end Cm
namespace Cm
open PySem PySem.Spec PyProof.Rows L2
section
variable {K : PySem.W.Frag} {H : Hp} {Q : VK} {x : V} {p : Addr}
theorem m_pop0 {xs : List V} (h : H p = some (.lst (x :: xs))) (q : Q x (upd H p (.lst xs))) : rPopAt (.ref p) [.int 0] H Q :=
 ⟨p, x :: xs, 0, 0, x, rfl, rfl, h, by decide, by decide, seqIndex_of (by decide) (by simp), rfl, q⟩
end
end Cm
namespace Cm
open PySem PySem.Spec PyProof.Rows L2
section
variable {K : PySem.W.Frag} {H : Hp} {Q : VK}
theorem q_dec {p : Prop} [Decidable p] (h : p) (q : Q (.bl true) H) : Q (.bl (decide p)) H := by rw [decide_eq_true h]; exact q
end
end Cm
namespace Cm
open PySem PySem.Spec PyProof.Rows L2
section
variable {K : PySem.W.Frag} {σ : L2.St} {H : Hp} {Q : VK} {a : Addr} {tk tv : TE} {trs : List (TE × TE)} {QP : List (V × V) → Hp → Prop}
theorem e_disp (q : ∀ p, H p = none → tPairs trs σ (upd H p (.dK [])) fun ps H2 => H2 p = some (.dK []) ∧ ∃ kvs : List (Key × V), ps = kvs.map (fun kv => (kV kv.1, kv.2)) ∧ kvs.length ≤ 15 ∧ Q (.ref p) (upd H2 p (.dK (mergeK [] kvs)))) : tDisp trs σ H Q := q
theorem e_pcons (q : tk σ H fun x H1 => tv σ H1 fun y H2 => tPairs trs σ H2 fun ps H3 => QP ((x, y) :: ps) H3) : tPairs ((tk, tv) :: trs) σ H QP := q
end
end Cm
namespace Cm
open PySem PySem.Spec PyProof.Rows L2
section
variable {K : PySem.W.Frag} {H : Hp} {Q : VK} {p a b : Addr}
theorem cut_to {xs : List V} {i : Int} (h : 0 ≤ i) : cutV xs none (some i) = xs.take i.toNat := by
 have e : i = ((i.toNat : Nat) : Int) := by omega
 unfold cutV
 rw [e, HT.sIx_nat, HT.sIx_none]
 simp only [List.drop_zero, Nat.sub_zero]
 rw [Int.toNat_natCast, ← List.take_take, List.take_length]
theorem cut_from {xs : List V} {i : Int} (h : 0 ≤ i) : cutV xs (some i) none = xs.drop i.toNat := by
 have e : i = ((i.toNat : Nat) : Int) := by omega
 unfold cutV
 rw [e, HT.sIx_nat, HT.sIx_none, Int.toNat_natCast]
 rcases Nat.le_total i.toNat xs.length with hl | hl
 ·rw [Nat.min_eq_left hl, ← List.length_drop, List.take_length]
 ·rw [Nat.min_eq_right hl, List.drop_length, List.drop_eq_nil_of_le hl]; simp
theorem r_slTo {xs : List V} {i : Int} (h : H p = some (.lst xs)) (h0 : 0 ≤ i) (q : ∀ l, H l = none → Q (.ref l) (upd H l (.lst (xs.take i.toNat)))) : rSlAny K (.ref p) none (some i) H Q := .inl ⟨p, xs, rfl, SqL.of h, fun l hl => by rw [cut_to h0]; exact q l hl⟩
theorem r_slFrom {xs : List V} {i : Int} (h : H p = some (.lst xs)) (h0 : 0 ≤ i) (q : ∀ l, H l = none → Q (.ref l) (upd H l (.lst (xs.drop i.toNat)))) : rSlAny K (.ref p) (some i) none H Q := .inl ⟨p, xs, rfl, SqL.of h, fun l hl => by rw [cut_from h0]; exact q l hl⟩
end
end Cm
namespace Cm
open PySem PySem.Spec PyProof.Rows L2
theorem sz_lit {n : Nat} (h : Nat.ble n 1000 = true) : n ≤ sizeLine := Nat.le_trans (Nat.le_of_ble_eq_true h) (by decide)
theorem sz_lt {n : Nat} (h : Nat.ble (n + 1) 1000 = true) : n < sizeLine := Nat.lt_of_lt_of_le (Nat.lt_of_succ_le (Nat.le_of_ble_eq_true h)) (by decide)
theorem fs_lt {n : Nat} (h : Nat.ble (n + 1) 900 = true) : n < 1000 := Nat.lt_of_lt_of_le (Nat.lt_of_succ_le (Nat.le_of_ble_eq_true h)) (by decide)
end Cm
namespace Cm
open PySem PySem.Spec PyProof.Rows L2
section
variable {x0 x1 x2 x3 x4 x5 x6 x7 x8 : V} {xs : List V}
theorem at0s {v : V} : atI ((x0 :: xs).set 0 v) 0 = some v := atI_nat (j := 0) rfl
theorem at1s {v : V} : atI ((x0 :: x1 :: xs).set 1 v) 1 = some v := atI_nat (j := 1) rfl
theorem at01s {v : V} : atI ((x0 :: x1 :: xs).set 1 v) 0 = some x0 := atI_nat (j := 0) rfl
theorem at10s {v : V} : atI ((x0 :: x1 :: xs).set 0 v) 1 = some x1 := atI_nat (j := 1) rfl
theorem at3 : atI (x0 :: x1 :: x2 :: x3 :: xs) 3 = some x3 := atI_nat (j := 3) rfl
theorem at4 : atI (x0 :: x1 :: x2 :: x3 :: x4 :: xs) 4 = some x4 := atI_nat (j := 4) rfl
theorem at5 : atI (x0 :: x1 :: x2 :: x3 :: x4 :: x5 :: xs) 5 = some x5 := atI_nat (j := 5) rfl
theorem at6 : atI (x0 :: x1 :: x2 :: x3 :: x4 :: x5 :: x6 :: xs) 6 = some x6 := atI_nat (j := 6) rfl
theorem at7 : atI (x0 :: x1 :: x2 :: x3 :: x4 :: x5 :: x6 :: x7 :: xs) 7 = some x7 := atI_nat (j := 7) rfl
theorem at8 : atI (x0 :: x1 :: x2 :: x3 :: x4 :: x5 :: x6 :: x7 :: x8 :: xs) 8 = some x8 := atI_nat (j := 8) rfl
end
end Cm
end
section
namespace Cm
open PySem PySem.Spec PyProof.Rows L2
def oexB (K : PySem.W.Frag) (C : Addr) : Bool := (match K.lookup C with
 | some ⟨.type "type", _, .cls cd, sl⟩ => (match cd.mro, sl.toList with
  | .ref C' :: bm, [_, _, _, _, some (.builtin n), _] => C' == C && n == "ValueError.__new__" && !cd.hasDel && cd.hasDict && PySem.HandSPX.refsVE bm
  | _, _ => false)
 | _ => false) && (decide (PySem.W.findIn K (.ref C) "__setattr__" = some (some (.builtin "object.__setattr__"))) && (decide (PySem.W.subIn K (.ref C) (.type "BaseException") = some true) && (decide (PySem.W.typeIn K (.ref C) = some (.type "type")) && PySem.W.keepIn K (.ref C))))
theorem oex_of {K : PySem.W.Frag} {C : Addr} (h : oexB K C = true) : OexC K C := by
 unfold oexB at h
 obtain ⟨q, h⟩ := Bool.and_eq_true_iff.mp h
 simp only [Bool.and_eq_true, decide_eq_true_eq] at h
 refine ⟨?_, h.1, h.2.1, h.2.2.1, h.2.2.2⟩
 split at q
 ·rename_i dd cd sl ho
  split at q
  ·rename_i C' bm k0 k1 k2 k3 n k5 hm hs
   simp only [Bool.and_eq_true, beq_iff_eq, Bool.not_eq_true'] at q
   obtain ⟨⟨⟨⟨rfl, rfl⟩, hdel⟩, hdc⟩, ht⟩ := q
   obtain ⟨nm, bs, mro, ns, qn, hd, sn, sub, ab, col, del⟩ := cd
   dsimp only at hm hdel hdc
   subst hm hdel hdc
   have hsl : sl = #[k0, k1, k2, k3, some (.builtin "ValueError.__new__"), k5] := by
    obtain ⟨l⟩ := sl
    simp only at hs
    rw [hs]
   subst hsl
   exact ⟨nm, qn, ns, bs, bm, sn, sub, ab, col, dd, k0, k1, k2, k3, k5, ho, ht⟩
  ·cases q
 ·cases q
structure IniC (K : PySem.W.Frag) (S : Addr) : Prop where
 ga : PySem.W.specialIn K (.ref S) "__getattribute__" = some (some (.builtin "type.__getattribute__"))
 ty : PySem.W.typeIn K (.ref S) = some (.type "type")
 rd : PySem.W.readsIn K S (.type "type") = true
 fc : PySem.W.findCls K (.ref S) (.type "type") "__init__" = some (.val (.builtin "ValueError.__init__"))
def iniB (K : PySem.W.Frag) (S : Addr) : Bool := decide (PySem.W.specialIn K (.ref S) "__getattribute__" = some (some (.builtin "type.__getattribute__"))) && (decide (PySem.W.typeIn K (.ref S) = some (.type "type")) && (PySem.W.readsIn K S (.type "type") &&
 (match PySem.W.findCls K (.ref S) (.type "type") "__init__" with
  | some (.val (.builtin n)) => n == "ValueError.__init__"
  | _ => false)))
theorem ini_of {K : PySem.W.Frag} {S : Addr} (h : iniB K S = true) : IniC K S := by
 unfold iniB at h
 simp only [Bool.and_eq_true, decide_eq_true_eq] at h
 obtain ⟨h1, h2, h3, h4⟩ := h
 refine ⟨h1, h2, h3, ?_⟩
 split at h4
 ·rename_i n e
  rw [e, beq_iff_eq.mp h4]
 ·cases h4
section
variable {X : Cx} {e : Expr} {es : List Expr} {ta : TA} {p1 p2 pos : Pos}
theorem pe_seinit {pl : Sem Bool} {x : Str} {S : Addr} (hg : Gl X x) (hm : X.mg x = some (.ref S)) (T : IniC X.K S) (ha : PA X (e :: es) ta) (hdb : (x == ("__debug__" : Str)) = false := by decide)
  (hc : eval (.Call (.Attribute (.Name x p1) "__init__" p2) (e :: es) [] pos) X.env = (do
   let ov ← eval (.Name x p1) X.env
   standAt p2.atName
   let (f, first) ← holding [ov] (getMethod ov "__init__" pl)
   callWith pos f first (backTo pos (starEach (e :: es) X.env)) (backToKw pos (keywordEach [] X.env))) := by rfl)
  (he : starEach (e :: es) X.env = (false, eval e X.env) :: starEach es X.env := by rfl) (hpl : (backTo pos (starEach es X.env)).any (·.1) = false := by rfl) :
  PE X (.Call (.Attribute (.Name x p1) "__init__" p2) (e :: es) [] pos) (tVeI X.K ta) := by
 refine ⟨fun pins s σ H Q I h => ?_⟩
 refine PySem.W.methodCall_KW (ld_glob I hg hm ?_ hdb) hc
 obtain ⟨m, fr⟩ := I.fr
 refine PySem.W.method_of_cls fr I.ok.mod.kin T.ga (PySem.W.cls_val fr I.ok.mod.kin T.ty T.rd T.fc (by decide +kernel) ?_)
 show wpAny _ _ (callWith pos (Value.builtin "ValueError.__init__") [] (backTo pos (starEach (e :: es) X.env)) []) _ _ _
 refine PyProof.Rows.callWith_method1 (thn (ha.run pos pins _ σ H _ (I.tok _) h) fun us s1 ⟨vs, H1, I1, r1, a, C, ws, ev, hl, T, ea, q⟩ => ?_) he hpl
 subst ev
 cases r1 with
 | @cons _ u0 _ ur ra rw' =>
  obtain rfl : u0 = Value.ref a := ra
  have hlen : ur.length ≤ sizeLine := by
   rw [← Paired.length rw', sizeLine_eq]
   omega
  exact oinit_ok T I1 ea hlen fun s' J => ⟨.non, H1, J, rfl, q⟩
theorem pmkN_oex {CX : CXT} {x : Str} {C fI : Addr} {k : Nat} {fd : FuncData} {ps : List Str} {sp : Sp} {p : Pos} (T : OexC X.K C) (iC : PySem.W.findIn X.K (.ref C) "__init__" = some (some (.ref fI))) (tI : PySem.W.typeIn X.K (.ref fI) = some (.type "function"))
  (F1 : FnOk X.prog X.w X.K X.mg X.base CX k fI fd ps sp) (hr : Room (k + 1) X.A) (hb : L2.Binds X.K fd ps []) (hx : Passes CX X (fun _ _ _ => False)) (hg : Gl X x) (hm : X.mg x = some (.ref C)) (ha : PA X (e :: es) ta)
  (hdb : (x == ("__debug__" : Str)) = false := by decide) (he : starEach (e :: es) X.env = (false, eval e X.env) :: starEach es X.env := by rfl) (hpl : (backTo pos (starEach es X.env)).any (·.1) = false := by rfl) :
  L2N.PMk X (.Call (.Name x p) (e :: es) [] pos) (tMkO C sp [] ta) := by
 intro pins s σ H Q I h
 obtain ⟨nm, q, N, bs, bm, sn, sub, ab, col, dd, k0, k1, k2, k3, k5, hC, hbm⟩ := T.cls
 refine wpAny_Call_Name_kw (ld_glob I hg hm ?_ hdb)
 refine PySem.W.callWith_K (h₀ := X.base) I.ok.mod.kin T.kC (thn (ha.run pos pins s σ H _ I h) fun us s1 ⟨vs, H1, I1, r1, hz, q1⟩ => ⟨I1.kIn, ?_⟩) he hpl
 show wpAny _ _ (call (.ref C) us) _ _ _
 obtain ⟨hp, g, dr, tk, os⟩ := s1
 have hsz : hp.objs.size ≤ hp.objs.size + 1 := Nat.le_succ _
 have hn : H1 (hp.objs.size + 1) = none := I1.hok.fresh hsz
 have hq := q1 (hp.objs.size + 1) hn
 have kk : ∀ b o, hp.get? b = some o → ((hp.push (PySem.W.kdv_tup us)).push (PySem.HandSPX.excO C hp.objs.size)).get? b = some o := fun b o e => Heap.get?_push_of_some _ (Heap.get?_push_of_some _ e)
 have hget : ((hp.push (PySem.W.kdv_tup us)).push (PySem.HandSPX.excO C hp.objs.size)).get? (hp.objs.size + 1) = some (PySem.HandSPX.excO C hp.objs.size) := by heap_get
 have I2 : Inv X pins σ (upd H1 (hp.objs.size + 1) (exo (hp.objs.size + 1) C none)) ⟨(hp.push (PySem.W.kdv_tup us)).push (PySem.HandSPX.excO C hp.objs.size), g, dr, tk, os⟩ :=
  I1.laid (t' := tk) (a := hp.objs.size + 1) (o := exo (hp.objs.size + 1) C none) (h' := (hp.push (PySem.W.kdv_tup us)).push (PySem.HandSPX.excO C hp.objs.size)) kk hsz (exo_ok hget)
 have r2 : Vals (V.ref (hp.objs.size + 1) :: (vs ++ [])) (Value.ref (hp.objs.size + 1) :: us) := by rw [List.append_nil]; exact .cons rfl r1
 have hl : (Value.ref (hp.objs.size + 1) :: us ++ []).length = ps.length := by
  have e := r2.length
  rw [F1.len _ _ _ _ hq] at e
  rw [List.append_nil]
  exact e.symm
 have b2 := hb _ (Value.ref (hp.objs.size + 1) :: us) I2.kIn hl
 rw [List.append_nil] at b2
 have hus : us.length ≤ sizeLine := by
  rw [← Paired.length r1, sizeLine_eq]
  omega
 refine wpAny_call (PySem.HandSPX.call_own F.excBase_ValueError (fun Y => PySem.HandSPX.refsVE_contains Y bm hbm) (I1.kIn _ _ hC) (PySem.W.looks_findIn I1.kIn iC) (fun self => PySem.W.bind_fn I1.kIn self tI) hus
  (codeAny_mono (F1.run _ X.stack _ _ ⟨Value.ref (hp.objs.size + 1) :: us, []⟩ (Value.ref (hp.objs.size + 1) :: us) _ _ (fun _ _ _ => False) (hr.make C us []) (I2.env0.make C us []) b2 r2 hq) fun r s' hq' => ?_))
 cases r with
 | error er => exact hx pins σ _ _ er s' I2 hq'
 | ok fl =>
  cases fl with
  | ret u =>
   obtain ⟨v, H2, os2, bare2, un2, hok2, rv, ev, d, fs, ea, ed, hd1, q2⟩ := hq'
   subst ev
   obtain ⟨h2, g2, d2, t2, os'⟩ := s'
   obtain ⟨t0, G, J, kG, ge, hoe, na⟩ := mk_end0 (d2 := d2) (t2 := t2) I1 hsz kk un2 hok2 os2 bare2 ea ed hd1
   exact ⟨rv, hp.objs.size + 1, _, _, ⟨G, g2, d2, t2, os'⟩, _, .ref C, some d, rfl, J, kG, ge, hoe, ⟨rfl, rfl, fun vs hv => by cases hv; rfl⟩, rfl, rfl, na, rfl, bare2, raises_own T.exC T.tyC, q2⟩
  | next => exact False.elim hq'
  | brk => exact False.elim hq'
  | cont => exact False.elim hq'
end
def spXI (K : PySem.W.Frag) (C : Addr) (f : Str) : Sp := sp2 fun x y H Q _ => ∃ a, x = .ref a ∧ H a = some (exo a C none) ∧ ∀ dx, H dx = none → dx ≠ a → Q .non (upd (upd H dx (exd dx [(f, y)])) a (exo a C (some dx)))
def tRx (K : PySem.W.Frag) (E : XK) (C : Addr) (f : Str) (te : TE) : TS := fun _ σ H => tMkO C (spXI K C f) [] (tCons te tNil) σ H fun cls d H' => E cls d H'
def RxG (K : PySem.W.Frag) (E : XK) (C : Addr) (f : Str) (v : V) (H1 : Hp) : Prop := [v].length ≤ 1000 ∧ ∀ a, H1 a = none → spXI K C f (.ref a :: ([v] ++ [])) (upd H1 a (exo a C none))
 (fun v H2 => v = .non ∧ ∃ (d : Addr) (fs : List (Str × V)), H2 a = some (exo a C (some d)) ∧ H2 d = some (exd d fs) ∧ H1 d = none ∧ E (.ref C) (some d) (upd (del H2 a) d (.xd fs))) (fun _ _ _ => False)
theorem s_rx {K : PySem.W.Frag} {E : XK} {C : Addr} {f : Str} {te : TE} {D : Ends} {σ : L2.St} {H : Hp} (q : te σ H fun v H1 => RxG K E C f v H1) : tRx K E C f te D σ H := q
theorem rx_at {K : PySem.W.Frag} {E : XK} {C : Addr} {f : Str} {v : V} {H1 : Hp} (h1 : ∀ d, H1 d = none → E (.ref C) (some d) (upd H1 d (.xd [(f, v)]))) : RxG K E C f v H1 := by
 refine ⟨by show 1 ≤ 1000; decide, fun a ha => ⟨_, _, rfl, a, rfl, upd_same, fun dx hd hda => ⟨rfl, dx, [(f, v)], upd_same, ?_, ?_, ?_⟩⟩⟩
 ·rw [upd_ne hda]; exact upd_same
 ·rw [upd_ne hda] at hd; exact hd
 ·rw [upd_ne hda] at hd
  have e : upd (del (upd (upd (upd H1 a (exo a C none)) dx (exd dx [(f, v)])) a (exo a C (some dx))) a) dx (.xd [(f, v)]) = upd H1 dx (.xd [(f, v)]) := by
   funext b
   by_cases hb : b = dx
   ·rw [hb, upd_same, upd_same]
   ·rw [upd_ne hb, upd_ne hb]
    by_cases hba : b = a
    ·rw [hba, del_same, ha]
    ·rw [del_ne hba, upd_ne hba, upd_ne hb, upd_ne hba]
  rw [e]
  exact h1 dx hd
def exX (K : PySem.W.Frag) (xs : List (Str × Str)) : Bool := iniB K (He.ga K "StillError") && xs.all fun x => oexB K (He.ga K x.1) && (decide (PySem.W.findIn K (.ref (He.ga K x.1)) "__init__" = some (some (.ref (He.fAd K (x.1, some "__init__"))))) &&
 (decide (PySem.W.typeIn K (.ref (He.fAd K (x.1, some "__init__"))) = some (.type "function")) && (xfB K (He.ga K x.1) && decide (PySem.W.findIn K (.ref (He.ga K x.1)) x.2 = some none))))
structure XX (K : PySem.W.Frag) (C f : Str) : Prop where
 ox : OexC K (He.ga K C)
 iC : PySem.W.findIn K (.ref (He.ga K C)) "__init__" = some (some (.ref (He.fAd K (C, some "__init__"))))
 tI : PySem.W.typeIn K (.ref (He.fAd K (C, some "__init__"))) = some (.type "function")
 xf : XfC K (He.ga K C)
 no : PySem.W.findIn K (.ref (He.ga K C)) f = some none
theorem exX_ini {K : PySem.W.Frag} {xs : List (Str × Str)} (h : exX K xs = true) : IniC K (He.ga K "StillError") := ini_of (Bool.and_eq_true_iff.mp h).1
theorem exX_of {K : PySem.W.Frag} {xs : List (Str × Str)} (h : exX K xs = true) {C f : Str} (hm : (C, f) ∈ xs) : XX K C f := by
 have z := List.all_eq_true.mp (Bool.and_eq_true_iff.mp h).2 _ hm
 simp only [Bool.and_eq_true, decide_eq_true_eq] at z
 exact ⟨oex_of z.1, z.2.1, z.2.2.1, xfB_ok z.2.2.2.1, z.2.2.2.2⟩
end Cm
end
section
namespace Cm
open PySem PySem.Spec PyProof.Rows L2
section
variable {X : Cx}
def rExtT (K : PySem.W.Frag) : V → List V → Hp → VK → Prop := fun x vs H Q => ∃ l b xs zs, x = .ref l ∧ vs = [.ref b] ∧ H l = some (.lst xs) ∧ H b = some (.tup zs) ∧ xs.length + zs.length ≤ sizeLine ∧ Q .non (upd H l (.lst (xs ++ zs)))
def gFld (K : PySem.W.Frag) (to : TE) (f : Str) : TG := fun v σ H Q => to σ H fun x H1 => ∃ a C dx fs, x = .ref a ∧ H1 a = some (.ins C dx fs) ∧ Cls K C ∧ NoAttr K C f ∧ fs.length < 1000 ∧ Q σ (upd H1 a (.ins C dx (putF f v fs)))
structure BasC (K : PySem.W.Frag) (S f : Addr) : Prop where
 ga : PySem.W.specialIn K (.ref S) "__getattribute__" = some (some (.builtin "type.__getattribute__"))
 ty : PySem.W.typeIn K (.ref S) = some (.type "type")
 rd : PySem.W.readsIn K S (.type "type") = true
 fc : PySem.W.findCls K (.ref S) (.type "type") "__init__" = some (.val (.ref f))
 kp : PySem.W.keepIn K (.ref f) = true
def basB (K : PySem.W.Frag) (S f : Addr) : Bool := decide (PySem.W.specialIn K (.ref S) "__getattribute__" = some (some (.builtin "type.__getattribute__"))) && (decide (PySem.W.typeIn K (.ref S) = some (.type "type")) && (PySem.W.readsIn K S (.type "type") &&
 ((match PySem.W.findCls K (.ref S) (.type "type") "__init__" with
  | some (.val (.ref g)) => g == f
  | _ => false) && PySem.W.keepIn K (.ref f))))
end
end Cm
namespace Cm
open PySem PySem.Spec PyProof.Rows L2
def inhB (K : PySem.W.Frag) (B : Str) (cs ms : List Str) : Bool := basB K (He.ga K B) (He.fAd K (B, some "__init__")) && cs.all fun c => ms.all fun m => decide (He.fAd K (c, some m) = He.fAd K (B, some m))
end Cm
end
section
namespace Cm
open PySem PySem.Spec PyProof.Rows L2
structure KTab (K : PySem.W.Frag) (w : World) (d : Addr) (kvs : List (Str × Str)) : Prop where
 at_ : ∃ es n, KDict K w d es n ∧ es.toList.map He.keyOf = He.keysIn w.params (kvs.map Prod.fst)
 vals : ∀ q ∈ kvs, ∃ t, PySem.W.nsIn K d q.1 = some (some (.str q.2 t))
def lkT (kvs : List (Str × Str)) (z : Str) : Option Str := (kvs.find? fun q => decide (q.1 = z)).map Prod.snd
theorem keyOf_str {e : DictEntry} {k : Str} {h : Int} (q : He.keyOf e = some (k, h)) : ∃ t, e.key = .str k t := by
 unfold He.keyOf at q
 split at q
 ·rename_i x t hx
  cases q
  exact ⟨t, hx⟩
 ·cases q
theorem KTab.look {K : PySem.W.Frag} {w : World} {d : Addr} {kvs : List (Str × Str)} (T : KTab K w d kvs) (z : Str) : ∃ es n, KDict K w d es n ∧ match lkT kvs z with
  | some v => ∃ t, PySem.W.nsIn K d z = some (some (.str v t))
  | none => PySem.W.nsIn K d z = some none := by
 obtain ⟨es, n, D, hk⟩ := T.at_
 refine ⟨es, n, D, ?_⟩
 cases hz : kvs.find? fun q => decide (q.1 = z) with
 | some q =>
  have e1 : lkT kvs z = some q.2 := by unfold lkT; rw [hz]; rfl
  rw [e1]
  obtain ⟨t, ht⟩ := T.vals q (List.mem_of_find?_eq_some hz)
  have := List.find?_some hz
  have e2 : q.1 = z := of_decide_eq_true this
  rw [e2] at ht
  exact ⟨t, ht⟩
 | none =>
  have e1 : lkT kvs z = none := by unfold lkT; rw [hz]; rfl
  rw [e1]
  have keys : ∀ e ∈ es.toList, ∃ k t, e.key = .str k t ∧ k ≠ z := fun e he => by
   have h1 : He.keyOf e ∈ es.toList.map He.keyOf := List.mem_map_of_mem he
   rw [hk] at h1
   obtain ⟨k, h2, h3⟩ := List.mem_map.mp (show He.keyOf e ∈ (kvs.map Prod.fst).map fun k => some (k, PyData.keyHash w.params k) from h1)
   obtain ⟨t, h4⟩ := keyOf_str h3.symm
   refine ⟨k, t, h4, fun y => ?_⟩
   obtain ⟨q, h5, h6⟩ := List.mem_map.mp h2
   have := List.find?_eq_none.mp hz q h5
   exact this (decide_eq_true (h6.trans y))
  show PySem.W.nsIn K d z = some none
  unfold PySem.W.nsIn
  rw [D.at_]
  have f1 : es.toList.find? (fun x => x.key.isStr z) = none := by
   rw [List.find?_eq_none]
   intro e he y
   obtain ⟨k, t, h1, h2⟩ := keys e he
   rw [h1] at y
   exact h2 (by simpa [Value.isStr] using y)
  have f2 : es.toList.any (fun x => x.refKey) = false := by
   rw [List.any_eq_false]
   intro e he y
   obtain ⟨k, t, h1, h2⟩ := keys e he
   simp [DictEntry.refKey, h1] at y
  dsimp only
  rw [f1, f2]
  rfl
theorem ktab_of {fa : List He.Fa} {fn : List He.DefD} {ts : List He.Tab} {K : PySem.W.Frag} {w : World} {n : Str} {kvs : List (Str × Str)} {ds : List (Str × He.Dv)} (c : He.SaysT fa fn ts w K) (i : Nat) (h : ts[i]? = some ((fun K => He.ga K n), kvs.map Prod.fst))
  (hv : He.valsB K (He.ga K n) ds = true) (e : ds = kvs.map fun q => (q.1, .str q.2)) : KTab K w (He.ga K n) kvs := by
 refine ⟨?_, fun q hq => ?_⟩
 ·have e1 : (ts.map fun t => He.dicW K (t.1 K))[i]? = (ts.map fun t => some (He.keysIn w.params t.2))[i]? := by rw [show ts.map (fun t => He.dicW K (t.1 K)) = ts.map fun t => some (He.keysIn w.params t.2) from congrArg (fun z : He.AlT => z.2) c]
  rw [List.getElem?_map, List.getElem?_map, h] at e1
  have e2 : He.dicW K (He.ga K n) = some (He.keysIn w.params (kvs.map Prod.fst)) := Option.some.inj e1
  obtain ⟨es, m, D⟩ := He.dicW_ok e2
  refine ⟨es, m, D, ?_⟩
  unfold He.dicW at e2
  rw [D.at_] at e2
  dsimp only at e2
  split at e2
  ·exact Option.some.inj e2
  ·cases e2
 ·obtain ⟨u, h1, h2⟩ := He.valsB_ok hv (q := (q.1, .str q.2)) (by rw [e]; exact List.mem_map_of_mem (f := fun q : Str × Str => (q.1, He.Dv.str q.2)) hq)
  obtain ⟨t, rfl⟩ := h2
  exact ⟨t, h1⟩
def tKGet (kvs : List (Str × Str)) (ty : TE) (x : Str) : TE := fun σ H Q => ty σ H fun y H1 => ∃ z, y = .str z ∧ Q (.str ((lkT kvs z).getD x)) H1
section
variable {X : Cx} {o e : Expr} {apos cpos p2 : Pos} {ty : TE} {d : Addr} {kvs : List (Str × Str)} {x : Str} {j : Nat}
theorem pe_kget {f : Expr} (D : KTab X.K X.w d kvs) (ho : PE X o (tC (.ref d))) (he : PE X e ty) (hf : PE X f (tC (.str x))) (m : M2 X o "get" apos e f cpos) : PE X (.Call (.Attribute o "get" apos) [e, f] [] cpos) (tKGet kvs ty x) :=
 ⟨fun pins s σ H Q I h => by
  obtain ⟨es0, n0, D0, _⟩ := D.at_
  apply wpAny_Call_method m.base m.few m.line PySem.F.plainAttrs_dict PySem.F.slot_dict_get PySem.F.type_dict_get
  apply thn (ho.run pins s σ H (fun v H1 => v = .ref d ∧ H1 = H) I ⟨rfl, rfl⟩)
  rintro u s1 ⟨v, H1, I1, rv, rfl, rfl⟩
  obtain rfl : u = Value.ref d := rv
  refine ⟨kd_type D0 I1, fun b eb => ?_, ?_⟩
  ·cases eb
   exact ⟨_, I1.kIn _ _ D0.at_, rfl⟩
  ·rw [m.trees]
   refine Calls.callWith_builtin rfl (Calls.evalArgs_plain (Calls.spliced_cons (thn (he.run pins s1 σ _ _ I1 h) ?_)))
   rintro iv s2 ⟨y, H2, I2, ry, z, rfl, q2⟩
   refine Calls.spliced_cons (thn (hf.run pins s2 σ H2 (fun v H3 => v = .str x ∧ H3 = H2) I2 ⟨rfl, rfl⟩) ?_)
   rintro fv s3 ⟨c, H3, I3, rc, rfl, rfl⟩
   refine Calls.spliced_nil ?_
   obtain ⟨t, rfl⟩ := ry
   obtain ⟨t2, rfl⟩ := rc
   obtain ⟨es, n, D1, hl⟩ := D.look z
   have mo := PySem.W.mapOf_K (prog := X.prog) (w := X.w) I3.kIn D1.at_ D1.lit
   refine call_meetsIn PySem.F.slot_dict_get mo.typeIs PySem.F.entry_dict_get (PySem.F.args_dict_get_3 _ _ _) (meets_dict_get_default (strKind X.prog X.w) d (strKind_is X.prog X.w z t) D1.low (.str x t2)) ⟨_, mo, ?_⟩
   cases hz : lkT kvs z with
   | some r =>
    rw [hz] at hl q2
    obtain ⟨t3, hl⟩ := hl
    rw [PySem.W.find_K D1.at_ hl]
    exact ⟨.str r, _, I3.tok _, ⟨t3, rfl⟩, q2⟩
   | none =>
    rw [hz] at hl q2
    rw [PySem.W.find_K D1.at_ hl]
    exact ⟨.str x, _, I3.tok _, ⟨t2, rfl⟩, q2⟩⟩
def rMulT : R2 := fun x y H Q => ∃ (a : Str) (n : Int), x = .str a ∧ y = .int n ∧ MulOk a n ∧ Q (.str (Txt.mul a n)) H
theorem op_mulT : OpR X (binaryOp .Mult) rMulT := by
 intro pins s σ H x y v u Q I rx ry h
 obtain ⟨a, n, rfl, rfl, ok, q⟩ := h
 obtain ⟨t, rfl⟩ := rx
 obtain ⟨t', rfl⟩ := ry
 exact SB.mul ok fun t2 k => ⟨.str _, H, I.kept (t' := k) fun _ _ z => z, ⟨t2, rfl⟩, q⟩
theorem blkOk_any {N : List Str} {sc scope : Scope} {own : List (Str × Nat)} (h : blkC N { kind := .function, names := [], isGenerator := false, isCoroutine := false } scope own = true) : BlkOk N sc scope own :=
 let B := blkOk_by h
 ⟨B.kind, B.uniq, B.ix, fun y hy e => by
  rcases B.free y hy e with z | z
  ·exact absurd (show (none : Option NameKind) = some .cell from z) (by decide)
  ·exact absurd (show (none : Option NameKind) = some .free from z) (by decide), B.own⟩
theorem hu65 {k : Nat} {A : Around} (r : Room k A) : A.units + 65 < cLine := by
 have := r.un
 omega
end
end Cm
end
section
namespace W
open PySem PySem.Spec PyProof.Rows L2 Cm
def top (i : Nat) : Stmt := PySem.Challenge.pw_stillcopy_k19_texts_refused.main.body.getD i (.Pass ⟨0, 0, 0, 0⟩)
abbrev s_BadDeal_init : Stmt := inClass (top 2) 0
abbrev s_Behind_init : Stmt := inClass (top 9) 0
abbrev s_BadText_init : Stmt := inClass (top 12) 0
abbrev s_is_from : Stmt := top 20
abbrev s_is_put : Stmt := top 21
abbrev s_is_if : Stmt := top 22
abbrev s_is_deed : Stmt := top 23
abbrev s_need_deal : Stmt := top 24
abbrev s_need_hand : Stmt := top 25
abbrev s_number_of : Stmt := top 31
abbrev s_part_of : Stmt := top 32
abbrev s_deed_of : Stmt := top 33
abbrev s_deal_of : Stmt := top 34
abbrev s_read_deals : Stmt := top 35
abbrev s_begun_ : Stmt := top 37
abbrev s_take_ : Stmt := top 38
abbrev s_alike_ : Stmt := top 39
abbrev s_class_ : Stmt := top 40
abbrev s_refused_ : Stmt := top 41
abbrev s_all_ : Stmt := top 42
abbrev s_store_ : Stmt := top 43
abbrev s_again_ : Stmt := top 44
abbrev s_seen_ : Stmt := top 45
abbrev s_tried_ : Stmt := top 46
abbrev s_deal_ : Stmt := top 47
abbrev s_whole_ : Stmt := top 48
abbrev s_deed_ : Stmt := top 49
abbrev s_drawn_ : Stmt := top 50
abbrev s_deals_ : Stmt := top 51
abbrev s_text_ : Stmt := top 52
abbrev s_spoilt_ : Stmt := top 53
abbrev s_wrong_ : Stmt := top 54
abbrev s_number_ : Stmt := top 55
abbrev s_part_ : Stmt := top 56
abbrev s_row_ : Stmt := top 57
abbrev s_fault_ : Stmt := top 58
abbrev s_due_ : Stmt := top 59
abbrev s_told_ : Stmt := top 60
abbrev s_law : Stmt := top 61
def d_BadDeal_init : He.DefD := ⟨("BadDeal", some "__init__"), "__init__", "BadDeal.__init__", defArgs s_BadDeal_init, defBody s_BadDeal_init, defScope s_BadDeal_init, [], []⟩
def d_Behind_init : He.DefD := ⟨("Behind", some "__init__"), "__init__", "Behind.__init__", defArgs s_Behind_init, defBody s_Behind_init, defScope s_Behind_init, [], []⟩
def d_BadText_init : He.DefD := ⟨("BadText", some "__init__"), "__init__", "BadText.__init__", defArgs s_BadText_init, defBody s_BadText_init, defScope s_BadText_init, [], []⟩
def d_is_from : He.DefD := ⟨("is_from", none), "is_from", "is_from", defArgs s_is_from, defBody s_is_from, defScope s_is_from, [], []⟩
def d_is_put : He.DefD := ⟨("is_put", none), "is_put", "is_put", defArgs s_is_put, defBody s_is_put, defScope s_is_put, [], []⟩
def d_is_if : He.DefD := ⟨("is_if", none), "is_if", "is_if", defArgs s_is_if, defBody s_is_if, defScope s_is_if, [], []⟩
def d_is_deed : He.DefD := ⟨("is_deed", none), "is_deed", "is_deed", defArgs s_is_deed, defBody s_is_deed, defScope s_is_deed, [], []⟩
def d_need_deal : He.DefD := ⟨("need_deal", none), "need_deal", "need_deal", defArgs s_need_deal, defBody s_need_deal, defScope s_need_deal, [], []⟩
def d_need_hand : He.DefD := ⟨("need_hand", none), "need_hand", "need_hand", defArgs s_need_hand, defBody s_need_hand, defScope s_need_hand, [], []⟩
def d_number_of : He.DefD := ⟨("number_of", none), "number_of", "number_of", defArgs s_number_of, defBody s_number_of, defScope s_number_of, [], []⟩
def d_part_of : He.DefD := ⟨("part_of", none), "part_of", "part_of", defArgs s_part_of, defBody s_part_of, defScope s_part_of, [], []⟩
def d_deed_of : He.DefD := ⟨("deed_of", none), "deed_of", "deed_of", defArgs s_deed_of, defBody s_deed_of, defScope s_deed_of, [], []⟩
def d_deal_of : He.DefD := ⟨("deal_of", none), "deal_of", "deal_of", defArgs s_deal_of, defBody s_deal_of, defScope s_deal_of, [], []⟩
def d_read_deals : He.DefD := ⟨("read_deals", none), "read_deals", "read_deals", defArgs s_read_deals, defBody s_read_deals, defScope s_read_deals, [], []⟩
def d_begun_ : He.DefD := ⟨("_law_begun", none), "_law_begun", "_law_begun", defArgs s_begun_, defBody s_begun_, defScope s_begun_, [], []⟩
def d_take_ : He.DefD := ⟨("_law_take", none), "_law_take", "_law_take", defArgs s_take_, defBody s_take_, defScope s_take_, [], []⟩
def d_alike_ : He.DefD := ⟨("_law_alike", none), "_law_alike", "_law_alike", defArgs s_alike_, defBody s_alike_, defScope s_alike_, [], []⟩
def d_class_ : He.DefD := ⟨("_law_class", none), "_law_class", "_law_class", defArgs s_class_, defBody s_class_, defScope s_class_, [], []⟩
def d_refused_ : He.DefD := ⟨("_law_refused", none), "_law_refused", "_law_refused", defArgs s_refused_, defBody s_refused_, defScope s_refused_, [], []⟩
def d_all_ : He.DefD := ⟨("_law_all", none), "_law_all", "_law_all", defArgs s_all_, defBody s_all_, defScope s_all_, [], []⟩
def d_store_ : He.DefD := ⟨("_law_store", none), "_law_store", "_law_store", defArgs s_store_, defBody s_store_, defScope s_store_, [], []⟩
def d_again_ : He.DefD := ⟨("_law_again", none), "_law_again", "_law_again", defArgs s_again_, defBody s_again_, defScope s_again_, [], []⟩
def d_seen_ : He.DefD := ⟨("_law_seen", none), "_law_seen", "_law_seen", defArgs s_seen_, defBody s_seen_, defScope s_seen_, [], []⟩
def d_tried_ : He.DefD := ⟨("_law_tried", none), "_law_tried", "_law_tried", defArgs s_tried_, defBody s_tried_, defScope s_tried_, [], []⟩
def d_deal_ : He.DefD := ⟨("_law_deal", none), "_law_deal", "_law_deal", defArgs s_deal_, defBody s_deal_, defScope s_deal_, [], []⟩
def d_whole_ : He.DefD := ⟨("_law_whole", none), "_law_whole", "_law_whole", defArgs s_whole_, defBody s_whole_, defScope s_whole_, [], []⟩
def d_deed_ : He.DefD := ⟨("_law_deed", none), "_law_deed", "_law_deed", defArgs s_deed_, defBody s_deed_, defScope s_deed_, [], []⟩
def d_drawn_ : He.DefD := ⟨("_law_drawn", none), "_law_drawn", "_law_drawn", defArgs s_drawn_, defBody s_drawn_, defScope s_drawn_, [], []⟩
def d_deals_ : He.DefD := ⟨("_law_deals", none), "_law_deals", "_law_deals", defArgs s_deals_, defBody s_deals_, defScope s_deals_, [], []⟩
def d_text_ : He.DefD := ⟨("_law_text", none), "_law_text", "_law_text", defArgs s_text_, defBody s_text_, defScope s_text_, [], []⟩
def d_spoilt_ : He.DefD := ⟨("_law_spoilt", none), "_law_spoilt", "_law_spoilt", defArgs s_spoilt_, defBody s_spoilt_, defScope s_spoilt_, [], []⟩
def d_wrong_ : He.DefD := ⟨("_law_wrong", none), "_law_wrong", "_law_wrong", defArgs s_wrong_, defBody s_wrong_, defScope s_wrong_, [], []⟩
def d_number_ : He.DefD := ⟨("_law_number", none), "_law_number", "_law_number", defArgs s_number_, defBody s_number_, defScope s_number_, [], []⟩
def d_part_ : He.DefD := ⟨("_law_part", none), "_law_part", "_law_part", defArgs s_part_, defBody s_part_, defScope s_part_, [], []⟩
def d_row_ : He.DefD := ⟨("_law_row", none), "_law_row", "_law_row", defArgs s_row_, defBody s_row_, defScope s_row_, [], []⟩
def d_fault_ : He.DefD := ⟨("_law_fault", none), "_law_fault", "_law_fault", defArgs s_fault_, defBody s_fault_, defScope s_fault_, [], []⟩
def d_due_ : He.DefD := ⟨("_law_due", none), "_law_due", "_law_due", defArgs s_due_, defBody s_due_, defScope s_due_, [], []⟩
def d_told_ : He.DefD := ⟨("_law_told", none), "_law_told", "_law_told", defArgs s_told_, defBody s_told_, defScope s_told_, [], []⟩
def d_law : He.DefD := ⟨("law", none), "law", "law", defArgs s_law, defBody s_law, defScope s_law, [], []⟩
def fn0 : List He.DefD := [d_BadDeal_init, d_Behind_init, d_BadText_init, d_is_from, d_is_put, d_is_if, d_is_deed, d_need_deal, d_need_hand, d_number_of, d_part_of, d_deed_of, d_deal_of, d_read_deals, d_begun_, d_take_, d_alike_, d_class_, d_refused_, d_all_, d_store_, d_again_, d_seen_, d_tried_, d_deal_]
def fn1 : List He.DefD := [d_whole_, d_deed_, d_drawn_, d_deals_, d_text_, d_spoilt_, d_wrong_, d_number_, d_part_, d_row_, d_fault_, d_due_, d_told_, d_law]
def fn : List He.DefD := fn0 ++ (fn1)
def fa0 : List He.Fa := [.glo "StillError", .glo "BadDeal", .glo "BadHand", .glo "BadLetter", .glo "BadTime", .glo "BadKey", .glo "BadHouse", .glo "NoCopy", .glo "Behind", .glo "BadBlock", .glo "BadEntry", .glo "BadText", .glo "Stopped", .glo "is_from", .glo "is_put", .glo "is_if", .glo "is_deed", .glo "need_deal", .glo "need_hand", .glo "number_of", .glo "part_of", .glo "deed_of", .glo "deal_of", .glo "read_deals", .glo "_law_begun"]
def fa1 : List He.Fa := [.glo "_law_take", .glo "_law_alike", .glo "_law_class", .glo "_law_refused", .glo "_law_all", .glo "_law_store", .glo "_law_again", .glo "_law_seen", .glo "_law_tried", .glo "_law_deal", .glo "_law_whole", .glo "_law_deed", .glo "_law_drawn", .glo "_law_deals", .glo "_law_text", .glo "_law_spoilt", .glo "_law_wrong", .glo "_law_number", .glo "_law_part", .glo "_law_row", .glo "_law_fault", .glo "_law_due", .glo "_law_told", .glo "law", .free "len"]
def fa2 : List He.Fa := [.free "range", .free "list", .free "tuple", .free "int", .free "str", .free "bool", .free "sorted", .free "isinstance", .free "enumerate", .free "dict", .free "abs", .free "ValueError", .int "KEYS" (32), .int "HANDS" (4), .int "MOST_WORTH" (999), .int "MOST_LIFE" (1000), .int "MOST_DEEDS" (4), .str "FIGURES" "0123456789", .int "MOST_FIGURES" (4), .str "NONE" "-", .glo "KINDS", .exc "StillError", .keep "StillError", .exm "StillError" "StillError" true, .keep "BadDeal"]
def fa3 : List He.Fa := [.exm "BadDeal" "StillError" true, .exc "BadHand", .keep "BadHand", .exm "BadHand" "StillError" true, .exc "BadLetter", .keep "BadLetter", .exm "BadLetter" "StillError" true, .exc "BadTime", .keep "BadTime", .exm "BadTime" "StillError" true, .exc "BadKey", .keep "BadKey", .exm "BadKey" "StillError" true, .exc "BadHouse", .keep "BadHouse", .exm "BadHouse" "StillError" true, .exc "NoCopy", .keep "NoCopy", .exm "NoCopy" "StillError" true, .keep "Behind", .exm "Behind" "StillError" true, .exc "BadBlock", .keep "BadBlock", .exm "BadBlock" "StillError" true, .exc "BadEntry"]
def fa4 : List He.Fa := [.keep "BadEntry", .exm "BadEntry" "StillError" true, .keep "BadText", .exm "BadText" "StillError" true, .exc "Stopped", .keep "Stopped", .exm "Stopped" "StillError" true]
def fa : List He.Fa := fa0 ++ (fa1 ++ (fa2 ++ (fa3 ++ (fa4))))
def tf : List He.Defn := [("_law_told", none)]
def ts : List He.Tab := [((fun K => He.ga K "KINDS"), ["put", "drop", "add", "if"])]
def kt_KINDS : List (Str × Str) := [("put", "nnn"), ("drop", "n"), ("add", "ns"), ("if", "no")]
def exf (K : PySem.W.Frag) : Bool := (He.valsB K (He.ga K "KINDS") [("put", .str "nnn"), ("drop", .str "n"), ("add", .str "ns"), ("if", .str "no")] && (Cm.exK K && Cm.exX K [("BadDeal", "place"), ("Behind", "number"), ("BadText", "row")])) && decide ((tf.map fun p => (He.cT K p).2).Nodup)
structure Tx (w : World) (K : PySem.W.Frag) (mg : Str → Option Value) : Prop where
 ex : ∃ h : Heap, K.In h ∧ h.Ns mainGlobals mg ∧ He.SaysX fa fn ts tf exf w h K
section
variable {w : World} {K : PySem.W.Frag} {mg : Str → Option Value}
theorem Tx.fact (T : Tx w K mg) (i : Nat) {f : He.Fa} (h : fa[i]? = some f) : f.ok K = true := by
 obtain ⟨_, _, _, c⟩ := T.ex
 exact c.t.d.fact i h
theorem Tx.dfn (T : Tx w K mg) (i : Nat) {d : He.DefD} (h : fn[i]? = some d) : ∃ fd, FunD K d.name d.qual d.params d.body d.scope (d.dvs K) (d.kws K) (He.fAd K d.at_) fd := by
 obtain ⟨_, _, _, c⟩ := T.ex
 exact c.t.d.def_ i h
theorem Tx.more (T : Tx w K mg) : exf K = true := by
 obtain ⟨_, _, _, c⟩ := T.ex
 exact c.more
theorem Tx.exd (T : Tx w K mg) : (He.valsB K (He.ga K "KINDS") [("put", .str "nnn"), ("drop", .str "n"), ("add", .str "ns"), ("if", .str "no")] && (Cm.exK K && Cm.exX K [("BadDeal", "place"), ("Behind", "number"), ("BadText", "row")])) = true := (Bool.and_eq_true _ _ ▸ T.more : _ ∧ _).1
theorem Tx.ex0 (T : Tx w K mg) : (Cm.exK K && Cm.exX K [("BadDeal", "place"), ("Behind", "number"), ("BadText", "row")]) = true := (Bool.and_eq_true _ _ ▸ T.exd : _ ∧ _).2
theorem Tx.ex1 (T : Tx w K mg) : Cm.exK K = true := (Bool.and_eq_true _ _ ▸ T.ex0 : _ ∧ _).1
theorem Tx.exx0 (T : Tx w K mg) : Cm.exX K [("BadDeal", "place"), ("Behind", "number"), ("BadText", "row")] = true := (Bool.and_eq_true _ _ ▸ T.ex0 : _ ∧ _).2
theorem Tx.exx (T : Tx w K mg) : Cm.exX K [("BadDeal", "place"), ("Behind", "number"), ("BadText", "row")] = true := T.exx0
theorem Tx.ini (T : Tx w K mg) : Cm.IniC K (He.ga K "StillError") := Cm.exX_ini T.exx
theorem Tx.tnd (T : Tx w K mg) : (tf.map fun p => (He.cT K p).2).Nodup := of_decide_eq_true (Bool.and_eq_true _ _ ▸ T.more : _ ∧ _).2
theorem Tx.kt_KINDS (T : Tx w K mg) : Cm.KTab K w (He.ga K "KINDS") kt_KINDS := by
 obtain ⟨h, X, G, c⟩ := T.ex
 have hv := (Bool.and_eq_true _ _ ▸ T.exd : _ ∧ _).1
 exact Cm.ktab_of c.t 0 (by rfl) hv rfl
theorem Tx.x_BadDeal (T : Tx w K mg) : Cm.XX K "BadDeal" "place" := Cm.exX_of T.exx (by decide)
theorem Tx.x_Behind (T : Tx w K mg) : Cm.XX K "Behind" "number" := Cm.exX_of T.exx (by decide)
theorem Tx.x_BadText (T : Tx w K mg) : Cm.XX K "BadText" "row" := Cm.exX_of T.exx (by decide)
theorem Tx.g_StillError (T : Tx w K mg) : mg "StillError" = some (.ref (He.ga K "StillError")) := by
 obtain ⟨h, X, G, c⟩ := T.ex
 exact He.glo_ok X G (c.t.d.fact 0 rfl)
theorem Tx.g_BadDeal (T : Tx w K mg) : mg "BadDeal" = some (.ref (He.ga K "BadDeal")) := by
 obtain ⟨h, X, G, c⟩ := T.ex
 exact He.glo_ok X G (c.t.d.fact 1 rfl)
theorem Tx.g_BadHand (T : Tx w K mg) : mg "BadHand" = some (.ref (He.ga K "BadHand")) := by
 obtain ⟨h, X, G, c⟩ := T.ex
 exact He.glo_ok X G (c.t.d.fact 2 rfl)
theorem Tx.g_BadLetter (T : Tx w K mg) : mg "BadLetter" = some (.ref (He.ga K "BadLetter")) := by
 obtain ⟨h, X, G, c⟩ := T.ex
 exact He.glo_ok X G (c.t.d.fact 3 rfl)
theorem Tx.g_BadTime (T : Tx w K mg) : mg "BadTime" = some (.ref (He.ga K "BadTime")) := by
 obtain ⟨h, X, G, c⟩ := T.ex
 exact He.glo_ok X G (c.t.d.fact 4 rfl)
theorem Tx.g_BadKey (T : Tx w K mg) : mg "BadKey" = some (.ref (He.ga K "BadKey")) := by
 obtain ⟨h, X, G, c⟩ := T.ex
 exact He.glo_ok X G (c.t.d.fact 5 rfl)
theorem Tx.g_BadHouse (T : Tx w K mg) : mg "BadHouse" = some (.ref (He.ga K "BadHouse")) := by
 obtain ⟨h, X, G, c⟩ := T.ex
 exact He.glo_ok X G (c.t.d.fact 6 rfl)
theorem Tx.g_NoCopy (T : Tx w K mg) : mg "NoCopy" = some (.ref (He.ga K "NoCopy")) := by
 obtain ⟨h, X, G, c⟩ := T.ex
 exact He.glo_ok X G (c.t.d.fact 7 rfl)
theorem Tx.g_Behind (T : Tx w K mg) : mg "Behind" = some (.ref (He.ga K "Behind")) := by
 obtain ⟨h, X, G, c⟩ := T.ex
 exact He.glo_ok X G (c.t.d.fact 8 rfl)
theorem Tx.g_BadBlock (T : Tx w K mg) : mg "BadBlock" = some (.ref (He.ga K "BadBlock")) := by
 obtain ⟨h, X, G, c⟩ := T.ex
 exact He.glo_ok X G (c.t.d.fact 9 rfl)
theorem Tx.g_BadEntry (T : Tx w K mg) : mg "BadEntry" = some (.ref (He.ga K "BadEntry")) := by
 obtain ⟨h, X, G, c⟩ := T.ex
 exact He.glo_ok X G (c.t.d.fact 10 rfl)
theorem Tx.g_BadText (T : Tx w K mg) : mg "BadText" = some (.ref (He.ga K "BadText")) := by
 obtain ⟨h, X, G, c⟩ := T.ex
 exact He.glo_ok X G (c.t.d.fact 11 rfl)
theorem Tx.g_Stopped (T : Tx w K mg) : mg "Stopped" = some (.ref (He.ga K "Stopped")) := by
 obtain ⟨h, X, G, c⟩ := T.ex
 exact He.glo_ok X G (c.t.d.fact 12 rfl)
theorem Tx.g_is_from (T : Tx w K mg) : mg "is_from" = some (.ref (He.ga K "is_from")) := by
 obtain ⟨h, X, G, c⟩ := T.ex
 exact He.glo_ok X G (c.t.d.fact 13 rfl)
theorem Tx.g_is_put (T : Tx w K mg) : mg "is_put" = some (.ref (He.ga K "is_put")) := by
 obtain ⟨h, X, G, c⟩ := T.ex
 exact He.glo_ok X G (c.t.d.fact 14 rfl)
theorem Tx.g_is_if (T : Tx w K mg) : mg "is_if" = some (.ref (He.ga K "is_if")) := by
 obtain ⟨h, X, G, c⟩ := T.ex
 exact He.glo_ok X G (c.t.d.fact 15 rfl)
theorem Tx.g_is_deed (T : Tx w K mg) : mg "is_deed" = some (.ref (He.ga K "is_deed")) := by
 obtain ⟨h, X, G, c⟩ := T.ex
 exact He.glo_ok X G (c.t.d.fact 16 rfl)
theorem Tx.g_need_deal (T : Tx w K mg) : mg "need_deal" = some (.ref (He.ga K "need_deal")) := by
 obtain ⟨h, X, G, c⟩ := T.ex
 exact He.glo_ok X G (c.t.d.fact 17 rfl)
theorem Tx.g_need_hand (T : Tx w K mg) : mg "need_hand" = some (.ref (He.ga K "need_hand")) := by
 obtain ⟨h, X, G, c⟩ := T.ex
 exact He.glo_ok X G (c.t.d.fact 18 rfl)
theorem Tx.g_number_of (T : Tx w K mg) : mg "number_of" = some (.ref (He.ga K "number_of")) := by
 obtain ⟨h, X, G, c⟩ := T.ex
 exact He.glo_ok X G (c.t.d.fact 19 rfl)
theorem Tx.g_part_of (T : Tx w K mg) : mg "part_of" = some (.ref (He.ga K "part_of")) := by
 obtain ⟨h, X, G, c⟩ := T.ex
 exact He.glo_ok X G (c.t.d.fact 20 rfl)
theorem Tx.g_deed_of (T : Tx w K mg) : mg "deed_of" = some (.ref (He.ga K "deed_of")) := by
 obtain ⟨h, X, G, c⟩ := T.ex
 exact He.glo_ok X G (c.t.d.fact 21 rfl)
theorem Tx.g_deal_of (T : Tx w K mg) : mg "deal_of" = some (.ref (He.ga K "deal_of")) := by
 obtain ⟨h, X, G, c⟩ := T.ex
 exact He.glo_ok X G (c.t.d.fact 22 rfl)
theorem Tx.g_read_deals (T : Tx w K mg) : mg "read_deals" = some (.ref (He.ga K "read_deals")) := by
 obtain ⟨h, X, G, c⟩ := T.ex
 exact He.glo_ok X G (c.t.d.fact 23 rfl)
theorem Tx.g_begun_ (T : Tx w K mg) : mg "_law_begun" = some (.ref (He.ga K "_law_begun")) := by
 obtain ⟨h, X, G, c⟩ := T.ex
 exact He.glo_ok X G (c.t.d.fact 24 rfl)
theorem Tx.g_take_ (T : Tx w K mg) : mg "_law_take" = some (.ref (He.ga K "_law_take")) := by
 obtain ⟨h, X, G, c⟩ := T.ex
 exact He.glo_ok X G (c.t.d.fact 25 rfl)
theorem Tx.g_alike_ (T : Tx w K mg) : mg "_law_alike" = some (.ref (He.ga K "_law_alike")) := by
 obtain ⟨h, X, G, c⟩ := T.ex
 exact He.glo_ok X G (c.t.d.fact 26 rfl)
theorem Tx.g_class_ (T : Tx w K mg) : mg "_law_class" = some (.ref (He.ga K "_law_class")) := by
 obtain ⟨h, X, G, c⟩ := T.ex
 exact He.glo_ok X G (c.t.d.fact 27 rfl)
theorem Tx.g_refused_ (T : Tx w K mg) : mg "_law_refused" = some (.ref (He.ga K "_law_refused")) := by
 obtain ⟨h, X, G, c⟩ := T.ex
 exact He.glo_ok X G (c.t.d.fact 28 rfl)
theorem Tx.g_store_ (T : Tx w K mg) : mg "_law_store" = some (.ref (He.ga K "_law_store")) := by
 obtain ⟨h, X, G, c⟩ := T.ex
 exact He.glo_ok X G (c.t.d.fact 30 rfl)
theorem Tx.g_seen_ (T : Tx w K mg) : mg "_law_seen" = some (.ref (He.ga K "_law_seen")) := by
 obtain ⟨h, X, G, c⟩ := T.ex
 exact He.glo_ok X G (c.t.d.fact 32 rfl)
theorem Tx.g_deed_ (T : Tx w K mg) : mg "_law_deed" = some (.ref (He.ga K "_law_deed")) := by
 obtain ⟨h, X, G, c⟩ := T.ex
 exact He.glo_ok X G (c.t.d.fact 36 rfl)
theorem Tx.g_drawn_ (T : Tx w K mg) : mg "_law_drawn" = some (.ref (He.ga K "_law_drawn")) := by
 obtain ⟨h, X, G, c⟩ := T.ex
 exact He.glo_ok X G (c.t.d.fact 37 rfl)
theorem Tx.g_deals_ (T : Tx w K mg) : mg "_law_deals" = some (.ref (He.ga K "_law_deals")) := by
 obtain ⟨h, X, G, c⟩ := T.ex
 exact He.glo_ok X G (c.t.d.fact 38 rfl)
theorem Tx.g_text_ (T : Tx w K mg) : mg "_law_text" = some (.ref (He.ga K "_law_text")) := by
 obtain ⟨h, X, G, c⟩ := T.ex
 exact He.glo_ok X G (c.t.d.fact 39 rfl)
theorem Tx.g_spoilt_ (T : Tx w K mg) : mg "_law_spoilt" = some (.ref (He.ga K "_law_spoilt")) := by
 obtain ⟨h, X, G, c⟩ := T.ex
 exact He.glo_ok X G (c.t.d.fact 40 rfl)
theorem Tx.g_wrong_ (T : Tx w K mg) : mg "_law_wrong" = some (.ref (He.ga K "_law_wrong")) := by
 obtain ⟨h, X, G, c⟩ := T.ex
 exact He.glo_ok X G (c.t.d.fact 41 rfl)
theorem Tx.g_number_ (T : Tx w K mg) : mg "_law_number" = some (.ref (He.ga K "_law_number")) := by
 obtain ⟨h, X, G, c⟩ := T.ex
 exact He.glo_ok X G (c.t.d.fact 42 rfl)
theorem Tx.g_part_ (T : Tx w K mg) : mg "_law_part" = some (.ref (He.ga K "_law_part")) := by
 obtain ⟨h, X, G, c⟩ := T.ex
 exact He.glo_ok X G (c.t.d.fact 43 rfl)
theorem Tx.g_row_ (T : Tx w K mg) : mg "_law_row" = some (.ref (He.ga K "_law_row")) := by
 obtain ⟨h, X, G, c⟩ := T.ex
 exact He.glo_ok X G (c.t.d.fact 44 rfl)
theorem Tx.g_fault_ (T : Tx w K mg) : mg "_law_fault" = some (.ref (He.ga K "_law_fault")) := by
 obtain ⟨h, X, G, c⟩ := T.ex
 exact He.glo_ok X G (c.t.d.fact 45 rfl)
theorem Tx.g_due_ (T : Tx w K mg) : mg "_law_due" = some (.ref (He.ga K "_law_due")) := by
 obtain ⟨h, X, G, c⟩ := T.ex
 exact He.glo_ok X G (c.t.d.fact 46 rfl)
theorem Tx.g_told_ (T : Tx w K mg) : mg "_law_told" = some (.ref (He.ga K "_law_told")) := by
 obtain ⟨h, X, G, c⟩ := T.ex
 exact He.glo_ok X G (c.t.d.fact 47 rfl)
theorem Tx.g_law (T : Tx w K mg) : mg "law" = some (.ref (He.ga K "law")) := by
 obtain ⟨h, X, G, c⟩ := T.ex
 exact He.glo_ok X G (c.t.d.fact 48 rfl)
theorem Tx.n_len (T : Tx w K mg) : mg "len" = none := by
 obtain ⟨h, X, G, c⟩ := T.ex
 exact He.free_ok X G (c.t.d.fact 49 rfl)
theorem Tx.n_range (T : Tx w K mg) : mg "range" = none := by
 obtain ⟨h, X, G, c⟩ := T.ex
 exact He.free_ok X G (c.t.d.fact 50 rfl)
theorem Tx.n_list (T : Tx w K mg) : mg "list" = none := by
 obtain ⟨h, X, G, c⟩ := T.ex
 exact He.free_ok X G (c.t.d.fact 51 rfl)
theorem Tx.n_tuple (T : Tx w K mg) : mg "tuple" = none := by
 obtain ⟨h, X, G, c⟩ := T.ex
 exact He.free_ok X G (c.t.d.fact 52 rfl)
theorem Tx.n_int (T : Tx w K mg) : mg "int" = none := by
 obtain ⟨h, X, G, c⟩ := T.ex
 exact He.free_ok X G (c.t.d.fact 53 rfl)
theorem Tx.n_str (T : Tx w K mg) : mg "str" = none := by
 obtain ⟨h, X, G, c⟩ := T.ex
 exact He.free_ok X G (c.t.d.fact 54 rfl)
theorem Tx.n_bool (T : Tx w K mg) : mg "bool" = none := by
 obtain ⟨h, X, G, c⟩ := T.ex
 exact He.free_ok X G (c.t.d.fact 55 rfl)
theorem Tx.n_isinstance (T : Tx w K mg) : mg "isinstance" = none := by
 obtain ⟨h, X, G, c⟩ := T.ex
 exact He.free_ok X G (c.t.d.fact 57 rfl)
theorem Tx.n_enumerate (T : Tx w K mg) : mg "enumerate" = none := by
 obtain ⟨h, X, G, c⟩ := T.ex
 exact He.free_ok X G (c.t.d.fact 58 rfl)
theorem Tx.n_abs (T : Tx w K mg) : mg "abs" = none := by
 obtain ⟨h, X, G, c⟩ := T.ex
 exact He.free_ok X G (c.t.d.fact 60 rfl)
theorem Tx.n_ValueError (T : Tx w K mg) : mg "ValueError" = none := by
 obtain ⟨h, X, G, c⟩ := T.ex
 exact He.free_ok X G (c.t.d.fact 61 rfl)
theorem Tx.i_KEYS (T : Tx w K mg) : ∃ t, mg "KEYS" = some (.int (32) t) := by
 obtain ⟨h, X, G, c⟩ := T.ex
 exact He.int_ok X G (c.t.d.fact 62 rfl)
theorem Tx.i_HANDS (T : Tx w K mg) : ∃ t, mg "HANDS" = some (.int (4) t) := by
 obtain ⟨h, X, G, c⟩ := T.ex
 exact He.int_ok X G (c.t.d.fact 63 rfl)
theorem Tx.i_MOST_WORTH (T : Tx w K mg) : ∃ t, mg "MOST_WORTH" = some (.int (999) t) := by
 obtain ⟨h, X, G, c⟩ := T.ex
 exact He.int_ok X G (c.t.d.fact 64 rfl)
theorem Tx.i_MOST_LIFE (T : Tx w K mg) : ∃ t, mg "MOST_LIFE" = some (.int (1000) t) := by
 obtain ⟨h, X, G, c⟩ := T.ex
 exact He.int_ok X G (c.t.d.fact 65 rfl)
theorem Tx.i_MOST_DEEDS (T : Tx w K mg) : ∃ t, mg "MOST_DEEDS" = some (.int (4) t) := by
 obtain ⟨h, X, G, c⟩ := T.ex
 exact He.int_ok X G (c.t.d.fact 66 rfl)
theorem Tx.i_FIGURES (T : Tx w K mg) : ∃ t, mg "FIGURES" = some (.str "0123456789" t) := by
 obtain ⟨h, X, G, c⟩ := T.ex
 exact He.str_ok X G (c.t.d.fact 67 rfl)
theorem Tx.i_MOST_FIGURES (T : Tx w K mg) : ∃ t, mg "MOST_FIGURES" = some (.int (4) t) := by
 obtain ⟨h, X, G, c⟩ := T.ex
 exact He.int_ok X G (c.t.d.fact 68 rfl)
theorem Tx.i_NONE (T : Tx w K mg) : ∃ t, mg "NONE" = some (.str "-" t) := by
 obtain ⟨h, X, G, c⟩ := T.ex
 exact He.str_ok X G (c.t.d.fact 69 rfl)
theorem Tx.g_KINDS (T : Tx w K mg) : mg "KINDS" = some (.ref (He.ga K "KINDS")) := by
 obtain ⟨h, X, G, c⟩ := T.ex
 exact He.glo_ok X G (c.t.d.fact 70 rfl)
theorem Tx.xm_BadDeal_StillError (T : Tx w K mg) : PySem.W.exmOne K (.ref (He.ga K "BadDeal")) (.ref (He.ga K "StillError")) = some true := He.exm_ok (T.fact 75 rfl)
theorem Tx.x_BadHand (T : Tx w K mg) : PySem.W.excIn K (He.ga K "BadHand") He.veBase "ValueError.__new__" = true := (He.exc_ok (T.fact 76 rfl)).1
theorem Tx.xb_BadHand (T : Tx w K mg) : PySem.W.subIn K (.ref (He.ga K "BadHand")) (.type "BaseException") = some true := (He.exc_ok (T.fact 76 rfl)).2.2.1
theorem Tx.xt_BadHand (T : Tx w K mg) : PySem.W.typeIn K (.ref (He.ga K "BadHand")) = some (.type "type") := (He.exc_ok (T.fact 76 rfl)).2.2.2
theorem Tx.k_BadHand (T : Tx w K mg) : PySem.W.keepIn K (.ref (He.ga K "BadHand")) = true := He.keep_ok (T.fact 77 rfl)
theorem Tx.xm_BadHand_StillError (T : Tx w K mg) : PySem.W.exmOne K (.ref (He.ga K "BadHand")) (.ref (He.ga K "StillError")) = some true := He.exm_ok (T.fact 78 rfl)
theorem Tx.xm_BadLetter_StillError (T : Tx w K mg) : PySem.W.exmOne K (.ref (He.ga K "BadLetter")) (.ref (He.ga K "StillError")) = some true := He.exm_ok (T.fact 81 rfl)
theorem Tx.xm_BadTime_StillError (T : Tx w K mg) : PySem.W.exmOne K (.ref (He.ga K "BadTime")) (.ref (He.ga K "StillError")) = some true := He.exm_ok (T.fact 84 rfl)
theorem Tx.xm_BadKey_StillError (T : Tx w K mg) : PySem.W.exmOne K (.ref (He.ga K "BadKey")) (.ref (He.ga K "StillError")) = some true := He.exm_ok (T.fact 87 rfl)
theorem Tx.xm_BadHouse_StillError (T : Tx w K mg) : PySem.W.exmOne K (.ref (He.ga K "BadHouse")) (.ref (He.ga K "StillError")) = some true := He.exm_ok (T.fact 90 rfl)
theorem Tx.xm_NoCopy_StillError (T : Tx w K mg) : PySem.W.exmOne K (.ref (He.ga K "NoCopy")) (.ref (He.ga K "StillError")) = some true := He.exm_ok (T.fact 93 rfl)
theorem Tx.xm_Behind_StillError (T : Tx w K mg) : PySem.W.exmOne K (.ref (He.ga K "Behind")) (.ref (He.ga K "StillError")) = some true := He.exm_ok (T.fact 95 rfl)
theorem Tx.xm_BadBlock_StillError (T : Tx w K mg) : PySem.W.exmOne K (.ref (He.ga K "BadBlock")) (.ref (He.ga K "StillError")) = some true := He.exm_ok (T.fact 98 rfl)
theorem Tx.xm_BadEntry_StillError (T : Tx w K mg) : PySem.W.exmOne K (.ref (He.ga K "BadEntry")) (.ref (He.ga K "StillError")) = some true := He.exm_ok (T.fact 101 rfl)
theorem Tx.xm_BadText_StillError (T : Tx w K mg) : PySem.W.exmOne K (.ref (He.ga K "BadText")) (.ref (He.ga K "StillError")) = some true := He.exm_ok (T.fact 103 rfl)
theorem Tx.xm_Stopped_StillError (T : Tx w K mg) : PySem.W.exmOne K (.ref (He.ga K "Stopped")) (.ref (He.ga K "StillError")) = some true := He.exm_ok (T.fact 106 rfl)
end
abbrev N_BadDeal_init : List Str := ["self", "place"]
local macro_rules | `(tactic| walk_at "zk") => `(tactic| exact ⟨rfl, rfl, rfl, by decide +kernel, rfl, by decide +kernel, by decide +kernel⟩)
theorem sc_BadDeal_init : FnScope N_BadDeal_init ["self", "place"] (defScope s_BadDeal_init) := by walk_at "zk"
abbrev N_Behind_init : List Str := ["self", "number"]
abbrev N_BadText_init : List Str := ["self", "row"]
theorem sc_BadText_init : FnScope N_BadText_init ["self", "row"] (defScope s_BadText_init) := by walk_at "zk"
abbrev N_is_from : List Str := ["number", "least", "most"]
theorem sc_is_from : FnScope N_is_from ["number", "least", "most"] (defScope s_is_from) := by walk_at "zk"
abbrev N_is_put : List Str := ["deed"]
theorem sc_is_put : FnScope N_is_put ["deed"] (defScope s_is_put) := by walk_at "zk"
abbrev N_is_if : List Str := ["deed"]
theorem sc_is_if : FnScope N_is_if ["deed"] (defScope s_is_if) := by walk_at "zk"
abbrev N_is_deed : List Str := ["deed"]
theorem sc_is_deed : FnScope N_is_deed ["deed"] (defScope s_is_deed) := by walk_at "zk"
abbrev N_need_deal : List Str := ["deeds", "place", "deed"]
theorem sc_need_deal : FnScope N_need_deal ["deeds"] (defScope s_need_deal) := by walk_at "zk"
abbrev N_need_hand : List Str := ["hand"]
theorem sc_need_hand : FnScope N_need_hand ["hand"] (defScope s_need_hand) := by walk_at "zk"
abbrev N_number_of : List Str := ["word", "sign"]
theorem sc_number_of : FnScope N_number_of ["word"] (defScope s_number_of) := by walk_at "zk"
abbrev N_part_of : List Str := ["word", "kind", "turned", "number"]
theorem sc_part_of : FnScope N_part_of ["word", "kind"] (defScope s_part_of) := by walk_at "zk"
abbrev N_deed_of : List Str := ["text", "words", "kinds", "parts", "k", "part"]
theorem sc_deed_of : FnScope N_deed_of ["text"] (defScope s_deed_of) := by walk_at "zk"
abbrev N_deal_of : List Str := ["row", "parts", "heads", "numbers", "head", "deeds", "text"]
theorem sc_deal_of : FnScope N_deal_of ["row"] (defScope s_deal_of) := by walk_at "zk"
abbrev N_read_deals : List Str := ["text", "found", "row", "part", "deal", "hand", "letter", "deeds"]
theorem sc_read_deals : FnScope N_read_deals ["text"] (defScope s_read_deals) := by walk_at "zk"
abbrev N_begun_ : List Str := ["_law_script", "_law_stirred", "_law_cell"]
theorem sc_begun_ : FnScope N_begun_ ["_law_script"] (defScope s_begun_) := by walk_at "zk"
abbrev N_take_ : List Str := ["_law_box", "_law_many", "_law_number_here"]
theorem sc_take_ : FnScope N_take_ ["_law_box", "_law_many"] (defScope s_take_) := by walk_at "zk"
abbrev N_alike_ : List Str := ["_law_found", "_law_due_here", "_law_k"]
theorem sc_alike_ : FnScope N_alike_ ["_law_found", "_law_due_here"] (defScope s_alike_) := by walk_at "zk"
abbrev N_class_ : List Str := ["_law_e", "_law_kinds", "_law_words"]
theorem sc_class_ : FnScope N_class_ ["_law_e"] (defScope s_class_) := by walk_at "zk"
abbrev N_refused_ : List Str := ["_law_work", "_law_e", "_law_word"]
theorem sc_refused_ : FnScope N_refused_ ["_law_work"] (defScope s_refused_) := by walk_at "zk"
abbrev N_all_ : List Str := ["_law_works", "_law_due_here", "_law_work"]
abbrev N_store_ : List Str := []
theorem sc_store_ : FnScope N_store_ [] (defScope s_store_) := by walk_at "zk"
abbrev N_again_ : List Str := ["_law_store_here", "_law_found"]
abbrev N_seen_ : List Str := ["_law_store_here", "_law_key", "_law_row_here"]
theorem sc_seen_ : FnScope N_seen_ ["_law_store_here", "_law_key"] (defScope s_seen_) := by walk_at "zk"
abbrev N_tried_ : List Str := ["_law_store_here", "_law_deal_here", "_law_trial", "_law_deed_here", "_law_key", "_law_worth"]
abbrev N_deal_ : List Str := ["_law_store_here", "_law_hand", "_law_letter", "_law_deal_here", "_law_rows"]
abbrev N_whole_ : List Str := ["_law_store_here", "_law_rows", "_law_key", "_law_hand"]
abbrev N_deed_ : List Str := ["_law_box", "_law_store_here", "_law_key", "_law_worth", "_law_way", "_law_life"]
theorem sc_deed_ : FnScope N_deed_ ["_law_box", "_law_store_here"] (defScope s_deed_) := by walk_at "zk"
abbrev N_drawn_ : List Str := ["_law_box", "_law_store_here", "_law_turn"]
theorem sc_drawn_ : FnScope N_drawn_ ["_law_box", "_law_store_here"] (defScope s_drawn_) := by walk_at "zk"
abbrev N_deals_ : List Str := ["_law_box", "_law_found", "_law_turn", "_law_letter"]
theorem sc_deals_ : FnScope N_deals_ ["_law_box"] (defScope s_deals_) := by walk_at "zk"
abbrev N_text_ : List Str := ["_law_deals_here", "_law_rows", "_law_hand", "_law_letter", "_law_deal_here", "_law_deeds", "_law_part_here", "_law_deed_here"]
theorem sc_text_ : FnScope N_text_ ["_law_deals_here"] (defScope s_text_) := by walk_at "zk"
abbrev N_spoilt_ : List Str := ["_law_box", "_law_text_here", "_law_deed_here", "_law_place", "_law_rows", "_law_k", "_law_words", "_law_odd", "_law_more", "_law_signs", "_law_sign"]
theorem sc_spoilt_ : FnScope N_spoilt_ ["_law_box", "_law_text_here"] (defScope s_spoilt_) := by walk_at "zk"
abbrev N_wrong_ : List Str := ["_law_box", "_law_text_here", "_law_rows", "_law_some", "_law_turn", "_law_k"]
theorem sc_wrong_ : FnScope N_wrong_ ["_law_box", "_law_text_here"] (defScope s_wrong_) := by walk_at "zk"
abbrev N_number_ : List Str := ["_law_word", "_law_sign"]
theorem sc_number_ : FnScope N_number_ ["_law_word"] (defScope s_number_) := by walk_at "zk"
abbrev N_part_ : List Str := ["_law_word", "_law_kind", "_law_number_here"]
theorem sc_part_ : FnScope N_part_ ["_law_word", "_law_kind"] (defScope s_part_) := by walk_at "zk"
abbrev N_row_ : List Str := ["_law_row_here", "_law_halves", "_law_heads", "_law_head", "_law_kinds", "_law_deeds", "_law_part_here", "_law_words", "_law_parts", "_law_k", "_law_one"]
theorem sc_row_ : FnScope N_row_ ["_law_row_here"] (defScope s_row_) := by walk_at "zk"
abbrev N_fault_ : List Str := ["_law_deal_here", "_law_place", "_law_deed_here", "_law_most", "_law_far", "_law_k"]
theorem sc_fault_ : FnScope N_fault_ ["_law_deal_here"] (defScope s_fault_) := by walk_at "zk"
abbrev N_due_ : List Str := ["_law_text_here", "_law_deals_here", "_law_row_here", "_law_faults", "_law_deal_here"]
theorem sc_due_ : FnScope N_due_ ["_law_text_here"] (defScope s_due_) := by walk_at "zk"
abbrev N_told_ : List Str := ["_law_text_here", "_law_refusal"]
theorem sc_told_ : FnScope N_told_ ["_law_text_here"] (defScope s_told_) := by walk_at "zk"
abbrev N_law : List Str := ["_law_script", "_law_box", "_law_odd", "_law_turn", "_law_text_here", "_law_deed_here", "_law_due_here"]
theorem sc_law : FnScope N_law ["_law_script"] (defScope s_law) := by walk_at "zk"
end W
end
section
namespace Cm
open PySem PySem.Spec PyProof.Rows L2
def fragL (g : Addr → Option Obj) (n : List Addr) : PySem.W.Frag := He.frT g n
def obsL (n : List Addr) (fa : List He.Fa) (fn : List He.DefD) (ts : List He.Tab) (tf : List He.Defn) (ex : PySem.W.Frag → Bool) (g : Addr → Option Obj) : He.AlX := (He.obsT fa fn ts (fragL g n), ex (fragL g n) && He.tabsB g tf (fragL g n))
theorem saysL {n : List Addr} {fa : List He.Fa} {fn : List He.DefD} {ts : List He.Tab} {tf : List He.Defn} {ex : PySem.W.Frag → Bool} {w : World} {h : Heap} (e : obsL n fa fn ts tf ex h.get? = He.valX fn ts w) : He.SaysX fa fn ts tf ex w h (fragL h.get? n) := by
 have e1 : He.obsT fa fn ts (fragL h.get? n) = He.valT fn ts w := congrArg Prod.fst e
 obtain ⟨h1, h2⟩ := Bool.and_eq_true_iff.mp (show (ex (fragL h.get? n) && He.tabsB h.get? tf (fragL h.get? n)) = true from congrArg Prod.snd e)
 have key : ∀ p ∈ tf, PySem.W.codeHdIn (fragL h.get? n) (He.cT (fragL h.get? n) p).1 (He.cT (fragL h.get? n) p).2 = true ∧ ∃ o, h.get? (He.cT (fragL h.get? n) p).2 = some o ∧ He.emptyTab o = true := by
  intro p hp
  obtain ⟨h3, h4⟩ := Bool.and_eq_true_iff.mp (List.all_eq_true.mp h2 p hp)
  refine ⟨h3, ?_⟩
  split at h4
  ·rename_i o q
   exact ⟨o, q, h4⟩
  ·cases h4
 refine ⟨e1, h1, fun p hp => (key p hp).1, fun p hp => ?_, fun p hp => ?_⟩
 ·obtain ⟨_, o, q, z⟩ := key p hp
  exact He.frT_none q z
 ·obtain ⟨_, o, q, z⟩ := key p hp
  rw [q, He.emptyTab_eq z]
def hookL (n : List Addr) (fa : List He.Fa) (fn : List He.DefD) (ts : List He.Tab) (tf : List He.Defn) (ex : PySem.W.Frag → Bool) : PySem.W.Hook where
 α := He.AlX
 obs := fun s => obsL n fa fn ts tf ex s.heap.get?
 val := fun w => He.valX fn ts w
 says := fun w h => ∃ K : PySem.W.Frag, K.In h ∧ He.SaysX fa fn ts tf ex w h K
 of := fun _ _ e => ⟨_, He.frT_in, saysL e⟩
 keeps := fun _ _ _ ⟨K, hK, c⟩ k => ⟨K, PySem.W.Frag.In.keeps hK k, ⟨c.t, c.more, c.hd, c.out, fun p hp => k _ _ (c.empty p hp)⟩⟩
theorem obsL_eq {n : List Addr} {fa : List He.Fa} {fn : List He.DefD} {ts : List He.Tab} {tf : List He.Defn} {ex : PySem.W.Frag → Bool} {g : Addr → Option Obj} {s : Shared} (h : ∀ a, g a = s.heap.get? a) : obsL n fa fn ts tf ex g = (hookL n fa fn ts tf ex).obs s := by
 rw [show g = s.heap.get? from funext h]; rfl
end Cm
end
section
namespace W
open PySem PySem.Spec PyProof.Rows L2 Cm
def loose0 : List Str := ["StillError", "BadDeal", "BadHand", "BadLetter", "BadTime", "BadKey", "BadHouse", "NoCopy", "Behind", "BadBlock", "BadEntry", "BadText", "Stopped", "KEYS", "HANDS", "MOST_WORTH", "MOST_LIFE", "MOST_DEEDS", "is_from", "is_put", "is_if", "is_deed", "need_deal", "need_hand", "FIGURES"]
def loose1 : List Str := ["MOST_FIGURES", "NONE", "KINDS", "number_of", "part_of", "deed_of", "deal_of", "read_deals", "_law_begun", "_law_take", "_law_alike", "_law_class", "_law_refused", "_law_all", "_law_store", "_law_again", "_law_seen", "_law_tried", "_law_deal", "_law_whole", "_law_deed", "_law_drawn", "_law_deals", "_law_text", "_law_spoilt"]
def loose2 : List Str := ["_law_wrong", "_law_number", "_law_part", "_law_row", "_law_fault", "_law_due", "_law_told"]
def loose : List Str := loose0 ++ (loose1 ++ (loose2))
abbrev R : PySem.W.OpenRow := PySem.W.OpenLaw.row PySem.Challenge.rw_stillcopy_k19_texts_refused
def adr0 : List Addr := [2, 3, 23, 24, 43, 44, 55, 56, 67, 68, 79, 80, 91, 92, 103, 104, 115, 116, 134, 135, 146, 147, 158, 159, 177, 178, 189, 190, 235, 41, 132, 175, 199, 206, 213, 220, 227, 234, 240, 247]
def adr1 : List Addr := [252, 257, 264, 271, 278, 285, 292, 299, 304, 311, 318, 325, 332, 339, 344, 351, 356, 363, 368, 375, 382, 387, 394, 399, 404, 409, 416, 423, 40, 131, 174, 198, 205, 212, 219, 226, 233, 239, 246, 251]
def adr2 : List Addr := [256, 263, 270, 277, 284, 291, 298, 303, 310, 317, 324, 331, 338, 343, 350, 355, 362, 367, 374, 381, 386, 393, 398, 403, 408, 415, 422]
def adr : List Addr := adr0 ++ (adr1 ++ (adr2))
abbrev hk : PySem.W.Hook := Cm.hookL adr fa fn ts tf exf
def ob (s : PySem.W.SharedT) : He.AlX := Cm.obsL adr fa fn ts tf exf (HandSHeadRun.getT s)
theorem ob_eq (s : PySem.W.SharedT) : ob s = hk.obs s.abs := Cm.obsL_eq (HandSHeadRun.getT_eq s)
def setFt (w : World) (row : String) (b : Bool) : World := { w with params := { w.params with followText := fun r => match r == row with | true => b | false => w.params.followText r } }
theorem setFt_eq {w : World} {row : String} {b : Bool} (h : w.params.followText row = b) : setFt w row b = w := by
 obtain ⟨d, p⟩ := w
 have e : (fun r => match r == row with | true => b | false => p.followText r) = p.followText := by
  funext r
  cases q : r == row with
  | false => rfl
  | true => rw [beq_iff_eq.mp q]; exact h.symm
 show (World.mk d { p with followText := fun r => match r == row with | true => b | false => p.followText r }) = _
 rw [e]
theorem runT (w : World) : HandSHeadRun.RunEq R (PySem.W.view R.prog [61]) hk ob 10000 loose (setFt w "special-get-raises" true) := by
 intro os
 kernel_rfl
theorem runF (w : World) : HandSHeadRun.RunEq R (PySem.W.view R.prog [61]) hk ob 10000 loose (setFt w "special-get-raises" false) := by
 intro os
 kernel_rfl
theorem run (w : World) : HandSHeadRun.RunEq R (PySem.W.view R.prog [61]) hk ob 10000 loose w := by
 cases h : w.params.followText "special-get-raises" with
 | true => exact setFt_eq h ▸ runT w
 | false => exact setFt_eq h ▸ runF w
end W
end
section
namespace Cm
open PySem PySem.Spec PyProof.Rows L2
mutual
def Dt (H : Hp) (v : V) : PyData → Prop
 | .none => v = .non
 | .bool b => v = .bl b
 | .int i => v = .int i
 | .str s => v = .str s
 | .tuple ds => ∃ a xs, v = .ref a ∧ H a = some (.tup xs) ∧ DtA H xs ds
 | .list ds => ∃ a xs, v = .ref a ∧ H a = some (.lst xs) ∧ DtA H xs ds
 | .dict _ => False
def DtA (H : Hp) (xs : List V) : List PyData → Prop
 | [] => xs = []
 | d :: ds => ∃ v vs, xs = v :: vs ∧ Dt H v d ∧ DtA H vs ds
end
def Di : Nat → PyData → Prop
 | _, .none => True
 | _, .bool _ => True
 | _, .int _ => True
 | _, .str _ => True
 | n + 1, .tuple ds => ds.length ≤ 100000 ∧ ∀ d ∈ ds, Di n d
 | _, _ => False
def Dn : Nat → PyData → Prop
 | _, .none => True
 | _, .bool _ => True
 | _, .int _ => True
 | _, .str _ => True
 | n + 1, .tuple ds => ds.length ≤ 100000 ∧ ∀ d ∈ ds, Dn n d
 | n + 1, .list ds => ds.length ≤ 100000 ∧ ∀ d ∈ ds, Dn n d
 | _, _ => False
theorem Di.up : ∀ {n m : Nat} {d : PyData}, Di n d → n ≤ m → Di m d
 | n, m, .none, _, _ => by cases m <;> trivial
 | n, m, .bool _, _, _ => by cases m <;> trivial
 | n, m, .int _, _, _ => by cases m <;> trivial
 | n, m, .str _, _, _ => by cases m <;> trivial
 | 0, _, .tuple _, h, _ => by cases h
 | n + 1, 0, .tuple _, _, h => absurd h (by omega)
 | n + 1, m + 1, .tuple ds, h, hm => ⟨h.1, fun d hd => Di.up (n := n) (h.2 d hd) (by omega)⟩
 | 0, _, .list _, h, _ => by cases h
 | n + 1, _, .list _, h, _ => by cases h
 | 0, _, .dict _, h, _ => by cases h
 | n + 1, _, .dict _, h, _ => by cases h
theorem Di.dn : ∀ {n : Nat} {d : PyData}, Di n d → Dn n d
 | n, .none, _ => by cases n <;> trivial
 | n, .bool _, _ => by cases n <;> trivial
 | n, .int _, _ => by cases n <;> trivial
 | n, .str _, _ => by cases n <;> trivial
 | 0, .tuple _, h => by cases h
 | n + 1, .tuple ds, h => ⟨h.1, fun d hd => Di.dn (n := n) (h.2 d hd)⟩
 | 0, .list _, h => by cases h
 | n + 1, .list _, h => by cases h
 | 0, .dict _, h => by cases h
 | n + 1, .dict _, h => by cases h
theorem Di.none {n : Nat} : Di n .none := by cases n <;> trivial
theorem Di.bool {n : Nat} {b : Bool} : Di n (.bool b) := by cases n <;> trivial
theorem Di.int {n : Nat} {b : Int} : Di n (.int b) := by cases n <;> trivial
theorem Di.str {n : Nat} {b : Str} : Di n (.str b) := by cases n <;> trivial
theorem Dn.none {n : Nat} : Dn n .none := by cases n <;> trivial
theorem Dn.bool {n : Nat} {b : Bool} : Dn n (.bool b) := by cases n <;> trivial
theorem Dn.int {n : Nat} {b : Int} : Dn n (.int b) := by cases n <;> trivial
theorem Dn.str {n : Nat} {b : Str} : Dn n (.str b) := by cases n <;> trivial
section
variable {T : List (Addr × Str)} {S : Addr → Prop} {H H' : Hp} {v : V} {xs ys : List V} {ds es : List PyData}
theorem DtA.length : ∀ {xs : List V} {ds : List PyData}, DtA H xs ds → xs.length = ds.length
 | _, [], h => by have e : _ = [] := h; subst e; rfl
 | _, _ :: ds, h => by
  obtain ⟨v, vs, rfl, _, h⟩ := h
  simp [DtA.length h]
theorem DtA.mono (f : ∀ d ∈ ds, ∀ v, Dt H v d → Dt H' v d) : DtA H xs ds → DtA H' xs ds := by
 induction ds generalizing xs with
 | nil => exact fun h => h
 | cons d ds ih =>
  rintro ⟨v, vs, rfl, h1, h2⟩
  exact ⟨v, vs, rfl, f d List.mem_cons_self v h1, ih (fun d hd => f d (List.mem_cons_of_mem _ hd)) h2⟩
theorem Dt.keep (k : Kp T S H H') : ∀ {n : Nat} {d : PyData} {v : V}, Di n d → Dt H v d → Dt H' v d
 | _, .none, _, _, h => h
 | _, .bool _, _, _, h => h
 | _, .int _, _, _, h => h
 | _, .str _, _, _, h => h
 | 0, .tuple _, _, h, _ => by cases h
 | n + 1, .tuple ds, v, hd, h => by
  obtain ⟨a, xs, rfl, e, hA⟩ := h
  exact ⟨a, xs, rfl, k.tup e, hA.mono fun d hm v hv => Dt.keep k (n := n) (hd.2 d hm) hv⟩
 | 0, .list _, _, h, _ => by cases h
 | n + 1, .list _, _, h, _ => by cases h
 | 0, .dict _, _, h, _ => by cases h
 | n + 1, .dict _, _, h, _ => by cases h
theorem DtA.keep {n : Nat} (k : Kp T S H H') (hd : ∀ d ∈ ds, Di n d) (h : DtA H xs ds) : DtA H' xs ds := h.mono fun d hm v hv => Dt.keep k (hd d hm) hv
theorem Dt.same (k : Kp T No H H') : ∀ {n : Nat} {d : PyData} {v : V}, Dn n d → Dt H v d → Dt H' v d
 | _, .none, _, _, h => h
 | _, .bool _, _, _, h => h
 | _, .int _, _, _, h => h
 | _, .str _, _, _, h => h
 | 0, .tuple _, _, h, _ => by cases h
 | n + 1, .tuple ds, v, hd, h => by
  obtain ⟨a, xs, rfl, e, hA⟩ := h
  exact ⟨a, xs, rfl, k.tup e, hA.mono fun d hm v hv => Dt.same k (n := n) (hd.2 d hm) hv⟩
 | 0, .list _, _, h, _ => by cases h
 | n + 1, .list ds, _, hd, h => by
  obtain ⟨a, xs, rfl, e, hA⟩ := h
  exact ⟨a, xs, rfl, k.lst e (fun z => z), hA.mono fun d hm v hv => Dt.same k (n := n) (hd.2 d hm) hv⟩
 | 0, .dict _, _, h, _ => by cases h
 | n + 1, .dict _, _, h, _ => by cases h
theorem DtA.get (h : DtA H xs ds) {i : Nat} {x : V} (e : xs[i]? = some x) : ∃ d, ds[i]? = some d ∧ Dt H x d := by
 induction ds generalizing xs i with
 | nil => have q : _ = [] := h; subst q; simp at e
 | cons d ds ih =>
  obtain ⟨v, vs, rfl, h1, h2⟩ := h
  cases i with
  | zero => simp at e; subst e; exact ⟨d, rfl, h1⟩
  | succ i => exact ih h2 (by simpa using e)
theorem DtA.at (h : DtA H xs ds) {i : Nat} {d : PyData} (e : ds[i]? = some d) : ∃ x, xs[i]? = some x ∧ Dt H x d := by
 induction ds generalizing xs i with
 | nil => simp at e
 | cons c ds ih =>
  obtain ⟨v, vs, rfl, h1, h2⟩ := h
  cases i with
  | zero => simp at e; subst e; exact ⟨v, rfl, h1⟩
  | succ i =>
   obtain ⟨x, h3, h4⟩ := ih h2 (i := i) (by simpa using e)
   exact ⟨x, by simpa using h3, h4⟩
theorem DtA.nil : DtA H [] [] := rfl
theorem DtA.cons {d : PyData} (h : Dt H v d) (t : DtA H xs ds) : DtA H (v :: xs) (d :: ds) := ⟨v, xs, rfl, h, t⟩
theorem DtA.append : ∀ {ds : List PyData} {xs : List V}, DtA H xs ds → DtA H ys es → DtA H (xs ++ ys) (ds ++ es)
 | [], _, h, t => by have q : _ = [] := h; subst q; exact t
 | d :: ds, _, h, t => by
  obtain ⟨v, vs, rfl, h1, h2⟩ := h
  exact ⟨v, vs ++ ys, rfl, h1, h2.append t⟩
theorem DtA.set : ∀ {ds : List PyData} {xs : List V} {i : Nat} {d : PyData}, DtA H xs ds → Dt H v d → DtA H (xs.set i v) (ds.set i d)
 | [], _, i, d, h, t => by have q : _ = [] := h; subst q; exact rfl
 | e :: ds, _, 0, d, h, t => by
  obtain ⟨v', vs, rfl, h1, h2⟩ := h
  exact ⟨v, vs, rfl, t, h2⟩
 | e :: ds, _, i + 1, d, h, t => by
  obtain ⟨v', vs, rfl, h1, h2⟩ := h
  exact ⟨v', vs.set i v, rfl, h1, h2.set t⟩
theorem DtA.take : ∀ {ds : List PyData} {xs : List V} {i : Nat}, DtA H xs ds → DtA H (xs.take i) (ds.take i)
 | [], _, i, h => by have q : _ = [] := h; subst q; simp; exact rfl
 | e :: ds, _, 0, h => by simp; exact rfl
 | e :: ds, _, i + 1, h => by
  obtain ⟨v', vs, rfl, h1, h2⟩ := h
  exact ⟨v', vs.take i, rfl, h1, h2.take⟩
theorem DtA.drop : ∀ {ds : List PyData} {xs : List V} {i : Nat}, DtA H xs ds → DtA H (xs.drop i) (ds.drop i)
 | [], _, i, h => by have q : _ = [] := h; subst q; simp; exact rfl
 | e :: ds, _, 0, h => h
 | e :: ds, _, i + 1, h => by
  obtain ⟨v', vs, rfl, h1, h2⟩ := h
  exact h2.drop (i := i)
def isT : PyData → String → Bool
 | .none, _ => false
 | .bool _, t => t == "bool" || t == "int"
 | .int _, t => t == "int"
 | .str _, t => t == "str"
 | .tuple _, t => t == "tuple"
 | .list _, t => t == "list"
 | .dict _, t => t == "dict"
theorem r_isi {K : PySem.W.Frag} {Q : VK} {d : PyData} {t : String} (h : Dt H v d) (ht : t = "bool" ∨ t = "int" ∨ t = "str" ∨ t = "tuple" ∨ t = "list") (q : Q (.bl (isT d t)) H) : rIsi K [v, .ty t] H Q := by
 have go : ∀ {s : String} {r : Bool}, TyX K H v (.type s) → kitB s t = some r → isT d t = r → rIsi K [v, .ty t] H Q := fun {s r} ty e1 e2 =>
  ⟨v, .ty t, .type s, .type t, r, rfl, .ty t, ty, kit_ty e1, by rw [← e2]; exact q⟩
 cases d with
 | none =>
  have e : v = .non := h
  subst e
  rcases ht with rfl | rfl | rfl | rfl | rfl <;> first | exact go (r := true) (.base .non) (by decide +kernel) rfl | exact go (r := false) (.base .non) (by decide +kernel) rfl
 | bool b =>
  have e : v = .bl b := h
  subst e
  rcases ht with rfl | rfl | rfl | rfl | rfl <;> first | exact go (r := true) (.base (.bl b)) (by decide +kernel) rfl | exact go (r := false) (.base (.bl b)) (by decide +kernel) rfl
 | int b =>
  have e : v = .int b := h
  subst e
  rcases ht with rfl | rfl | rfl | rfl | rfl <;> first | exact go (r := true) (.base (.int b)) (by decide +kernel) rfl | exact go (r := false) (.base (.int b)) (by decide +kernel) rfl
 | str b =>
  have e : v = .str b := h
  subst e
  rcases ht with rfl | rfl | rfl | rfl | rfl <;> first | exact go (r := true) (.base (.str b)) (by decide +kernel) rfl | exact go (r := false) (.base (.str b)) (by decide +kernel) rfl
 | tuple ds =>
  obtain ⟨a, xs, rfl, e, _⟩ := h
  rcases ht with rfl | rfl | rfl | rfl | rfl <;> first | exact go (r := true) (.base (.tup e)) (by decide +kernel) rfl | exact go (r := false) (.base (.tup e)) (by decide +kernel) rfl
 | list ds =>
  obtain ⟨a, xs, rfl, e, _⟩ := h
  rcases ht with rfl | rfl | rfl | rfl | rfl <;> first | exact go (r := true) (.base (.lst e)) (by decide +kernel) rfl | exact go (r := false) (.base (.lst e)) (by decide +kernel) rfl
 | dict ds => exact h.elim
end
end Cm
namespace Cm
open PySem PySem.Spec PyProof.Rows L2
section
variable {K : PySem.W.Frag} {H : Hp} {Q : VK} {a : Addr} {xs : List V}
theorem isi_non_bool  (q : Q (.bl false) H) : rIsi K [.non, .ty "bool"] H Q := r_isi (d := .none) rfl (.inl rfl) q
theorem isi_non_int  (q : Q (.bl false) H) : rIsi K [.non, .ty "int"] H Q := r_isi (d := .none) rfl (.inr (.inl rfl)) q
theorem isi_non_str  (q : Q (.bl false) H) : rIsi K [.non, .ty "str"] H Q := r_isi (d := .none) rfl (.inr (.inr (.inl rfl))) q
theorem isi_non_tuple  (q : Q (.bl false) H) : rIsi K [.non, .ty "tuple"] H Q := r_isi (d := .none) rfl (.inr (.inr (.inr (.inl rfl)))) q
theorem isi_non_list  (q : Q (.bl false) H) : rIsi K [.non, .ty "list"] H Q := r_isi (d := .none) rfl (.inr (.inr (.inr (.inr rfl)))) q
theorem isi_bl_bool {b : Bool} (q : Q (.bl true) H) : rIsi K [(.bl b), .ty "bool"] H Q := r_isi (d := (.bool b)) rfl (.inl rfl) q
theorem isi_bl_int {b : Bool} (q : Q (.bl true) H) : rIsi K [(.bl b), .ty "int"] H Q := r_isi (d := (.bool b)) rfl (.inr (.inl rfl)) q
theorem isi_bl_str {b : Bool} (q : Q (.bl false) H) : rIsi K [(.bl b), .ty "str"] H Q := r_isi (d := (.bool b)) rfl (.inr (.inr (.inl rfl))) q
theorem isi_bl_tuple {b : Bool} (q : Q (.bl false) H) : rIsi K [(.bl b), .ty "tuple"] H Q := r_isi (d := (.bool b)) rfl (.inr (.inr (.inr (.inl rfl)))) q
theorem isi_bl_list {b : Bool} (q : Q (.bl false) H) : rIsi K [(.bl b), .ty "list"] H Q := r_isi (d := (.bool b)) rfl (.inr (.inr (.inr (.inr rfl)))) q
theorem isi_int_bool {i : Int} (q : Q (.bl false) H) : rIsi K [(.int i), .ty "bool"] H Q := r_isi (d := (.int i)) rfl (.inl rfl) q
theorem isi_int_int {i : Int} (q : Q (.bl true) H) : rIsi K [(.int i), .ty "int"] H Q := r_isi (d := (.int i)) rfl (.inr (.inl rfl)) q
theorem isi_int_str {i : Int} (q : Q (.bl false) H) : rIsi K [(.int i), .ty "str"] H Q := r_isi (d := (.int i)) rfl (.inr (.inr (.inl rfl))) q
theorem isi_int_tuple {i : Int} (q : Q (.bl false) H) : rIsi K [(.int i), .ty "tuple"] H Q := r_isi (d := (.int i)) rfl (.inr (.inr (.inr (.inl rfl)))) q
theorem isi_int_list {i : Int} (q : Q (.bl false) H) : rIsi K [(.int i), .ty "list"] H Q := r_isi (d := (.int i)) rfl (.inr (.inr (.inr (.inr rfl)))) q
theorem isi_str_bool {s : Str} (q : Q (.bl false) H) : rIsi K [(.str s), .ty "bool"] H Q := r_isi (d := (.str s)) rfl (.inl rfl) q
theorem isi_str_int {s : Str} (q : Q (.bl false) H) : rIsi K [(.str s), .ty "int"] H Q := r_isi (d := (.str s)) rfl (.inr (.inl rfl)) q
theorem isi_str_str {s : Str} (q : Q (.bl true) H) : rIsi K [(.str s), .ty "str"] H Q := r_isi (d := (.str s)) rfl (.inr (.inr (.inl rfl))) q
theorem isi_str_tuple {s : Str} (q : Q (.bl false) H) : rIsi K [(.str s), .ty "tuple"] H Q := r_isi (d := (.str s)) rfl (.inr (.inr (.inr (.inl rfl)))) q
theorem isi_str_list {s : Str} (q : Q (.bl false) H) : rIsi K [(.str s), .ty "list"] H Q := r_isi (d := (.str s)) rfl (.inr (.inr (.inr (.inr rfl)))) q
theorem isi_tup_bool (h : H a = some (.tup xs)) (q : Q (.bl false) H) : rIsi K [.ref a, .ty "bool"] H Q := ⟨.ref a, .ty "bool", .type "tuple", .type "bool", false, rfl, .ty "bool", .base (TyOf.tup h), kit_ty (by decide +kernel), q⟩
theorem isi_tup_int (h : H a = some (.tup xs)) (q : Q (.bl false) H) : rIsi K [.ref a, .ty "int"] H Q := ⟨.ref a, .ty "int", .type "tuple", .type "int", false, rfl, .ty "int", .base (TyOf.tup h), kit_ty (by decide +kernel), q⟩
theorem isi_tup_str (h : H a = some (.tup xs)) (q : Q (.bl false) H) : rIsi K [.ref a, .ty "str"] H Q := ⟨.ref a, .ty "str", .type "tuple", .type "str", false, rfl, .ty "str", .base (TyOf.tup h), kit_ty (by decide +kernel), q⟩
theorem isi_tup_tuple (h : H a = some (.tup xs)) (q : Q (.bl true) H) : rIsi K [.ref a, .ty "tuple"] H Q := ⟨.ref a, .ty "tuple", .type "tuple", .type "tuple", true, rfl, .ty "tuple", .base (TyOf.tup h), kit_ty (by decide +kernel), q⟩
theorem isi_tup_list (h : H a = some (.tup xs)) (q : Q (.bl false) H) : rIsi K [.ref a, .ty "list"] H Q := ⟨.ref a, .ty "list", .type "tuple", .type "list", false, rfl, .ty "list", .base (TyOf.tup h), kit_ty (by decide +kernel), q⟩
theorem isi_lst_bool (h : H a = some (.lst xs)) (q : Q (.bl false) H) : rIsi K [.ref a, .ty "bool"] H Q := ⟨.ref a, .ty "bool", .type "list", .type "bool", false, rfl, .ty "bool", .base (TyOf.lst h), kit_ty (by decide +kernel), q⟩
theorem isi_lst_int (h : H a = some (.lst xs)) (q : Q (.bl false) H) : rIsi K [.ref a, .ty "int"] H Q := ⟨.ref a, .ty "int", .type "list", .type "int", false, rfl, .ty "int", .base (TyOf.lst h), kit_ty (by decide +kernel), q⟩
theorem isi_lst_str (h : H a = some (.lst xs)) (q : Q (.bl false) H) : rIsi K [.ref a, .ty "str"] H Q := ⟨.ref a, .ty "str", .type "list", .type "str", false, rfl, .ty "str", .base (TyOf.lst h), kit_ty (by decide +kernel), q⟩
theorem isi_lst_tuple (h : H a = some (.lst xs)) (q : Q (.bl false) H) : rIsi K [.ref a, .ty "tuple"] H Q := ⟨.ref a, .ty "tuple", .type "list", .type "tuple", false, rfl, .ty "tuple", .base (TyOf.lst h), kit_ty (by decide +kernel), q⟩
theorem isi_lst_list (h : H a = some (.lst xs)) (q : Q (.bl true) H) : rIsi K [.ref a, .ty "list"] H Q := ⟨.ref a, .ty "list", .type "list", .type "list", true, rfl, .ty "list", .base (TyOf.lst h), kit_ty (by decide +kernel), q⟩
theorem ite_nt {A B : Prop} (q : B) : if (!true) = true then A else B := iteF q
theorem ite_nf {A B : Prop} (q : A) : if (!false) = true then A else B := iteT q
end
end Cm
end
section
namespace W
open PySem PySem.Spec PyProof.Rows L2 Cm
def tabs (K : PySem.W.Frag) : List (Addr × Str) := tf.map fun p => ((He.cT K p).2, p.1 ++ ".<locals>.<lambda>")
structure Stp (T : List (Addr × Str)) (F F' : Addr → Prop) (H H' : Hp) : Prop where
 kp : Kp T F H H'
 sub : ∀ a, F' a → F a ∨ Nw H a
theorem Stp.refl {T : List (Addr × Str)} {F : Addr → Prop} {H : Hp} : Stp T F F H H := ⟨Kp.refl, fun _ ha => .inl ha⟩
theorem Stp.trans {T : List (Addr × Str)} {F F' F'' : Addr → Prop} {H H' H'' : Hp} (a : Stp T F F' H H') (b : Stp T F' F'' H' H'') : Stp T F F'' H H'' :=
 ⟨a.kp.trans b.kp a.sub, fun x hx => (b.sub x hx).elim (fun z => a.sub x z) fun z => .inr (a.kp.dom x z)⟩
theorem Stp.pre {T : List (Addr × Str)} {F F' : Addr → Prop} {H H' H'' : Hp} (a : Kp T No H H') (b : Stp T F F' H' H'') : Stp T F F' H H'' :=
 ⟨(a.mono fun _ z => z.elim).trans b.kp fun _ z => .inl z, fun x hx => (b.sub x hx).elim .inl fun z => .inr (a.dom x z)⟩
def lv : Option Int → V
 | none => .non
 | some i => .int i
def oD : Option Int → PyData
 | none => .none
 | some i => .int i
theorem Di.oD {n : Nat} {o : Option Int} : Di n (oD o) := by cases o; exact Di.none; exact Di.int
section
variable {H : Hp} {v : V} {d1 d2 d3 d4 d5 d6 : PyData}
end
section
variable {K : PySem.W.Frag} {H : Hp} {Q : VK} {a b : Option Int}
theorem lv_eq : (lv a = lv b) ↔ a = b := by
 cases a <;> cases b <;> simp [lv]
theorem r_eq_lv (q : Q (.bl (decide (a = b))) H) : rEqA K (lv a) (lv b) H Q := by
 refine r_eqS (by cases a <;> cases b <;> rfl) ?_
 have e : decide (lv a = lv b) = decide (a = b) := by simp [lv_eq]
 rw [e]; exact q
theorem r_ne_lv (q : Q (.bl (!decide (a = b))) H) : rNeA K (lv a) (lv b) H Q := by
 refine r_neS (by cases a <;> cases b <;> rfl) ?_
 have e : decide (lv a = lv b) = decide (a = b) := by simp [lv_eq]
 rw [e]; exact q
theorem r_isNo_lv (q : Q (.bl (decide (a = none))) H) : rIsNo (lv a) .non H Q := by
 refine r_isNo ?_
 have e : decide (lv a = .non) = decide (a = none) := by cases a <;> simp [lv]
 rw [e]; exact q
theorem r_notNo_lv (q : Q (.bl (!decide (a = none))) H) : rNotNo (lv a) .non H Q := by
 refine r_notNo ?_
 have e : decide (lv a = .non) = decide (a = none) := by cases a <;> simp [lv]
 rw [e]; exact q
end
end W
end
section
namespace Cm
open PySem PySem.Spec PyProof.Rows L2
def rDictP (K : PySem.W.Frag) : List V → Hp → VK → Prop := fun xs H Q => ∃ (a : Addr) (ps : List Addr) (kvs : List (Key × V)), xs = [.ref a] ∧ SqL K H a (ps.map V.ref) ∧ Paired (fun p kv => SqT K H p [kV kv.1, kv.2]) ps kvs ∧ ∀ p, H p = none → Q (.ref p) (upd H p (.dK (mergeK [] kvs)))
def rDictD : List V → Hp → VK → Prop := fun xs H Q => ∃ (a : Addr) (kvs : List (Key × V)), xs = [.ref a] ∧ Rd H a (.dK kvs) ∧ ∀ p, H p = none → Q (.ref p) (upd H p (.dK kvs))
def rSortD : List V → Hp → VK → Prop := fun xs H Q => ∃ (a : Addr) (kvs : List (Key × V)) (ks : List Int), xs = [.ref a] ∧ Rd H a (.dK kvs) ∧ kvs.map (·.1) = ks.map Sum.inl ∧ ks.length < 64 ∧ ∀ (ys : List Int) (p : Addr), ys.Perm ks → ys.Pairwise (· ≤ ·) → H p = none → Q (.ref p) (upd H p (.lst (ys.map V.int)))
def rLenD : List V → Hp → VK → Prop := fun xs H Q => ∃ a kvs, xs = [V.ref a] ∧ H a = some (.dK kvs) ∧ Q (.int kvs.length) H
section
variable {X : Cx}
end
section
variable {K : PySem.W.Frag} {σ : L2.St} {H : Hp} {Q : VK} {td ty tx : TE} {a p : Addr} {kvs : List (Key × V)} {k : Int}
theorem e_dget2 (q : td σ H fun x H1 => ∃ a, x = .ref a ∧ IsD H1 a ∧ ty σ H1 fun y H2 => tx σ H2 fun z H3 => ∃ o, DGet H3 a y o ∧ Q (o.getD z) H3) : tDGet2 td ty tx σ H Q := q
theorem e_dpop2 (q : td σ H fun x H1 => ∃ a, x = .ref a ∧ IsD H1 a ∧ ty σ H1 fun y H2 => tx σ H2 fun z H3 => ∃ kvs k, H3 a = some (.dK kvs) ∧ y = kV k ∧ (∀ v, valV kvs k = some v → Q v (upd H3 a (.dK (dropK kvs k)))) ∧ (valV kvs k = none → Q z H3)) : tDPop2 td ty tx σ H Q := q
theorem e_dpop1 (q : td σ H fun x H1 => ∃ a, x = .ref a ∧ IsD H1 a ∧ ty σ H1 fun y H2 => ∃ kvs k v, H2 a = some (.dK kvs) ∧ y = kV k ∧ valV kvs k = some v ∧ Q v (upd H2 a (.dK (dropK kvs k)))) : tDPop1 td ty σ H Q := q
theorem ty_dic (h : H a = some (.dK kvs)) : tyV K "dict" (.ref a) H := .inr (.inr (.inl ⟨rfl, .inl ⟨kvs, h⟩⟩))
theorem r_min2 {i j : Int} (q : Q (.int (if j < i then j else i)) H) : rMin2 [.int i, .int j] H Q := ⟨i, j, rfl, q⟩
theorem isd_at {R : Addr → Prop} (h : H a = some (.dK kvs)) (q : R a) : ∃ a', V.ref a = V.ref a' ∧ IsD H a' ∧ R a' := ⟨a, rfl, .inl ⟨kvs, .inl h⟩, q⟩
theorem get_at {R : Option V → Prop} (h : H a = some (.dK kvs)) (q : R (valV kvs (.inl k))) : ∃ o, DGet H a (.int k) o ∧ R o := ⟨_, .inl ⟨kvs, .inl k, .inl h, rfl, rfl⟩, q⟩
theorem pop1_at {R : List (Key × V) → Key → V → Prop} {v : V} (h : H a = some (.dK kvs)) (e : valV kvs (.inl k) = some v) (q : R kvs (.inl k) v) : ∃ kvs k' v, H a = some (.dK kvs) ∧ V.int k = kV k' ∧ valV kvs k' = some v ∧ R kvs k' v := ⟨kvs, .inl k, v, h, rfl, e, q⟩
theorem r_dictD (h : H a = some (.dK kvs)) (q : ∀ p, H p = none → Q (.ref p) (upd H p (.dK kvs))) : rDictD [.ref a] H Q := ⟨a, kvs, rfl, .inl h, q⟩
theorem r_lenD (h : H a = some (.dK kvs)) (q : Q (.int kvs.length) H) : rLenD [.ref a] H Q := ⟨a, kvs, rfl, h, q⟩
theorem r_ixdi {v : V} (h : H p = some (.dK kvs)) (e : valV kvs (.inl k) = some v) (q : Q v H) : rIxA K (.ref p) (.int k) H Q := r_ixDi (.inl h) e q
theorem g_setdi {v : V} {QS : Hp → Prop} (h : H p = some (.dK kvs)) (hz : kvs.length ≤ 100) (q : QS (upd H p (.dK (putK kvs (.inl k) v)))) : rSetA (.ref p) (.int k) v H QS := g_setDi h (by rw [sizeLine_eq]; omega) q
end
structure DR (H : Hp) (kvs : List (Key × V)) (f : Int → Option PyData) : Prop where
 nd : (kvs.map (·.1)).Nodup
 get : ∀ k d, f k = some d → ∃ v, valV kvs (.inl k) = some v ∧ Dt H v d
 non : ∀ k, f k = none → valV kvs (.inl k) = none
 ky : ∀ q ∈ kvs, ∃ k : Int, q.1 = .inl k
 di : ∀ k d, f k = some d → Di 4 d
 dom : ∀ k d, f k = some d → 0 ≤ k ∧ k < 32
theorem keys_put (kvs : List (Key × V)) (k : Key) (v : V) (h : (kvs.map (·.1)).Nodup) : ((putK kvs k v).map (·.1)).Nodup := by
 cases e : valV kvs k with
 | none => exact nd_putK v h e
 | some x =>
  have e2 : (putK kvs k v).map (·.1) = kvs.map (·.1) := by
   unfold putK
   rw [if_pos (by rw [valV_any, e]; rfl), List.map_map]
   refine List.map_congr_left fun q _ => ?_
   show (if q.1 = k then (q.1, v) else q).1 = q.1
   split <;> rfl
  rw [e2]; exact h
theorem mem_put {kvs : List (Key × V)} {k : Key} {v : V} {q : Key × V} (h : q ∈ putK kvs k v) : q.1 = k ∨ q ∈ kvs ∨ ∃ q' ∈ kvs, q.1 = q'.1 := by
 unfold putK at h
 split at h
 ·obtain ⟨q', h1, rfl⟩ := List.mem_map.mp h
  by_cases e : q'.1 = k
  ·rw [if_pos e]; exact .inl e
  ·rw [if_neg e]; exact .inr (.inl h1)
 ·rcases List.mem_append.mp h with h | h
  ·exact .inr (.inl h)
  ·rw [List.mem_singleton.mp h]; exact .inl rfl
theorem valV_drop (k j : Key) : ∀ kvs : List (Key × V), valV (dropK kvs k) j = if j = k then none else valV kvs j
 | [] => by simp [dropK, valV]
 | p :: r => by
  by_cases e : p.1 = k
  ·rw [dropK_pos e, valV_drop k j r]
   by_cases h : j = k
   ·rw [if_pos h, if_pos h]
   ·rw [if_neg h, if_neg h, valV_neg (fun z => h (z.symm.trans e))]
  ·rw [dropK_neg e]
   by_cases h : p.1 = j
   ·rw [valV_pos h, valV_pos h, if_neg (fun z => e (h.trans z))]
   ·rw [valV_neg h, valV_neg h, valV_drop k j r]
theorem DR.nil {H : Hp} : DR H [] (fun _ => none) where
 nd := List.Pairwise.nil
 get := fun _ _ z => by cases z
 non := fun _ _ => rfl
 ky := fun q z => absurd z (by simp)
 di := fun _ _ z => by cases z
 dom := fun _ _ z => by cases z
theorem DR.keep {T : List (Addr × Str)} {S : Addr → Prop} {H H' : Hp} {kvs : List (Key × V)} {f : Int → Option PyData} (h : DR H kvs f) (k : Kp T S H H') : DR H' kvs f :=
 ⟨h.nd, fun j d e => let ⟨v, e1, e2⟩ := h.get j d e; ⟨v, e1, Dt.keep k (h.di j d e) e2⟩, h.non, h.ky, h.di, h.dom⟩
theorem DR.put {H : Hp} {kvs : List (Key × V)} {f : Int → Option PyData} {k : Int} {v : V} {d : PyData} (h : DR H kvs f) (hv : Dt H v d) (hd : Di 4 d) (h0 : 0 ≤ k) (h1 : k < 32) : DR H (putK kvs (.inl k) v) (fun j => if j = k then some d else f j) := by
 refine ⟨keys_put _ _ _ h.nd, fun j d' e => ?_, fun j e => ?_, fun q hq => ?_, fun j d' e => ?_, fun j d' e => ?_⟩
 ·rw [valV_put]
  by_cases hj : j = k
  ·subst hj
   have e' : some d = some d' := by simpa using e
   cases e'
   exact ⟨v, by simp, hv⟩
  ·have e' : f j = some d' := by simpa [hj] using e
   obtain ⟨u, e1, e2⟩ := h.get j d' e'
   refine ⟨u, ?_, e2⟩
   rw [if_neg (fun z => hj (Sum.inl.inj z)), e1]
 ·by_cases hj : j = k
  ·simp [hj] at e
  ·have e' : f j = none := by simpa [hj] using e
   rw [valV_put, if_neg (fun z => hj (Sum.inl.inj z)), h.non j e']
 ·rcases mem_put hq with e | e | ⟨q', e1, e2⟩
  ·exact ⟨k, e⟩
  ·exact h.ky q e
  ·obtain ⟨j, e3⟩ := h.ky q' e1
   exact ⟨j, e2.trans e3⟩
 ·by_cases hj : j = k
  ·have e' : some d = some d' := by simpa [hj] using e
   cases e'; exact hd
  ·exact h.di j d' (by simpa [hj] using e)
 ·by_cases hj : j = k
  ·subst hj; exact ⟨h0, h1⟩
  ·exact h.dom j d' (by simpa [hj] using e)
theorem DR.drop {H : Hp} {kvs : List (Key × V)} {f : Int → Option PyData} (h : DR H kvs f) (k : Int) : DR H (dropK kvs (.inl k)) (fun j => if j = k then none else f j) := by
 refine ⟨nd_dropK h.nd, fun j d' e => ?_, fun j e => ?_, fun q hq => h.ky q (dropK_mem hq), fun j d' e => ?_, fun j d' e => ?_⟩
 ·by_cases hj : j = k
  ·simp [hj] at e
  ·obtain ⟨u, e1, e2⟩ := h.get j d' (by simpa [hj] using e)
   exact ⟨u, by rw [valV_drop, if_neg (fun z => hj (Sum.inl.inj z)), e1], e2⟩
 ·rw [valV_drop]
  by_cases hj : j = k
  ·rw [hj, if_pos rfl]
  ·rw [if_neg (fun z => hj (Sum.inl.inj z)), h.non j (by simpa [hj] using e)]
 ·by_cases hj : j = k
  ·simp [hj] at e
  ·exact h.di j d' (by simpa [hj] using e)
 ·by_cases hj : j = k
  ·simp [hj] at e
  ·exact h.dom j d' (by simpa [hj] using e)
theorem DR.congr {H : Hp} {kvs : List (Key × V)} {f g : Int → Option PyData} (h : DR H kvs f) (e : ∀ k, f k = g k) : DR H kvs g := by
 have : f = g := funext e
 rw [← this]; exact h
theorem keys_ints : ∀ {kvs : List (Key × V)}, (∀ q ∈ kvs, ∃ k : Int, q.1 = .inl k) → ∃ ks : List Int, kvs.map (·.1) = ks.map Sum.inl
 | [], _ => ⟨[], rfl⟩
 | q :: kvs, h => by
  obtain ⟨k, e⟩ := h q List.mem_cons_self
  obtain ⟨ks, e2⟩ := keys_ints (kvs := kvs) fun q hq => h q (List.mem_cons_of_mem _ hq)
  exact ⟨k :: ks, by rw [List.map_cons, List.map_cons, e, e2]⟩
theorem few_ints : ∀ (n : Nat) (l : List Int), l.Nodup → (∀ x ∈ l, 0 ≤ x ∧ x < (n : Int)) → l.length ≤ n
 | 0, l, _, h => by
  cases l with
  | nil => exact Nat.le_refl _
  | cons x l => have := h x List.mem_cons_self; omega
 | n + 1, l, hn, h => by
  have h2 := few_ints n (l.filter fun x => decide (x ≠ (n : Int))) (hn.filter _) fun x hx => by
   obtain ⟨h1, h2⟩ := List.mem_filter.mp hx
   have := h x h1
   have := of_decide_eq_true h2
   omega
  have h3 : l.length ≤ (l.filter fun x => decide (x ≠ (n : Int))).length + 1 := by
   clear h h2
   induction l with
   | nil => simp
   | cons x l ih =>
    rw [List.nodup_cons] at hn
    by_cases e : x = (n : Int)
    ·have e2 : (l.filter fun x => decide (x ≠ (n : Int))) = l := List.filter_eq_self.mpr fun y hy => decide_eq_true fun z => hn.1 (by rw [e, ← z]; exact hy)
     rw [List.filter_cons_of_neg (by simp [e]), e2, List.length_cons]
     exact Nat.le_refl _
    ·rw [List.filter_cons_of_pos (by simp [e])]
     have := ih hn.2
     simp only [List.length_cons]; omega
  omega
theorem nodup_of_map {α β : Type} {f : α → β} : ∀ {l : List α}, (l.map f).Nodup → l.Nodup
 | [], _ => .nil
 | x :: l, h => by
  rw [List.map_cons, List.nodup_cons] at h
  exact List.nodup_cons.mpr ⟨fun z => h.1 (List.mem_map_of_mem z), nodup_of_map h.2⟩
theorem DR.keys {H : Hp} {kvs : List (Key × V)} {f : Int → Option PyData} (h : DR H kvs f) : ∃ ks : List Int, kvs.map (·.1) = ks.map Sum.inl ∧ ks.Nodup ∧ (∀ k, k ∈ ks ↔ (f k).isSome = true) ∧ ks.length = kvs.length ∧ ks.length ≤ 32 := by
 obtain ⟨ks, e⟩ := keys_ints h.ky
 have hn : ks.Nodup := nodup_of_map (f := Sum.inl) (β := Key) (by rw [← e]; exact h.nd)
 have hm : ∀ k, k ∈ ks ↔ (f k).isSome = true := fun k => by
  have e1 : k ∈ ks ↔ (Sum.inl k : Key) ∈ kvs.map (·.1) := by
   rw [e]
   exact ⟨fun z => List.mem_map_of_mem z, fun z => by
    obtain ⟨j, h1, h2⟩ := List.mem_map.mp z
    cases h2; exact h1⟩
  rw [e1]
  cases hf : f k with
  | none => exact ⟨fun z => absurd z (valV_not (h.non k hf)), fun z => by cases z⟩
  | some d =>
   obtain ⟨v, e2, _⟩ := h.get k d hf
   exact ⟨fun _ => rfl, fun _ => valV_in e2⟩
 have hl : ks.length = kvs.length := by
  have := congrArg List.length e
  simpa using this.symm
 refine ⟨ks, e, hn, hm, hl, few_ints 32 ks hn fun x hx => ?_⟩
 obtain ⟨d, hd⟩ := Option.isSome_iff_exists.mp ((hm x).mp hx)
 exact h.dom x d hd
theorem DR.len {H : Hp} {kvs : List (Key × V)} {f : Int → Option PyData} (h : DR H kvs f) : kvs.length ≤ 32 := by
 obtain ⟨ks, _, _, _, h1, h2⟩ := h.keys
 omega
def rng (n : Nat) : List Int := (List.range n).map fun i : Nat => (i : Int)
theorem mem_rng {n : Nat} {k : Int} : k ∈ rng n ↔ 0 ≤ k ∧ k < n := by
 unfold rng
 rw [List.mem_map]
 exact ⟨fun ⟨i, h1, h2⟩ => by have := List.mem_range.mp h1; omega, fun ⟨h1, h2⟩ => ⟨k.toNat, List.mem_range.mpr (by omega), by omega⟩⟩
def keysOf (f : Int → Option PyData) (n : Nat) : List Int := (rng n).filter fun k => (f k).isSome
end Cm
end
section
namespace Cm
open PySem PySem.Spec PyProof.Rows L2
section
variable {K : PySem.W.Frag} {σ : L2.St} {H : Hp} {Q : VK} {D : Ends} {tl : TE} {ta : TA} {g : TG} {tb : TS} {tt : TT} {te : TE} {vs : List Nat} {p : Addr} {xs : List V}
theorem f_lst (hl : tl σ H fun x H1 => x = .ref p ∧ H1 = H) (h : H p = some (.lst xs)) (Pv : Nat → L2.St → Hp → Prop) (h0 : Pv 0 σ H) (hst : ∀ i σ' H', i ≤ xs.length → Pv i σ' H' → H' p = some (.lst xs))
  (hs : ∀ i x σ' H', xs[i]? = some x → Pv i σ' H' → g x σ' H' fun σ2 H2 => tb { D with nx := Pv (i + 1), ct := Pv (i + 1), bk := D.nx } σ2 H2) (hd : ∀ σ' H', Pv xs.length σ' H' → D.nx σ' H')
  (mono : ∀ (Q Q' : VK), (∀ v H, Q v H → Q' v H) → tl σ H Q → tl σ H Q') : tFor (iSeq K tl) g tb D σ H :=
 .inl (mono _ _ (fun v H1 z => by
  obtain ⟨rfl, rfl⟩ := z
  exact ⟨p, rfl, ⟨xs, SqL.of h⟩, for_list (K := K) (a := p) (xs := xs) Pv h0 (fun i σ' H' hi z => SqL.of (hst i σ' H' hi z)) hs hd⟩) hl)
theorem s_forL (q : tl σ H fun x H1 => ∃ a, x = .ref a ∧ (∃ xs, SqL K H1 a xs) ∧ ∃ W : Nat → Nat → L2.St → Hp → Prop, (∃ m, W 0 m σ H1) ∧ ∀ i m σ H, W i m σ H →
  ((Itl K a).stop i H ∧ D.nx σ H) ∨ ((Itl K a).go i H ∧ ∃ N : L2.St → Hp → Prop, (∀ σ' H', N σ' H' → ∃ m', m' < m ∧ W (i + 1) m' σ' H') ∧ ∀ x H', (Itl K a).yld i H x H' → g x σ H' fun σ2 H2 => tb { D with nx := N, ct := N, bk := D.nx } σ2 H2)) : tFor (iSeq K tl) g tb D σ H := .inl q
theorem s_forR (q : ta σ H fun vs H1 => ∃ j : Int, vs = [.int j] ∧ -(2 ^ 62) ≤ j ∧ j < 2 ^ 62 ∧ ∃ W : Nat → Nat → L2.St → Hp → Prop, (∃ m, W 0 m σ H1) ∧ ∀ i m σ H, W i m σ H →
  ((Itr 0 j.toNat).stop i H ∧ D.nx σ H) ∨ ((Itr 0 j.toNat).go i H ∧ ∃ N : L2.St → Hp → Prop, (∀ σ' H', N σ' H' → ∃ m', m' < m ∧ W (i + 1) m' σ' H') ∧ ∀ x H', (Itr 0 j.toNat).yld i H x H' → g x σ H' fun σ2 H2 => tb { D with nx := N, ct := N, bk := D.nx } σ2 H2)) : tFor (iRng1 ta) g tb D σ H := q
theorem s_forZ (q : ta σ H fun vs H1 => ∃ a b xs ys, vs = [.ref a, .ref b] ∧ SqL K H1 a xs ∧ SqL K H1 b ys ∧ ∃ W : Nat → Nat → L2.St → Hp → Prop, (∃ m, W 0 m σ H1) ∧ ∀ i m σ H, W i m σ H →
  ((Itz K a b).stop i H ∧ D.nx σ H) ∨ ((Itz K a b).go i H ∧ ∃ N : L2.St → Hp → Prop, (∀ σ' H', N σ' H' → ∃ m', m' < m ∧ W (i + 1) m' σ' H') ∧ ∀ x H', (Itz K a b).yld i H x H' → g x σ H' fun σ2 H2 => tb { D with nx := N, ct := N, bk := D.nx } σ2 H2)) : tFor (iZip K ta) g tb D σ H := q
theorem at_forL {R : Addr → Prop} (h : H p = some (.lst xs)) (q : R p) : ∃ a, V.ref p = V.ref a ∧ (∃ xs, SqL K H a xs) ∧ R a := ⟨p, rfl, ⟨xs, SqL.of h⟩, q⟩
theorem at_forT {R : Addr → Prop} (h : H p = some (.tup xs)) (q : R p) : ∃ a, V.ref p = V.ref a ∧ (∃ xs, SqT K H a xs) ∧ R a := ⟨p, rfl, ⟨xs, SqT.of h⟩, q⟩
theorem at_forR {R : Int → Prop} {j : Int} (h1 : -(2 ^ 62) ≤ j) (h2 : j < 2 ^ 62) (q : R j) : ∃ i : Int, [V.int j] = [V.int i] ∧ -(2 ^ 62) ≤ i ∧ i < 2 ^ 62 ∧ R i := ⟨j, rfl, h1, h2, q⟩
def CI (Pv : Nat → List V → Hp → Prop) (Dl : Addr) (i : Nat) (H' : Hp) : Prop := ∃ acc, acc.length ≤ i ∧ Pv i acc H' ∧ H' Dl = some (.lst acc)
def CStep (Pv : Nat → List V → Hp → Prop) (Dl : Addr) (σ : L2.St) (vs : List Nat) (g : TG) (tt : TT) (te : TE) (i : Nat) (x : V) (H' : Hp) : Prop :=
 g x (wipe σ vs) H' fun σ2 H2 => wipe σ2 vs = wipe σ vs ∧ tt σ2 H2 fun b H3 => if b = true then te σ2 H3 fun y H4 => ∃ acc, H4 Dl = some (.lst acc) ∧ acc.length < sizeLine ∧ CI Pv Dl (i + 1) (upd H4 Dl (.lst (acc ++ [y]))) else CI Pv Dl (i + 1) H3
theorem forR {nx : L2.St → Hp → Prop} {rt : VK} {j : Int} (Pv : Nat → L2.St → Hp → Prop) (h0 : Pv 0 σ H) (hs : ∀ (i : Nat) σ' H', (i : Int) < j → Pv i σ' H' → g (.int (i : Int)) σ' H' fun σ2 H2 => tb { nx := Pv (i + 1), rt := rt, bk := nx, ct := Pv (i + 1) } σ2 H2) (hd : ∀ σ' H', Pv j.toNat σ' H' → nx σ' H') :
  ∃ W : Nat → Nat → L2.St → Hp → Prop, (∃ m, W 0 m σ H) ∧ ∀ i m σ H, W i m σ H →
  ((Itr 0 j.toNat).stop i H ∧ nx σ H) ∨ ((Itr 0 j.toNat).go i H ∧ ∃ N : L2.St → Hp → Prop, (∀ σ' H', N σ' H' → ∃ m', m' < m ∧ W (i + 1) m' σ' H') ∧ ∀ x H', (Itr 0 j.toNat).yld i H x H' → g x σ H' fun σ2 H2 => tb { nx := N, rt := rt, bk := nx, ct := N } σ2 H2) :=
 for_range (D := { nx := nx, rt := rt }) (lo := 0) (n := j.toNat) Pv h0 (fun i σ' H' hi z => by
  have r := hs i σ' H' (by omega) z
  rw [show ((0 : Int) + (i : Nat)) = (i : Int) by omega]
  exact r) hd
theorem forLs {nx : L2.St → Hp → Prop} {rt : VK} {a : Addr} {xs : List V} (Pv : Nat → L2.St → Hp → Prop) (h0 : Pv 0 σ H) (hst : ∀ i σ' H', Pv i σ' H' → SqL K H' a xs)
  (hs : ∀ i x σ' H', xs[i]? = some x → Pv i σ' H' → g x σ' H' fun σ2 H2 => tb { nx := Pv (i + 1), rt := rt, bk := nx, ct := Pv (i + 1) } σ2 H2) (hd : ∀ σ' H', Pv xs.length σ' H' → nx σ' H') :
  ∃ W : Nat → Nat → L2.St → Hp → Prop, (∃ m, W 0 m σ H) ∧ ∀ i m σ H, W i m σ H →
  ((Itl K a).stop i H ∧ nx σ H) ∨ ((Itl K a).go i H ∧ ∃ N : L2.St → Hp → Prop, (∀ σ' H', N σ' H' → ∃ m', m' < m ∧ W (i + 1) m' σ' H') ∧ ∀ x H', (Itl K a).yld i H x H' → g x σ H' fun σ2 H2 => tb { nx := N, rt := rt, bk := nx, ct := N } σ2 H2) :=
 for_list (D := { nx := nx, rt := rt }) (K := K) (a := a) (xs := xs) Pv h0 (fun i σ' H' _ z => hst i σ' H' z) hs hd
theorem at_forZ {a b : Addr} {xs ys : List V} {R : Addr → Addr → Prop} (h1 : H a = some (.lst xs)) (h2 : H b = some (.lst ys)) (q : R a b) : ∃ a' b' xs ys, [V.ref a, V.ref b] = [V.ref a', V.ref b'] ∧ SqL K H a' xs ∧ SqL K H b' ys ∧ R a' b' := ⟨a, b, xs, ys, rfl, SqL.of h1, SqL.of h2, q⟩
end
end Cm
end
section
namespace Cm
open PySem PySem.Spec PyProof.Rows L2
def BoxAt (H : Hp) (b l : Addr) : Prop := ∃ (ns : List Int) (z : Int), H b = some (.lst [.ref l, .int z]) ∧ H l = some (.lst (ns.map V.int)) ∧ ns.length ≤ 63
abbrev Bx (b l : Addr) : Addr → Prop := fun a => a = b ∨ a = l
theorem BoxAt.ne {H : Hp} {b l : Addr} (h : BoxAt H b l) : b ≠ l := by
 obtain ⟨ns, z, h1, h2, _⟩ := h
 refine ne_of h1 h2 fun e => ?_
 injection e with e
 cases ns with
 | nil => cases e
 | cons n ns => injection e with e _; cases e
theorem BoxAt.keep {T : List (Addr × Str)} {S : Addr → Prop} {H H' : Hp} {b l : Addr} (h : BoxAt H b l) (k : Kp T S H H') (h1 : ¬ S b) (h2 : ¬ S l) : BoxAt H' b l := by
 obtain ⟨ns, z, e1, e2, e3⟩ := h
 exact ⟨ns, z, k.lst e1 h1, k.lst e2 h2, e3⟩
def spTake (T : List (Addr × Str)) : Sp := sp2 fun x y H Q _ => ∃ (b l : Addr) (m : Int), x = .ref b ∧ y = .int m ∧ BoxAt H b l ∧ 0 < m ∧ m < 2 ^ 64 ∧
 ∀ (v : Int) (H' : Hp), 0 ≤ v → v < m → BoxAt H' b l → Kp T (Bx b l) H H' → Q (.int v) H'
theorem wdiv {i j : Int} (h : 0 < j) (h2 : j < 2 ^ 64) : CDivW i j := wide_div (b := 64) h (by omega) (by decide) (by decide)
theorem BoxAt.nl {H : Hp} {b l p : Addr} (B : BoxAt H b l) (h : H p = none) : l ≠ p := by
 obtain ⟨_, _, _, e, _⟩ := B
 exact ne_of_none e h
theorem BoxAt.new {H : Hp} {b l p : Addr} {o : HO} (B : BoxAt H b l) (h : H p = none) : BoxAt (upd H p o) b l := by
 obtain ⟨ns, z, e1, e2, e3⟩ := B
 exact ⟨ns, z, by rw [upd_ne (ne_of_none e1 h)]; exact e1, by rw [upd_ne (ne_of_none e2 h)]; exact e2, e3⟩
theorem BoxAt.upd {H : Hp} {b l p : Addr} {o : HO} (B : BoxAt H b l) (h1 : b ≠ p) (h2 : l ≠ p) : BoxAt (upd H p o) b l := by
 obtain ⟨ns, z, e1, e2, e3⟩ := B
 exact ⟨ns, z, by rw [upd_ne h1]; exact e1, by rw [upd_ne h2]; exact e2, e3⟩
end Cm
end
section
namespace W
open PySem PySem.Spec PyProof.Rows L2 Cm
abbrev PRow := Option Int × Int
abbrev Rows := Int → Option (Int × Int)
abbrev Hands := Int → Option (Int × Int × Bool)
def prD (r : PRow) : PyData := .tuple [oD r.1, .int r.2]
def rowD (r : Int × Int) : PyData := .tuple [.int r.1, .int r.2]
def handD (h : Int × Int × Bool) : PyData := .tuple [.int h.1, .int h.2.1, .bool h.2.2]
def toP (r : Int × Int) : PRow := (some r.1, r.2)
inductive Deed where
 | put (k w l : Int)
 | drop (k : Int)
 | add (k m : Int)
 | iff (k : Int) (w : Option Int)
def Deed.d : Deed → PyData
 | .put k w l => .tuple [.str "put", .int k, .int w, .int l]
 | .drop k => .tuple [.str "drop", .int k]
 | .add k m => .tuple [.str "add", .int k, .int m]
 | .iff k w => .tuple [.str "if", .int k, oD w]
def Deed.key : Deed → Int
 | .put k _ _ => k
 | .drop k => k
 | .add k _ => k
 | .iff k _ => k
def Deed.isIf : Deed → Bool
 | .iff _ _ => true
 | _ => false
def Deed.Ok : Deed → Prop
 | .put k w l => (0 ≤ k ∧ k < 32) ∧ (0 ≤ w ∧ w ≤ 999) ∧ 0 ≤ l ∧ l ≤ 1000
 | .drop k => 0 ≤ k ∧ k < 32
 | .add k m => (0 ≤ k ∧ k < 32) ∧ -999 ≤ m ∧ m ≤ 999
 | .iff k w => (0 ≤ k ∧ k < 32) ∧ ∀ i, w = some i → 0 ≤ i ∧ i ≤ 999
theorem Deed.Ok.key {d : Deed} (h : d.Ok) : 0 ≤ d.key ∧ d.key < 32 := by
 cases d with
 | put => exact h.1
 | drop => exact h
 | add => exact h.1
 | iff => exact h.1
def rowOk (r : Int × Int) : Prop := 0 ≤ r.1 ∧ r.1 ≤ 999
def prOk (r : PRow) : Prop := ∀ w, r.1 = some w → 0 ≤ w ∧ w ≤ 999
def psh (m : Int) : Option PRow → Option Int
 | some (some w, e) => if e = 0 ∨ e > m then some w else none
 | _ => none
theorem psh_some {m w e : Int} : psh m (some (some w, e)) = if e = 0 ∨ e > m then some w else none := rfl
def rb (d : Deed) (r : Option PRow) (m : Int) : Option PRow :=
 match d with
 | .put _ w l => some (some w, if l > 0 then m + l else 0)
 | .drop _ => some (none, 0)
 | .iff _ w => if psh m r = w then some (r.getD (none, 0)) else none
 | .add _ x => match psh m r with
  | none => none
  | some w => if 0 ≤ w + x ∧ w + x ≤ 999 then some (some (w + x), (r.getD (none, 0)).2) else none
abbrev Ov := Int → Option PRow
def upf {α : Type} (f : Int → Option α) (k : Int) (v : Option α) : Int → Option α := fun j => if j = k then v else f j
def Ov.row (ov : Ov) (f : Rows) (k : Int) : Option PRow := match ov k with
 | some r => some r
 | none => (f k).map toP
def eff1 (f : Rows) (m : Int) (ov : Ov) (d : Deed) : Option Ov := match rb d (ov.row f d.key) m with
 | none => none
 | some r => if d.isIf then some ov else some (upf ov d.key (some r))
def effL (f : Rows) (m : Int) : Ov → List Deed → Option Ov
 | ov, [] => some ov
 | ov, d :: ds => match eff1 f m ov d with
  | none => none
  | some ov => effL f m ov ds
abbrev Eff := Int × PRow
def effs (ov : Ov) : List Eff := (rng 32).filterMap fun k => (ov k).map fun r => (k, r)
def effD (q : Eff) : PyData := .tuple [.int q.1, oD q.2.1, .int q.2.2]
def effR (f : Rows) (m : Int) (ds : List Deed) : Bool × List Eff := match effL f m (fun _ => none) ds with
 | none => (false, [])
 | some ov => (true, effs ov)
inductive Ent where
 | tick (n m : Int)
 | deal (n h l : Int) (done : Bool) (es : List Eff)
def Ent.d : Ent → PyData
 | .tick n m => .tuple [.str "tick", .int n, .int m]
 | .deal n h l dn es => .tuple [.str "deal", .int n, .int h, .int l, .bool dn, .tuple (es.map effD)]
def Ent.Ok : Ent → Prop
 | .tick _ _ => True
 | .deal _ h _ _ es => (0 ≤ h ∧ h < 4) ∧ es.length ≤ 32 ∧ ∀ q ∈ es, (0 ≤ q.1 ∧ q.1 < 32) ∧ prOk q.2
def pagesOf : Ent → List Int
 | .tick _ _ => [8]
 | .deal _ _ _ _ es => ((rng 8).filter fun p => es.any fun q => decide (q.1 / 4 = p)) ++ [8]
structure TB where
 rows : Rows
 hands : Hands
 moment : Int
 number : Int
def ts0 : TB := ⟨fun _ => none, fun _ => none, 0, 0⟩
structure TB.Ok (T : TB) : Prop where
 rw : ∀ k r, T.rows k = some r → (0 ≤ k ∧ k < 32) ∧ rowOk r
 hd : ∀ k h, T.hands k = some h → 0 ≤ k ∧ k < 4
theorem ts0_ok : ts0.Ok := ⟨fun _ _ z => (nomatch z), fun _ _ z => (nomatch z)⟩
def put1 (f : Rows) (q : Eff) : Rows := upf f q.1 (q.2.1.map fun w => (w, q.2.2))
def chgR (p : Int) (f : Rows) (es : List Eff) : Rows := es.foldl (fun g q => if q.1 / 4 = p then put1 g q else g) f
def TB.chg (T : TB) (e : Ent) (p : Int) : TB :=
 if p = 8 then (match e with
  | .tick _ m => { T with moment := m }
  | .deal n h l dn _ => { T with hands := upf T.hands h (some (l, n, dn)) })
 else (match e with
  | .tick _ _ => T
  | .deal _ _ _ _ es => { T with rows := chgR p T.rows es })
def TB.shown (T : TB) (k : Int) : Option Int := psh T.moment ((T.rows k).map toP)
def tF (r h : Addr) (m n : Int) : List (Str × V) := [("rows", .ref r), ("hands", .ref h), ("moment", .int m), ("number", .int n)]
def pgf (f : Rows) (i : Nat) : Int → Option PyData := fun k => if k / 4 = (i : Int) then (f k).map rowD else none
def hdf (f : Hands) : Int → Option PyData := fun k => (f k).map handD
def TableAt (K : PySem.W.Frag) (H : Hp) (p : Addr) (T : TB) (F : Addr → Prop) : Prop := ∃ (dx rl ha : Addr) (ra : List Addr) (hk : List (Key × V)),
 H p = some (.ins (He.ga K "Table") dx (tF rl ha T.moment T.number)) ∧ H rl = some (.lst (ra.map V.ref)) ∧ ra.length = 8 ∧ (∀ i a, ra[i]? = some a → ∃ kvs, H a = some (.dK kvs) ∧ DR H kvs (pgf T.rows i)) ∧
 H ha = some (.dK hk) ∧ DR H hk (hdf T.hands) ∧ (ha :: ra).Nodup ∧ T.Ok ∧ ∀ a, F a ↔ (a = p ∨ a = rl ∨ a ∈ ha :: ra)
theorem TableAt.ok {K : PySem.W.Frag} {H : Hp} {p : Addr} {S : TB} {F : Addr → Prop} (h : TableAt K H p S F) : S.Ok := by
 obtain ⟨_, _, _, _, _, _, _, _, _, _, _, _, o, _⟩ := h
 exact o
theorem TableAt.dom {K : PySem.W.Frag} {H : Hp} {p : Addr} {S : TB} {F : Addr → Prop} (h : TableAt K H p S F) {a : Addr} (ha : F a) : ¬ Nw H a := by
 obtain ⟨dx, rl, hA, ra, hk, h1, h2, h3, h4, h5, h6, h7, h8, f⟩ := h
 rcases (f a).mp ha with rfl | rfl | hm
 ·exact fun z => nw_no z h1 (fun _ z => nomatch z)
 ·exact fun z => nw_no z h2 (fun _ z => nomatch z)
 ·rcases List.mem_cons.mp hm with rfl | hm
  ·exact fun z => nw_no z h5 (fun _ z => nomatch z)
  ·obtain ⟨i, hi⟩ := List.getElem?_of_mem hm
   obtain ⟨kvs, e, _⟩ := h4 i a hi
   exact fun z => nw_no z e (fun _ z => nomatch z)
theorem TableAt.keep {K : PySem.W.Frag} {T : List (Addr × Str)} {G : Addr → Prop} {H H' : Hp} {p : Addr} {S : TB} {F : Addr → Prop} (h : TableAt K H p S F) (k : Kp T G H H') (d : ∀ a, F a → ¬ G a) : TableAt K H' p S F := by
 obtain ⟨dx, rl, hA, ra, hk, h1, h2, h3, h4, h5, h6, h7, h8, f⟩ := h
 refine ⟨dx, rl, hA, ra, hk, k.ins h1 (d p ((f p).mpr (.inl rfl))), k.lst h2 (d rl ((f rl).mpr (.inr (.inl rfl)))), h3, fun i a e => ?_, k.dK h5 (d hA ((f hA).mpr (.inr (.inr List.mem_cons_self)))), h6.keep k, h7, h8, f⟩
 obtain ⟨kvs, e1, e2⟩ := h4 i a e
 exact ⟨kvs, k.dK e1 (d a ((f a).mpr (.inr (.inr (List.mem_cons_of_mem _ (List.mem_of_getElem? e)))))), e2.keep k⟩
def oS (r h : Addr) (m n : Int) : List (Key × V) := [(.inr "rows", .ref r), (.inr "hands", .ref h), (.inr "moment", .int m), (.inr "number", .int n)]
def rwf (f : Rows) : Int → Option PyData := fun k => (f k).map rowD
def OwnAt (H : Hp) (s : Addr) (S : TB) (F : Addr → Prop) : Prop := ∃ (r h : Addr) (rk hk : List (Key × V)), H s = some (.dK (oS r h S.moment S.number)) ∧ H r = some (.dK rk) ∧ DR H rk (rwf S.rows) ∧ H h = some (.dK hk) ∧ DR H hk (hdf S.hands) ∧ (s ≠ r ∧ s ≠ h ∧ r ≠ h) ∧ S.Ok ∧ ∀ a, F a ↔ (a = s ∨ a = r ∨ a = h)
theorem OwnAt.ok {H : Hp} {p : Addr} {S : TB} {F : Addr → Prop} (h : OwnAt H p S F) : S.Ok := by
 obtain ⟨_, _, _, _, _, _, _, _, _, _, o, _⟩ := h
 exact o
theorem OwnAt.dom {H : Hp} {p : Addr} {S : TB} {F : Addr → Prop} (h : OwnAt H p S F) {a : Addr} (ha : F a) : ¬ Nw H a := by
 obtain ⟨r, hA, rk, hk, h1, h2, h3, h4, h5, h6, h7, f⟩ := h
 rcases (f a).mp ha with rfl | rfl | rfl
 ·exact fun z => nw_no z h1 (fun _ z => nomatch z)
 ·exact fun z => nw_no z h2 (fun _ z => nomatch z)
 ·exact fun z => nw_no z h4 (fun _ z => nomatch z)
theorem OwnAt.keep {T : List (Addr × Str)} {G : Addr → Prop} {H H' : Hp} {p : Addr} {S : TB} {F : Addr → Prop} (h : OwnAt H p S F) (k : Kp T G H H') (d : ∀ a, F a → ¬ G a) : OwnAt H' p S F := by
 obtain ⟨r, hA, rk, hk, h1, h2, h3, h4, h5, h6, h7, f⟩ := h
 exact ⟨r, hA, rk, hk, k.dK h1 (d p ((f p).mpr (.inl rfl))), k.dK h2 (d r ((f r).mpr (.inr (.inl rfl)))), h3.keep k, k.dK h4 (d hA ((f hA).mpr (.inr (.inr rfl)))), h5.keep k, h6, h7, f⟩
def own1 (m : Int) (f : Rows) (d : Deed) : Option Rows := match d with
 | .put k w l => some (upf f k (some (w, if l = 0 then 0 else m + l)))
 | .drop k => some (upf f k none)
 | .iff k w => if psh m ((f k).map toP) = w then some f else none
 | .add k x => match psh m ((f k).map toP) with
  | none => none
  | some w => if 0 ≤ w + x ∧ w + x ≤ 999 then some (upf f k (some (w + x, ((f k).getD (0, 0)).2))) else none
def ownL (m : Int) : Rows → List Deed → Option Rows
 | f, [] => some f
 | f, d :: ds => match own1 m f d with
  | none => none
  | some f => ownL m f ds
def TB.deal (S : TB) (h l : Int) (ds : List Deed) : TB := if ((S.hands h).map (·.1)).getD 0 = l then S else
 match ownL S.moment S.rows ds with
 | none => { S with number := S.number + 1, hands := upf S.hands h (some (l, S.number + 1, false)) }
 | some f => { S with rows := f, number := S.number + 1, hands := upf S.hands h (some (l, S.number + 1, true)) }
end W
end
section
namespace Cm
open PySem PySem.Spec PyProof.Rows L2
section
variable {X : Cx}
def rUpd (K : PySem.W.Frag) : V → List V → Hp → VK → Prop := fun x xs H Q => ∃ (d a : Addr) (kvs0 kvs : List (Key × V)) (ps : List Addr), x = .ref d ∧ xs = [.ref a] ∧ H d = some (.dK kvs0) ∧ SqL K H a (ps.map V.ref) ∧ Paired (fun p kv => SqT K H p [kV kv.1, kv.2]) ps kvs ∧ kvs0.length + ps.length ≤ sizeLine ∧ Q .non (upd H d (.dK (mergeK kvs0 kvs)))
end
end Cm
end
section
namespace N
open PySem PySem.Spec PyProof.Rows L2 Cm W
inductive A where
 | non | bl (b : Bool) | int (i : Int) | str (s : Str) | tup (xs : List A) | lst (xs : List A) | dic (kvs : List (Key × A)) | ref (l : Nat) | gl (n : Str) | ty (n : String) | scr (ns : List Int)
inductive C where
 | lst (xs : List A) | dic (kvs : List (Key × A))
inductive Fv where
 | val (a : A) | own (lk : Bool) (c : C)
inductive AO where
 | ins (cn : Str) (fs : List (Str × Fv)) | con (lk : Bool) (c : C) | tab (T : TB) | sto (T : TB) | box
structure G where
 o : Nat → Option AO
 n : Nat
 fz : Bool
inductive Pl where
 | lab (l : Nat) | emb (l : Nat) (f : Str) | slot (d i : Nat) | adt (l : Nat) | tmp | old
deriving DecidableEq
def Pl.single : Pl → Bool
 | .lab _ => true
 | .emb _ _ => true
 | .slot _ _ => true
 | _ => false
structure Env where
 ad : Pl → Addr
 ow : Addr → Option Pl
 n : Nat
 fz : Option Addr
def Rz (m : Env) (H : Hp) (a : Addr) (ws : List (Key × V)) : Prop := H a = some (.dK ws) ∨ (m.fz = some a ∧ ∃ o, H a = some (.frz o (.dK ws)))
theorem Rz.rd {m : Env} {H : Hp} {a : Addr} {ws : List (Key × V)} (h : Rz m H a ws) : Rd H a (.dK ws) := h.imp id fun z => z.2
abbrev Sl := List (Option Fv)
def KL (K : PySem.W.Frag) (a : Addr) (xs : List V) : Prop := ∃ (o : Obj) (its : Array Value) (n : Nat), K.lookup a = some o ∧ o.cls = .type "list" ∧ o.dict = none ∧ o.data = .seq its n ∧ its.size ≤ sizeLine ∧ Vals xs its.toList
mutual
def RV (K : PySem.W.Frag) (m : Env) (H : Hp) (v : V) : A → Prop
 | .non => v = .non
 | .bl b => v = .bl b
 | .int i => v = .int i
 | .str s => v = .str s
 | .gl n => v = .ref (He.ga K n)
 | .ty n => v = .ty n
 | .ref l => v = .ref (m.ad (.lab l)) ∧ l < m.n
 | .tup xs => ∃ a vs, v = .ref a ∧ H a = some (.tup vs) ∧ RVs K m H vs xs
 | .lst xs => ∃ a vs, v = .ref a ∧ H a = some (.lst vs) ∧ m.ow a = none ∧ RVs K m H vs xs
 | .dic kvs => ∃ a ws, v = .ref a ∧ Rz m H a ws ∧ m.ow a = none ∧ RKs K m H ws kvs
 | .scr ns => ∃ a, v = .ref a ∧ ((Rd H a (.lst (ns.map V.int)) ∧ m.ow a = none) ∨ KL K a (ns.map V.int))
def RVs (K : PySem.W.Frag) (m : Env) (H : Hp) (vs : List V) : List A → Prop
 | [] => vs = []
 | x :: xs => ∃ v r, vs = v :: r ∧ RV K m H v x ∧ RVs K m H r xs
def RKs (K : PySem.W.Frag) (m : Env) (H : Hp) (ws : List (Key × V)) : List (Key × A) → Prop
 | [] => ws = []
 | (k, x) :: xs => ∃ v r, ws = (k, v) :: r ∧ RV K m H v x ∧ RKs K m H r xs
end
structure Ext (K : PySem.W.Frag) (D : Nat) (m : Env) (H : Hp) (L : Addr → Prop) (m' : Env) (H' : Hp) (L' : Addr → Prop) : Prop where
 kp : Kp (tabs K) L H H'
 n : m.n ≤ m'.n
 ad : ∀ l, l < m.n → m'.ad (.lab l) = m.ad (.lab l)
 ow : ∀ a, ¬ Nw H a → ¬ L a → m'.ow a = m.ow a
 gr : ∀ a, L' a → L a ∨ Nw H a
 lo : ∀ a e i, m'.ow a = some (.slot e i) → m.ow a = some (.slot e i) ∨ D ≤ e
 fz : m'.fz = m.fz
section
variable {K : PySem.W.Frag} {D : Nat} {m m1 m2 : Env} {H H1 H2 : Hp} {L L1 L2 : Addr → Prop}
theorem Ext.refl : Ext K D m H L m H L := ⟨Kp.refl, Nat.le_refl _, fun _ _ => rfl, fun _ _ _ => rfl, fun _ h => .inl h, fun _ _ _ h => .inl h, rfl⟩
theorem Ext.trans (a : Ext K D m H L m1 H1 L1) (b : Ext K D m1 H1 L1 m2 H2 L2) : Ext K D m H L m2 H2 L2 where
 kp := a.kp.trans b.kp a.gr
 n := Nat.le_trans a.n b.n
 ad l h := (b.ad l (Nat.lt_of_lt_of_le h a.n)).trans (a.ad l h)
 ow x h1 h2 := (b.ow x (fun z => h1 (a.kp.dom x z)) (fun z => (a.gr x z).elim h2 h1)).trans (a.ow x h1 h2)
 gr x h := (b.gr x h).elim (a.gr x) fun z => .inr (a.kp.dom x z)
 lo x e i h := (b.lo x e i h).elim (a.lo x e i) .inr
 fz := b.fz.trans a.fz
theorem rd_nw {a : Addr} {u : HO} (h : Rd H a u) (n : ∀ ps, u ≠ .tbl ps) : ¬ Nw H a := by
 rcases h with h | ⟨o, h⟩
 ·exact fun z => nw_no z h n
 ·exact fun z => nw_no z h (fun _ y => nomatch y)
theorem rd_kp {T : List (Addr × Str)} {S : Addr → Prop} {a : Addr} {u : HO} (k : Kp T S H H1) (h : Rd H a u) (n : ∀ ps, u ≠ .tbl ps) (hs : ¬ S a) : Rd H1 a u := by
 rcases h with h | ⟨o, h⟩
 ·exact .inl (k.old a _ h n hs)
 ·exact .inr ⟨o, k.old a _ h (fun _ y => nomatch y) hs⟩
structure Kv (m : Env) (H : Hp) (m1 : Env) (H1 : Hp) : Prop where
 n : m.n ≤ m1.n
 ad : ∀ l, l < m.n → m1.ad (.lab l) = m.ad (.lab l)
 tup : ∀ a vs, H a = some (.tup vs) → H1 a = some (.tup vs)
 lst : ∀ a vs, H a = some (.lst vs) → m.ow a = none → H1 a = some (.lst vs) ∧ m1.ow a = none
 rd : ∀ a vs, Rd H a (.lst vs) → m.ow a = none → Rd H1 a (.lst vs) ∧ m1.ow a = none
 dic : ∀ a ws, Rz m H a ws → m.ow a = none → Rz m1 H1 a ws ∧ m1.ow a = none
mutual
theorem RV.gen (k : Kv m H m1 H1) : ∀ {x : A} {v : V}, RV K m H v x → RV K m1 H1 v x
 | .non, _, h => h
 | .bl _, _, h => h
 | .int _, _, h => h
 | .str _, _, h => h
 | .gl _, _, h => h
 | .ty _, _, h => h
 | .ref l, _, h => ⟨by rw [k.ad l h.2]; exact h.1, Nat.lt_of_lt_of_le h.2 k.n⟩
 | .tup xs, _, ⟨a, vs, h1, h2, h3⟩ => ⟨a, vs, h1, k.tup a vs h2, RVs.gen k h3⟩
 | .lst xs, _, ⟨a, vs, h1, h2, h3, h4⟩ => ⟨a, vs, h1, (k.lst a vs h2 h3).1, (k.lst a vs h2 h3).2, RVs.gen k h4⟩
 | .dic xs, _, ⟨a, vs, h1, h2, h3, h4⟩ => ⟨a, vs, h1, (k.dic a vs h2 h3).1, (k.dic a vs h2 h3).2, RKs.gen k h4⟩
 | .scr ns, _, ⟨a, h1, .inl ⟨h2, h3⟩⟩ => ⟨a, h1, .inl (k.rd a _ h2 h3)⟩
 | .scr ns, _, ⟨a, h1, .inr h⟩ => ⟨a, h1, .inr h⟩
theorem RVs.gen (k : Kv m H m1 H1) : ∀ {xs : List A} {vs : List V}, RVs K m H vs xs → RVs K m1 H1 vs xs
 | [], _, h => h
 | _ :: _, _, ⟨v, r, h1, h2, h3⟩ => ⟨v, r, h1, RV.gen k h2, RVs.gen k h3⟩
theorem RKs.gen (k : Kv m H m1 H1) : ∀ {xs : List (Key × A)} {vs : List (Key × V)}, RKs K m H vs xs → RKs K m1 H1 vs xs
 | [], _, h => h
 | (_, _) :: _, _, ⟨v, r, h1, h2, h3⟩ => ⟨v, r, h1, RV.gen k h2, RKs.gen k h3⟩
end
theorem Ext.kv (hL : ∀ a, L a → m.ow a ≠ none) (e : Ext K D m H L m1 H1 L1) : Kv m H m1 H1 where
 n := e.n
 ad := e.ad
 tup a vs h := e.kp.tup h
 lst a vs h hw := ⟨e.kp.lst h (fun z => hL a z hw), (e.ow a (fun z => nw_no z h (fun _ y => nomatch y)) (fun z => hL a z hw)).trans hw⟩
 rd a vs h hw := ⟨rd_kp e.kp h (fun _ y => nomatch y) (fun z => hL a z hw), (e.ow a (rd_nw h (fun _ y => nomatch y)) (fun z => hL a z hw)).trans hw⟩
 dic a vs h hw := by
  refine ⟨?_, (e.ow a (rd_nw h.rd (fun _ y => nomatch y)) (fun z => hL a z hw)).trans hw⟩
  rcases h with h | ⟨h1, o, h2⟩
  ·exact .inl (e.kp.dK h (fun z => hL a z hw))
  ·exact .inr ⟨e.fz.trans h1, o, e.kp.old a _ h2 (fun _ y => nomatch y) (fun z => hL a z hw)⟩
theorem RV.ext (hL : ∀ a, L a → m.ow a ≠ none) (e : Ext K D m H L m1 H1 L1) {x : A} {v : V} (h : RV K m H v x) : RV K m1 H1 v x := h.gen (e.kv hL)
theorem RVs.ext (hL : ∀ a, L a → m.ow a ≠ none) (e : Ext K D m H L m1 H1 L1) {xs : List A} {vs : List V} (h : RVs K m H vs xs) : RVs K m1 H1 vs xs := h.gen (e.kv hL)
theorem RKs.ext (hL : ∀ a, L a → m.ow a ≠ none) (e : Ext K D m H L m1 H1 L1) {xs : List (Key × A)} {vs : List (Key × V)} (h : RKs K m H vs xs) : RKs K m1 H1 vs xs := h.gen (e.kv hL)
end
section
variable {K : PySem.W.Frag} {m : Env} {H : Hp}
theorem RVs.iff : ∀ {xs : List A} {vs : List V}, RVs K m H vs xs ↔ Paired (RV K m H) vs xs
 | [], vs => ⟨fun h => by rw [show vs = [] from h]; exact .nil, fun h => by cases h; rfl⟩
 | x :: xs, vs => ⟨fun ⟨v, r, h1, h2, h3⟩ => by rw [h1]; exact .cons h2 (RVs.iff.mp h3), fun h => by
   cases h with
   | cons a b => exact ⟨_, _, rfl, a, RVs.iff.mpr b⟩⟩
theorem RVs.length {xs : List A} {vs : List V} (h : RVs K m H vs xs) : vs.length = xs.length := (RVs.iff.mp h).length
theorem RVs.nil : RVs K m H [] [] := rfl
theorem RVs.cons {x : A} {xs : List A} {v : V} {vs : List V} (h : RV K m H v x) (t : RVs K m H vs xs) : RVs K m H (v :: vs) (x :: xs) := ⟨v, vs, rfl, h, t⟩
theorem RVs.get : ∀ {xs : List A} {vs : List V} {i : Nat} {x : A}, RVs K m H vs xs → xs[i]? = some x → ∃ v, vs[i]? = some v ∧ RV K m H v x
 | y :: _, _, 0, x, ⟨v, r, h1, h2, h3⟩, e => by
  have e : y = x := by simpa using e
  subst e h1
  exact ⟨v, rfl, h2⟩
 | _ :: xs, _, i + 1, x, ⟨v, r, h1, h2, h3⟩, e => by
  obtain ⟨u, h4, h5⟩ := RVs.get (i := i) h3 (by simpa using e)
  subst h1
  exact ⟨u, by simpa using h4, h5⟩
theorem RVs.append : ∀ {xs ys : List A} {vs ws : List V}, RVs K m H vs xs → RVs K m H ws ys → RVs K m H (vs ++ ws) (xs ++ ys)
 | [], _, vs, _, h, t => by rw [show vs = [] from h]; exact t
 | _ :: _, _, _, _, ⟨v, r, h1, h2, h3⟩, t => by subst h1; exact ⟨v, _, rfl, h2, RVs.append h3 t⟩
theorem RVs.set : ∀ {xs : List A} {vs : List V} {x : A} {v : V} (i : Nat), RVs K m H vs xs → RV K m H v x → RVs K m H (vs.set i v) (xs.set i x)
 | [], vs, _, _, _, h, _ => by rw [show vs = [] from h]; rfl
 | _ :: _, _, _, _, 0, ⟨v, r, h1, h2, h3⟩, t => by subst h1; exact ⟨_, _, rfl, t, h3⟩
 | _ :: _, _, _, _, i + 1, ⟨v, r, h1, h2, h3⟩, t => by subst h1; exact ⟨_, _, rfl, h2, RVs.set i h3 t⟩
theorem RVs.take : ∀ {xs : List A} {vs : List V} (i : Nat), RVs K m H vs xs → RVs K m H (vs.take i) (xs.take i)
 | _, _, 0, _ => by simp only [List.take_zero]; rfl
 | [], vs, _ + 1, h => by rw [show vs = [] from h]; rfl
 | _ :: _, _, i + 1, ⟨v, r, h1, h2, h3⟩ => by subst h1; exact ⟨_, _, rfl, h2, RVs.take i h3⟩
theorem RVs.drop : ∀ {xs : List A} {vs : List V} (i : Nat), RVs K m H vs xs → RVs K m H (vs.drop i) (xs.drop i)
 | _, _, 0, h => by simpa using h
 | [], vs, _ + 1, h => by rw [show vs = [] from h]; rfl
 | _ :: _, _, i + 1, ⟨v, r, h1, h2, h3⟩ => by subst h1; exact RVs.drop i h3
theorem RKs.keys : ∀ {xs : List (Key × A)} {ws : List (Key × V)}, RKs K m H ws xs → ws.map (·.1) = xs.map (·.1)
 | [], ws, h => by rw [show ws = [] from h]; rfl
 | (k, x) :: xs, _, ⟨v, r, h1, h2, h3⟩ => by subst h1; simp only [List.map_cons, RKs.keys h3]
theorem RKs.length {xs : List (Key × A)} {ws : List (Key × V)} (h : RKs K m H ws xs) : ws.length = xs.length := by
 have := congrArg List.length h.keys
 simpa using this
theorem RKs.nil : RKs K m H [] [] := rfl
theorem RKs.cons {k : Key} {x : A} {xs : List (Key × A)} {v : V} {ws : List (Key × V)} (h : RV K m H v x) (t : RKs K m H ws xs) : RKs K m H ((k, v) :: ws) ((k, x) :: xs) := ⟨v, ws, rfl, h, t⟩
theorem RKs.append : ∀ {xs ys : List (Key × A)} {vs ws : List (Key × V)}, RKs K m H vs xs → RKs K m H ws ys → RKs K m H (vs ++ ws) (xs ++ ys)
 | [], _, vs, _, h, t => by rw [show vs = [] from h]; exact t
 | (_, _) :: _, _, _, _, ⟨v, r, h1, h2, h3⟩, t => by subst h1; exact ⟨v, _, rfl, h2, RKs.append h3 t⟩
end
def getK (kvs : List (Key × A)) (k : Key) : Option A := (kvs.find? fun kv => decide (kv.1 = k)).map (·.2)
def setK (kvs : List (Key × A)) (k : Key) (v : A) : List (Key × A) := if kvs.any (fun kv => decide (kv.1 = k)) then kvs.map (fun kv => if kv.1 = k then (kv.1, v) else kv) else kvs ++ [(k, v)]
def delK (kvs : List (Key × A)) (k : Key) : List (Key × A) := kvs.filter fun kv => decide (kv.1 ≠ k)
def mrgK (kvs more : List (Key × A)) : List (Key × A) := more.foldl (fun acc kv => setK acc kv.1 kv.2) kvs
section
variable {K : PySem.W.Frag} {m : Env} {H : Hp}
theorem RKs.val (k : Key) : ∀ {xs : List (Key × A)} {ws : List (Key × V)}, RKs K m H ws xs → match getK xs k with
  | some a => ∃ v, valV ws k = some v ∧ RV K m H v a
  | none => valV ws k = none
 | [], ws, h => by rw [show ws = [] from h]; exact rfl
 | (j, x) :: xs, _, ⟨v, r, h1, h2, h3⟩ => by
  subst h1
  have ih := RKs.val k h3
  unfold getK valV at *
  simp only [List.find?_cons]
  by_cases e : j = k
  ·subst e
   simp only [decide_true, Option.map_some]
   exact ⟨v, rfl, h2⟩
  ·rw [decide_eq_false e]
   exact ih
theorem RKs.some {k : Key} {xs : List (Key × A)} {ws : List (Key × V)} {a : A} (h : RKs K m H ws xs) (e : getK xs k = some a) : ∃ v, valV ws k = some v ∧ RV K m H v a := by
 have := h.val k
 rw [e] at this; exact this
theorem RKs.none {k : Key} {xs : List (Key × A)} {ws : List (Key × V)} (h : RKs K m H ws xs) (e : getK xs k = none) : valV ws k = none := by
 have := h.val k
 rw [e] at this; exact this
theorem RKs.map_at {k : Key} {a : A} {v : V} (hv : RV K m H v a) : ∀ {xs : List (Key × A)} {ws : List (Key × V)}, RKs K m H ws xs → RKs K m H (ws.map fun kv => if kv.1 = k then (kv.1, v) else kv) (xs.map fun kv => if kv.1 = k then (kv.1, a) else kv)
 | [], ws, h => by rw [show ws = [] from h]; rfl
 | (j, x) :: xs, _, ⟨u, r, h1, h2, h3⟩ => by
  subst h1
  simp only [List.map_cons]
  by_cases e : j = k
  ·rw [if_pos e, if_pos e]; exact ⟨v, _, rfl, hv, RKs.map_at hv h3⟩
  ·rw [if_neg e, if_neg e]; exact ⟨u, _, rfl, h2, RKs.map_at hv h3⟩
theorem any_keys {α β : Type} {xs : List (Key × α)} {ws : List (Key × β)} (h : ws.map (·.1) = xs.map (·.1)) (k : Key) : ws.any (fun kv => decide (kv.1 = k)) = xs.any (fun kv => decide (kv.1 = k)) := by
 have e1 : ws.any (fun kv => decide (kv.1 = k)) = (ws.map (·.1)).any (fun j => decide (j = k)) := by rw [List.any_map]; rfl
 have e2 : xs.any (fun kv => decide (kv.1 = k)) = (xs.map (·.1)).any (fun j => decide (j = k)) := by rw [List.any_map]; rfl
 rw [e1, e2, h]
theorem RKs.put {k : Key} {a : A} {v : V} {xs : List (Key × A)} {ws : List (Key × V)} (h : RKs K m H ws xs) (hv : RV K m H v a) : RKs K m H (putK ws k v) (setK xs k a) := by
 unfold putK setK
 rw [any_keys h.keys k]
 split
 ·exact h.map_at hv
 ·exact h.append (.cons hv .nil)
theorem RKs.del {k : Key} : ∀ {xs : List (Key × A)} {ws : List (Key × V)}, RKs K m H ws xs → RKs K m H (dropK ws k) (delK xs k)
 | [], ws, h => by rw [show ws = [] from h]; rfl
 | (j, x) :: xs, _, ⟨u, r, h1, h2, h3⟩ => by
  subst h1
  have ih := RKs.del (k := k) h3
  unfold dropK delK at *
  simp only [List.filter_cons]
  by_cases e : j = k
  ·simp only [e, ne_eq, not_true, decide_false]; exact ih
  ·simp only [e, ne_eq, not_false_eq_true, decide_true]
   exact ⟨u, _, rfl, h2, ih⟩
theorem RKs.merge : ∀ {ys : List (Key × A)} {us : List (Key × V)} {xs : List (Key × A)} {ws : List (Key × V)}, RKs K m H ws xs → RKs K m H us ys → RKs K m H (mergeK ws us) (mrgK xs ys)
 | [], us, _, _, h, t => by rw [show us = [] from t]; exact h
 | (j, x) :: ys, _, _, _, h, ⟨u, r, h1, h2, h3⟩ => by
  subst h1
  exact (RKs.merge (h.put h2) h3 : RKs K m H (mergeK (putK _ j u) r) (mrgK (setK _ j x) ys))
end
end N
end
section
namespace N
open PySem PySem.Spec PyProof.Rows L2 Cm W
def RC (K : PySem.W.Frag) (m : Env) (H : Hp) (a : Addr) : Bool → C → Prop
 | lk, .lst xs => ∃ vs, H a = some (.lst vs) ∧ RVs K m H vs xs
 | false, .dic kvs => ∃ ws, H a = some (.dK ws) ∧ RKs K m H ws kvs
 | true, .dic kvs => ∃ ob ws, H a = some (.frz ob (.dK ws)) ∧ RKs K m H ws kvs
def RF (K : PySem.W.Frag) (m : Env) (H : Hp) (p : Pl) (v : V) : Fv → Prop
 | .val a => RV K m H v a
 | .own lk c => v = .ref (m.ad p) ∧ m.ow (m.ad p) = some p ∧ RC K m H (m.ad p) lk c
def RFs (K : PySem.W.Frag) (m : Env) (H : Hp) (l : Nat) (vs : List (Str × V)) : List (Str × Fv) → Prop
 | [] => vs = []
 | (f, x) :: xs => ∃ v r, vs = (f, v) :: r ∧ RF K m H (.emb l f) v x ∧ RFs K m H l r xs
def BoxA (H : Hp) (b : Addr) (F : Addr → Prop) : Prop := ∃ l, BoxAt H b l ∧ ∀ a, F a ↔ (a = b ∨ a = l)
def RO (K : PySem.W.Frag) (m : Env) (H : Hp) (l : Nat) : AO → Prop
 | .ins cn fs => m.ow (m.ad (.lab l)) = some (.lab l) ∧ (∃ dx vs, H (m.ad (.lab l)) = some (.ins (He.ga K cn) dx vs) ∧ RFs K m H l vs fs) ∧ (fs.map (·.1)).Nodup
 | .con lk c => m.ow (m.ad (.lab l)) = some (.lab l) ∧ RC K m H (m.ad (.lab l)) lk c
 | .tab T => ∃ F, TableAt K H (m.ad (.lab l)) T F ∧ ∀ a, F a → m.ow a = some (.adt l)
 | .sto T => ∃ F, OwnAt H (m.ad (.lab l)) T F ∧ ∀ a, F a → m.ow a = some (.adt l)
 | .box => ∃ F, BoxA H (m.ad (.lab l)) F ∧ ∀ a, F a → m.ow a = some (.adt l)
def live (d : Nat) (σ : Sl) (g : G) : Pl → Prop
 | .lab l => (∃ cn fs, g.o l = some (.ins cn fs)) ∨ ∃ c, g.o l = some (.con false c)
 | .adt l => (∃ T, g.o l = some (.tab T)) ∨ (∃ T, g.o l = some (.sto T)) ∨ g.o l = some .box
 | .emb l f => ∃ cn fs c, g.o l = some (.ins cn fs) ∧ fs.lookup f = some (.own false c)
 | .slot e i => e = d ∧ ∃ c, σ[i]? = some (some (.own false c))
 | _ => False
def Lv (d : Nat) (m : Env) (σ : Sl) (g : G) (a : Addr) : Prop := ∃ p, m.ow a = some p ∧ live d σ g p
structure Mt (K : PySem.W.Frag) (d : Nat) (m : Env) (s : L2.St) (σ : Sl) (g : G) (H : Hp) : Prop where
 ne : ∀ a, m.ow a ≠ none → ¬ Nw H a
 un : ∀ a p, m.ow a = some p → p.single = true → a = m.ad p
 nn : g.n = m.n
 fz : m.fz.isSome = g.fz
 gn : ∀ l, g.n ≤ l → g.o l = none
 ln : ∀ a l, m.ow a = some (.lab l) ∨ (∃ f, m.ow a = some (.emb l f)) ∨ m.ow a = some (.adt l) → l < m.n
 dn : ∀ a e i, m.ow a = some (.slot e i) → e ≤ d
 so : ∀ a i, m.ow a = some (.slot d i) → ∃ lk c, σ[i]? = some (some (.own lk c))
 eo : ∀ a l f, m.ow a = some (.emb l f) → ∃ cn fs lk c, g.o l = some (.ins cn fs) ∧ fs.lookup f = some (.own lk c)
 lb : ∀ l o, g.o l = some o → RO K m H l o
 sn : s.length = σ.length
 sl : ∀ i x, σ[i]? = some (some x) → ∃ v, s[i]? = some (some v) ∧ RF K m H (.slot d i) v x
 tb : LamX.Tabs (tabs K) H
section
variable {K : PySem.W.Frag} {D d : Nat} {m m1 : Env} {H H1 : Hp} {L L1 : Addr → Prop} {s : L2.St} {σ σ1 : Sl} {g g1 : G} {a : Addr} {p : Pl} {v : V}
theorem Lv.ow (h : Lv d m σ g a) : m.ow a ≠ none := by
 obtain ⟨p, e, _⟩ := h
 rw [e]; exact nofun
theorem RC.ext {lk : Bool} {c : C} (hL : ∀ a, L a → m.ow a ≠ none) (e : Ext K D m H L m1 H1 L1) (hn : ¬ L a) (h : RC K m H a lk c) : RC K m1 H1 a lk c := by
 cases c with
 | lst xs =>
  obtain ⟨vs, h1, h2⟩ := h
  exact ⟨vs, e.kp.lst h1 hn, h2.ext hL e⟩
 | dic kvs =>
  cases lk with
  | false =>
   obtain ⟨ws, h1, h2⟩ := h
   exact ⟨ws, e.kp.dK h1 hn, h2.ext hL e⟩
  | true =>
   obtain ⟨ob, ws, h1, h2⟩ := h
   exact ⟨ob, ws, e.kp.old a _ h1 (fun _ z => nomatch z) hn, h2.ext hL e⟩
theorem RC.same {lk : Bool} {c : C} (hL : ∀ a, L a → m.ow a ≠ none) (e : Ext K D m H L m1 H1 L1) (hn : H1 a = H a) (h : RC K m H a lk c) : RC K m1 H1 a lk c := by
 cases c with
 | lst xs =>
  obtain ⟨vs, h1, h2⟩ := h
  exact ⟨vs, hn.trans h1, h2.ext hL e⟩
 | dic kvs =>
  cases lk with
  | false =>
   obtain ⟨ws, h1, h2⟩ := h
   exact ⟨ws, hn.trans h1, h2.ext hL e⟩
  | true =>
   obtain ⟨ob, ws, h1, h2⟩ := h
   exact ⟨ob, ws, hn.trans h1, h2.ext hL e⟩
theorem RC.nw {lk : Bool} {c : C} (h : RC K m H a lk c) : ¬ Nw H a := by
 cases c with
 | lst xs =>
  obtain ⟨vs, h1, h2⟩ := h
  exact fun z => nw_no z h1 (fun _ z => nomatch z)
 | dic kvs =>
  cases lk with
  | false =>
   obtain ⟨ws, h1, h2⟩ := h
   exact fun z => nw_no z h1 (fun _ z => nomatch z)
  | true =>
   obtain ⟨ob, ws, h1, h2⟩ := h
   exact fun z => nw_no z h1 (fun _ z => nomatch z)
theorem RFs.look {l : Nat} {f : Str} : ∀ {xs : List (Str × Fv)} {vs : List (Str × V)} {x : Fv}, RFs K m H l vs xs → xs.lookup f = some x → ∃ v, vs.lookup f = some v ∧ RF K m H (.emb l f) v x
 | (j, y) :: xs, _, x, ⟨v, r, h1, h2, h3⟩, e => by
  subst h1
  rw [List.lookup_cons] at e ⊢
  cases z : f == j with
  | true =>
   rw [z] at e
   have e : some y = some x := e
   cases e
   rw [beq_iff_eq] at z
   subst z
   exact ⟨v, rfl, h2⟩
  | false =>
   rw [z] at e
   exact RFs.look h3 e
theorem RFs.length {l : Nat} : ∀ {xs : List (Str × Fv)} {vs : List (Str × V)}, RFs K m H l vs xs → vs.length = xs.length
 | [], vs, h => by rw [show vs = [] from h]; rfl
 | (j, y) :: xs, _, ⟨v, r, h1, h2, h3⟩ => by subst h1; simp [RFs.length h3]
theorem RFs.mono {l : Nat} : ∀ {xs : List (Str × Fv)} {vs : List (Str × V)}, (∀ f x v, xs.lookup f = some x → RF K m H (.emb l f) v x → RF K m1 H1 (.emb l f) v x) → (xs.map (·.1)).Nodup → RFs K m H l vs xs → RFs K m1 H1 l vs xs
 | [], _, _, _, h => h
 | (j, y) :: xs, _, f, nd, ⟨v, r, h1, h2, h3⟩ => by
  rw [List.map_cons, List.nodup_cons] at nd
  refine ⟨v, r, h1, f j y v (by rw [List.lookup_cons_self]) h2, RFs.mono (fun k x w e hx => f k x w ?_ hx) nd.2 h3⟩
  rw [List.lookup_cons]
  have : (k == j) = false := by
   refine beq_eq_false_iff_ne.mpr fun z => nd.1 ?_
   subst z
   have : ∀ {l : List (Str × Fv)}, l.lookup k = some x → k ∈ l.map (·.1) := by
    intro l
    induction l with
    | nil => intro h; cases h
    | cons q l ih =>
     intro h
     rw [List.lookup_cons] at h
     cases z : k == q.1 with
     | true => rw [beq_iff_eq] at z; rw [List.map_cons, z]; exact List.mem_cons_self
     | false => rw [z] at h; rw [List.map_cons]; exact List.mem_cons_of_mem _ (ih h)
   exact this e
  rw [this]
  exact e
end
def Pl.of : Pl → Option Nat
 | .lab l => some l
 | .emb l _ => some l
 | .adt l => some l
 | _ => none
section
variable {K : PySem.W.Frag} {D d : Nat} {m m1 : Env} {H H1 : Hp} {S : Addr → Prop} {s : L2.St} {σ σ1 : Sl} {g g1 : G} {a : Addr} {p : Pl} {v : V}
theorem RC.keep {lk : Bool} {c : C} (k : Kp (tabs K) S H H1) (hn : ¬ S a) (rv : ∀ x v, RV K m H v x → RV K m1 H1 v x) (h : RC K m H a lk c) : RC K m1 H1 a lk c := by
 have rvs : ∀ {xs : List A} {vs : List V}, RVs K m H vs xs → RVs K m1 H1 vs xs := fun h => RVs.iff.mpr (L2.Paired.mapP (RVs.iff.mp h) fun _ _ z => rv _ _ z)
 have rks : ∀ {xs : List (Key × A)} {ws : List (Key × V)}, RKs K m H ws xs → RKs K m1 H1 ws xs := by
  intro xs
  induction xs with
  | nil => intro ws h; exact h
  | cons q xs ih =>
   obtain ⟨j, x⟩ := q
   rintro ws ⟨u, r, h1, h2, h3⟩
   exact ⟨u, r, h1, rv _ _ h2, ih h3⟩
 cases c with
 | lst xs =>
  obtain ⟨vs, h1, h2⟩ := h
  exact ⟨vs, k.lst h1 hn, rvs h2⟩
 | dic kvs =>
  cases lk with
  | false =>
   obtain ⟨ws, h1, h2⟩ := h
   exact ⟨ws, k.dK h1 hn, rks h2⟩
  | true =>
   obtain ⟨ob, ws, h1, h2⟩ := h
   exact ⟨ob, ws, k.old a _ h1 (fun _ z => nomatch z) hn, rks h2⟩
theorem RF.keep {x : Fv} (hp : p.single = true) (k : Kp (tabs K) S H H1) (hS : ∀ a, S a → m.ow a ≠ some p) (how : ∀ a, m.ow a = some p → m1.ow a = some p) (un1 : ∀ a p, m1.ow a = some p → p.single = true → a = m1.ad p) (rv : ∀ x v, RV K m H v x → RV K m1 H1 v x)
  (h : RF K m H p v x) : RF K m1 H1 p v x := by
 cases x with
 | val a => exact rv _ _ h
 | own lk c =>
  obtain ⟨h1, h2, h3⟩ := h
  have e := how _ h2
  have e2 := un1 _ _ e hp
  exact ⟨by rw [h1, e2], by rw [← e2]; exact e, by rw [← e2]; exact h3.keep k (fun z => hS _ z h2) rv⟩
theorem BoxA.keep {F : Addr → Prop} (k : Kp (tabs K) S H H1) (hS : ∀ a, F a → ¬ S a) (h : BoxA H a F) : BoxA H1 a F := by
 obtain ⟨l, h1, h2⟩ := h
 exact ⟨l, h1.keep k (hS _ ((h2 a).mpr (.inl rfl))) (hS _ ((h2 l).mpr (.inr rfl))), h2⟩
theorem RO.keep {l : Nat} {o : AO} (k : Kp (tabs K) S H H1) (hS : ∀ a p, S a → m.ow a = some p → p.of ≠ some l) (how : ∀ a p, m.ow a = some p → p.of = some l → m1.ow a = some p) (un1 : ∀ a p, m1.ow a = some p → p.single = true → a = m1.ad p)
  (had : m1.ad (.lab l) = m.ad (.lab l)) (rv : ∀ x v, RV K m H v x → RV K m1 H1 v x) (h : RO K m H l o) : RO K m1 H1 l o := by
 cases o with
 | ins cn fs =>
  obtain ⟨h1, ⟨dx, vs, h2, h3⟩, h4⟩ := h
  refine ⟨by rw [had]; exact how _ _ h1 rfl, ⟨dx, vs, by rw [had]; exact k.ins h2 (fun z => hS _ _ z h1 rfl), ?_⟩, h4⟩
  exact h3.mono (fun f x v _ hx => hx.keep rfl k (fun a z e => hS a _ z e rfl) (fun a e => how a _ e rfl) un1 rv) h4
 | con lk c =>
  obtain ⟨h1, h2⟩ := h
  exact ⟨by rw [had]; exact how _ _ h1 rfl, by rw [had]; exact h2.keep k (fun z => hS _ _ z h1 rfl) rv⟩
 | tab T =>
  obtain ⟨F, h1, h2⟩ := h
  exact ⟨F, by rw [had]; exact h1.keep k (fun a ha z => hS a _ z (h2 a ha) rfl), fun a ha => how a _ (h2 a ha) rfl⟩
 | sto T =>
  obtain ⟨F, h1, h2⟩ := h
  exact ⟨F, by rw [had]; exact h1.keep k (fun a ha z => hS a _ z (h2 a ha) rfl), fun a ha => how a _ (h2 a ha) rfl⟩
 | box =>
  obtain ⟨F, h1, h2⟩ := h
  exact ⟨F, by rw [had]; exact h1.keep k (fun a ha z => hS a _ z (h2 a ha) rfl), fun a ha => how a _ (h2 a ha) rfl⟩
theorem Mt.quiet (M : Mt K d m s σ g H) (k : Kp (tabs K) No H H1) : Mt K d m s σ g H1 where
 ne a h z := M.ne a h (k.dom a z)
 un := M.un
 nn := M.nn
 fz := M.fz
 gn := M.gn
 ln := M.ln
 dn := M.dn
 tb := k.tab M.tb
 so := M.so
 eo := M.eo
 lb l o h := (M.lb l o h).keep k (fun _ _ z => z.elim) (fun _ _ e _ => e) M.un rfl fun _ _ => RV.ext (D := 0) (L := No) (L1 := No) (fun _ z => z.elim) ⟨k, Nat.le_refl _, fun _ _ => rfl, fun _ _ _ => rfl, fun _ h => .inl h, fun _ _ _ h => .inl h, rfl⟩
 sn := M.sn
 sl i x h := by
  obtain ⟨v, h1, h2⟩ := M.sl i x h
  exact ⟨v, h1, h2.keep rfl k (fun _ z => z.elim) (fun _ e => e) M.un fun _ _ => RV.ext (D := 0) (L := No) (L1 := No) (fun _ z => z.elim) ⟨k, Nat.le_refl _, fun _ _ => rfl, fun _ _ _ => rfl, fun _ h => .inl h, fun _ _ _ h => .inl h, rfl⟩⟩
theorem Ext.quiet {L : Addr → Prop} (k : Kp (tabs K) No H H1) : Ext K D m H L m H1 L := ⟨k.mono fun _ z => z.elim, Nat.le_refl _, fun _ _ => rfl, fun _ _ _ => rfl, fun _ h => .inl h, fun _ _ _ h => .inl h, rfl⟩
theorem RV.quiet {x : A} (k : Kp (tabs K) No H H1) (h : RV K m H v x) : RV K m H1 v x := RV.ext (D := 0) (L := No) (L1 := No) (fun _ z => z.elim) ⟨k, Nat.le_refl _, fun _ _ => rfl, fun _ _ _ => rfl, fun _ h => .inl h, fun _ _ _ h => .inl h, rfl⟩ h
theorem Mt.fresh (M : Mt K d m s σ g H) (h : Nw H a) : m.ow a = none := by
 cases e : m.ow a with
 | none => rfl
 | some p => exact (M.ne a (by rw [e]; exact nofun) h).elim
theorem Mt.labn (M : Mt K d m s σ g H) {l : Nat} {o : AO} (h : g.o l = some o) : l < m.n := by
 rw [← M.nn]
 exact Nat.lt_of_not_le fun z => by rw [M.gn l z] at h; cases h
end
def G.set (g : G) (l : Nat) (o : AO) : G := { g with o := fun j => if j = l then some o else g.o j }
def pF (f : Str) (x : Fv) : List (Str × Fv) → List (Str × Fv)
 | [] => [(f, x)]
 | (k, y) :: r => if k = f then (k, x) :: r else (k, y) :: pF f x r
def cO : Option AO → Option (Bool × C)
 | some (.con lk c) => some (lk, c)
 | _ => none
def fO (f : Str) : Option AO → Option Fv
 | some (.ins _ fs) => fs.lookup f
 | _ => none
def cF : Option Fv → Option (Bool × C)
 | some (.own lk c) => some (lk, c)
 | _ => none
def getC (σ : Sl) (g : G) : Pl → Option (Bool × C)
 | .lab l => cO (g.o l)
 | .emb l f => cF (fO f (g.o l))
 | .slot _ i => cF (σ[i]?.join)
 | _ => none
theorem cO_some : ∀ {o : Option AO} {lk : Bool} {c : C}, cO o = some (lk, c) → o = some (.con lk c)
 | some (.con _ _), _, _, h => by cases h; rfl
 | none, _, _, h => nomatch h
 | some (.ins _ _), _, _, h => nomatch h
 | some (.tab _), _, _, h => nomatch h
 | some (.sto _), _, _, h => nomatch h
 | some .box, _, _, h => nomatch h
theorem cF_some : ∀ {o : Option Fv} {lk : Bool} {c : C}, cF o = some (lk, c) → o = some (.own lk c)
 | some (.own _ _), _, _, h => by cases h; rfl
 | none, _, _, h => nomatch h
 | some (.val _), _, _, h => nomatch h
theorem fO_some : ∀ {o : Option AO} {f : Str} {x : Fv}, fO f o = some x → ∃ cn fs, o = some (.ins cn fs) ∧ fs.lookup f = some x
 | some (.ins cn fs), _, _, h => ⟨cn, fs, rfl, h⟩
 | none, _, _, h => nomatch h
 | some (.con _ _), _, _, h => nomatch h
 | some (.tab _), _, _, h => nomatch h
 | some (.sto _), _, _, h => nomatch h
 | some .box, _, _, h => nomatch h
theorem join_some {σ : Sl} {i : Nat} {x : Fv} (h : σ[i]?.join = some x) : σ[i]? = some (some x) := by
 cases e : σ[i]? with
 | none => rw [e] at h; cases h
 | some y => rw [e] at h; rw [show y = some x from h]
def setS (lk : Bool) (c : C) (σ : Sl) : Pl → Sl
 | .slot _ i => σ.set i (some (.own lk c))
 | _ => σ
def setG (lk : Bool) (c : C) (g : G) : Pl → G
 | .lab l => g.set l (.con lk c)
 | .emb l f => match g.o l with
  | some (.ins cn fs) => g.set l (.ins cn (pF f (.own lk c) fs))
  | _ => g
 | _ => g
theorem G.set_o {g : G} {l : Nat} {o : AO} {j : Nat} : (g.set l o).o j = if j = l then some o else g.o j := rfl
theorem lookup_pF (f k : Str) (x : Fv) : ∀ fs : List (Str × Fv), (pF f x fs).lookup k = if k = f then some x else fs.lookup k
 | [] => by
  show List.lookup k [(f, x)] = _
  rw [List.lookup_cons]
  by_cases h : k = f
  ·rw [if_pos h, show (k == f) = true from beq_iff_eq.mpr h]
  ·rw [if_neg h, show (k == f) = false from beq_eq_false_iff_ne.mpr h]
 | (j, y) :: r => by
  show List.lookup k (if j = f then (j, x) :: r else (j, y) :: pF f x r) = _
  by_cases hj : j = f
  ·rw [if_pos hj, List.lookup_cons, List.lookup_cons]
   by_cases h : k = f
   ·rw [if_pos h, show (k == j) = true from beq_iff_eq.mpr (h.trans hj.symm)]
   ·rw [if_neg h, show (k == j) = false from beq_eq_false_iff_ne.mpr fun z => h (z.trans hj)]
  ·rw [if_neg hj, List.lookup_cons, List.lookup_cons, lookup_pF f k x r]
   by_cases h : k = f
   ·rw [if_pos h, if_pos h, show (k == j) = false from beq_eq_false_iff_ne.mpr fun z => hj (z.symm.trans h)]
   ·rw [if_neg h, if_neg h]
theorem keys_pF {f : Str} {x y : Fv} : ∀ {fs : List (Str × Fv)}, fs.lookup f = some y → (pF f x fs).map (·.1) = fs.map (·.1)
 | (j, z) :: r, h => by
  show List.map _ (if j = f then (j, x) :: r else (j, z) :: pF f x r) = _
  by_cases hj : j = f
  ·rw [if_pos hj]; rfl
  ·rw [if_neg hj, List.map_cons, List.map_cons]
   rw [List.lookup_cons, show (f == j) = false from beq_eq_false_iff_ne.mpr fun z => hj z.symm] at h
   rw [keys_pF h]
section
variable {K : PySem.W.Frag} {D d : Nat} {m m1 : Env} {H H1 : Hp} {S : Addr → Prop} {s : L2.St} {σ σ1 : Sl} {g g1 : G} {a : Addr} {p : Pl} {v : V}
theorem RFs.put {l : Nat} {f : Str} {x : Fv} : ∀ {xs : List (Str × Fv)} {vs : List (Str × V)}, (∀ k y v, k ≠ f → xs.lookup k = some y → RF K m H (.emb l k) v y → RF K m1 H1 (.emb l k) v y) → (xs.map (·.1)).Nodup → RF K m1 H1 (.emb l f) v x → RFs K m H l vs xs → RFs K m1 H1 l (putF f v vs) (pF f x xs)
 | [], vs, _, _, hx, h => by rw [show vs = [] from h]; exact ⟨v, [], rfl, hx, rfl⟩
 | (j, y) :: xs, _, hk, nd, hx, ⟨u, r, h1, h2, h3⟩ => by
  subst h1
  have nd0 := nd
  rw [List.map_cons, List.nodup_cons] at nd
  show RFs K m1 H1 l (if j = f then (j, v) :: r else (j, u) :: putF f v r) (if j = f then (j, x) :: xs else (j, y) :: pF f x xs)
  have hk2 : ∀ k z w, k ≠ f → xs.lookup k = some z → RF K m H (.emb l k) w z → RF K m1 H1 (.emb l k) w z := fun k z w hne e hz => by
   refine hk k z w hne ?_ hz
   rw [List.lookup_cons, show (k == j) = false from beq_eq_false_iff_ne.mpr fun q => nd.1 (by
    subst q
    have : ∀ {l : List (Str × Fv)}, l.lookup k = some z → k ∈ l.map (·.1) := by
     intro l
     induction l with
     | nil => intro h; cases h
     | cons q l ih =>
      intro h
      rw [List.lookup_cons] at h
      cases z : k == q.1 with
      | true => rw [beq_iff_eq] at z; rw [List.map_cons, z]; exact List.mem_cons_self
      | false => rw [z] at h; rw [List.map_cons]; exact List.mem_cons_of_mem _ (ih h)
    exact this e)]
   exact e
  by_cases hj : j = f
  ·rw [if_pos hj, if_pos hj]
   subst hj
   refine ⟨v, r, rfl, hx, h3.mono (fun k z w e hz => hk2 k z w (fun q => ?_) e hz) nd.2⟩
   subst q
   have : ∀ {l : List (Str × Fv)}, l.lookup k = some z → k ∈ l.map (·.1) := by
    intro l
    induction l with
    | nil => intro h; cases h
    | cons q l ih =>
     intro h
     rw [List.lookup_cons] at h
     cases z : k == q.1 with
     | true => rw [beq_iff_eq] at z; rw [List.map_cons, z]; exact List.mem_cons_self
     | false => rw [z] at h; rw [List.map_cons]; exact List.mem_cons_of_mem _ (ih h)
   exact nd.1 (this e)
  ·rw [if_neg hj, if_neg hj]
   exact ⟨u, _, rfl, hk j y u hj (by rw [List.lookup_cons_self]) h2, RFs.put hk2 nd.2 hx h3⟩
def OC (K : PySem.W.Frag) (m : Env) (H : Hp) : HO → C → Prop
 | .lst vs, .lst xs => RVs K m H vs xs
 | .dK ws, .dic kvs => RKs K m H ws kvs
 | _, _ => False
theorem Mt.addr {lk : Bool} {c : C} (M : Mt K d m s σ g H) (hp : ∀ e i, p = .slot e i → e = d) (h : getC σ g p = some (lk, c)) : p.single = true ∧ m.ow (m.ad p) = some p ∧ RC K m H (m.ad p) lk c := by
 cases p with
 | lab l =>
  obtain ⟨h1, h2⟩ := M.lb l _ (cO_some h)
  exact ⟨rfl, h1, h2⟩
 | emb l f =>
  obtain ⟨cn, fs, e, e2⟩ := fO_some (cF_some h)
  obtain ⟨_, ⟨_, vs, _, h2⟩, _⟩ := M.lb l _ e
  obtain ⟨v, _, _, h4, h5⟩ := h2.look e2
  exact ⟨rfl, h4, h5⟩
 | slot e i =>
  obtain rfl := hp e i rfl
  obtain ⟨v, _, _, h4, h5⟩ := M.sl i _ (join_some (cF_some h))
  exact ⟨rfl, h4, h5⟩
 | adt l => cases h
 | tmp => cases h
 | old => cases h
theorem live_get {c : C} (h : getC σ g p = some (false, c)) (hp : ∀ e i, p = .slot e i → e = d) : live d σ g p := by
 cases p with
 | lab l => exact .inr ⟨_, cO_some h⟩
 | emb l f =>
  obtain ⟨cn, fs, e, e2⟩ := fO_some (cF_some h)
  exact ⟨_, _, _, e, e2⟩
 | slot e i =>
  obtain rfl := hp e i rfl
  exact ⟨rfl, _, join_some (cF_some h)⟩
 | adt l => cases h
 | tmp => cases h
 | old => cases h
end
section
variable {K : PySem.W.Frag} {D d : Nat} {m m1 : Env} {H H1 : Hp} {S : Addr → Prop} {s : L2.St} {σ σ1 : Sl} {g g1 : G} {a b : Addr} {p : Pl} {v : V}
theorem setG_n {lk : Bool} {c : C} : (setG lk c g p).n = g.n := by
 unfold setG
 split
 ·rfl
 ·split <;> rfl
 ·rfl
theorem setG_fz {lk : Bool} {c : C} : (setG lk c g p).fz = g.fz := by
 unfold setG
 split
 ·rfl
 ·split <;> rfl
 ·rfl
theorem setG_none {lk : Bool} {c : C} {lk0 : Bool} {c0 : C} (h : getC σ g p = some (lk0, c0)) {l : Nat} (e : g.o l = none) : (setG lk c g p).o l = none := by
 cases p with
 | lab j =>
  show (if l = j then _ else g.o l) = none
  rw [if_neg (fun z => by subst z; rw [cO_some h] at e; cases e)]; exact e
 | emb j f =>
  obtain ⟨cn, fs, e1, _⟩ := fO_some (cF_some h)
  simp only [setG, e1]
  show (if l = j then _ else g.o l) = none
  rw [if_neg (fun z => by subst z; rw [e1] at e; cases e)]; exact e
 | slot => exact e
 | adt => exact e
 | tmp => exact e
 | old => exact e
theorem live_set' {lk lk0 : Bool} {c c0 : C} (h : getC σ g p = some (lk0, c0)) (hp : ∀ e i, p = .slot e i → e = d) {q : Pl} (hq : live d (setS lk c σ p) (setG lk c g p) q) : live d σ g q ∨ q = p := by
 cases p with
 | lab j =>
  have e0 := cO_some h
  have eo : ∀ l, (setG lk c g (.lab j)).o l = if l = j then some (.con lk c) else g.o l := fun _ => rfl
  cases q with
  | lab l =>
   simp only [live] at hq
   rw [eo] at hq
   by_cases z : l = j
   ·subst z; exact .inr rfl
   ·rw [if_neg z] at hq; exact .inl hq
  | adt l =>
   simp only [live] at hq
   rw [eo] at hq
   by_cases z : l = j
   ·rw [if_pos z] at hq
    rcases hq with ⟨_, y⟩ | ⟨_, y⟩ | y <;> cases y
   ·rw [if_neg z] at hq; exact .inl hq
  | emb l f =>
   simp only [live] at hq
   rw [eo] at hq
   by_cases z : l = j
   ·rw [if_pos z] at hq
    obtain ⟨_, _, _, y, _⟩ := hq
    cases y
   ·rw [if_neg z] at hq; exact .inl hq
  | slot e i => exact .inl hq
  | tmp => exact .inl hq
  | old => exact .inl hq
 | emb j f =>
  obtain ⟨cn, fs, e0, e1⟩ := fO_some (cF_some h)
  have eo : ∀ l, (setG lk c g (.emb j f)).o l = if l = j then some (.ins cn (pF f (.own lk c) fs)) else g.o l := fun l => by
   simp only [setG, e0]; rfl
  cases q with
  | lab l =>
   simp only [live] at hq
   rw [eo] at hq
   by_cases z : l = j
   ·subst z; exact .inl (.inl ⟨_, _, e0⟩)
   ·rw [if_neg z] at hq; exact .inl hq
  | adt l =>
   simp only [live] at hq
   rw [eo] at hq
   by_cases z : l = j
   ·rw [if_pos z] at hq
    rcases hq with ⟨_, y⟩ | ⟨_, y⟩ | y <;> cases y
   ·rw [if_neg z] at hq; exact .inl hq
  | emb l k =>
   simp only [live] at hq
   rw [eo] at hq
   by_cases z : l = j
   ·rw [if_pos z] at hq
    obtain ⟨_, _, _, y, y2⟩ := hq
    cases y
    rw [lookup_pF] at y2
    by_cases z2 : k = f
    ·subst z z2; exact .inr rfl
    ·rw [if_neg z2] at y2
     subst z; exact .inl ⟨_, _, _, e0, y2⟩
   ·rw [if_neg z] at hq; exact .inl hq
  | slot e i => exact .inl hq
  | tmp => exact .inl hq
  | old => exact .inl hq
 | slot e i =>
  obtain rfl := hp e i rfl
  have e0 := join_some (cF_some h)
  cases q with
  | slot e' j =>
   obtain ⟨rfl, c', y⟩ := hq
   have y : (σ.set i (some (.own lk c)))[j]? = some (some (.own false c')) := y
   by_cases z : i = j
   ·subst z; exact .inr rfl
   ·rw [List.getElem?_set_ne z] at y
    exact .inl ⟨rfl, _, y⟩
  | lab => exact .inl hq
  | adt => exact .inl hq
  | emb => exact .inl hq
  | tmp => exact .inl hq
  | old => exact .inl hq
 | adt => cases h
 | tmp => cases h
 | old => cases h
theorem live_set {lk : Bool} {c c0 : C} (h : getC σ g p = some (false, c0)) (hp : ∀ e i, p = .slot e i → e = d) {q : Pl} (hq : live d (setS lk c σ p) (setG lk c g p) q) : live d σ g q :=
 (live_set' h hp hq).elim id fun z => by rw [z]; exact live_get h hp
theorem RC.kp {lk : Bool} {c : C} {o : HO} (h : RC K m H a lk c) (ho : ∀ ps, o ≠ .tbl ps) : Kp (tabs K) (fun b => b = a) H (upd H a o) := by
 cases c with
 | lst xs =>
  obtain ⟨vs, h1, _⟩ := h
  exact Kp.setL h1 rfl ho
 | dic kvs =>
  cases lk with
  | false =>
   obtain ⟨vs, h1, _⟩ := h
   exact Kp.setD h1 rfl ho
  | true =>
   obtain ⟨ob, vs, h1, _⟩ := h
   exact Kp.set h1 rfl (fun _ z => nomatch z) rfl ho
theorem ext_at (k : Kp (tabs K) (fun b => b = a) H H1) : Ext K D m H (fun b => b = a) m H1 (fun b => b = a) := ⟨k, Nat.le_refl _, fun _ _ => rfl, fun _ _ _ => rfl, fun _ h => .inl h, fun _ _ _ h => .inl h, rfl⟩
theorem Mt.put {lk0 lk : Bool} {c c1 : C} {o : HO} (M : Mt K d m s σ g H) (hp : ∀ e i, p = .slot e i → e = d) (h : getC σ g p = some (lk0, c)) (ho : ∀ ps, o ≠ .tbl ps)
  (hR : RC K m (upd H (m.ad p) o) (m.ad p) lk c1) : Mt K d m s (setS lk c1 σ p) (setG lk c1 g p) (upd H (m.ad p) o) := by
 obtain ⟨hs, how, hr⟩ := M.addr hp h
 have k := hr.kp ho
 have rv : ∀ x v, RV K m H v x → RV K m (upd H (m.ad p) o) v x := fun x v => RV.ext (fun b z => by rw [z, how]; exact nofun) (ext_at (D := 0) k)
 have hpS : ∀ (b : Addr) (q : Pl), b = m.ad p → m.ow b = some q → q = p := fun b q z e => by
  rw [z, how] at e; exact (Option.some.inj e).symm
 have keepRO : ∀ l o', p.of ≠ some l → RO K m H l o' → RO K m (upd H (m.ad p) o) l o' := fun l o' hl => RO.keep k (fun b q z e => by rw [hpS b q z e]; exact hl) (fun _ _ e _ => e) M.un rfl rv
 refine ⟨fun b h1 z => M.ne b h1 (k.dom b z), M.un, setG_n.trans M.nn, M.fz.trans setG_fz.symm, fun l hl => setG_none h (M.gn l (by rw [setG_n] at hl; exact hl)), M.ln, M.dn, fun b i e => ?_, fun b l f e => ?_, fun l o' e => ?_, ?_, fun i x e => ?_, k.tab M.tb⟩
 ·obtain ⟨lk', c', y⟩ := M.so b i e
  cases p with
  | slot e' j =>
   show ∃ lk c, (σ.set j _)[i]? = some (some (.own lk c))
   by_cases z : j = i
   ·subst z
    exact ⟨_, _, List.getElem?_set_self (List.getElem?_eq_some_iff.mp y).1⟩
   ·rw [List.getElem?_set_ne z]; exact ⟨_, _, y⟩
  | lab => exact ⟨_, _, y⟩
  | emb => exact ⟨_, _, y⟩
  | adt => exact ⟨_, _, y⟩
  | tmp => exact ⟨_, _, y⟩
  | old => exact ⟨_, _, y⟩
 ·obtain ⟨cn, fs, lk', c', y1, y2⟩ := M.eo b l f e
  cases p with
  | lab j =>
   refine ⟨cn, fs, lk', c', ?_, y2⟩
   show (if l = j then _ else g.o l) = _
   rw [if_neg (fun z => by subst z; rw [cO_some h] at y1; cases y1)]; exact y1
  | emb j kf =>
   obtain ⟨cn0, fs0, e0, e1⟩ := fO_some (cF_some h)
   simp only [setG, e0]
   show ∃ cn fs lk c, (if l = j then _ else g.o l) = _ ∧ _
   by_cases z : l = j
   ·subst z
    rw [e0] at y1
    cases y1
    rw [if_pos rfl]
    by_cases z2 : f = kf
    ·exact ⟨_, _, _, _, rfl, by rw [lookup_pF, if_pos z2]⟩
    ·exact ⟨_, _, _, _, rfl, by rw [lookup_pF, if_neg z2]; exact y2⟩
   ·rw [if_neg z]; exact ⟨_, _, _, _, y1, y2⟩
  | slot => exact ⟨_, _, _, _, y1, y2⟩
  | adt => exact ⟨_, _, _, _, y1, y2⟩
  | tmp => exact ⟨_, _, _, _, y1, y2⟩
  | old => exact ⟨_, _, _, _, y1, y2⟩
 ·cases p with
  | lab j =>
   by_cases z : l = j
   ·subst z
    have e : some (AO.con lk c1) = some o' := by rw [← e]; show _ = (if l = l then _ else _); rw [if_pos rfl]
    cases e
    exact ⟨how, hR⟩
   ·have e : g.o l = some o' := by rw [← e]; show _ = (if l = j then _ else _); rw [if_neg z]
    exact keepRO l o' (fun y => z (Option.some.inj y).symm) (M.lb l o' e)
  | emb j f =>
   obtain ⟨cn, fs, e0, e1⟩ := fO_some (cF_some h)
   have eo : (setG lk c1 g (.emb j f)).o l = if l = j then some (.ins cn (pF f (.own lk c1) fs)) else g.o l := by
    simp only [setG, e0]; rfl
   rw [eo] at e
   by_cases z : l = j
   ·subst z
    rw [if_pos rfl] at e
    cases e
    obtain ⟨h1, ⟨dx, vs, h2, h3⟩, h4⟩ := M.lb l _ e0
    have hne : m.ad (.lab l) ≠ m.ad (.emb l f) := fun y => by rw [y, how] at h1; cases h1
    refine ⟨h1, ⟨dx, vs, by rw [upd_ne hne]; exact h2, ?_⟩, by rw [keys_pF e1]; exact h4⟩
    obtain ⟨v, hv1, hv2, _⟩ := h3.look e1
    have r := RFs.put (K := K) (m := m) (m1 := m) (H := H) (H1 := upd H (m.ad (.emb l f)) o) (v := v) (l := l) (f := f) (x := .own lk c1) (xs := fs) (vs := vs)
     (fun j y w hj _ hy => hy.keep rfl k (fun b z y => by
      have := hpS b _ z y
      cases this; exact hj rfl) (fun _ e => e) M.un rv) h4 ⟨hv2, how, hR⟩ h3
    have : putF f v vs = vs := by
     clear r h3 h4 h2
     induction vs with
     | nil => cases hv1
     | cons q vs ih =>
      obtain ⟨j, u⟩ := q
      show (if j = f then (j, v) :: vs else (j, u) :: putF f v vs) = _
      rw [List.lookup_cons] at hv1
      by_cases z : j = f
      ·rw [if_pos z]
       rw [show (f == j) = true from beq_iff_eq.mpr z.symm] at hv1
       have hv1 : some u = some v := hv1
       cases hv1; rfl
      ·rw [if_neg z]
       rw [show (f == j) = false from beq_eq_false_iff_ne.mpr fun y => z y.symm] at hv1
       rw [ih hv1]
    rw [this] at r
    exact r
   ·rw [if_neg z] at e
    exact keepRO l o' (fun y => z (Option.some.inj y).symm) (M.lb l o' e)
  | slot e' i => exact keepRO l o' (fun y => nomatch y) (M.lb l o' e)
  | adt => cases h
  | tmp => cases h
  | old => cases h
 ·cases p <;> first | exact M.sn | (show _ = (List.set _ _ _).length; rw [List.length_set]; exact M.sn)
 ·have keepRF : ∀ x v, p ≠ .slot d i → RF K m H (.slot d i) v x → RF K m (upd H (m.ad p) o) (.slot d i) v x := fun x v hne => RF.keep rfl k (fun b z y => hne (hpS b _ z y).symm) (fun _ e => e) M.un rv
  cases p with
  | slot e' j =>
   obtain rfl := hp e' j rfl
   have e : (σ.set j (some (.own lk c1)))[i]? = some (some x) := e
   by_cases z : j = i
   ·subst z
    have e0 := join_some (cF_some h)
    obtain ⟨v, hv1, hv2, _⟩ := M.sl j _ e0
    rw [List.getElem?_set_self (List.getElem?_eq_some_iff.mp e0).1] at e
    cases e
    exact ⟨v, hv1, hv2, how, hR⟩
   ·rw [List.getElem?_set_ne z] at e
    obtain ⟨v, hv1, hv2⟩ := M.sl i x e
    exact ⟨v, hv1, keepRF x v (fun y => z (by cases y; rfl)) hv2⟩
  | lab j =>
   obtain ⟨v, hv1, hv2⟩ := M.sl i x e
   exact ⟨v, hv1, keepRF x v (fun y => nomatch y) hv2⟩
  | emb j f =>
   obtain ⟨v, hv1, hv2⟩ := M.sl i x e
   exact ⟨v, hv1, keepRF x v (fun y => nomatch y) hv2⟩
  | adt => cases h
  | tmp => cases h
  | old => cases h
theorem Mt.putE {lk : Bool} {c c1 : C} {o : HO} (M : Mt K d m s σ g H) (hp : ∀ e i, p = .slot e i → e = d) (h : getC σ g p = some (false, c)) (ho : ∀ ps, o ≠ .tbl ps) : Ext K D m H (Lv d m σ g) m (upd H (m.ad p) o) (Lv d m (setS lk c1 σ p) (setG lk c1 g p)) := by
 obtain ⟨hs, how, hr⟩ := M.addr hp h
 refine ⟨(hr.kp ho).mono fun b z => ⟨p, by rw [z]; exact how, live_get h hp⟩, Nat.le_refl _, fun _ _ => rfl, fun _ _ _ => rfl, fun b hb => ?_, fun _ _ _ h => .inl h, rfl⟩
 obtain ⟨q, hq1, hq2⟩ := hb
 exact .inl ⟨q, hq1, live_set h hp hq2⟩
theorem Ext.unlock {L0 L1 L2 : Addr → Prop} {m' : Env} {H' H'' : Hp} (E : Ext K D m H L0 m' H' L1) (k : Kp (tabs K) (fun b => b = a) H' H'') (ha : L0 a ∨ Nw H a) (hl : ∀ x, L2 x → L1 x ∨ x = a) : Ext K D m H L0 m' H'' L2 :=
 ⟨E.kp.trans k fun x z => by rw [z]; exact ha, E.n, E.ad, E.ow, fun x h => (hl x h).elim (E.gr x) fun z => by rw [z]; exact ha, E.lo, E.fz⟩
end
def Env.mark (m : Env) (b : Addr) (t : Option Pl) : Env := { m with ow := fun x => if x = b then t else m.ow x }
def Env.give (m : Env) (b : Addr) (p : Pl) : Env := { m with ow := fun x => if x = b then some p else m.ow x, ad := fun q => if q = p then b else m.ad q }
section
variable {K : PySem.W.Frag} {D d : Nat} {m m0 m1 : Env} {H H0 H1 : Hp} {S L L0 L1 : Addr → Prop} {s : L2.St} {σ σ1 : Sl} {g g1 : G} {a b : Addr} {p : Pl} {v : V} {x : A}
theorem RV.re (k : Kp (tabs K) S H H1) (hS : ∀ a, S a → m.ow a ≠ none) (hn : m.n ≤ m1.n) (had : ∀ l, l < m.n → m1.ad (.lab l) = m.ad (.lab l)) (how : ∀ a, m.ow a = none → ¬ Nw H a → m1.ow a = none) (hf : m1.fz = m.fz) (h : RV K m H v x) : RV K m1 H1 v x :=
 RV.ext (D := 0) (L := fun a => m.ow a ≠ none) (L1 := fun a => m.ow a ≠ none) (fun _ z => z) ⟨k.mono hS, hn, had, fun a h1 h2 => by
  have h2 : m.ow a = none := Classical.byContradiction h2
  rw [h2]; exact how a h2 h1, fun _ z => .inl z, fun _ _ _ _ => .inr (Nat.zero_le _), hf⟩ h
theorem Ext.re (E : Ext K D m0 H0 L0 m H L) (hn : m.n ≤ m1.n) (had : ∀ l, l < m.n → m1.ad (.lab l) = m.ad (.lab l)) (how : ∀ a, m1.ow a ≠ m.ow a → (Nw H0 a ∨ L0 a) ∨ L a) (hl : ∀ a, L1 a → L a ∨ Nw H0 a ∨ L0 a) (hlo : ∀ a e i, m1.ow a = some (.slot e i) → m.ow a = some (.slot e i) ∨ D ≤ e) (hf : m1.fz = m.fz) : Ext K D m0 H0 L0 m1 H L1 :=
 ⟨E.kp, Nat.le_trans E.n hn, fun l h => (had l (Nat.lt_of_lt_of_le h E.n)).trans (E.ad l h), fun a h1 h2 => by
  refine Eq.trans (Classical.byContradiction fun z => ?_) (E.ow a h1 h2)
  rcases how a z with (y | y) | y
  ·exact h1 y
  ·exact h2 y
  ·exact (E.gr a y).elim h2 h1, fun a h => (hl a h).elim (fun z => E.gr a z) Or.symm, fun a e i h => (hlo a e i h).elim (E.lo a e i) .inr, hf.trans E.fz⟩
theorem Mt.mark (M : Mt K d m s σ g H) (hb : m.ow b = none ∨ m.ow b = some .tmp) {t : Option Pl} (ht : t = none ∨ t = some .tmp ∨ t = some .old) (hN : ¬ Nw H b) (rv : ∀ x v, RV K m H v x → RV K (m.mark b t) H v x) : Mt K d (m.mark b t) s σ g H := by
 have hx : ∀ a p, m.ow a = some p → p ≠ .tmp → (m.mark b t).ow a = some p := fun a p e hp => by
  show (if a = b then t else m.ow a) = _
  rw [if_neg (fun z => by
   subst z
   rcases hb with hb | hb
   ·rw [hb] at e; cases e
   ·rw [hb] at e; cases e; exact hp rfl)]
  exact e
 have hy : ∀ a p, (m.mark b t).ow a = some p → p ≠ .tmp → p ≠ .old → m.ow a = some p := fun a p e h1 h2 => by
  have e : (if a = b then t else m.ow a) = some p := e
  split at e
  ·rcases ht with rfl | rfl | rfl
   ·cases e
   ·cases e; exact (h1 rfl).elim
   ·cases e; exact (h2 rfl).elim
  ·exact e
 have un1 : ∀ a p, (m.mark b t).ow a = some p → p.single = true → a = m.ad p := fun a p e hp => M.un a p (hy a p e (fun z => by subst z; cases hp) (fun z => by subst z; cases hp)) hp
 refine ⟨fun a h => ?_, un1, M.nn, M.fz, M.gn, fun a l h => M.ln a l ?_, fun a e i h => M.dn a e i (hy _ _ h nofun nofun), fun a i h => M.so a i (hy _ _ h nofun nofun), fun a l f h => M.eo a l f (hy _ _ h nofun nofun), fun l o h => ?_, M.sn, fun i y h => ?_, M.tb⟩
 ·by_cases z : a = b
  ·rw [z]; exact hN
  ·exact M.ne a (by
    have h : (if a = b then t else m.ow a) ≠ none := h
    rw [if_neg z] at h; exact h)
 ·rcases h with h | ⟨f, h⟩ | h
  ·exact .inl (hy _ _ h nofun nofun)
  ·exact .inr (.inl ⟨f, hy _ _ h nofun nofun⟩)
  ·exact .inr (.inr (hy _ _ h nofun nofun))
 ·exact (M.lb l o h).keep (S := No) Kp.refl (fun _ _ z => z.elim) (fun a p e hp => hx a p e (fun z => by subst z; cases hp)) un1 rfl rv
 ·obtain ⟨v, h1, h2⟩ := M.sl i y h
  exact ⟨v, h1, h2.keep (S := No) rfl Kp.refl (fun _ z => z.elim) (fun a e => hx a _ e nofun) un1 rv⟩
theorem Lv.mark (hb : m.ow b = none ∨ m.ow b = some .tmp) {t : Option Pl} (ht : t = none ∨ t = some .tmp ∨ t = some .old) (h : Lv d (m.mark b t) σ g a) : Lv d m σ g a := by
 obtain ⟨p, e, hl⟩ := h
 have e : (if a = b then t else m.ow a) = some p := e
 split at e
 ·rcases ht with rfl | rfl | rfl
  ·cases e
  ·cases e; exact hl.elim
  ·cases e; exact hl.elim
 ·exact ⟨p, e, hl⟩
def RT (K : PySem.W.Frag) (m : Env) (H0 : Hp) (L0 : Addr → Prop) (H : Hp) (v : V) : Fv → Prop
 | .val a => RV K m H v a
 | .own lk c => lk = false ∧ ∃ b, v = .ref b ∧ m.ow b = some .tmp ∧ (Nw H0 b ∨ L0 b) ∧ RC K m H b false c
def cA : C → A
 | .lst xs => .lst xs
 | .dic kvs => .dic kvs
def toA : Fv → A
 | .val a => a
 | .own _ c => cA c
theorem Mt.freeze {fv : Fv} (M : Mt K d m s σ g H) (E : Ext K D m0 H0 L0 m H (Lv d m σ g)) (h : RT K m H0 L0 H v fv) : ∃ m1, Mt K d m1 s σ g H ∧ Ext K D m0 H0 L0 m1 H (Lv d m1 σ g) ∧ RV K m1 H v (toA fv) := by
 cases fv with
 | val a => exact ⟨m, M, E, h⟩
 | own lk c =>
  obtain ⟨rfl, b, rfl, hb, hn, hr⟩ := h
  have rv : ∀ x v, RV K m H v x → RV K (m.mark b none) H v x := fun x v => RV.re (S := No) Kp.refl (fun _ z => z.elim) (Nat.le_refl _) (fun _ _ => rfl) (fun a ha _ => by
   show (if a = b then none else m.ow a) = none
   split
   ·rfl
   ·exact ha) rfl
  have hm : (m.mark b none).ow b = none := if_pos rfl
  refine ⟨m.mark b none, M.mark (.inr hb) (.inl rfl) hr.nw rv, E.re (Nat.le_refl _) (fun _ _ => rfl) (fun a z => .inl ?_) (fun a z => .inl (z.mark (.inr hb) (.inl rfl))) (fun a e i h => .inl ?_) rfl, ?_⟩
  ·have z : (if a = b then none else m.ow a) ≠ m.ow a := z
   by_cases y : a = b
   ·rw [y]; exact hn
   ·rw [if_neg y] at z; exact (z rfl).elim
  ·have h : (if a = b then none else m.ow a) = some (.slot e i) := h
   split at h
   ·cases h
   ·exact h
  ·have hr := hr.keep (S := No) (m1 := m.mark b none) Kp.refl (fun z => z) rv
   cases c with
   | lst xs =>
    obtain ⟨vs, h1, h2⟩ := hr
    exact ⟨b, vs, rfl, h1, hm, h2⟩
   | dic xs =>
    obtain ⟨vs, h1, h2⟩ := hr
    exact ⟨b, vs, rfl, .inl h1, hm, h2⟩
theorem Mt.fresh_tmp {c : C} {o : HO} (M : Mt K d m s σ g H) (hb : H b = none) (ho : OC K m H o c) : ∃ m1, Mt K d m1 s σ g (upd H b o) ∧ Ext K D m H (Lv d m σ g) m1 (upd H b o) (Lv d m1 σ g) ∧ RT K m1 H (Lv d m σ g) (upd H b o) (.ref b) (.own false c) := by
 have k : Kp (tabs K) No H (upd H b o) := Kp.new hb
 have M1 := M.quiet k
 have hw : m.ow b = none := M.fresh (nw_of hb)
 have rv : ∀ x v, RV K m H v x → RV K (m.mark b (some .tmp)) (upd H b o) v x := fun x v => RV.re k (fun _ z => z.elim) (Nat.le_refl _) (fun _ _ => rfl) (fun a ha hn => by
  show (if a = b then _ else m.ow a) = none
  rw [if_neg (fun z => hn (by rw [z]; exact nw_of hb))]; exact ha) rfl
 have rv1 : ∀ x v, RV K m (upd H b o) v x → RV K (m.mark b (some .tmp)) (upd H b o) v x ∨ True := fun _ _ _ => .inr trivial
 have hy : ∀ a p, (m.mark b (some .tmp)).ow a = some p → p ≠ .tmp → m.ow a = some p := fun a p e h1 => by
  have e : (if a = b then some Pl.tmp else m.ow a) = some p := e
  split at e
  ·cases e; exact (h1 rfl).elim
  ·exact e
 have hx : ∀ a p, m.ow a = some p → (m.mark b (some .tmp)).ow a = some p := fun a p e => by
  show (if a = b then _ else m.ow a) = _
  rw [if_neg (fun z => by rw [z, hw] at e; cases e)]; exact e
 have un1 : ∀ a p, (m.mark b (some .tmp)).ow a = some p → p.single = true → a = m.ad p := fun a p e hp => M.un a p (hy a p e (fun z => by subst z; cases hp)) hp
 have hbn : ¬ Nw (upd H b o) b := by
  cases o with
  | lst vs => exact fun z => nw_no z upd_same (fun _ z => nomatch z)
  | dK vs => exact fun z => nw_no z upd_same (fun _ z => nomatch z)
  | _ => exact ho.elim
 refine ⟨m.mark b (some .tmp), ⟨fun a h => ?_, un1, M.nn, M.fz, M.gn, fun a l h => M.ln a l ?_, fun a e i h => M.dn a e i (hy _ _ h nofun), fun a i h => M.so a i (hy _ _ h nofun), fun a l f h => M.eo a l f (hy _ _ h nofun), fun l o' h => ?_, M.sn, fun i y h => ?_, k.tab M.tb⟩, ?_, rfl, b, rfl, if_pos rfl, .inl (nw_of hb), ?_⟩
 ·by_cases z : a = b
  ·rw [z]; exact hbn
  ·exact fun y => M.ne a (by
    have h : (if a = b then some Pl.tmp else m.ow a) ≠ none := h
    rw [if_neg z] at h; exact h) (k.dom a y)
 ·rcases h with h | ⟨f, h⟩ | h
  ·exact .inl (hy _ _ h nofun)
  ·exact .inr (.inl ⟨f, hy _ _ h nofun⟩)
  ·exact .inr (.inr (hy _ _ h nofun))
 ·exact (M.lb l o' h).keep k (fun _ _ z => z.elim) (fun a p e _ => hx a p e) un1 rfl rv
 ·obtain ⟨v, h1, h2⟩ := M.sl i y h
  exact ⟨v, h1, h2.keep rfl k (fun _ z => z.elim) (fun a e => hx a _ e) un1 rv⟩
 ·refine ⟨k.mono fun _ z => z.elim, Nat.le_refl _, fun _ _ => rfl, fun a h1 h2 => ?_, fun a h => ?_, fun a e i h => .inl (hy _ _ h nofun), rfl⟩
  ·show (if a = b then _ else m.ow a) = _
   rw [if_neg (fun z => h1 (by rw [z]; exact nw_of hb))]
  ·obtain ⟨p, e, hl⟩ := h
   exact .inl ⟨p, hy _ _ e (fun z => by subst z; exact hl), hl⟩
 ·have rvs : ∀ {xs : List A} {vs : List V}, RVs K m H vs xs → RVs K (m.mark b (some .tmp)) (upd H b o) vs xs := fun h => RVs.iff.mpr (L2.Paired.mapP (RVs.iff.mp h) fun _ _ z => rv _ _ z)
  have rks : ∀ {xs : List (Key × A)} {ws : List (Key × V)}, RKs K m H ws xs → RKs K (m.mark b (some .tmp)) (upd H b o) ws xs := by
   intro xs
   induction xs with
   | nil => intro ws h; exact h
   | cons q xs ih =>
    obtain ⟨j, x⟩ := q
    rintro ws ⟨u, r, h1, h2, h3⟩
    exact ⟨u, r, h1, rv _ _ h2, ih h3⟩
  cases o with
  | lst vs =>
   cases c with
   | lst xs => exact ⟨vs, upd_same, rvs ho⟩
   | dic => exact ho.elim
  | dK vs =>
   cases c with
   | dic xs => exact ⟨vs, upd_same, rks ho⟩
   | lst => exact ho.elim
  | _ => exact ho.elim
end
def Env.setp (m : Env) (p : Pl) (t : Option Addr) (n : Nat) : Env :=
 {ow := fun x => if t = some x then some p else if m.ow x = some p then some .old else m.ow x
  ad := fun q => match t with
   | some b => if q = p then b else m.ad q
   | none => m.ad q
  n := n
  fz := m.fz }
section
variable {K : PySem.W.Frag} {d : Nat} {m m0 m1 : Env} {H H0 H1 : Hp} {S L L0 L1 : Addr → Prop} {s : L2.St} {σ σ1 : Sl} {g g1 : G} {a b : Addr} {p : Pl} {v : V} {x : A} {t : Option Addr} {n : Nat}
theorem setp_keep (ht : ∀ b, t = some b → m.ow b = none ∨ m.ow b = some .tmp) {q : Pl} (h : m.ow a = some q) (h1 : q ≠ p) (h2 : q ≠ .tmp) : (m.setp p t n).ow a = some q := by
 show (if t = some a then _ else if m.ow a = some p then _ else m.ow a) = _
 rw [if_neg (fun z => by
  rcases ht a z with y | y
  ·rw [y] at h; cases h
  ·rw [y] at h; cases h; exact h2 rfl), if_neg (fun z => by rw [z] at h; cases h; exact h1 rfl)]
 exact h
theorem setp_back {q : Pl} (h : (m.setp p t n).ow a = some q) (h1 : q ≠ p) (h2 : q ≠ .old) : m.ow a = some q := by
 have h : (if t = some a then some p else if m.ow a = some p then some .old else m.ow a) = some q := h
 split at h
 ·cases h; exact (h1 rfl).elim
 ·split at h
  ·cases h; exact (h2 rfl).elim
  ·exact h
theorem setp_self (hp : p ≠ .old) (h : (m.setp p t n).ow a = some p) : t = some a := by
 have h : (if t = some a then some p else if m.ow a = some p then some .old else m.ow a) = some p := h
 split at h
 ·assumption
 ·split at h
  ·cases h; exact (hp rfl).elim
  ·contradiction
theorem setp_ad {q : Pl} (h : q ≠ p) : (m.setp p t n).ad q = m.ad q := by
 show (match t with | some b => if q = p then b else m.ad q | none => m.ad q) = _
 cases t with
 | none => rfl
 | some b => exact if_neg h
theorem setp_un (M : ∀ a q, m.ow a = some q → q.single = true → a = m.ad q) (hp : p ≠ .old) {q : Pl} (h : (m.setp p t n).ow a = some q) (hq : q.single = true) : a = (m.setp p t n).ad q := by
 by_cases z : q = p
 ·subst z
  have e := setp_self hp h
  subst e
  show _ = (if q = q then a else m.ad q)
  rw [if_pos rfl]
 ·rw [setp_ad z]
  exact M a q (setp_back h z (fun y => by subst y; cases hq)) hq
theorem setp_none (ht : ∀ b, t = some b → Nw H b ∨ m.ow b = some .tmp) (h : m.ow a = none) (hn : ¬ Nw H a) : (m.setp p t n).ow a = none := by
 show (if t = some a then _ else if m.ow a = some p then _ else m.ow a) = none
 rw [if_neg (fun z => by
  rcases ht a z with y | y
  ·exact hn y
  ·rw [y] at h; cases h), if_neg (fun z => by rw [z] at h; cases h)]
 exact h
def NewF (K : PySem.W.Frag) (m : Env) (H : Hp) (v : V) (t : Option Addr) : Fv → Prop
 | .val a => t = none ∧ RV K m H v a
 | .own lk c => lk = false ∧ ∃ b, t = some b ∧ v = .ref b ∧ m.ow b = some .tmp ∧ RC K m H b false c
theorem RT.newF {fv : Fv} (h : RT K m H0 L0 H v fv) : ∃ t, NewF K m H v t fv ∧ ∀ b, t = some b → Nw H0 b ∨ L0 b := by
 cases fv with
 | val a => exact ⟨none, ⟨rfl, h⟩, fun _ z => nomatch z⟩
 | own lk c =>
  obtain ⟨rfl, b, h1, h2, h3, h4⟩ := h
  exact ⟨some b, ⟨rfl, b, rfl, h1, h2, h4⟩, fun _ z => by cases z; exact h3⟩
theorem NewF.tmp {fv : Fv} (h : NewF K m H v t fv) (hb : t = some b) : m.ow b = some .tmp ∧ ¬ Nw H b := by
 cases fv with
 | val a => rw [h.1] at hb; cases hb
 | own lk c =>
  obtain ⟨_, b', h1, _, h2, h3⟩ := h
  rw [h1] at hb; cases hb
  exact ⟨h2, h3.nw⟩
theorem Mt.slot {fv : Fv} {i : Nat} (M : Mt K d m s σ g H) (hi : i < σ.length) (hk : ∀ c, σ[i]? ≠ some (some (.own true c))) (hv : NewF K m H v t fv) (ht0 : ∀ b, t = some b → Nw H0 b ∨ L0 b) (E : Ext K d m0 H0 L0 m H (Lv d m σ g)) :
  Mt K d (m.setp (.slot d i) t m.n) (s.set i (some v)) (σ.set i (some fv)) g H ∧ Ext K d m0 H0 L0 (m.setp (.slot d i) t m.n) H (Lv d (m.setp (.slot d i) t m.n) (σ.set i (some fv)) g) := by
 have ht : ∀ b, t = some b → m.ow b = none ∨ m.ow b = some .tmp := fun b h => .inr (hv.tmp h).1
 have un1 := fun a q => setp_un (a := a) (q := q) (t := t) (n := m.n) (p := .slot d i) M.un nofun
 have rv : ∀ x v, RV K m H v x → RV K (m.setp (.slot d i) t m.n) H v x := fun x v => RV.re (S := No) Kp.refl (fun _ z => z.elim) (Nat.le_refl _) (fun l _ => setp_ad nofun) (fun a ha hn => setp_none (fun b h => .inr (hv.tmp h).1) ha hn) rfl
 have back : ∀ a q, (m.setp (.slot d i) t m.n).ow a = some q → q ≠ .slot d i → q ≠ .old → m.ow a = some q := fun a q h h1 h2 => setp_back h h1 h2
 have own_of : ∀ a, (m.setp (.slot d i) t m.n).ow a = some (.slot d i) → ∃ c, fv = .own false c := fun a h => by
  have e := setp_self (p := .slot d i) nofun h
  cases fv with
  | val x => rw [hv.1] at e; cases e
  | own lk c => exact ⟨c, by rw [hv.1]⟩
 refine ⟨⟨fun a h => ?_, un1, M.nn, M.fz, M.gn, fun a l h => M.ln a l ?_, fun a e j h => ?_, fun a j h => ?_, fun a l f h => M.eo a l f (back _ _ h nofun nofun), fun l o h => ?_, by rw [List.length_set, List.length_set]; exact M.sn, fun j y h => ?_, M.tb⟩, E.re (Nat.le_refl _) (fun l _ => setp_ad nofun) (fun a h => ?_) (fun a h => ?_) (fun a e j h => ?_) rfl⟩
 ·by_cases z : t = some a
  ·exact (hv.tmp z).2
  ·refine M.ne a fun y => h ?_
   show (if t = some a then _ else if m.ow a = some _ then _ else m.ow a) = none
   rw [if_neg z, if_neg (by rw [y]; exact nofun)]; exact y
 ·rcases h with h | ⟨f, h⟩ | h
  ·exact .inl (back _ _ h nofun nofun)
  ·exact .inr (.inl ⟨f, back _ _ h nofun nofun⟩)
  ·exact .inr (.inr (back _ _ h nofun nofun))
 ·by_cases z : Pl.slot e j = .slot d i
  ·cases z; exact Nat.le_refl _
  ·exact M.dn a e j (back _ _ h z nofun)
 ·by_cases z : j = i
  ·subst z
   obtain ⟨c, rfl⟩ := own_of a h
   exact ⟨_, _, List.getElem?_set_self hi⟩
  ·rw [List.getElem?_set_ne (Ne.symm z)]
   exact M.so a j (back _ _ h (fun y => z (by cases y; rfl)) nofun)
 ·exact (M.lb l o h).keep (S := No) Kp.refl (fun _ _ z => z.elim) (fun a q e hq => setp_keep ht e (fun z => by subst z; cases hq) (fun z => by subst z; cases hq)) un1 (setp_ad nofun) rv
 ·by_cases z : j = i
  ·subst z
   rw [List.getElem?_set_self hi] at h
   have h : fv = y := Option.some.inj (Option.some.inj h)
   subst h
   refine ⟨v, List.getElem?_set_self (by rw [M.sn]; exact hi), ?_⟩
   cases fv with
   | val x => exact rv _ _ hv.2
   | own lk c =>
    obtain ⟨rfl, b, h1, h2, h3, h4⟩ := hv
    subst h1
    have e1 : (m.setp (.slot d j) (some b) m.n).ad (.slot d j) = b := if_pos rfl
    refine ⟨by rw [e1]; exact h2, by rw [e1]; exact if_pos rfl, by rw [e1]; exact h4.keep (S := No) Kp.refl (fun z => z) rv⟩
  ·rw [List.getElem?_set_ne (Ne.symm z)] at h
   obtain ⟨u, h1, h2⟩ := M.sl j y h
   exact ⟨u, by rw [List.getElem?_set_ne (Ne.symm z)]; exact h1, h2.keep (S := No) rfl Kp.refl (fun _ z => z.elim) (fun a e => setp_keep ht e (fun y => z (by cases y; rfl)) nofun) un1 rv⟩
 ·have h : (if t = some a then _ else if m.ow a = some _ then _ else m.ow a) ≠ m.ow a := h
  by_cases z : t = some a
  ·exact .inl (ht0 a z)
  ·rw [if_neg z] at h
   by_cases y : m.ow a = some (.slot d i)
   ·refine .inr ⟨_, y, rfl, ?_⟩
    obtain ⟨lk, c, w⟩ := M.so a i y
    cases lk with
    | false => exact ⟨c, w⟩
    | true => exact (hk c w).elim
   ·rw [if_neg y] at h; exact (h rfl).elim
 ·obtain ⟨q, h1, h2⟩ := h
  by_cases z : q = .slot d i
  ·subst z
   exact .inr (ht0 a (setp_self (p := .slot d i) nofun h1))
  ·refine .inl ⟨q, back _ _ h1 z (fun y => by subst y; exact h2), ?_⟩
   cases q with
   | slot e j =>
    obtain ⟨rfl, c, h3⟩ := h2
    by_cases y : j = i
    ·subst y; exact (z rfl).elim
    ·rw [List.getElem?_set_ne (Ne.symm y)] at h3; exact ⟨rfl, c, h3⟩
   | lab => exact h2
   | emb => exact h2
   | adt => exact h2
   | tmp => exact h2
   | old => exact h2
 ·by_cases z : Pl.slot e j = .slot d i
  ·cases z; exact .inr (Nat.le_refl _)
  ·exact .inl (back _ _ h z nofun)
end
def G.add (g : G) (o : AO) : G := { g with o := fun j => if j = g.n then some o else g.o j, n := g.n + 1 }
section
variable {K : PySem.W.Frag} {d : Nat} {m m0 m1 : Env} {H H0 H1 : Hp} {S L L0 L1 : Addr → Prop} {s s1 : L2.St} {σ σ1 : Sl} {g g1 : G} {a b : Addr} {p : Pl} {v : V} {x : A} {t : Option Addr} {n : Nat}
theorem Mt.add {o : AO} (M : Mt K d m s σ g H) (k : Kp (tabs K) No H H1) (hb : Nw H b ∨ m.ow b = some .tmp) (hbn : ¬ Nw H1 b) (hb0 : Nw H0 b ∨ L0 b)
  (hR : (∀ x v, RV K m H v x → RV K (m.setp (.lab m.n) (some b) (m.n + 1)) H1 v x) → RO K (m.setp (.lab m.n) (some b) (m.n + 1)) H1 m.n o) (ho : ∀ T, o ≠ .tab T ∧ o ≠ .sto T ∧ o ≠ .box) (he : ∀ cn fs, o = .ins cn fs → fs = [])
  (E : Ext K d m0 H0 L0 m H (Lv d m σ g)) : Mt K d (m.setp (.lab m.n) (some b) (m.n + 1)) s σ (g.add o) H1 ∧ Ext K d m0 H0 L0 (m.setp (.lab m.n) (some b) (m.n + 1)) H1 (Lv d (m.setp (.lab m.n) (some b) (m.n + 1)) σ (g.add o)) ∧ RV K (m.setp (.lab m.n) (some b) (m.n + 1)) H1 (.ref b) (.ref g.n) := by
 have hw : m.ow b = none ∨ m.ow b = some .tmp := hb.elim (fun z => .inl (M.fresh z)) .inr
 have ht : ∀ b', some b = some b' → m.ow b' = none ∨ m.ow b' = some .tmp := fun b' h => by cases h; exact hw
 have un1 := fun a q => setp_un (a := a) (q := q) (t := some b) (n := m.n + 1) (p := .lab m.n) M.un nofun
 have hnl : ∀ l, l < m.n → Pl.lab l ≠ .lab m.n := fun l h z => by cases z; exact Nat.lt_irrefl _ h
 have rv : ∀ x v, RV K m H v x → RV K (m.setp (.lab m.n) (some b) (m.n + 1)) H1 v x := fun x v => RV.re k (fun _ z => z.elim) (Nat.le_succ _) (fun l h => setp_ad (hnl l h)) (fun a ha hn => setp_none (fun b' h => by cases h; exact hb) ha hn) rfl
 have back : ∀ a q, (m.setp (.lab m.n) (some b) (m.n + 1)).ow a = some q → q ≠ .lab m.n → q ≠ .old → m.ow a = some q := fun a q h h1 h2 => setp_back h h1 h2
 have hlt : ∀ a q, m.ow a = some q → q.of ≠ some m.n := fun a q h z => by
  cases q with
  | lab l => cases z; exact Nat.lt_irrefl _ (M.ln a _ (.inl h))
  | emb l f => cases z; exact Nat.lt_irrefl _ (M.ln a _ (.inr (.inl ⟨f, h⟩)))
  | adt l => cases z; exact Nat.lt_irrefl _ (M.ln a _ (.inr (.inr h)))
  | _ => cases z
 have had : (m.setp (.lab m.n) (some b) (m.n + 1)).ad (.lab m.n) = b := if_pos rfl
 have eo : ∀ j, j ≠ g.n → (g.add o).o j = g.o j := fun j hj => if_neg hj
 have en : (g.add o).o g.n = some o := if_pos rfl
 refine ⟨⟨fun a h => ?_, un1, by show g.n + 1 = m.n + 1; rw [M.nn], M.fz, fun j hj => ?_, fun a l h => ?_, fun a e j h => M.dn a e j (back _ _ h nofun nofun), fun a j h => M.so a j (back _ _ h nofun nofun), fun a l f h => ?_, fun l o' h => ?_, M.sn, fun j y h => ?_, k.tab M.tb⟩, ?_, ⟨by rw [M.nn, had], by rw [M.nn]; exact Nat.lt_succ_self _⟩⟩
 ·by_cases z : b = a
  ·rw [← z]; exact hbn
  ·refine fun q => M.ne a (fun y => h ?_) (k.dom a q)
   show (if some b = some a then _ else if m.ow a = some _ then _ else m.ow a) = none
   rw [if_neg (fun w => z (Option.some.inj w)), if_neg (by rw [y]; exact nofun)]; exact y
 ·have hj : g.n + 1 ≤ j := hj
  rw [eo j (by omega)]; exact M.gn j (by omega)
 ·show l < m.n + 1
  rcases h with h | ⟨f, h⟩ | h
  ·by_cases z : l = m.n
   ·omega
   ·exact Nat.lt_succ_of_lt (M.ln a l (.inl (back _ _ h (fun y => z (by cases y; rfl)) nofun)))
  ·exact Nat.lt_succ_of_lt (M.ln a l (.inr (.inl ⟨f, back _ _ h nofun nofun⟩)))
  ·exact Nat.lt_succ_of_lt (M.ln a l (.inr (.inr (back _ _ h nofun nofun))))
 ·obtain ⟨cn, fs, lk, c, h1, h2⟩ := M.eo a l f (back _ _ h nofun nofun)
  refine ⟨cn, fs, lk, c, ?_, h2⟩
  rw [eo l (fun z => by rw [z, M.gn _ (Nat.le_refl _)] at h1; cases h1)]; exact h1
 ·by_cases z : l = g.n
  ·subst z
   rw [en] at h
   cases h
   rw [M.nn]; exact hR rv
  ·rw [eo l z] at h
   have := M.labn h
   exact (M.lb l o' h).keep k (fun _ _ z => z.elim) (fun a q e hq => setp_keep ht e (fun y => by subst y; exact hlt a _ e rfl) (fun y => by subst y; cases hq)) un1 (setp_ad (hnl l this)) rv
 ·obtain ⟨u, h1, h2⟩ := M.sl j y h
  exact ⟨u, h1, h2.keep rfl k (fun _ z => z.elim) (fun a e => setp_keep ht e nofun nofun) un1 rv⟩
 ·have Ek := E.trans (⟨k.mono fun _ z => z.elim, Nat.le_refl _, fun _ _ => rfl, fun _ _ _ => rfl, fun _ h => .inl h, fun _ _ _ h => .inl h, rfl⟩ : Ext K d m H (Lv d m σ g) m H1 (Lv d m σ g))
  refine Ek.re (Nat.le_succ _) (fun l h => setp_ad (hnl l h)) (fun a h => .inl ?_) (fun a h => ?_) (fun a e j h => .inl (back _ _ h nofun nofun)) rfl
  ·have h : (if some b = some a then _ else if m.ow a = some _ then _ else m.ow a) ≠ m.ow a := h
   by_cases z : b = a
   ·rw [← z]; exact hb0
   ·rw [if_neg (fun w => z (Option.some.inj w)), if_neg (fun w => hlt a _ w rfl)] at h; exact (h rfl).elim
  ·obtain ⟨q, h1, h2⟩ := h
   by_cases z : q = .lab m.n
   ·subst z
    have e := setp_self (p := .lab m.n) nofun h1
    cases e
    exact .inr hb0
   ·have h3 := back _ _ h1 z (fun y => by subst y; exact h2)
    have hq := hlt a q h3
    refine .inl ⟨q, h3, ?_⟩
    cases q with
    | lab l =>
     have : l ≠ g.n := fun w => hq (by rw [w, M.nn]; rfl)
     simp only [live] at h2 ⊢
     rw [eo l this] at h2; exact h2
    | adt l =>
     have : l ≠ g.n := fun w => hq (by rw [w, M.nn]; rfl)
     simp only [live] at h2 ⊢
     rw [eo l this] at h2; exact h2
    | emb l f =>
     have : l ≠ g.n := fun w => hq (by rw [w, M.nn]; rfl)
     simp only [live] at h2 ⊢
     rw [eo l this] at h2; exact h2
    | slot => exact h2
    | tmp => exact h2
    | old => exact h2
theorem Mt.enter (M : Mt K d m s σ g H) (hs : s1.length = σ1.length) (hl : ∀ (i : Nat) (x : Fv), σ1[i]? = some (some x) → ∃ v a, s1[i]? = some (some v) ∧ x = .val a ∧ RV K m H v a) : Mt K (d + 1) m s1 σ1 g H where
 ne := M.ne
 un := M.un
 nn := M.nn
 fz := M.fz
 gn := M.gn
 ln := M.ln
 dn a e i h := Nat.le_succ_of_le (M.dn a e i h)
 tb := M.tb
 so a i h := absurd (M.dn a _ i h) (by omega)
 eo := M.eo
 lb := M.lb
 sn := hs
 sl i x h := by
  obtain ⟨v, a, h1, rfl, h2⟩ := hl i x h
  exact ⟨v, h1, h2⟩
def RR (K : PySem.W.Frag) (d : Nat) (m : Env) (H0 : Hp) (L0 : Addr → Prop) (H : Hp) (v : V) : Fv → Prop
 | .val a => RV K m H v a
 | .own lk c => lk = false ∧ ∃ b, v = .ref b ∧ (m.ow b = some .tmp ∨ ∃ j, m.ow b = some (.slot d j)) ∧ (Nw H0 b ∨ L0 b) ∧ RC K m H b false c
def Env.leave (m : Env) (d : Nat) (t : Option Addr) : Env := { m with ow := fun x => match m.ow x with
 | some (.slot e i) => if e = d then (if t = some x then some .tmp else some .old) else some (.slot e i)
 | q => q }
theorem leave_keep {q : Pl} (h : m.ow a = some q) (hq : ∀ i, q ≠ .slot d i) : (m.leave d t).ow a = some q := by
 show (match m.ow a with | some (.slot e i) => _ | q => q) = _
 rw [h]
 cases q with
 | slot e i => exact if_neg (fun z => hq i (by rw [z]))
 | _ => rfl
theorem leave_none (h : m.ow a = none) : (m.leave d t).ow a = none := by
 show (match m.ow a with | some (.slot e i) => _ | q => q) = _
 rw [h]
theorem leave_back {q : Pl} (h : (m.leave d t).ow a = some q) (h1 : q ≠ .tmp) (h2 : q ≠ .old) : m.ow a = some q ∧ ∀ i, q ≠ .slot d i := by
 have h : (match m.ow a with | some (.slot e i) => if e = d then (if t = some a then some .tmp else some .old) else some (.slot e i) | q => q) = some q := h
 cases e : m.ow a with
 | none => rw [e] at h; cases h
 | some p =>
  rw [e] at h
  cases p with
  | slot e' i =>
   have h : (if e' = d then (if t = some a then some Pl.tmp else some .old) else some (.slot e' i)) = some q := h
   split at h
   ·split at h
    ·cases h; exact (h1 rfl).elim
    ·cases h; exact (h2 rfl).elim
   ·rename_i hne
    cases h
    exact ⟨rfl, fun j z => hne (by cases z; rfl)⟩
  | lab => cases h; exact ⟨rfl, nofun⟩
  | emb => cases h; exact ⟨rfl, nofun⟩
  | adt => cases h; exact ⟨rfl, nofun⟩
  | tmp => cases h; exact (h1 rfl).elim
  | old => cases h; exact (h2 rfl).elim
theorem Mt.leave {fv : Fv} (M0 : Mt K d m s σ g H) (M : Mt K (d + 1) m1 s1 σ1 g1 H1) {σ0 : Sl} (hσ0 : ∀ (i : Nat) (x : Fv), σ0[i]? = some (some x) → ∃ a, x = .val a) (E : Ext K (d + 1) m H (Lv (d + 1) m σ0 g) m1 H1 (Lv (d + 1) m1 σ1 g1)) (h : RR K (d + 1) m1 H (Lv (d + 1) m σ0 g) H1 v fv) :
  ∃ m2, Mt K d m2 s σ g1 H1 ∧ Ext K d m H (Lv d m σ g) m2 H1 (Lv d m2 σ g1) ∧ RT K m2 H (Lv d m σ g) H1 v fv := by
 have sub : ∀ a, Lv (d + 1) m σ0 g a → Lv d m σ g a := fun a ⟨p, h1, h2⟩ => by
  refine ⟨p, h1, ?_⟩
  cases p with
  | slot e i =>
   obtain ⟨rfl, c, h3⟩ := h2
   obtain ⟨_, z⟩ := hσ0 i _ h3
   cases z
  | lab => exact h2
  | emb => exact h2
  | adt => exact h2
  | tmp => exact h2
  | old => exact h2
 -- the address that is told
 obtain ⟨t, ht⟩ : ∃ t : Option Addr, t = (match fv with | .val _ => none | .own _ _ => match v with | .ref b => some b | _ => none) := ⟨_, rfl⟩
 have un1 : ∀ a p, (m1.leave (d + 1) t).ow a = some p → p.single = true → a = (m1.leave (d + 1) t).ad p := fun a p h hp => M.un a p (leave_back h (fun z => by subst z; cases hp) (fun z => by subst z; cases hp)).1 hp
 have rv : ∀ x v, RV K m1 H1 v x → RV K (m1.leave (d + 1) t) H1 v x := fun x v => RV.re (S := No) Kp.refl (fun _ z => z.elim) (Nat.le_refl _) (fun _ _ => rfl) (fun a ha _ => leave_none ha) rfl
 have hs : ∀ a i, m.ow a = some (.slot d i) → m1.ow a = some (.slot d i) ∧ H1 a = H a ∧ ¬ Lv (d + 1) m σ0 g a := fun a i h => by
  have hn : ¬ Lv (d + 1) m σ0 g a := fun ⟨p, h1, h2⟩ => by
   rw [h] at h1; cases h1
   exact absurd h2.1 (by omega)
  have hnw := M0.ne a (by rw [h]; exact nofun)
  refine ⟨(E.ow a hnw hn).trans h, ?_, hn⟩
  cases ha : H a with
  | none => exact (hnw (.inl ha)).elim
  | some o => exact E.kp.old a o ha (fun ps z => hnw (.inr ⟨ps, by rw [ha, z]⟩)) hn
 have Mx : Mt K d (m1.leave (d + 1) t) s σ g1 H1 := by
  refine ⟨fun a h => M.ne a (fun z => h (leave_none z)), un1, M.nn, M.fz, M.gn, fun a l h => M.ln a l ?_, fun a e i h => ?_, fun a i h => ?_, fun a l f h => M.eo a l f (leave_back h nofun nofun).1, fun l o h => ?_, M0.sn, fun i y h => ?_, M.tb⟩
  ·rcases h with h | ⟨f, h⟩ | h
   ·exact .inl (leave_back h nofun nofun).1
   ·exact .inr (.inl ⟨f, (leave_back h nofun nofun).1⟩)
   ·exact .inr (.inr (leave_back h nofun nofun).1)
  ·obtain ⟨h1, h2⟩ := leave_back h nofun nofun
   have := M.dn a e i h1
   have : e ≠ d + 1 := fun z => h2 i (by rw [z])
   omega
  ·have h1 := (leave_back h nofun nofun).1
   exact M0.so a i ((E.lo a d i h1).resolve_right (by omega))
  ·exact (M.lb l o h).keep (S := No) Kp.refl (fun _ _ z => z.elim) (fun a q e hq => leave_keep e (fun i z => by subst z; cases hq)) un1 rfl rv
  ·obtain ⟨u, h1, h2⟩ := M0.sl i y h
   refine ⟨u, h1, ?_⟩
   have hL : ∀ a, Lv (d + 1) m σ0 g a → m.ow a ≠ none := fun a z => z.ow
   cases y with
   | val x => exact rv _ _ (RV.ext hL E h2)
   | own lk c =>
    obtain ⟨h3, h4, h5⟩ := h2
    obtain ⟨h6, h7, h8⟩ := hs _ _ h4
    have h9 : (m1.leave (d + 1) t).ow (m.ad (.slot d i)) = some (.slot d i) := leave_keep h6 (fun j z => by cases z)
    have h10 := un1 _ _ h9 rfl
    refine ⟨by rw [h3, ← h10], by rw [← h10]; exact h9, ?_⟩
    rw [← h10]
    exact (RC.ext hL E h8 h5).keep (S := No) Kp.refl (fun z => z) rv
 have Ex : Ext K d m H (Lv d m σ g) (m1.leave (d + 1) t) H1 (Lv d (m1.leave (d + 1) t) σ g1) := by
  refine ⟨E.kp.mono sub, E.n, E.ad, fun a h1 h2 => ?_, fun a h => ?_, fun a e i h => ?_, E.fz⟩
  ·have e := E.ow a h1 (fun z => h2 (sub a z))
   cases hq : m.ow a with
   | none => exact leave_none (e.trans hq)
   | some q => exact leave_keep (e.trans hq) (fun i z => by
     subst z
     exact absurd (M0.dn a _ i hq) (by omega))
  ·obtain ⟨q, h1, h2⟩ := h
   obtain ⟨h3, h4⟩ := leave_back h1 (fun z => by subst z; exact h2) (fun z => by subst z; exact h2)
   cases q with
   | slot e i =>
    obtain ⟨rfl, c, h5⟩ := h2
    exact .inl ⟨_, (E.lo a e i h3).resolve_right (by omega), rfl, c, h5⟩
   | lab l => exact (E.gr a ⟨_, h3, h2⟩).imp (sub a) id
   | emb l f => exact (E.gr a ⟨_, h3, h2⟩).imp (sub a) id
   | adt l => exact (E.gr a ⟨_, h3, h2⟩).imp (sub a) id
   | tmp => exact h2.elim
   | old => exact h2.elim
  ·obtain ⟨h1, h2⟩ := leave_back h nofun nofun
   exact (E.lo a e i h1).imp id (fun z => by omega)
 refine ⟨_, Mx, Ex, ?_⟩
 cases fv with
 | val a => exact rv _ _ h
 | own lk c =>
  obtain ⟨rfl, b, rfl, h1, h2, h3⟩ := h
  have ht : t = some b := ht
  refine ⟨rfl, b, rfl, ?_, h2.imp id (sub b), h3.keep (S := No) Kp.refl (fun z => z) rv⟩
  rcases h1 with h1 | ⟨j, h1⟩
  ·exact leave_keep h1 nofun
  ·show (match m1.ow b with | some (.slot e i) => _ | q => q) = _
   rw [h1]
   show (if d + 1 = d + 1 then (if t = some b then some Pl.tmp else some .old) else _) = _
   rw [if_pos rfl, if_pos ht]
end
structure Ex where
 c : Str
 x : Option (Str × Int)
inductive R (α : Type) : Type 1 where
 | ok (a : α) (g : G) | err (e : Ex) (g : G) | no | all (T : Type) (k : T → R α)
def R.bind {α β : Type} : R α → (α → G → R β) → R β
 | .ok a g, f => f a g
 | .err e g, _ => .err e g
 | .no, _ => .no
 | .all T k, f => .all T fun t => (k t).bind f
def R.sat {α : Type} : R α → (α → G → Prop) → (Ex → G → Prop) → Prop
 | .ok a g, Q, _ => Q a g
 | .err e g, _, E => E e g
 | .no, _, _ => False
 | .all T k, Q, E => ∀ t : T, (k t).sat Q E
theorem sat_bind {α β : Type} {f : α → G → R β} {Q : β → G → Prop} {E : Ex → G → Prop} : ∀ {r : R α}, (r.bind f).sat Q E ↔ r.sat (fun a g => (f a g).sat Q E) E
 | .ok _ _ => Iff.rfl
 | .err _ _ => Iff.rfl
 | .no => Iff.rfl
 | .all T k => ⟨fun h t => sat_bind.mp (h t), fun h t => sat_bind.mpr (h t)⟩
theorem sat_mono {α : Type} {Q Q' : α → G → Prop} {E E' : Ex → G → Prop} (hQ : ∀ a g, Q a g → Q' a g) (hE : ∀ e g, E e g → E' e g) : ∀ {r : R α}, r.sat Q E → r.sat Q' E'
 | .ok _ _, h => hQ _ _ h
 | .err _ _, h => hE _ _ h
 | .no, h => h
 | .all T k, h => fun t => sat_mono hQ hE (h t)
def XR (H : Hp) (dd : Option Addr) (e : Ex) : Prop := match e.x with
 | none => dd = none
 | some (f, i) => ∃ a, dd = some a ∧ H a = some (.xd [(f, .int i)])
def EK (K : PySem.W.Frag) (d : Nat) (m : Env) (H : Hp) (L : Addr → Prop) (E : XK) (e : Ex) (g' : G) : Prop :=
 ∀ m' s' σ' H' dd, Mt K d m' s' σ' g' H' → Ext K d m H L m' H' (Lv d m' σ' g') → XR H' dd e → E (.ref (He.ga K e.c)) dd H'
section
variable {K : PySem.W.Frag} {d : Nat} {m m1 : Env} {H H1 : Hp} {L L1 : Addr → Prop} {E : XK} {e : Ex} {g' : G}
theorem EK.step (x : Ext K d m H L m1 H1 L1) (h : EK K d m H L E e g') : EK K d m1 H1 L1 E e g' := fun m' s' σ' H' dd M e' r => h m' s' σ' H' dd M (x.trans e') r
end
def RW (K : PySem.W.Frag) (m : Env) (H : Hp) (v : V) : A → Prop
 | .lst xs => ∃ a vs, v = .ref a ∧ H a = some (.lst vs) ∧ RVs K m H vs xs
 | .dic kvs => ∃ a ws, v = .ref a ∧ Rd H a (.dK ws) ∧ RKs K m H ws kvs
 | x => RV K m H v x
theorem RV.rw {K : PySem.W.Frag} {m : Env} {H : Hp} {v : V} : ∀ {x : A}, RV K m H v x → RW K m H v x
 | .lst _, ⟨a, vs, h1, h2, _, h3⟩ => ⟨a, vs, h1, h2, h3⟩
 | .dic _, ⟨a, vs, h1, h2, _, h3⟩ => ⟨a, vs, h1, h2.rd, h3⟩
 | .non, h => h
 | .bl _, h => h
 | .int _, h => h
 | .str _, h => h
 | .tup _, h => h
 | .ref _, h => h
 | .gl _, h => h
 | .ty _, h => h
 | .scr _, h => h
section
variable {K : PySem.W.Frag} {m : Env} {H H1 : Hp} {v : V}
theorem RVs.quiet {xs : List A} {vs : List V} (k : Kp (tabs K) No H H1) (h : RVs K m H vs xs) : RVs K m H1 vs xs := RVs.ext (D := 0) (L := No) (L1 := No) (fun _ z => z.elim) (Ext.quiet k) h
theorem RKs.quiet {xs : List (Key × A)} {vs : List (Key × V)} (k : Kp (tabs K) No H H1) (h : RKs K m H vs xs) : RKs K m H1 vs xs := RKs.ext (D := 0) (L := No) (L1 := No) (fun _ z => z.elim) (Ext.quiet k) h
theorem RW.quiet (k : Kp (tabs K) No H H1) : ∀ {x : A}, RW K m H v x → RW K m H1 v x
 | .lst _, ⟨a, vs, h1, h2, h3⟩ => ⟨a, vs, h1, k.lst h2 (fun z => z), h3.quiet k⟩
 | .dic _, ⟨a, vs, h1, h2, h3⟩ => ⟨a, vs, h1, rd_kp k h2 (fun _ y => nomatch y) (fun z => z), h3.quiet k⟩
 | .non, h => h
 | .bl _, h => h
 | .int _, h => h
 | .str _, h => h
 | .tup _, h => RV.quiet k h
 | .ref _, h => h
 | .gl _, h => h
 | .ty _, h => h
 | .scr _, h => RV.quiet k h
end
abbrev QE := Sl → G → Option A
abbrev ME := Sl → G → R A
abbrev MF := Sl → G → R Fv
abbrev MT := Sl → G → R Bool
abbrev QT := Sl → G → Option Bool
abbrev MA := Sl → G → R (List A)
inductive O where
 | nx (σ : Sl) | rt (v : Fv) | bk (σ : Sl) | ct (σ : Sl)
abbrev MS := Sl → G → R O
section
variable (K : PySem.W.Frag)
structure SimQ (te : TE) (q : QE) : Prop where
 run : ∀ {d : Nat} {m : Env} {s : L2.St} {σ : Sl} {g : G} {H : Hp} (Q : VK) (a : A), Mt K d m s σ g H → q σ g = some a → (∀ H' v, Kp (tabs K) No H H' → RV K m H' v a → Q v H') → te s H Q
instance {te : TE} {q : QE} : CoeFun (SimQ K te q) fun _ => ∀ {d : Nat} {m : Env} {s : L2.St} {σ : Sl} {g : G} {H : Hp} (Q : VK) (a : A), Mt K d m s σ g H → q σ g = some a → (∀ H' v, Kp (tabs K) No H H' → RV K m H' v a → Q v H') → te s H Q
:= ⟨SimQ.run⟩
structure SimW (te : TE) (q : QE) : Prop where
 run : ∀ {d : Nat} {m : Env} {s : L2.St} {σ : Sl} {g : G} {H : Hp} (Q : VK) (a : A), Mt K d m s σ g H → q σ g = some a → (∀ H' v, Kp (tabs K) No H H' → RW K m H' v a → Q v H') → te s H Q
instance {te : TE} {q : QE} : CoeFun (SimW K te q) fun _ => ∀ {d : Nat} {m : Env} {s : L2.St} {σ : Sl} {g : G} {H : Hp} (Q : VK) (a : A), Mt K d m s σ g H → q σ g = some a → (∀ H' v, Kp (tabs K) No H H' → RW K m H' v a → Q v H') → te s H Q
:= ⟨SimW.run⟩
structure SimQT (tt : TT) (q : QT) : Prop where
 run : ∀ {d : Nat} {m : Env} {s : L2.St} {σ : Sl} {g : G} {H : Hp} (Q : Bool → Hp → Prop) (b : Bool), Mt K d m s σ g H → q σ g = some b → (∀ H', Kp (tabs K) No H H' → Q b H') → tt s H Q
instance {tt : TT} {q : QT} : CoeFun (SimQT K tt q) fun _ => ∀ {d : Nat} {m : Env} {s : L2.St} {σ : Sl} {g : G} {H : Hp} (Q : Bool → Hp → Prop) (b : Bool), Mt K d m s σ g H → q σ g = some b → (∀ H', Kp (tabs K) No H H' → Q b H') → tt s H Q
:= ⟨SimQT.run⟩
structure SimE (E : XK) (te : TE) (me : ME) : Prop where
 run : ∀ {d : Nat} {m : Env} {s : L2.St} {σ : Sl} {g : G} {H : Hp} (Q : VK), Mt K d m s σ g H →
 (me σ g).sat (fun a g' => ∀ m' H' v, Mt K d m' s σ g' H' → Ext K d m H (Lv d m σ g) m' H' (Lv d m' σ g') → RV K m' H' v a → Q v H') (EK K d m H (Lv d m σ g) E) → te s H Q
instance {E : XK} {te : TE} {me : ME} : CoeFun (SimE K E te me) fun _ => ∀ {d : Nat} {m : Env} {s : L2.St} {σ : Sl} {g : G} {H : Hp} (Q : VK), Mt K d m s σ g H →
 (me σ g).sat (fun a g' => ∀ m' H' v, Mt K d m' s σ g' H' → Ext K d m H (Lv d m σ g) m' H' (Lv d m' σ g') → RV K m' H' v a → Q v H') (EK K d m H (Lv d m σ g) E) → te s H Q
:= ⟨SimE.run⟩
structure SimF (E : XK) (te : TE) (me : MF) : Prop where
 run : ∀ {d : Nat} {m : Env} {s : L2.St} {σ : Sl} {g : G} {H : Hp} (Q : VK), Mt K d m s σ g H →
 (me σ g).sat (fun a g' => ∀ m' H' v, Mt K d m' s σ g' H' → Ext K d m H (Lv d m σ g) m' H' (Lv d m' σ g') → RT K m' H (Lv d m σ g) H' v a → Q v H') (EK K d m H (Lv d m σ g) E) → te s H Q
instance {E : XK} {te : TE} {me : MF} : CoeFun (SimF K E te me) fun _ => ∀ {d : Nat} {m : Env} {s : L2.St} {σ : Sl} {g : G} {H : Hp} (Q : VK), Mt K d m s σ g H →
 (me σ g).sat (fun a g' => ∀ m' H' v, Mt K d m' s σ g' H' → Ext K d m H (Lv d m σ g) m' H' (Lv d m' σ g') → RT K m' H (Lv d m σ g) H' v a → Q v H') (EK K d m H (Lv d m σ g) E) → te s H Q
:= ⟨SimF.run⟩
structure SimT (E : XK) (tt : TT) (mt : MT) : Prop where
 run : ∀ {d : Nat} {m : Env} {s : L2.St} {σ : Sl} {g : G} {H : Hp} (Q : Bool → Hp → Prop), Mt K d m s σ g H →
 (mt σ g).sat (fun b g' => ∀ m' H', Mt K d m' s σ g' H' → Ext K d m H (Lv d m σ g) m' H' (Lv d m' σ g') → Q b H') (EK K d m H (Lv d m σ g) E) → tt s H Q
instance {E : XK} {tt : TT} {mt : MT} : CoeFun (SimT K E tt mt) fun _ => ∀ {d : Nat} {m : Env} {s : L2.St} {σ : Sl} {g : G} {H : Hp} (Q : Bool → Hp → Prop), Mt K d m s σ g H →
 (mt σ g).sat (fun b g' => ∀ m' H', Mt K d m' s σ g' H' → Ext K d m H (Lv d m σ g) m' H' (Lv d m' σ g') → Q b H') (EK K d m H (Lv d m σ g) E) → tt s H Q
:= ⟨SimT.run⟩
structure SimA (E : XK) (ta : TA) (ma : MA) : Prop where
 run : ∀ {d : Nat} {m : Env} {s : L2.St} {σ : Sl} {g : G} {H : Hp} (Q : List V → Hp → Prop), Mt K d m s σ g H →
 (ma σ g).sat (fun as g' => ∀ m' H' vs, Mt K d m' s σ g' H' → Ext K d m H (Lv d m σ g) m' H' (Lv d m' σ g') → RVs K m' H' vs as → Q vs H') (EK K d m H (Lv d m σ g) E) → ta s H Q
instance {E : XK} {ta : TA} {ma : MA} : CoeFun (SimA K E ta ma) fun _ => ∀ {d : Nat} {m : Env} {s : L2.St} {σ : Sl} {g : G} {H : Hp} (Q : List V → Hp → Prop), Mt K d m s σ g H →
 (ma σ g).sat (fun as g' => ∀ m' H' vs, Mt K d m' s σ g' H' → Ext K d m H (Lv d m σ g) m' H' (Lv d m' σ g') → RVs K m' H' vs as → Q vs H') (EK K d m H (Lv d m σ g) E) → ta s H Q
:= ⟨SimA.run⟩
def OK (d : Nat) (m : Env) (H : Hp) (L : Addr → Prop) (D : Ends) : O → G → Prop
 | .nx σ', g' => ∀ m' s' H', Mt K d m' s' σ' g' H' → Ext K d m H L m' H' (Lv d m' σ' g') → D.nx s' H'
 | .rt fv, g' => ∀ m' s' σ' H' v, Mt K d m' s' σ' g' H' → Ext K d m H L m' H' (Lv d m' σ' g') → RR K d m' H L H' v fv → D.rt v H'
 | .bk σ', g' => ∀ m' s' H', Mt K d m' s' σ' g' H' → Ext K d m H L m' H' (Lv d m' σ' g') → D.bk s' H'
 | .ct σ', g' => ∀ m' s' H', Mt K d m' s' σ' g' H' → Ext K d m H L m' H' (Lv d m' σ' g') → D.ct s' H'
structure SimS (E : XK) (ts : TS) (ms : MS) : Prop where
 run : ∀ {d : Nat} {m : Env} {s : L2.St} {σ : Sl} {g : G} {H : Hp} (D : Ends), Mt K d m s σ g H → (ms σ g).sat (OK K d m H (Lv d m σ g) D) (EK K d m H (Lv d m σ g) E) → ts D s H
instance {E : XK} {ts : TS} {ms : MS} : CoeFun (SimS K E ts ms) fun _ => ∀ {d : Nat} {m : Env} {s : L2.St} {σ : Sl} {g : G} {H : Hp} (D : Ends), Mt K d m s σ g H → (ms σ g).sat (OK K d m H (Lv d m σ g) D) (EK K d m H (Lv d m σ g) E) → ts D s H
:= ⟨SimS.run⟩
end
def mQ (q : QE) : ME := fun σ g => match q σ g with
 | some a => .ok a g
 | none => .no
def mQT (q : QT) : MT := fun σ g => match q σ g with
 | some a => .ok a g
 | none => .no
def mVal (me : ME) : MF := fun σ g => (me σ g).bind fun a g' => .ok (.val a) g'
def mFrz (mf : MF) : ME := fun σ g => (mf σ g).bind fun a g' => .ok (toA a) g'
section
variable {K : PySem.W.Frag} {E : XK} {te : TE} {q : QE} {me : ME} {mf : MF} {tt : TT} {qt : QT}
theorem SimQ.w (h : SimQ K te q) : SimW K te q := .mk fun Q a M e f => h Q a M e fun H' v k r => f H' v k r.rw
theorem SimQ.e (h : SimQ K te q) : SimE K E te (mQ q) := .mk fun {d m s σ g H} Q M f => by
 unfold mQ at f
 cases e : q σ g with
 | none => rw [e] at f; exact f.elim
 | some a =>
  rw [e] at f
  exact h Q a M e fun H' v k r => f m H' v (M.quiet k) (Ext.quiet k) r
theorem SimQT.t (h : SimQT K tt qt) : SimT K E tt (mQT qt) := .mk fun {d m s σ g H} Q M f => by
 unfold mQT at f
 cases e : qt σ g with
 | none => rw [e] at f; exact f.elim
 | some a =>
  rw [e] at f
  exact h Q a M e fun H' k => f m H' (M.quiet k) (Ext.quiet k)
theorem SimE.f (h : SimE K E te me) : SimF K E te (mVal me) := .mk fun Q M f => h Q M (by
 unfold mVal at f
 rw [sat_bind] at f
 exact f)
theorem SimF.e (h : SimF K E te mf) : SimE K E te (mFrz mf) := .mk fun {d m s σ g H} Q M f => h Q M (by
 unfold mFrz at f
 rw [sat_bind] at f
 refine sat_mono (fun a g' z m' H' v M' e r => ?_) (fun _ _ z => z) f
 obtain ⟨m2, M2, e2, r2⟩ := M'.freeze e r
 exact z m2 H' v M2 e2 r2)
end
section
variable (K : PySem.W.Frag)
structure SimN (te : TE) (q : Sl → G → Option C) : Prop where
 run : ∀ {d : Nat} {m : Env} {s : L2.St} {σ : Sl} {g : G} {H : Hp} (Q : VK) (c : C), Mt K d m s σ g H → q σ g = some c → (∀ H' p o, Kp (tabs K) No H H' → H' p = none → OC K m H' o c → Q (.ref p) (upd H' p o)) → te s H Q
instance {te : TE} {q : Sl → G → Option C} : CoeFun (SimN K te q) fun _ => ∀ {d : Nat} {m : Env} {s : L2.St} {σ : Sl} {g : G} {H : Hp} (Q : VK) (c : C), Mt K d m s σ g H → q σ g = some c → (∀ H' p o, Kp (tabs K) No H H' → H' p = none → OC K m H' o c → Q (.ref p) (upd H' p o)) → te s H Q
:= ⟨SimN.run⟩
structure SimAQ (ta : TA) (q : Sl → G → Option (List A)) : Prop where
 run : ∀ {d : Nat} {m : Env} {s : L2.St} {σ : Sl} {g : G} {H : Hp} (Q : List V → Hp → Prop) (as : List A), Mt K d m s σ g H → q σ g = some as → (∀ H' vs, Kp (tabs K) No H H' → RVs K m H' vs as → Q vs H') → ta s H Q
instance {ta : TA} {q : Sl → G → Option (List A)} : CoeFun (SimAQ K ta q) fun _ => ∀ {d : Nat} {m : Env} {s : L2.St} {σ : Sl} {g : G} {H : Hp} (Q : List V → Hp → Prop) (as : List A), Mt K d m s σ g H → q σ g = some as → (∀ H' vs, Kp (tabs K) No H H' → RVs K m H' vs as → Q vs H') → ta s H Q
:= ⟨SimAQ.run⟩
def RWs (m : Env) (H : Hp) : List V → List A → Prop := Paired (RW K m H)
structure SimAW (ta : TA) (q : Sl → G → Option (List A)) : Prop where
 run : ∀ {d : Nat} {m : Env} {s : L2.St} {σ : Sl} {g : G} {H : Hp} (Q : List V → Hp → Prop) (as : List A), Mt K d m s σ g H → q σ g = some as → (∀ H' vs, Kp (tabs K) No H H' → RWs K m H' vs as → Q vs H') → ta s H Q
instance {ta : TA} {q : Sl → G → Option (List A)} : CoeFun (SimAW K ta q) fun _ => ∀ {d : Nat} {m : Env} {s : L2.St} {σ : Sl} {g : G} {H : Hp} (Q : List V → Hp → Prop) (as : List A), Mt K d m s σ g H → q σ g = some as → (∀ H' vs, Kp (tabs K) No H H' → RWs K m H' vs as → Q vs H') → ta s H Q
:= ⟨SimAW.run⟩
structure R2Q (r : R2) (f : A → A → Option A) : Prop where
 run : ∀ {m : Env} {H : Hp} {x y : V} {a b c : A} (Q : VK), (∀ p, Nw H p → m.ow p = none) → RW K m H x a → RW K m H y b → f a b = some c → (∀ H' v, Kp (tabs K) No H H' → RV K m H' v c → Q v H') → r x y H Q
instance {r : R2} {f : A → A → Option A} : CoeFun (R2Q K r f) fun _ => ∀ {m : Env} {H : Hp} {x y : V} {a b c : A} (Q : VK), (∀ p, Nw H p → m.ow p = none) → RW K m H x a → RW K m H y b → f a b = some c → (∀ H' v, Kp (tabs K) No H H' → RV K m H' v c → Q v H') → r x y H Q
:= ⟨R2Q.run⟩
structure R2N (r : R2) (f : A → A → Option C) : Prop where
 run : ∀ {m : Env} {H : Hp} {x y : V} {a b : A} {c : C} (Q : VK), (∀ p, Nw H p → m.ow p = none) → RW K m H x a → RW K m H y b → f a b = some c → (∀ p o, H p = none → OC K m H o c → Q (.ref p) (upd H p o)) → r x y H Q
instance {r : R2} {f : A → A → Option C} : CoeFun (R2N K r f) fun _ => ∀ {m : Env} {H : Hp} {x y : V} {a b : A} {c : C} (Q : VK), (∀ p, Nw H p → m.ow p = none) → RW K m H x a → RW K m H y b → f a b = some c → (∀ p o, H p = none → OC K m H o c → Q (.ref p) (upd H p o)) → r x y H Q
:= ⟨R2N.run⟩
structure CBQ (r : List V → Hp → VK → Prop) (f : List A → Option A) : Prop where
 run : ∀ {m : Env} {H : Hp} {vs : List V} {as : List A} {c : A} (Q : VK), (∀ p, Nw H p → m.ow p = none) → RWs K m H vs as → f as = some c → (∀ H' v, Kp (tabs K) No H H' → RV K m H' v c → Q v H') → r vs H Q
instance {r : List V → Hp → VK → Prop} {f : List A → Option A} : CoeFun (CBQ K r f) fun _ => ∀ {m : Env} {H : Hp} {vs : List V} {as : List A} {c : A} (Q : VK), (∀ p, Nw H p → m.ow p = none) → RWs K m H vs as → f as = some c → (∀ H' v, Kp (tabs K) No H H' → RV K m H' v c → Q v H') → r vs H Q
:= ⟨CBQ.run⟩
structure CBN (r : List V → Hp → VK → Prop) (f : List A → Option C) : Prop where
 run : ∀ {m : Env} {H : Hp} {vs : List V} {as : List A} {c : C} (Q : VK), (∀ p, Nw H p → m.ow p = none) → RWs K m H vs as → f as = some c → (∀ p o, H p = none → OC K m H o c → Q (.ref p) (upd H p o)) → r vs H Q
instance {r : List V → Hp → VK → Prop} {f : List A → Option C} : CoeFun (CBN K r f) fun _ => ∀ {m : Env} {H : Hp} {vs : List V} {as : List A} {c : C} (Q : VK), (∀ p, Nw H p → m.ow p = none) → RWs K m H vs as → f as = some c → (∀ p o, H p = none → OC K m H o c → Q (.ref p) (upd H p o)) → r vs H Q
:= ⟨CBN.run⟩
end
def qC (a : A) : QE := fun _ _ => some a
def qVar (i : Nat) : QE := fun σ _ => match σ[i]? with
 | some (some (.val a)) => some a
 | _ => none
def wVar (i : Nat) : QE := fun σ _ => match σ[i]? with
 | some (some x) => some (toA x)
 | _ => none
def fA (cs : List Str) (f : Str) : Option AO → Option Fv
 | some (.ins cn fs) => if cs.contains cn then fs.lookup f else none
 | _ => none
def vF : Option Fv → Option A
 | some (.val a) => some a
 | _ => none
def qFld (cs : List Str) (q : QE) (f : Str) : QE := fun σ g => match q σ g with
 | some (.ref l) => vF (fA cs f (g.o l))
 | _ => none
def wFld (cs : List Str) (q : QE) (f : Str) : QE := fun σ g => match q σ g with
 | some (.ref l) => (fA cs f (g.o l)).map toA
 | _ => none
def o2 {α : Type} (f : A → A → Option α) (qa qb : QE) : Sl → G → Option α := fun σ g => match qa σ g with
 | some a => match qb σ g with
  | some b => f a b
  | none => none
 | none => none
def o1 {α : Type} (f : A → Option α) (qa : QE) : Sl → G → Option α := fun σ g => match qa σ g with
 | some a => f a
 | none => none
def oL {α : Type} (f : List A → Option α) (qa : Sl → G → Option (List A)) : Sl → G → Option α := fun σ g => match qa σ g with
 | some a => f a
 | none => none
def aNil : Sl → G → Option (List A) := fun _ _ => some []
def aCons (q : QE) (r : Sl → G → Option (List A)) : Sl → G → Option (List A) := fun σ g => match q σ g with
 | some a => match r σ g with
  | some as => some (a :: as)
  | none => none
 | none => none
def qNew (q : Sl → G → Option C) : QE := fun σ g => (q σ g).map cA
def mNew (q : Sl → G → Option C) : MF := fun σ g => match q σ g with
 | some c => .ok (.own false c) g
 | none => .no
def FA (K : PySem.W.Frag) (cs : List Str) (f : Str) : Prop := ∀ cn ∈ cs, Cls K (He.ga K cn) ∧ NoAttr K (He.ga K cn) f
section
variable {K : PySem.W.Frag} {E : XK} {te ta tb tc : TE} {q0 qa qb qc : QE} {m : Env} {H H1 : Hp} {d : Nat} {s : L2.St} {σ : Sl} {g : G}
theorem RWs.quiet {xs : List A} {vs : List V} (k : Kp (tabs K) No H H1) (h : RWs K m H vs xs) : RWs K m H1 vs xs := L2.Paired.mapP h fun _ _ z => z.quiet k
theorem Mt.fr (M : Mt K d m s σ g H) : ∀ p, Nw H p → m.ow p = none := fun _ h => M.fresh h
theorem q_non : SimQ K (tC .non) (qC .non) := .mk fun Q a M e f => by cases e; exact f _ _ Kp.refl rfl
theorem q_bl {b : Bool} : SimQ K (tC (.bl b)) (qC (.bl b)) := .mk fun Q a M e f => by cases e; exact f _ _ Kp.refl rfl
theorem q_int {i : Int} : SimQ K (tC (.int i)) (qC (.int i)) := .mk fun Q a M e f => by cases e; exact f _ _ Kp.refl rfl
theorem q_str {i : Str} : SimQ K (tC (.str i)) (qC (.str i)) := .mk fun Q a M e f => by cases e; exact f _ _ Kp.refl rfl
theorem q_var {i : Nat} : SimQ K (tVar i) (qVar i) := .mk fun {d m s σ g H} Q a M e f => by
 unfold qVar at e
 split at e
 ·rename_i x h
  cases e
  obtain ⟨v, h1, h2⟩ := M.sl i _ h
  exact ⟨v, h1, f _ _ Kp.refl h2⟩
 ·cases e
theorem RC.rw {lk : Bool} {c : C} {b : Addr} (h : RC K m H b lk c) : RW K m H (.ref b) (cA c) := by
 cases c with
 | lst xs =>
  obtain ⟨vs, h1, h2⟩ := h
  exact ⟨b, vs, rfl, h1, h2⟩
 | dic xs =>
  cases lk with
  | false =>
   obtain ⟨vs, h1, h2⟩ := h
   exact ⟨b, vs, rfl, .inl h1, h2⟩
  | true =>
   obtain ⟨ob, vs, h1, h2⟩ := h
   exact ⟨b, vs, rfl, .inr ⟨ob, h1⟩, h2⟩
theorem RF.rw {p : Pl} {v : V} {x : Fv} (h : RF K m H p v x) : RW K m H v (toA x) := by
 cases x with
 | val a => exact RV.rw h
 | own lk c =>
  obtain ⟨h1, _, h2⟩ := h
  rw [h1]; exact h2.rw
theorem w_var {i : Nat} : SimW K (tVar i) (wVar i) := .mk fun {d m s σ g H} Q a M e f => by
 unfold wVar at e
 split at e
 ·rename_i x h
  cases e
  obtain ⟨v, h1, h2⟩ := M.sl i _ h
  exact ⟨v, h1, f _ _ Kp.refl h2.rw⟩
 ·cases e
theorem q_op {r : R2} {f : A → A → Option A} (hr : R2Q K r f) (ha : SimW K ta qa) (hb : SimW K tb qb) : SimQ K (tOp r ta tb) (o2 f qa qb) := .mk fun {d m s σ g H} Q c M e k => by
 unfold o2 at e
 cases e1 : qa σ g with
 | none => rw [e1] at e; cases e
 | some a =>
  rw [e1] at e
  cases e2 : qb σ g with
  | none => rw [e2] at e; cases e
  | some b =>
   rw [e2] at e
   refine ha _ _ M e1 fun H1 x k1 r1 => hb _ _ (M.quiet k1) e2 fun H2 y k2 r2 => ?_
   exact hr _ ((M.quiet k1).quiet k2).fr (r1.quiet k2) r2 e fun H' v k3 r3 => k H' v ((k1.trans k2 fun _ z => z.elim).trans k3 fun _ z => z.elim) r3
theorem n_op {r : R2} {f : A → A → Option C} (hr : R2N K r f) (ha : SimW K ta qa) (hb : SimW K tb qb) : SimN K (tOp r ta tb) (o2 f qa qb) := .mk fun {d m s σ g H} Q c M e k => by
 unfold o2 at e
 cases e1 : qa σ g with
 | none => rw [e1] at e; cases e
 | some a =>
  rw [e1] at e
  cases e2 : qb σ g with
  | none => rw [e2] at e; cases e
  | some b =>
   rw [e2] at e
   refine ha _ _ M e1 fun H1 x k1 r1 => hb _ _ (M.quiet k1) e2 fun H2 y k2 r2 => ?_
   exact hr _ ((M.quiet k1).quiet k2).fr (r1.quiet k2) r2 e fun p o hp ho => k H2 p o (k1.trans k2 fun _ z => z.elim) hp ho
theorem kpt {T : List (Addr × Str)} {H2 : Hp} (a : Kp T No H H1) (b : Kp T No H1 H2) : Kp T No H H2 := a.trans b fun _ z => z.elim
theorem SimN.q {qn : Sl → G → Option C} (h : SimN K te qn) : SimQ K te (qNew qn) := .mk fun {d m s σ g H} Q a M e k => by
 unfold qNew at e
 cases e1 : qn σ g with
 | none => rw [e1] at e; cases e
 | some c =>
  rw [e1] at e
  cases e
  refine h Q c M e1 fun H' p o kp hp ho => k _ _ (kp.new' hp) ?_
  have kn : Kp (tabs K) No H' (upd H' p o) := Kp.new hp
  have hw := (M.quiet kp).fresh (nw_of hp)
  cases o with
  | lst vs =>
   cases c with
   | lst xs => exact ⟨p, vs, rfl, upd_same, hw, RVs.quiet kn ho⟩
   | dic => exact ho.elim
  | dK vs =>
   cases c with
   | dic xs => exact ⟨p, vs, rfl, .inl upd_same, hw, RKs.quiet kn ho⟩
   | lst => exact ho.elim
  | _ => exact ho.elim
theorem SimN.f {qn : Sl → G → Option C} (h : SimN K te qn) : SimF K E te (mNew qn) := .mk fun {d m s σ g H} Q M f => by
 unfold mNew at f
 cases e1 : qn σ g with
 | none => rw [e1] at f; exact f.elim
 | some c =>
  rw [e1] at f
  refine h Q c M e1 fun H' p o kp hp ho => ?_
  obtain ⟨m1, M1, x1, r1⟩ := (M.quiet kp).fresh_tmp hp ho
  refine f m1 _ _ M1 ((Ext.quiet kp).trans x1) ?_
  obtain ⟨r2, b, r3, r4, r5, r6⟩ := r1
  exact ⟨r2, b, r3, r4, r5.imp (kp.dom b) (fun z => z), r6⟩
theorem aq_nil : SimAQ K tNil aNil := .mk fun Q as M e k => by cases e; exact k _ _ Kp.refl rfl
theorem aw_nil : SimAW K tNil aNil := .mk fun Q as M e k => by cases e; exact k _ _ Kp.refl .nil
theorem aq_cons {tr : TA} {qr : Sl → G → Option (List A)} (ha : SimQ K ta qa) (hr : SimAQ K tr qr) : SimAQ K (tCons ta tr) (aCons qa qr) := .mk fun {d m s σ g H} Q as M e k => by
 unfold aCons at e
 cases e1 : qa σ g with
 | none => rw [e1] at e; cases e
 | some a =>
  rw [e1] at e
  cases e2 : qr σ g with
  | none => rw [e2] at e; cases e
  | some b =>
   rw [e2] at e
   cases e
   exact ha _ _ M e1 fun H1 x k1 r1 => hr _ _ (M.quiet k1) e2 fun H2 ys k2 r2 => k H2 _ (kpt k1 k2) (.cons (r1.quiet k2) r2)
theorem aw_cons {tr : TA} {qr : Sl → G → Option (List A)} (ha : SimW K ta qa) (hr : SimAW K tr qr) : SimAW K (tCons ta tr) (aCons qa qr) := .mk fun {d m s σ g H} Q as M e k => by
 unfold aCons at e
 cases e1 : qa σ g with
 | none => rw [e1] at e; cases e
 | some a =>
  rw [e1] at e
  cases e2 : qr σ g with
  | none => rw [e2] at e; cases e
  | some b =>
   rw [e2] at e
   cases e
   exact ha _ _ M e1 fun H1 x k1 r1 => hr _ _ (M.quiet k1) e2 fun H2 ys k2 r2 => k H2 _ (kpt k1 k2) (.cons (r1.quiet k2) r2)
def fTup : List A → Option A := fun as => if as.length ≤ 1000 then some (.tup as) else none
def fLst : List A → Option C := fun as => if as.length ≤ 1000 then some (.lst as) else none
theorem small {n : Nat} (h : n ≤ 1000) : n ≤ sizeLine := by rw [sizeLine_eq]; omega
theorem q_tup {tr : TA} {qr : Sl → G → Option (List A)} (h : SimAQ K tr qr) : SimQ K (tTup tr) (oL fTup qr) := .mk fun {d m s σ g H} Q a M e k => by
 unfold oL at e
 cases e1 : qr σ g with
 | none => rw [e1] at e; cases e
 | some as =>
  rw [e1] at e
  have e : fTup as = some a := e
  unfold fTup at e
  split at e
  ·rename_i hl
   cases e
   refine h _ _ M e1 fun H1 vs k1 r1 => ⟨by rw [r1.length]; exact small hl, fun p hp => k _ _ (k1.new' hp) ⟨p, vs, rfl, upd_same, r1.quiet (Kp.new hp)⟩⟩
  ·cases e
theorem n_lst {tr : TA} {qr : Sl → G → Option (List A)} (h : SimAQ K tr qr) : SimN K (tLst tr) (oL fLst qr) := .mk fun {d m s σ g H} Q a M e k => by
 unfold oL at e
 cases e1 : qr σ g with
 | none => rw [e1] at e; cases e
 | some as =>
  rw [e1] at e
  have e : fLst as = some a := e
  unfold fLst at e
  split at e
  ·rename_i hl
   cases e
   refine h _ _ M e1 fun H1 vs k1 r1 => ⟨by rw [r1.length]; exact small hl, fun p hp => k H1 p (.lst vs) k1 hp r1⟩
  ·cases e
def nDic : Sl → G → Option C := fun _ _ => some (.dic [])
theorem n_dnew : SimN K tDNewK nDic := .mk fun Q c M e k => by
 cases e
 exact fun p hp => k _ p (.dK []) Kp.refl hp rfl
theorem q_cb {r : List V → Hp → VK → Prop} {f : List A → Option A} {tr : TA} {qr : Sl → G → Option (List A)} (hr : CBQ K r f) (h : SimAW K tr qr) : SimQ K (tCB r tr) (oL f qr) := .mk fun {d m s σ g H} Q a M e k => by
 unfold oL at e
 cases e1 : qr σ g with
 | none => rw [e1] at e; cases e
 | some as =>
  rw [e1] at e
  exact h _ _ M e1 fun H1 vs k1 r1 => hr Q (M.quiet k1).fr r1 e fun H' v k2 r2 => k H' v (kpt k1 k2) r2
def tB : A → Option Bool
 | .bl b => some b
 | _ => none
theorem qt_test (h : SimQ K te q0) : SimQT K (tTest te) (o1 tB q0) := .mk fun {d m s σ g H} Q b M e k => by
 unfold o1 at e
 cases e1 : q0 σ g with
 | none => rw [e1] at e; cases e
 | some a =>
  rw [e1] at e
  cases a with
  | bl c => cases e; exact h _ _ M e1 fun H1 v k1 r1 => ⟨_, r1, k H1 k1⟩
  | _ => cases e
def qNot (t : QT) : QT := fun σ g => (t σ g).map (!·)
def qAnd (t u : QT) : QT := fun σ g => match t σ g with
 | some true => u σ g
 | some false => some false
 | none => none
def qOr (t u : QT) : QT := fun σ g => match t σ g with
 | some true => some true
 | some false => u σ g
 | none => none
def qIf {α : Type} (t : QT) (a b : Sl → G → Option α) : Sl → G → Option α := fun σ g => match t σ g with
 | some true => a σ g
 | some false => b σ g
 | none => none
variable {tt tu : TT} {qt qu : QT}
theorem qt_not (h : SimQT K tt qt) : SimQT K (tNot tt) (qNot qt) := .mk fun {d m s σ g H} Q b M e k => by
 unfold qNot at e
 cases e1 : qt σ g with
 | none => rw [e1] at e; cases e
 | some a => rw [e1] at e; cases e; exact h _ _ M e1 fun H1 k1 => k H1 k1
theorem qt_and (h : SimQT K tt qt) (h2 : SimQT K tu qu) : SimQT K (tAnd tt tu) (qAnd qt qu) := .mk fun {d m s σ g H} Q b M e k => by
 unfold qAnd at e
 cases e1 : qt σ g with
 | none => rw [e1] at e; cases e
 | some a =>
  rw [e1] at e
  refine h _ _ M e1 fun H1 k1 => ?_
  cases a with
  | true => exact iteT (h2 _ _ (M.quiet k1) e fun H2 k2 => k H2 (kpt k1 k2))
  | false => cases e; exact iteF (k H1 k1)
theorem qt_or (h : SimQT K tt qt) (h2 : SimQT K tu qu) : SimQT K (tOr tt tu) (qOr qt qu) := .mk fun {d m s σ g H} Q b M e k => by
 unfold qOr at e
 cases e1 : qt σ g with
 | none => rw [e1] at e; cases e
 | some a =>
  rw [e1] at e
  refine h _ _ M e1 fun H1 k1 => ?_
  cases a with
  | true => cases e; exact iteT (k H1 k1)
  | false => exact iteF (h2 _ _ (M.quiet k1) e fun H2 k2 => k H2 (kpt k1 k2))
theorem qt_yes : SimQT K tYes (fun _ _ => some true) := .mk fun Q b M e k => by cases e; exact k _ Kp.refl
theorem q_if (h : SimQT K tt qt) (ha : SimQ K ta qa) (hb : SimQ K tb qb) : SimQ K (tIf tt ta tb) (qIf qt qa qb) := .mk fun {d m s σ g H} Q c M e k => by
 unfold qIf at e
 cases e1 : qt σ g with
 | none => rw [e1] at e; cases e
 | some a =>
  rw [e1] at e
  refine h _ _ M e1 fun H1 k1 => ?_
  cases a with
  | true => exact iteT (ha _ _ (M.quiet k1) e fun H2 v k2 r => k H2 v (kpt k1 k2) r)
  | false => exact iteF (hb _ _ (M.quiet k1) e fun H2 v k2 r => k H2 v (kpt k1 k2) r)
def tbA (o : Option Bool) : Option A := o.map .bl
def qAndV (a b : QE) : QE := fun σ g => match a σ g with
 | some (.bl true) => b σ g
 | some (.bl false) => some (.bl false)
 | _ => none
def qOrV (a b : QE) : QE := fun σ g => match a σ g with
 | some (.bl false) => b σ g
 | some (.bl true) => some (.bl true)
 | _ => none
theorem q_andV (ha : SimQ K ta qa) (hb : SimQ K tb qb) : SimQ K (tAndV ta tb) (qAndV qa qb) := .mk fun {d m s σ g H} Q c M e k => by
 unfold qAndV at e
 split at e
 ·rename_i e1
  exact ha _ _ M e1 fun H1 v k1 r1 => ⟨true, r1, iteT (hb _ _ (M.quiet k1) e fun H2 v k2 r => k H2 v (kpt k1 k2) r)⟩
 ·rename_i e1
  cases e
  exact ha _ _ M e1 fun H1 v k1 r1 => ⟨false, r1, iteF (k H1 _ k1 rfl)⟩
 ·cases e
theorem q_orV (ha : SimQ K ta qa) (hb : SimQ K tb qb) : SimQ K (tOrV ta tb) (qOrV qa qb) := .mk fun {d m s σ g H} Q c M e k => by
 unfold qOrV at e
 split at e
 ·rename_i e1
  exact ha _ _ M e1 fun H1 v k1 r1 => ⟨false, r1, iteF (hb _ _ (M.quiet k1) e fun H2 v k2 r => k H2 v (kpt k1 k2) r)⟩
 ·rename_i e1
  cases e
  exact ha _ _ M e1 fun H1 v k1 r1 => ⟨true, r1, iteT (k H1 _ k1 rfl)⟩
 ·cases e
def fNotV : A → Option A
 | .bl b => some (.bl (!b))
 | _ => none
end
end N
end
section
namespace Cm
open PySem PySem.Spec PyProof.Rows L2
open AutoSeq1 (wpAny_loadPart')
def tupIt (l : Addr) : Obj := { cls := .type "tuple_iterator", data := .fields #[.ref l, .int 0 0] }
def enuO (i : Addr) : Obj := { cls := .type "enumerate", data := .fields #[.none, .bool false, .ref i, rawInt 0, .none, .none] }
theorem mk_enumT (l : Addr) (zs : Array Value) (n : Nat) (dct : Option Addr) (sl : Array (Option Value)) :
  Meets (Builtin.«enumerate.__new__» ⟨[.type "enumerate", .ref l], []⟩) (fun _ R s => s.heap.get? l = some { cls := .type "tuple", dict := dct, data := .seq zs n, slots := sl } ∧
   R (.ok (.ret (.ref (s.heap.push (tupIt l)).objs.size))) { s with heap := (s.heap.push (tupIt l)).push (enuO s.heap.objs.size) }) :=
 .of_wp fun prog w A R s h => by
  obtain ⟨hp, g, d, tk, os⟩ := s; obtain ⟨hl, h⟩ := h
  have hsub := sub_enumerate
  have hL : Heap.IsTuple (Shared.heap ⟨hp, g, d, tk, os⟩) l zs := ⟨_, hl, rfl, n, rfl⟩
  wp_walk using wpAny_loadPart' hl
  refine wpAny_stack_any fun st => wpAny_pure ?_
  split
  ·rename_i c _ _ _ _ _
   cases (c == Value.type "enumerate") <;> (wp_walk using wpAny_loadPart' hl, wpAny_pyIter_tuple hL; exact ⟨_, rfl, h⟩)
  ·wp_walk using wpAny_loadPart' hl, wpAny_pyIter_tuple hL
   exact ⟨_, rfl, h⟩
section
variable {prog : Program} {w : World} {A : Around} {E : Value → Shared → Prop} {s : Shared}
theorem call_enumT {l : Addr} {zs : Array Value} {Q : Value → Shared → Prop} (hL : s.heap.IsTuple l zs)
  (h : ∀ h', IsEnum h' (s.heap.objs.size + 1) s.heap.objs.size 0 .none → h'.IsTupleIter s.heap.objs.size l 0 → h'.objs.size = s.heap.objs.size + 2 →
   (∀ b o, s.heap.get? b = some o → h'.get? b = some o) → Q (.ref (s.heap.objs.size + 1)) { s with heap := h' }) :
  wpAny (model prog w) A (call (.type "enumerate") [.ref l]) Q E s := by
 obtain ⟨⟨c, dct, dt, sl⟩, hl, hc, n, hd⟩ := hL
 replace hc : c = .type "tuple" := hc
 replace hd : dt = .seq zs n := hd
 subst hc hd
 refine callType_new F.called_enumerate (by decide) (F.typeCall_enumerate_1 _) (F.newCall_enumerate_1 _) (fun obj => F.args_object_init_2 obj _) F.entry_enumerate_new (mk_enumT l zs n dct sl) ⟨hl, ?_⟩
 have hz : (s.heap.push (tupIt l)).objs.size = s.heap.objs.size + 1 := Heap.size_push ..
 show _ ∧ _
 rw [hz]
 have he : IsEnum ((s.heap.push (tupIt l)).push (enuO s.heap.objs.size)) (s.heap.objs.size + 1) s.heap.objs.size 0 .none := by
  have q := Heap.get?_push_size (s.heap.push (tupIt l)) (o := enuO s.heap.objs.size) rfl
  rw [hz] at q; exact q
 exact ⟨⟨_, he, rfl⟩, h _ he ⟨_, Heap.get?_push_of_some _ (Heap.get?_push_size _ rfl), rfl, rfl⟩ (by rw [Heap.size_push, hz]) fun b o x => Heap.get?_push_of_some _ (Heap.get?_push_of_some _ x)⟩
end
def IteT (K : PySem.W.Frag) (a : Addr) : It :=
 ⟨fun i H => ∃ (xs : List V) (x : V), SqT K H a xs ∧ xs[i]? = some x, fun i H v H' => ∃ T x, v = .ref T ∧ H T = none ∧ H' = upd H T (.tup [.int (i : Nat), x]) ∧ ∀ xs, SqT K H a xs → xs[i]? = some x, fun i H => ∃ xs : List V, SqT K H a xs ∧ xs.length ≤ i⟩
theorem turn_enumT {P : Program} {w : World} {K : PySem.W.Frag} {elts : List Expr} {kk : Nat} {tpos : Pos} (a e it : Addr) (us : List Value) :
  Turn P w K (.Tuple elts kk tpos) (IteT K a) [e, it] e (fun i h => (∃ old, IsEnum h e it ((i : Nat) : Int) old) ∧ h.IsTupleIter it a i ∧ e ≠ it ∧ it ≠ a ∧ e ≠ a) where
 mem := by simp
 obj := fun i h st b hb => by
  obtain ⟨⟨old, he⟩, ⟨o, ho, hc, hd⟩, _⟩ := st
  have e' : b = e ∨ b = it := by simpa using hb
  rcases e' with z | z <;> rw [z]
  ·exact ⟨_, he, fun v q => nomatch q⟩
  ·exact ⟨o, ho, fun v q => by rw [hd] at q; cases q⟩
 keep := fun i h h' st k => let ⟨⟨old, he⟩, hi, hne⟩ := st; ⟨⟨old, k e (by simp) _ he⟩, hi.at fun o q => k it (by simp) o q, hne⟩
 item := by
  intro X hP hw hK hc i pins s σ H E I hf st hg
  subst hP hw hK
  obtain ⟨⟨old, he⟩, hit, hne, hia, hea⟩ := st
  obtain ⟨xs, x, hq, hx⟩ := hg
  obtain ⟨zs, rv, p, hz⟩ := I.tuple hq
  obtain ⟨u, hu, ru⟩ := rv.get hx
  have hel : e < s.heap.objs.size := Heap.lt_size he
  have hil : it < s.heap.objs.size := by obtain ⟨_, q, _⟩ := hit; exact Heap.lt_size q
  have hlt : i < zs.toArray.size := by
   have := (List.getElem?_eq_some_iff.mp hu).1
   simpa using this
  refine wpAny_pyNext_enum_itemD (i := i) (Draws.tuple (A := X.A.in1) (I.ok.hd hc) it a (Ne.symm hia) zs.toArray) he ⟨hit, p⟩ hlt hne (by simp [hne, hea]) fun y h' tk hy ho hst' hT hsz hk => ?_
  have ey : y = u := by
   have q : zs[i]? = some y := by simpa using hy
   rw [hu] at q; exact (Option.some.inj q).symm
  subst ey
  refine ⟨_, rfl, wpAny_letOwnedTupleGo_enum (s := { s with heap := h', toks := tk + 1 }) ho fun h'' he' sb => ?_⟩
  have hT2 : h''.get? s.heap.objs.size = some { cls := .type "tuple", data := .seq #[.int i tk, y] } := (sb.2 _ (Nat.ne_of_gt hel)).trans hT
  have new : ObjOk X.prog X.w (upd H s.heap.objs.size (.tup [.int (i : Nat), x])) h'' s.heap.objs.size (.tup [.int (i : Nat), x]) :=
   ⟨by show 2 ≤ sizeLine; decide, [.int i tk, y], .cons ⟨_, rfl⟩ (.cons ru .nil), ⟨_, hT2, rfl, _, rfl⟩⟩
  have I1 : Inv X pins σ (upd H s.heap.objs.size (.tup [.int (i : Nat), x])) { s with heap := h'', toks := tk + 1 } :=
   I.turnedNew (ch := [e, it]) (fun b ob hb q => (sb.2 b (fun z => hb (by simp [z]))).trans (hk b ob (fun z => hb (by simp [z])) (fun z => hb (by simp [z])) q)) hf (Nat.le_refl _) new
  refine ⟨.ref s.heap.objs.size, _, I1, rfl, ⟨_, x, rfl, I.hok.fresh (Nat.le_refl _), rfl, fun ys hy => by rw [I.tuple_inj hy hq]; exact hx⟩, ⟨⟨y, ?_⟩, hst'.1.at fun o q => (sb.2 it (Ne.symm hne)).trans q, hne, hia, hea⟩, fun b hb => ?_⟩
  ·have e1 : ((i + 1 : Nat) : Int) = (i : Int) + 1 := by omega
   rw [e1]; exact he'
  ·have hb' : b < s.heap.objs.size := by
    have e' : b = e ∨ b = it := by simpa using hb
    rcases e' with z | z <;> rw [z] <;> assumption
   rw [upd_ne (Nat.ne_of_lt hb')]
   exact (hf b hb).1
 done := by
  intro X hP hw hK hc i pins s σ H E I hf st hg
  subst hP hw hK
  obtain ⟨⟨old, he⟩, hit, hne, hia, hea⟩ := st
  obtain ⟨xs, hq, hx⟩ := hg
  obtain ⟨zs, rv, p, hz⟩ := I.tuple hq
  obtain ⟨f0, f1, f2, f3, f4, f5⟩ := hf it (by simp)
  have hl := rv.length
  have D : Draws X.prog X.w X.A.in1 it [it, a] i (fun _ _ => True) (fun j h => j = i ∧ h.IsTupleIter it a i ∧ h.IsTuple a zs.toArray) :=
   {live := fun _ _ st => let ⟨o, ho, _⟩ := st.2.1; ⟨o, ho⟩
    frame := fun _ _ _ st hk => ⟨st.1, st.2.1.at fun o e => hk it (by simp) o e, st.2.2.at fun o e => hk a (by simp) o e⟩
    item := fun j s Q E hj st _ => absurd st.1 (Nat.ne_of_lt hj)
    done := fun s Q E st hE => wpAny_nextOf_tuple_end (I.ok.hd hc) st.2.1 st.2.2 (by simp; omega) hE }
  exact wpAny_pyNext_enum_endD D he ⟨rfl, hit, p⟩ fun h' eb => ⟨rfl, I.turned (t' := s.toks) (fun b o hb q => eb b o hb q) f0 f1 f3 f4 f5⟩
 self := fun A i s Q E st h => let ⟨⟨_, he⟩, _⟩ := st; wpAny_pyIter_enum he h
def iEnumA (K : PySem.W.Frag) (ta : TA) : TI := fun σ H R => ta σ H fun vs H1 => ∃ a, vs = [.ref a] ∧ ((∃ xs, SqL K H1 a xs ∧ R (Ite K a) H1) ∨ ∃ xs, SqT K H1 a xs ∧ R (IteT K a) H1)
theorem pi_enumA {X : Cx} {e : Expr} {ta : TA} {p pos tpos : Pos} {elts : List Expr} {kk : Nat} (hg : Gl X "enumerate") (hm : X.mg "enumerate" = none) (ha : PA X [e] ta) (hs : starEach [e] X.env = [(false, eval e X.env)] := by rfl) :
  PI X (.Tuple elts kk tpos) (.Call (.Name "enumerate" p) [e] [] pos) (iEnumA X.K ta) := by
 refine ⟨fun pins s σ H R I h => ?_⟩
 refine Call_ (ld_blt I hg hm boot_enumerate (PyProof.Rows.callWith_type1 (thn (ha.run pos pins s σ H _ I h) fun us s1 ⟨vs, H1, I1, r1, q1⟩ => ?_) hs rfl))
 obtain ⟨a, rfl, q⟩ := q1
 cases r1 with
 | cons r rr =>
  cases rr
  cases r
  have fin : ∀ b, b = s1.heap.objs.size + 1 ∨ b = s1.heap.objs.size → FpOk X pins H1 b := fun b e' => by
   have hle : s1.heap.objs.size ≤ b := by
    rcases e' with z | z <;> rw [z]
    ·exact Nat.le_add_right _ _
    ·exact Nat.le_refl _
   exact I1.fpOk hle (I1.hok.fresh hle)
  rcases q with ⟨xs, hq, q⟩ | ⟨xs, hq, q⟩
  ·obtain ⟨zs, rv, p', hz⟩ := I1.list hq
   refine call_enumerate_list p'.isList fun h' he hit hsz hk => wpAny_pyIter_enum he ?_
   exact ⟨s1.heap.objs.size + 1, [s1.heap.objs.size + 1, s1.heap.objs.size], _, _, H1, rfl, I1.kept (t' := s1.toks) hk, turn_enum a (s1.heap.objs.size + 1) s1.heap.objs.size, ⟨⟨.none, he⟩, hit, Nat.succ_ne_self _⟩, fun b hb => fin b (by simpa using hb), q⟩
  ·obtain ⟨zs, rv, p', hz⟩ := I1.tuple hq
   have hlt : a < s1.heap.objs.size := by obtain ⟨o, ho, _⟩ := p'; exact Heap.lt_size ho
   refine call_enumT p' fun h' he hit hsz hk => wpAny_pyIter_enum he ?_
   exact ⟨s1.heap.objs.size + 1, [s1.heap.objs.size + 1, s1.heap.objs.size], _, _, H1, rfl, I1.kept (t' := s1.toks) hk, turn_enumT a (s1.heap.objs.size + 1) s1.heap.objs.size zs, ⟨⟨.none, he⟩, hit, Nat.succ_ne_self _, Nat.ne_of_gt hlt, Nat.ne_of_gt (Nat.lt_succ_of_lt hlt)⟩, fun b hb => fin b (by simpa using hb), q⟩
end Cm
end
section
namespace Cm
open PySem PySem.Spec PyProof.Rows L2
section
variable {K : PySem.W.Frag} {σ : L2.St} {H : Hp} {Q : VK} {D : Ends} {ta : TA} {g : TG} {tb : TS}
end
end Cm
end
section
namespace N
open PySem PySem.Spec PyProof.Rows L2 Cm W
theorem big {n : Nat} (h : n ≤ 100000) : n ≤ sizeLine := by rw [sizeLine_eq]; omega
def fI (f : Int → Int → A) : A → A → Option A
 | .int i, .int j => some (f i j)
 | _, _ => none
def fIc (c : Int → Int → Bool) (f : Int → Int → A) : A → A → Option A
 | .int i, .int j => if c i j then some (f i j) else none
 | _, _ => none
def cMod (_ j : Int) : Bool := decide (0 < j)
def cDiv (_ j : Int) : Bool := decide (0 < j ∧ j < 2 ^ 64)
def cPow (i j : Int) : Bool := decide (0 ≤ j ∧ j ≤ 1000000 ∧ i.natAbs < 2 ^ 64)
def cMul (i j : Int) : Bool := decide ((-(2 ^ 64) < i ∧ i < 2 ^ 64) ∨ (-(2 ^ 64) < j ∧ j < 2 ^ 64))
def fAdd : A → A → Option A
 | .int i, .int j => some (.int (i + j))
 | .str x, .str y => if x.length + y.length ≤ 100000 then some (.str (x ++ y)) else none
 | .tup xs, .tup ys => if xs.length + ys.length ≤ 100000 then some (.tup (xs ++ ys)) else none
 | _, _ => none
def nAdd : A → A → Option C
 | .lst xs, .lst ys => if xs.length + ys.length ≤ 100000 then some (.lst (xs ++ ys)) else none
 | _, _ => none
def fMul : A → A → Option A
 | .int i, .int j => if cMul i j then some (.int (i * j)) else none
 | _, _ => none
def nMul : A → A → Option C
 | .lst xs, .int k => if -(2 ^ 63) ≤ k ∧ k < 2 ^ 63 ∧ xs.length * k.toNat ≤ 100000 then some (.lst (List.replicate k.toNat xs).flatten) else none
 | _, _ => none
def keyA : A → Option Key
 | .int i => some (.inl i)
 | .str s => some (.inr s)
 | _ => none
def fIx : A → A → Option A
 | .lst xs, .int i => atI xs i
 | .tup xs, .int i => atI xs i
 | .dic kvs, k => match keyA k with
  | some k => getK kvs k
  | none => none
 | _, _ => none
def isNon : A → Bool
 | .non => true
 | _ => false
def fIsNo : A → A → Option A
 | a, .non => some (.bl (isNon a))
 | _, _ => none
def fNotNo : A → A → Option A
 | a, .non => some (.bl (!isNon a))
 | _, _ => none
def toV : A → Option V
 | .non => some .non
 | .bl b => some (.bl b)
 | .int i => some (.int i)
 | .str s => some (.str s)
 | _ => none
def flA (a : A) : Bool := (toV a).isSome
def eqF (a b : A) : Bool := match toV a, toV b with
 | some x, some y => eqV x y
 | _, _ => false
def inB (a : A) : A → Option Bool
 | .lst xs => if flA a && xs.all flA then some (xs.any fun y => eqF y a) else none
 | .tup xs => if flA a && xs.all flA then some (xs.any fun y => eqF y a) else none
 | .dic kvs => match keyA a with
  | some k => some (getK kvs k).isSome
  | none => none
 | _ => none
def fIn (a b : A) : Option A := (inB a b).map .bl
def fNotIn (a b : A) : Option A := (inB a b).map fun r => .bl (!r)
mutual
def toD : A → Option PyData
 | .non => some .none
 | .bl b => some (.bool b)
 | .int i => some (.int i)
 | .str s => some (.str s)
 | .tup xs => (toDs xs).map .tuple
 | .lst xs => (toDs xs).map .list
 | .dic _ => none
 | .ref _ => none
 | .gl _ => none
 | .ty _ => none
 | .scr _ => none
def toDs : List A → Option (List PyData)
 | [] => some []
 | x :: xs => match toD x with
  | some d => match toDs xs with
   | some ds => some (d :: ds)
   | none => none
  | none => none
end
def scA (a b : A) : Option Bool := match toV a, toV b with
 | some x, some y => if scal x y then some (decide (x = y)) else none
 | _, _ => none
def dEq (a b : A) : Option Bool := match toD a, toD b with
 | some d, some e => if SeqAt.shaped d && SeqAt.shaped e then some (PyData.eqv d e) else none
 | _, _ => none
def eqB (a b : A) : Option Bool := match scA a b with
 | some r => some r
 | none => match a, b with
  | .lst xs, .lst [] => some xs.isEmpty
  | a, b => dEq a b
def fEq (a b : A) : Option A := (eqB a b).map .bl
def fNe (a b : A) : Option A := (eqB a b).map fun r => .bl (!r)
section
variable {K : PySem.W.Frag} {m : Env} {H H1 : Hp}
theorem r2_i0 {gv : Int → Int → V} {f : Int → Int → A} (h : ∀ (m : Env) (H : Hp) i j, RV K m H (gv i j) (f i j)) : R2Q K (rI0 gv) (fI f) := .mk fun {m H x y a b c} Q hf ra rb e k => by
 unfold fI at e
 split at e
 ·cases e; exact ⟨_, _, ra, rb, k _ _ Kp.refl (h _ _ _ _)⟩
 ·cases e
theorem r2_i {C : Int → Int → Prop} {cb : Int → Int → Bool} {gv : Int → Int → V} {f : Int → Int → A} (hc : ∀ i j, cb i j = true → C i j) (h : ∀ (m : Env) (H : Hp) i j, RV K m H (gv i j) (f i j)) : R2Q K (rI C gv) (fIc cb f) := .mk fun {m H x y a b c} Q hf ra rb e k => by
 unfold fIc at e
 split at e
 ·split at e
  ·rename_i z
   cases e; exact ⟨_, _, ra, rb, hc _ _ z, k _ _ Kp.refl (h _ _ _ _)⟩
  ·cases e
 ·cases e
theorem c_div {i j : Int} (h : cDiv i j = true) : CDivW i j := by
 have h := of_decide_eq_true h
 exact Cm.wdiv h.1 h.2
theorem r2_add : R2Q K (rAddA K) fAdd := .mk fun {m H x y a b c} Q hf ra rb e k => by
 unfold fAdd at e
 split at e
 ·cases e; exact .inl (.inl (.inl ⟨_, _, ra, rb, k _ _ Kp.refl rfl⟩))
 ·split at e
  ·rename_i z
   cases e; exact .inl (.inl (.inr ⟨_, _, ra, rb, big z, k _ _ Kp.refl rfl⟩))
  ·cases e
 ·split at e
  ·rename_i xs ys z
   cases e
   obtain ⟨a1, vs, rfl, h1, h2⟩ := ra
   obtain ⟨b1, ws, rfl, h3, h4⟩ := rb
   refine .inr ⟨a1, b1, vs, ws, rfl, rfl, SqT.of h1, SqT.of h3, by rw [h2.length, h4.length]; exact big z, fun z => ?_, fun _ z => ?_, fun _ _ p hp => ?_⟩
   ·subst z
    refine k _ _ Kp.refl ⟨b1, ws, rfl, h3, ?_⟩
    have := h2.length
    cases xs with
    | nil => exact h4
    | cons => cases this
   ·subst z
    refine k _ _ Kp.refl ⟨a1, vs, rfl, h1, ?_⟩
    have := h4.length
    cases ys with
    | nil => rw [List.append_nil]; exact h2
    | cons => cases this
   ·exact k _ _ (Kp.new hp) ⟨p, _, rfl, upd_same, (h2.quiet (Kp.new hp)).append (h4.quiet (Kp.new hp))⟩
  ·cases e
 ·cases e
theorem r2n_add : R2N K (rAddA K) nAdd := .mk fun {m H x y a b c} Q hf ra rb e k => by
 unfold nAdd at e
 split at e
 ·split at e
  ·rename_i xs ys z
   cases e
   obtain ⟨a1, vs, rfl, h1, h2⟩ := ra
   obtain ⟨b1, ws, rfl, h3, h4⟩ := rb
   exact .inl (.inr ⟨a1, b1, vs, ws, rfl, rfl, h1, h3, by rw [h2.length, h4.length]; exact big z, fun p hp => k p _ hp (h2.append h4)⟩)
  ·cases e
 ·cases e
theorem at_len {xs : List A} {vs : List V} {i : Int} {x : A} (h : RVs K m H vs xs) (e : atI xs i = some x) : ∃ v, atI vs i = some v ∧ RV K m H v x := by
 unfold atI at *
 rw [h.length]
 obtain ⟨j, h1, h2⟩ := Option.bind_eq_some_iff.mp e
 obtain ⟨v, h3, h4⟩ := h.get h2
 exact ⟨v, by rw [h1]; exact h3, h4⟩
theorem key_rv {a : A} {v : V} {k : Key} (h : RW K m H v a) (e : keyA a = some k) : v = kV k := by
 unfold keyA at e
 split at e
 ·cases e; exact h
 ·cases e; exact h
 ·cases e
theorem r2_ix : R2Q K (rIxA K) fIx := .mk fun {m H x y a b c} Q hf ra rb e k => by
 unfold fIx at e
 split at e
 ·obtain ⟨a1, vs, rfl, h1, h2⟩ := ra
  obtain ⟨v, h3, h4⟩ := at_len h2 e
  exact .inl (.inl ⟨a1, vs, _, v, rfl, rb, SqL.of h1, h3, k _ _ Kp.refl h4⟩)
 ·obtain ⟨a1, vs, rfl, h1, h2⟩ := ra
  obtain ⟨v, h3, h4⟩ := at_len h2 e
  exact .inl (.inr (.inl ⟨a1, vs, _, v, rfl, rb, SqT.of h1, h3, k _ _ Kp.refl h4⟩))
 ·rename_i kvs
  cases hk : keyA b with
  | none => rw [hk] at e; cases e
  | some kk =>
   rw [hk] at e
   have e : getK kvs kk = some c := e
   obtain ⟨a1, ws, rfl, h1, h2⟩ := ra
   obtain ⟨v, h3, h4⟩ := h2.some e
   exact .inr ⟨a1, v, rfl, .inl ⟨ws, kk, h1, key_rv rb hk, h3.symm⟩, k _ _ Kp.refl h4⟩
 ·cases e
theorem non_iff : ∀ {a : A} {x : V}, RW K m H x a → decide (x = .non) = isNon a
 | .non, _, h => decide_eq_true h
 | .bl _, _, h => decide_eq_false (by rw [show _ = V.bl _ from h]; exact nofun)
 | .int _, _, h => decide_eq_false (by rw [show _ = V.int _ from h]; exact nofun)
 | .str _, _, h => decide_eq_false (by rw [show _ = V.str _ from h]; exact nofun)
 | .tup _, _, ⟨_, _, h, _⟩ => decide_eq_false (by rw [h]; exact nofun)
 | .lst _, _, ⟨_, _, h, _⟩ => decide_eq_false (by rw [h]; exact nofun)
 | .dic _, _, ⟨_, _, h, _⟩ => decide_eq_false (by rw [h]; exact nofun)
 | .ref _, _, h => decide_eq_false (by rw [h.1]; exact nofun)
 | .gl _, _, h => decide_eq_false (by rw [show _ = V.ref _ from h]; exact nofun)
 | .ty _, _, h => decide_eq_false (by rw [show _ = V.ty _ from h]; exact nofun)
 | .scr _, _, ⟨_, h, _⟩ => decide_eq_false (by rw [h]; exact nofun)
theorem r2_isNo : R2Q K rIsNo fIsNo := .mk fun {m H x y a b c} Q hf ra rb e k => by
 unfold fIsNo at e
 split at e
 ·cases e
  exact ⟨rb, by rw [non_iff ra]; exact k _ _ Kp.refl rfl⟩
 ·cases e
theorem r2_notNo : R2Q K rNotNo fNotNo := .mk fun {m H x y a b c} Q hf ra rb e k => by
 unfold fNotNo at e
 split at e
 ·cases e
  exact ⟨rb, by rw [non_iff ra]; exact k _ _ Kp.refl rfl⟩
 ·cases e
theorem v_of : ∀ {a : A} {v x : V}, RW K m H v a → toV a = some x → v = x ∧ flatV x = true ∧ RV K m H v a
 | .non, _, _, h, e => by cases e; exact ⟨h, rfl, h⟩
 | .bl _, _, _, h, e => by cases e; exact ⟨h, rfl, h⟩
 | .int _, _, _, h, e => by cases e; exact ⟨h, rfl, h⟩
 | .str _, _, _, h, e => by cases e; exact ⟨h, rfl, h⟩
 | .tup _, _, _, _, e => nomatch e
 | .lst _, _, _, _, e => nomatch e
 | .dic _, _, _, _, e => nomatch e
 | .ref _, _, _, _, e => nomatch e
 | .gl _, _, _, _, e => nomatch e
 | .ty _, _, _, _, e => nomatch e
 | .scr _, _, _, _, e => nomatch e
theorem fl_v {a : A} {v : V} (h : RV K m H v a) (e : flA a = true) : flatV v = true := by
 obtain ⟨x, e⟩ := Option.isSome_iff_exists.mp e
 obtain ⟨h1, h2, _⟩ := v_of h.rw e
 rw [h1]; exact h2
theorem RW.rv {a : A} {v : V} (h : RW K m H v a) (e : flA a = true) : RV K m H v a := by
 obtain ⟨x, e⟩ := Option.isSome_iff_exists.mp e
 exact (v_of h e).2.2
theorem eq_v {a b : A} {x y : V} (ha : RV K m H x a) (hb : RV K m H y b) (fa : flA a = true) (fb : flA b = true) : eqV x y = eqF a b := by
 obtain ⟨u, e1⟩ := Option.isSome_iff_exists.mp fa
 obtain ⟨w, e2⟩ := Option.isSome_iff_exists.mp fb
 unfold eqF
 rw [e1, e2, (v_of ha.rw e1).1, (v_of hb.rw e2).1]
theorem all_fl : ∀ {xs : List A} {vs : List V}, RVs K m H vs xs → xs.all flA = true → vs.all flatV = true
 | [], vs, h, _ => by rw [show vs = [] from h]; rfl
 | x :: xs, _, ⟨v, r, h1, h2, h3⟩, e => by
  rw [List.all_cons, Bool.and_eq_true] at e
  rw [h1, List.all_cons, Bool.and_eq_true]
  exact ⟨fl_v h2 e.1, all_fl h3 e.2⟩
theorem any_eq {a : A} {y : V} (ha : RV K m H y a) (fa : flA a = true) : ∀ {xs : List A} {vs : List V}, RVs K m H vs xs → xs.all flA = true → inV y vs = xs.any fun z => eqF z a
 | [], vs, h, _ => by rw [show vs = [] from h]; rfl
 | x :: xs, _, ⟨v, r, h1, h2, h3⟩, e => by
  rw [List.all_cons, Bool.and_eq_true] at e
  rw [h1, List.any_cons, ← any_eq ha fa h3 e.2]
  show (eqV v y || _) = _
  rw [eq_v h2 ha e.1 fa]; rfl
theorem in_core {neg : Bool} {a b : A} {x y : V} {r : Bool} {Q : VK} (ra : RW K m H x a) (rb : RW K m H y b) (e : inB a b = some r) (q : Q (.bl (if neg then !r else r)) H) : rIn K neg x y H Q ∨ (if neg then rDNotIn x y H Q else rDIn x y H Q) := by
 unfold inB at e
 split at e
 ·split at e
  ·rename_i xs z
   cases e
   rw [Bool.and_eq_true] at z
   obtain ⟨b1, ws, rfl, h3, h4⟩ := rb
   have ra := ra.rv z.1
   refine .inl ⟨b1, ws, rfl, .inl (SqL.of h3), fl_v ra z.1, all_fl h4 z.2, ?_⟩
   rw [any_eq ra z.1 h4 z.2]; exact q
  ·cases e
 ·split at e
  ·rename_i xs z
   cases e
   rw [Bool.and_eq_true] at z
   obtain ⟨b1, ws, rfl, h3, h4⟩ := rb
   have ra := ra.rv z.1
   refine .inl ⟨b1, ws, rfl, .inr (SqT.of h3), fl_v ra z.1, all_fl h4 z.2, ?_⟩
   rw [any_eq ra z.1 h4 z.2]; exact q
  ·cases e
 ·rename_i kvs
  cases hk : keyA a with
  | none => rw [hk] at e; cases e
  | some kk =>
   rw [hk] at e
   cases e
   obtain ⟨b1, ws, rfl, h1, h2⟩ := rb
   have hx := key_rv ra hk
   have hg : (valV ws kk).isSome = (getK kvs kk).isSome := by
    cases hz : getK kvs kk with
    | none => rw [h2.none hz]; rfl
    | some c =>
     obtain ⟨v, h3, _⟩ := h2.some hz
     rw [h3]; rfl
   refine .inr ?_
   cases neg with
   | true => exact ⟨b1, valV ws kk, rfl, .inl ⟨ws, kk, h1, hx, rfl⟩, by rw [hg]; exact q⟩
   | false => exact ⟨b1, valV ws kk, rfl, .inl ⟨ws, kk, h1, hx, rfl⟩, by rw [hg]; exact q⟩
 ·cases e
theorem r2_in : R2Q K (rInA K) fIn := .mk fun {m H x y a b c} Q hf ra rb e k => by
 unfold fIn at e
 cases z : inB a b with
 | none => rw [z] at e; cases e
 | some r => rw [z] at e; cases e; exact in_core (neg := false) ra rb z (k _ _ Kp.refl rfl)
theorem r2_notIn : R2Q K (rNotInA K) fNotIn := .mk fun {m H x y a b c} Q hf ra rb e k => by
 unfold fNotIn at e
 cases z : inB a b with
 | none => rw [z] at e; cases e
 | some r => rw [z] at e; cases e; exact in_core (neg := true) ra rb z (k _ _ Kp.refl rfl)
mutual
theorem rv_dp : ∀ {a : A} {v : V} {d : PyData}, RV K m H v a → toD a = some d → Dp K H v d
 | .non, _, _, h, e => by cases e; rw [show _ = V.non from h]; exact .non
 | .bl _, _, _, h, e => by cases e; rw [show _ = V.bl _ from h]; exact .bl _
 | .int _, _, _, h, e => by cases e; rw [show _ = V.int _ from h]; exact .int _
 | .str _, _, _, h, e => by cases e; rw [show _ = V.str _ from h]; exact .str _
 | .tup xs, _, d, ⟨a, vs, h1, h2, h3⟩, e => by
  obtain ⟨ds, e1, e2⟩ := Option.map_eq_some_iff.mp (show (toDs xs).map .tuple = some d from e)
  subst e2 h1
  exact .tup (SqT.of h2) (rvs_dp h3 e1)
 | .lst xs, _, d, ⟨a, vs, h1, h2, _, h3⟩, e => by
  obtain ⟨ds, e1, e2⟩ := Option.map_eq_some_iff.mp (show (toDs xs).map .list = some d from e)
  subst e2 h1
  exact .lst (SqL.of h2) (rvs_dp h3 e1)
 | .dic _, _, _, _, e => nomatch e
 | .ref _, _, _, _, e => nomatch e
 | .gl _, _, _, _, e => nomatch e
 | .ty _, _, _, _, e => nomatch e
 | .scr _, _, _, _, e => nomatch e
theorem rvs_dp : ∀ {xs : List A} {vs : List V} {ds : List PyData}, RVs K m H vs xs → toDs xs = some ds → DpAll K H vs ds
 | [], vs, ds, h, e => by
  cases e
  rw [show vs = [] from h]; exact .nil
 | x :: xs, _, ds, ⟨v, r, h1, h2, h3⟩, e => by
  have e : (match toD x with | some d => (match toDs xs with | some ds => some (d :: ds) | none => none) | none => none) = some ds := e
  cases e1 : toD x with
  | none => rw [e1] at e; cases e
  | some d =>
   rw [e1] at e
   cases e2 : toDs xs with
   | none => rw [e2] at e; cases e
   | some ds' =>
    rw [e2] at e
    cases e
    subst h1
    exact .cons (rv_dp h2 e1) (rvs_dp h3 e2)
end
theorem rw_dp {a : A} {v : V} {d : PyData} (h : RW K m H v a) (e : toD a = some d) : Dp K H v d := by
 cases a with
 | lst xs =>
  obtain ⟨b, vs, h1, h2, h3⟩ := h
  obtain ⟨ds, e1, e2⟩ := Option.map_eq_some_iff.mp (show (toDs xs).map .list = some d from e)
  subst e2 h1
  exact .lst (SqL.of h2) (rvs_dp h3 e1)
 | dic => cases e
 | _ => exact rv_dp (K := K) (m := m) (H := H) h e
theorem sc_v {a b : A} {x y : V} {r : Bool} (ha : RW K m H x a) (hb : RW K m H y b) (e : scA a b = some r) : scal x y = true ∧ decide (x = y) = r := by
 unfold scA at e
 cases e1 : toV a with
 | none => rw [e1] at e; cases e
 | some u =>
  rw [e1] at e
  cases e2 : toV b with
  | none => rw [e2] at e; cases e
  | some w =>
   rw [e2] at e
   have e : (if scal u w then some (decide (u = w)) else none) = some r := e
   rw [(v_of ha e1).1, (v_of hb e2).1]
   split at e
   ·rename_i hs
    cases e; exact ⟨hs, rfl⟩
   ·cases e
theorem eq_core {a b : A} {x y : V} {r : Bool} (ra : RW K m H x a) (rb : RW K m H y b) (e : eqB a b = some r) : (∀ Q : VK, Q (.bl r) H → rEqA K x y H Q) ∧ ∀ Q : VK, Q (.bl (!r)) H → rNeA K x y H Q := by
 unfold eqB at e
 cases z : scA a b with
 | some r' =>
  rw [z] at e
  cases e
  obtain ⟨h1, h2⟩ := sc_v ra rb z
  exact ⟨fun Q q => .inl (.inl ⟨h1, by rw [h2]; exact q⟩), fun Q q => .inl (.inl ⟨h1, by rw [h2]; exact q⟩)⟩
 | none =>
  rw [z] at e
  have dat : dEq a b = some r → (∀ Q : VK, Q (.bl r) H → rEqA K x y H Q) ∧ ∀ Q : VK, Q (.bl (!r)) H → rNeA K x y H Q := fun e => by
   unfold dEq at e
   cases e1 : toD a with
   | none => rw [e1] at e; cases e
   | some d =>
    rw [e1] at e
    cases e2 : toD b with
    | none => rw [e2] at e; cases e
    | some d2 =>
     rw [e2] at e
     have e : (if SeqAt.shaped d && SeqAt.shaped d2 then some (PyData.eqv d d2) else none) = some r := e
     split at e
     ·rename_i hs
      rw [Bool.and_eq_true] at hs
      cases e
      exact ⟨fun Q q => .inr ⟨d, d2, rw_dp ra e1, rw_dp rb e2, hs.1, hs.2, q⟩, fun Q q => .inr ⟨d, d2, rw_dp ra e1, rw_dp rb e2, hs.1, hs.2, q⟩⟩
     ·cases e
  dsimp only at e
  split at e
  ·rename_i xs
   cases e
   obtain ⟨a1, vs, rfl, h1, h2⟩ := ra
   obtain ⟨b1, ws, rfl, h3, h4⟩ := rb
   have h4 : ws = [] := h4
   subst h4
   have hv : vs.isEmpty = xs.isEmpty := by
    have := h2.length
    cases vs <;> cases xs <;> first | rfl | cases this
   exact ⟨fun Q q => .inl (.inr ⟨a1, b1, vs, rfl, rfl, SqL.of h1, SqL.of h3, by rw [hv]; exact q⟩), fun Q q => .inl (.inr ⟨a1, b1, vs, rfl, rfl, SqL.of h1, SqL.of h3, by rw [hv]; exact q⟩)⟩
  ·exact dat e
theorem r2_eq : R2Q K (rEqA K) fEq := .mk fun {m H x y a b c} Q hf ra rb e k => by
 unfold fEq at e
 cases z : eqB a b with
 | none => rw [z] at e; cases e
 | some r => rw [z] at e; cases e; exact (eq_core ra rb z).1 _ (k _ _ Kp.refl rfl)
theorem r2_ne : R2Q K (rNeA K) fNe := .mk fun {m H x y a b c} Q hf ra rb e k => by
 unfold fNe at e
 cases z : eqB a b with
 | none => rw [z] at e; cases e
 | some r => rw [z] at e; cases e; exact (eq_core ra rb z).2 _ (k _ _ Kp.refl rfl)
end
end N
end
section
namespace N
open PySem PySem.Spec PyProof.Rows L2 Cm W
section
variable {K : PySem.W.Frag} {E : XK} {te ta tb tc : TE} {ma mb me : ME} {q0 qa qb qc : QE} {m m1 : Env} {H H1 : Hp} {d : Nat} {s : L2.St} {σ : Sl} {g : G} {tt tu : TT} {mt mu : MT} {tr : TA} {mr : MA} {L L1 : Addr → Prop} {mf : MF}
theorem lvo : ∀ a, Lv d m σ g a → m.ow a ≠ none := fun _ h => h.ow
theorem seqE {α : Type} {r : R α} {P P' : α → G → Prop} {E1 E2 : Ex → G → Prop} (h : r.sat P E1) (hp : ∀ a g, P a g → P' a g) (he : ∀ e g, E1 e g → E2 e g) : r.sat P' E2 := sat_mono hp he h
def ofO {α : Type} (o : Option α) (g : G) : R α := match o with
 | some z => .ok z g
 | none => .no
theorem sat_ofO {α : Type} {o : Option α} {P : α → G → Prop} {E1 : Ex → G → Prop} (h : (ofO o g).sat P E1) : ∃ z, o = some z ∧ P z g := by
 cases o with
 | none => exact h.elim
 | some z => exact ⟨z, rfl, h⟩
def m2 {α : Type} (f : A → A → Option α) (a b : ME) : Sl → G → R α := fun σ g => (a σ g).bind fun x g1 => (b σ g1).bind fun y g2 => ofO (f x y) g2
theorem e_op {r : R2} {f : A → A → Option A} (hr : R2Q K r f) (ha : SimE K E ta ma) (hb : SimE K E tb mb) : SimE K E (tOp r ta tb) (m2 f ma mb) := .mk fun {d m s σ g H} Q M h => by
 unfold m2 at h
 rw [sat_bind] at h
 refine ha _ M (seqE h (fun x g1 h1 m1 H1 u M1 x1 r1 => ?_) fun _ _ z => z)
 rw [sat_bind] at h1
 refine hb _ M1 (seqE h1 (fun y g2 h2 m2 H2 w M2 x2 r2 => ?_) fun _ _ z => z.step x1)
 obtain ⟨z, e, h2⟩ := sat_ofO h2
 exact hr _ M2.fr (RV.ext lvo x2 r1).rw r2.rw e fun H' v k r3 => h2 m2 H' v (M2.quiet k) ((x1.trans x2).trans (Ext.quiet k)) r3
def m2W {α : Type} (f : A → A → Option α) (a : ME) (b : QE) : Sl → G → R α := fun σ g => (a σ g).bind fun x g1 => ofO ((b σ g1).bind (f x)) g1
theorem f_op {r : R2} {f : A → A → Option C} (hr : R2N K r f) (ha : SimE K E ta ma) (hb : SimE K E tb mb) : SimF K E (tOp r ta tb) (m2 (fun a b => (f a b).map (Fv.own false)) ma mb) := .mk fun {d m s σ g H} Q M h => by
 unfold m2 at h
 rw [sat_bind] at h
 refine ha _ M (seqE h (fun x g1 h1 m1 H1 u M1 x1 r1 => ?_) fun _ _ z => z)
 rw [sat_bind] at h1
 refine hb _ M1 (seqE h1 (fun y g2 h2 m2 H2 w M2 x2 r2 => ?_) fun _ _ z => z.step x1)
 obtain ⟨w2, e, h2⟩ := sat_ofO h2
 obtain ⟨z, e3, rfl⟩ := Option.map_eq_some_iff.mp e
 refine hr _ M2.fr (RV.ext lvo x2 r1).rw r2.rw e3 fun p o hp ho => ?_
 obtain ⟨m3, M3, x3, r3⟩ := M2.fresh_tmp hp ho
 refine h2 m3 _ _ M3 ((x1.trans x2).trans x3) ?_
 obtain ⟨r4, b, r5, r6, r7, r8⟩ := r3
 exact ⟨r4, b, r5, r6, .inl ((x1.trans x2).kp.dom b (by
  rcases r7 with r7 | r7
  ·exact r7
  ·cases r5; exact nw_of hp)), r8⟩
def maNil : MA := fun _ g => .ok [] g
def maCons (a : ME) (r : MA) : MA := fun σ g => (a σ g).bind fun x g1 => (r σ g1).bind fun xs g2 => .ok (x :: xs) g2
theorem a_nil : SimA K E tNil maNil := .mk fun {d m s σ g H} Q M h => h m H [] M Ext.refl rfl
theorem a_cons (ha : SimE K E ta ma) (hr : SimA K E tr mr) : SimA K E (tCons ta tr) (maCons ma mr) := .mk fun {d m s σ g H} Q M h => by
 unfold maCons at h
 rw [sat_bind] at h
 refine ha _ M (seqE h (fun x g1 h1 m1 H1 u M1 x1 r1 => ?_) fun _ _ z => z)
 rw [sat_bind] at h1
 exact hr _ M1 (seqE h1 (fun y g2 h2 m2 H2 w M2 x2 r2 => h2 m2 H2 _ M2 (x1.trans x2) (.cons (RV.ext lvo x2 r1) r2)) fun _ _ z => z.step x1)
def mL {α : Type} (f : List A → Option α) (a : MA) : Sl → G → R α := fun σ g => (a σ g).bind fun x g1 => ofO (f x) g1
theorem e_cb {r : List V → Hp → VK → Prop} {f : List A → Option A} (hr : CBQ K r f) (h0 : SimA K E tr mr) : SimE K E (tCB r tr) (mL f mr) := .mk fun {d m s σ g H} Q M h => by
 unfold mL at h
 rw [sat_bind] at h
 refine h0 _ M (seqE h (fun x g1 h1 m1 H1 u M1 x1 r1 => ?_) fun _ _ z => z)
 obtain ⟨z, e, h1⟩ := sat_ofO h1
 exact hr _ M1.fr (L2.Paired.mapP (RVs.iff.mp r1) fun _ _ z => z.rw) e fun H' v k r3 => h1 m1 H' v (M1.quiet k) (x1.trans (Ext.quiet k)) r3
theorem e_tup (h0 : SimA K E tr mr) : SimE K E (tTup tr) (mL fTup mr) := .mk fun {d m s σ g H} Q M h => by
 unfold mL at h
 rw [sat_bind] at h
 refine h0 _ M (seqE h (fun x g1 h1 m1 H1 u M1 x1 r1 => ?_) fun _ _ z => z)
 obtain ⟨z, hz, h1⟩ := sat_ofO h1
 unfold fTup at hz
 split at hz
 ·rename_i hl
  cases hz
  exact ⟨by rw [r1.length]; exact small hl, fun p hp => h1 m1 _ _ (M1.quiet (Kp.new hp)) (x1.trans (Ext.quiet (Kp.new hp))) ⟨p, u, rfl, upd_same, r1.quiet (Kp.new hp)⟩⟩
 ·cases hz
theorem f_lst (h0 : SimA K E tr mr) : SimF K E (tLst tr) (mL (fun a => (fLst a).map (Fv.own false)) mr) := .mk fun {d m s σ g H} Q M h => by
 unfold mL at h
 rw [sat_bind] at h
 refine h0 _ M (seqE h (fun x g1 h1 m1 H1 u M1 x1 r1 => ?_) fun _ _ z => z)
 obtain ⟨w2, e, h1⟩ := sat_ofO h1
 obtain ⟨z, hz, rfl⟩ := Option.map_eq_some_iff.mp e
 unfold fLst at hz
 split at hz
 ·rename_i hl
  cases hz
  refine ⟨by rw [r1.length]; exact small hl, fun p hp => ?_⟩
  obtain ⟨m3, M3, x3, r3⟩ := M1.fresh_tmp (c := .lst x) (o := .lst u) hp r1
  refine h1 m3 _ _ M3 (x1.trans x3) ?_
  obtain ⟨r4, b, r5, r6, r7, r8⟩ := r3
  exact ⟨r4, b, r5, r6, .inl (x1.kp.dom b (by
   rcases r7 with r7 | r7
   ·exact r7
   ·cases r5; exact nw_of hp)), r8⟩
 ·cases hz
def mTest (a : ME) : MT := fun σ g => (a σ g).bind fun x g1 => ofO (tB x) g1
theorem t_test (ha : SimE K E ta ma) : SimT K E (tTest ta) (mTest ma) := .mk fun {d m s σ g H} Q M h => by
 unfold mTest at h
 rw [sat_bind] at h
 refine ha _ M (seqE h (fun x g1 h1 m1 H1 u M1 x1 r1 => ?_) fun _ _ z => z)
 cases x with
 | bl b => exact ⟨b, r1, h1 m1 H1 M1 x1⟩
 | _ => exact h1.elim
def mNot (t : MT) : MT := fun σ g => (t σ g).bind fun b g1 => .ok (!b) g1
theorem t_not (h0 : SimT K E tt mt) : SimT K E (tNot tt) (mNot mt) := .mk fun {d m s σ g H} Q M h => by
 unfold mNot at h
 rw [sat_bind] at h
 exact h0 _ M (seqE h (fun x g1 h1 m1 H1 M1 x1 => h1 m1 H1 M1 x1) fun _ _ z => z)
def mAnd (t u : MT) : MT := fun σ g => (t σ g).bind fun b g1 => if b then u σ g1 else .ok false g1
def mOr (t u : MT) : MT := fun σ g => (t σ g).bind fun b g1 => if b then .ok true g1 else u σ g1
theorem t_or (h0 : SimT K E tt mt) (h2 : SimT K E tu mu) : SimT K E (tOr tt tu) (mOr mt mu) := .mk fun {d m s σ g H} Q M h => by
 unfold mOr at h
 rw [sat_bind] at h
 refine h0 _ M (seqE h (fun x g1 h1 m1 H1 M1 x1 => ?_) fun _ _ z => z)
 cases x with
 | true => exact iteT (h1 m1 H1 M1 x1)
 | false => exact iteF (h2 _ M1 (seqE h1 (fun y g2 h3 m2 H2 M2 x2 => h3 m2 H2 M2 (x1.trans x2)) fun _ _ z => z.step x1))
def mIf {α : Type} (t : MT) (a b : Sl → G → R α) : Sl → G → R α := fun σ g => (t σ g).bind fun c g1 => if c then a σ g1 else b σ g1
theorem e_if (h0 : SimT K E tt mt) (ha : SimE K E ta ma) (hb : SimE K E tb mb) : SimE K E (tIf tt ta tb) (mIf mt ma mb) := .mk fun {d m s σ g H} Q M h => by
 unfold mIf at h
 rw [sat_bind] at h
 refine h0 _ M (seqE h (fun x g1 h1 m1 H1 M1 x1 => ?_) fun _ _ z => z)
 cases x with
 | true => exact iteT (ha _ M1 (seqE h1 (fun y g2 h3 m2 H2 v M2 x2 r => h3 m2 H2 v M2 (x1.trans x2) r) fun _ _ z => z.step x1))
 | false => exact iteF (hb _ M1 (seqE h1 (fun y g2 h3 m2 H2 v M2 x2 r => h3 m2 H2 v M2 (x1.trans x2) r) fun _ _ z => z.step x1))
variable {ts tv : TS} {ms mv : MS}
theorem RR.step {fv : Fv} {m' : Env} {H' : Hp} {v : V} (x : Ext K d m H L m1 H1 L1) (h : RR K d m' H1 L1 H' v fv) : RR K d m' H L H' v fv := by
 cases fv with
 | val a => exact h
 | own lk c =>
  obtain ⟨h1, b, h2, h3, h4, h5⟩ := h
  refine ⟨h1, b, h2, h3, ?_, h5⟩
  rcases h4 with h4 | h4
  ·exact .inl (x.kp.dom b h4)
  ·exact (x.gr b h4).symm
theorem OK.step {D : Ends} {o : O} {g' : G} (x : Ext K d m H L m1 H1 L1) (h : OK K d m H L D o g') : OK K d m1 H1 L1 D o g' := by
 cases o with
 | nx σ' => exact fun m' s' H' M e => h m' s' H' M (x.trans e)
 | bk σ' => exact fun m' s' H' M e => h m' s' H' M (x.trans e)
 | ct σ' => exact fun m' s' H' M e => h m' s' H' M (x.trans e)
 | rt fv => exact fun m' s' σ' H' v M e r => h m' s' σ' H' v M (x.trans e) (r.step x)
def mNext : MS := fun σ g => .ok (.nx σ) g
theorem s_next : SimS K E tNext mNext := .mk fun {d m s σ g H} D M h => h m s H M Ext.refl
def mSeq (a b : MS) : MS := fun σ g => (a σ g).bind fun o g1 => match o with
 | .nx σ1 => b σ1 g1
 | o => .ok o g1
theorem s_seq (ha : SimS K E ts ms) (hb : SimS K E tv mv) : SimS K E (tSeq ts tv) (mSeq ms mv) := .mk fun {d m s σ g H} D M h => by
 unfold mSeq at h
 rw [sat_bind] at h
 refine ha _ M (seqE h (fun o g1 h1 => ?_) fun _ _ z => z)
 cases o with
 | nx σ1 => exact fun m1 s1 H1 M1 x1 => hb D M1 (seqE h1 (fun o2 g2 h2 => OK.step x1 h2) fun _ _ z => z.step x1)
 | rt fv => exact h1
 | bk σ1 => exact h1
 | ct σ1 => exact h1
def mDrop (f : MF) : MS := fun σ g => (f σ g).bind fun _ g1 => .ok (.nx σ) g1
theorem s_drop (h0 : SimF K E te mf) : SimS K E (tDrop te) (mDrop mf) := .mk fun {d m s σ g H} D M h => by
 unfold mDrop at h
 rw [sat_bind] at h
 exact h0 _ M (seqE h (fun x g1 h1 m1 H1 u M1 x1 r1 => h1 m1 s H1 M1 x1) fun _ _ z => z)
def mRet (f : MF) : MS := fun σ g => (f σ g).bind fun v g1 => .ok (.rt v) g1
theorem RT.rr {fv : Fv} {H0 : Hp} {L0 : Addr → Prop} {v : V} (h : RT K m H0 L0 H v fv) : RR K d m H0 L0 H v fv := by
 cases fv with
 | val a => exact h
 | own lk c =>
  obtain ⟨h1, b, h2, h3, h4, h5⟩ := h
  exact ⟨h1, b, h2, .inl h3, h4, h5⟩
theorem s_ret (h0 : SimF K E te mf) : SimS K E (tRet te) (mRet mf) := .mk fun {d m s σ g H} D M h => by
 unfold mRet at h
 rw [sat_bind] at h
 exact h0 _ M (seqE h (fun x g1 h1 m1 H1 u M1 x1 r1 => h1 m1 s σ H1 u M1 x1 r1.rr) fun _ _ z => z)
def mRetN : MS := fun _ g => .ok (.rt (.val .non)) g
theorem s_retN : SimS K E tRetN mRetN := .mk fun {d m s σ g H} D M h => h m s σ H .non M Ext.refl rfl
def mRetO (i : Nat) : MS := fun σ g => match σ[i]? with
 | some (some (.own false c)) => .ok (.rt (.own false c)) g
 | some (some (.val a)) => .ok (.rt (.val a)) g
 | _ => .no
theorem s_retO {i : Nat} : SimS K E (tRet (tVar i)) (mRetO i) := .mk fun {d m s σ g H} D M h => by
 unfold mRetO at h
 split at h
 ·rename_i c e
  obtain ⟨v, h1, h2, h3, h4⟩ := M.sl i _ e
  exact ⟨v, h1, h m s σ H v M Ext.refl ⟨rfl, _, h2, .inr ⟨i, h3⟩, .inr ⟨_, h3, rfl, _, e⟩, h4⟩⟩
 ·rename_i c e
  obtain ⟨v, h1, h2⟩ := M.sl i _ e
  exact ⟨v, h1, h m s σ H v M Ext.refl h2⟩
 ·exact h.elim
def mIfS (t : MT) (a b : MS) : MS := fun σ g => (t σ g).bind fun c g1 => if c then a σ g1 else b σ g1
theorem s_if (h0 : SimT K E tt mt) (ha : SimS K E ts ms) (hb : SimS K E tv mv) : SimS K E (tIfS tt ts tv) (mIfS mt ms mv) := .mk fun {d m s σ g H} D M h => by
 unfold mIfS at h
 rw [sat_bind] at h
 refine h0 _ M (seqE h (fun x g1 h1 m1 H1 M1 x1 => ?_) fun _ _ z => z)
 cases x with
 | true => exact iteT (ha D M1 (seqE h1 (fun o g2 h3 => OK.step x1 h3) fun _ _ z => z.step x1))
 | false => exact iteF (hb D M1 (seqE h1 (fun o g2 h3 => OK.step x1 h3) fun _ _ z => z.step x1))
def mRs (c : Str) : MS := fun _ g => .err ⟨c, none⟩ g
theorem s_rs {c : Str} : SimS K E (tRs E (He.ga K c)) (mRs c) := .mk fun {d m s σ g H} D M h => h m s σ H none M Ext.refl rfl
def setSl (σ : Sl) (i : Nat) (v : Fv) : Option Sl := match σ[i]? with
 | none => none
 | some (some (.own true _)) => none
 | _ => some (σ.set i (some v))
def mAsg (i : Nat) (f : MF) : MS := fun σ g => (f σ g).bind fun v g1 => ofO ((setSl σ i v).map .nx) g1
theorem setSl_some {i : Nat} {v : Fv} {σ1 : Sl} (h : setSl σ i v = some σ1) : i < σ.length ∧ (∀ c, σ[i]? ≠ some (some (.own true c))) ∧ σ1 = σ.set i (some v) := by
 unfold setSl at h
 split at h
 ·cases h
 ·cases h
 ·rename_i h1 h2
  cases h
  refine ⟨?_, fun c z => h2 c z, rfl⟩
  cases e : σ[i]? with
  | none => exact (h1 e).elim
  | some y => exact (List.getElem?_eq_some_iff.mp e).1
theorem s_asg {i : Nat} (h0 : SimF K E te mf) : SimS K E (tAsg te (gName i)) (mAsg i mf) := .mk fun {d m s σ g H} D M h => by
 unfold mAsg at h
 rw [sat_bind] at h
 refine h0 _ M (seqE h (fun x g1 h1 m1 H1 u M1 x1 r1 => ?_) fun _ _ z => z)
 obtain ⟨w2, e, h1⟩ := sat_ofO h1
 obtain ⟨σ1, e3, rfl⟩ := Option.map_eq_some_iff.mp e
 obtain ⟨hi, hk, rfl⟩ := setSl_some e3
 obtain ⟨t, ht, ht0⟩ := r1.newF
 obtain ⟨M2, x2⟩ := M1.slot hi hk ht ht0 x1
 exact h1 _ _ H1 M2 x2
def setFl (cs : List Str) (g : G) (l : Nat) (f : Str) (v : Fv) : Option G := match g.o l with
 | some (.ins cn fs) => if cs.contains cn && decide (fs.length < 900) then (match fs.lookup f with
  | some (.own true _) => none
  | _ => some (g.set l (.ins cn (pF f v fs)))) else none
 | _ => none
def refO : Option A → Option Nat
 | some (.ref l) => some l
 | _ => none
def mFld (cs : List Str) (qo : QE) (f : Str) (mv : MF) : MS := fun σ g => (mv σ g).bind fun v g1 => (ofO ((refO (qo σ g1)).bind fun l => setFl cs g1 l f v) g1).bind fun g2 _ => .ok (.nx σ) g2
theorem RT.quiet {H2 : Hp} {H0 : Hp} {L0 : Addr → Prop} {v : V} {fv : Fv} (k : Kp (tabs K) No H H2) (h : RT K m H0 L0 H v fv) : RT K m H0 L0 H2 v fv := by
 cases fv with
 | val a => exact RV.quiet k h
 | own lk c =>
  obtain ⟨h1, b, h2, h3, h4, h5⟩ := h
  exact ⟨h1, b, h2, h3, h4, h5.keep k (fun z => z) fun _ _ => RV.quiet k⟩
end
inductive P0 where
 | lab (l : Nat) | emb (l : Nat) (f : Str) | slot (i : Nat)
def P0.at (d : Nat) : P0 → Pl
 | .lab l => .lab l
 | .emb l f => .emb l f
 | .slot i => .slot d i
def getP (σ : Sl) (g : G) (p : P0) : Option (Bool × C) := getC σ g (p.at 0)
def putS (c : C) (σ : Sl) (p : P0) : Sl := setS false c σ (p.at 0)
def putG (c : C) (g : G) (p : P0) : G := setG false c g (p.at 0)
def pVar (i : Nat) : Sl → G → Option P0 := fun σ _ => match σ[i]? with
 | some (some (.own _ _)) => some (.slot i)
 | some (some (.val (.ref l))) => some (.lab l)
 | _ => none
def pFv (l : Nat) (f : Str) : Option Fv → Option P0
 | some (.own _ _) => some (.emb l f)
 | some (.val (.ref k)) => some (.lab k)
 | _ => none
def pFld (cs : List Str) (q : QE) (f : Str) : Sl → G → Option P0 := fun σ g => (refO (q σ g)).bind fun l => pFv l f (fA cs f (g.o l))
def pQ (q : QE) : Sl → G → Option P0 := fun σ g => (refO (q σ g)).map .lab
section
variable (K : PySem.W.Frag)
structure SimP (te : TE) (pl : Sl → G → Option P0) : Prop where
 run : ∀ {d : Nat} {m : Env} {s : L2.St} {σ : Sl} {g : G} {H : Hp} (Q : VK) (p : P0), Mt K d m s σ g H → pl σ g = some p → (∀ H', Kp (tabs K) No H H' → Q (.ref (m.ad (p.at d))) H') → te s H Q
instance {te : TE} {pl : Sl → G → Option P0} : CoeFun (SimP K te pl) fun _ => ∀ {d : Nat} {m : Env} {s : L2.St} {σ : Sl} {g : G} {H : Hp} (Q : VK) (p : P0), Mt K d m s σ g H → pl σ g = some p → (∀ H', Kp (tabs K) No H H' → Q (.ref (m.ad (p.at d))) H') → te s H Q
:= ⟨SimP.run⟩
end
section
variable {K : PySem.W.Frag} {E : XK} {te ta tb tc : TE} {ma mb me : ME} {q0 qa qb qc : QE} {m m1 : Env} {H H1 : Hp} {d : Nat} {s : L2.St} {σ : Sl} {g : G} {tr : TA} {mr : MA} {L L1 : Addr → Prop} {mf : MF} {p : P0} {pl : Sl → G → Option P0}
theorem getC_at : getC σ g (p.at d) = getP σ g p := by cases p <;> rfl
theorem setS_at {lk : Bool} {c : C} : setS lk c σ (p.at d) = setS lk c σ (p.at 0) := by cases p <;> rfl
theorem setG_at {lk : Bool} {c : C} : setG lk c g (p.at d) = setG lk c g (p.at 0) := by cases p <;> rfl
theorem slot_at : ∀ e i, p.at d = .slot e i → e = d := fun e i h => by cases p <;> cases h; rfl
theorem p_var {i : Nat} : SimP K (tVar i) (pVar i) := .mk fun {d m s σ g H} Q p M e f => by
 unfold pVar at e
 split at e
 ·rename_i h
  cases e
  obtain ⟨v, h1, h2, _⟩ := M.sl i _ h
  subst h2
  exact ⟨_, h1, f H Kp.refl⟩
 ·rename_i l h
  cases e
  obtain ⟨v, h1, h2⟩ := M.sl i _ h
  exact ⟨v, h1, by rw [h2.1]; exact f H Kp.refl⟩
 ·cases e
theorem put_lst {xs xs' : List A} (M : Mt K d m s σ g H) (h : getP σ g p = some (false, .lst xs)) : ∃ vs, H (m.ad (p.at d)) = some (.lst vs) ∧ RVs K m H vs xs ∧ ∀ vs', RVs K m H vs' xs' →
  Mt K d m s (putS (.lst xs') σ p) (putG (.lst xs') g p) (upd H (m.ad (p.at d)) (.lst vs')) ∧ Ext K d m H (Lv d m σ g) m (upd H (m.ad (p.at d)) (.lst vs')) (Lv d m (putS (.lst xs') σ p) (putG (.lst xs') g p)) := by
 rw [← getC_at (d := d)] at h
 obtain ⟨hs, how, vs, h1, h2⟩ := M.addr slot_at h
 refine ⟨vs, h1, h2, fun vs' h3 => ?_⟩
 have k : Kp (tabs K) (fun b => b = m.ad (p.at d)) H (upd H (m.ad (p.at d)) (.lst vs')) := Kp.setL h1 rfl
 have h4 : RC K m (upd H (m.ad (p.at d)) (.lst vs')) (m.ad (p.at d)) false (.lst xs') := ⟨vs', upd_same, RVs.ext (fun b z => by rw [z, how]; exact nofun) (ext_at (D := 0) k) h3⟩
 unfold putS putG
 rw [← setS_at (d := d), ← setG_at (d := d)]
 exact ⟨M.put slot_at h (fun _ z => nomatch z) h4, M.putE slot_at h (fun _ z => nomatch z)⟩
theorem put_dic {xs xs' : List (Key × A)} (M : Mt K d m s σ g H) (h : getP σ g p = some (false, .dic xs)) : ∃ vs, H (m.ad (p.at d)) = some (.dK vs) ∧ RKs K m H vs xs ∧ ∀ vs', RKs K m H vs' xs' →
  Mt K d m s (putS (.dic xs') σ p) (putG (.dic xs') g p) (upd H (m.ad (p.at d)) (.dK vs')) ∧ Ext K d m H (Lv d m σ g) m (upd H (m.ad (p.at d)) (.dK vs')) (Lv d m (putS (.dic xs') σ p) (putG (.dic xs') g p)) := by
 rw [← getC_at (d := d)] at h
 obtain ⟨hs, how, vs, h1, h2⟩ := M.addr slot_at h
 refine ⟨vs, h1, h2, fun vs' h3 => ?_⟩
 have k : Kp (tabs K) (fun b => b = m.ad (p.at d)) H (upd H (m.ad (p.at d)) (.dK vs')) := Kp.setD h1 rfl
 have h4 : RC K m (upd H (m.ad (p.at d)) (.dK vs')) (m.ad (p.at d)) false (.dic xs') := ⟨vs', upd_same, RKs.ext (fun b z => by rw [z, how]; exact nofun) (ext_at (D := 0) k) h3⟩
 unfold putS putG
 rw [← setS_at (d := d), ← setG_at (d := d)]
 exact ⟨M.put slot_at h (fun _ z => nomatch z) h4, M.putE slot_at h (fun _ z => nomatch z)⟩
structure LOp (K : PySem.W.Frag) (r : V → List V → Hp → VK → Prop) (f : List A → List A → Option (List A)) : Prop where
 run : ∀ {m : Env} {H : Hp} {a : Addr} {vs ws : List V} {xs as xs' : List A}, H a = some (.lst vs) → RVs K m H vs xs → RVs K m H ws as → f xs as = some xs' → ∃ vs', RVs K m H vs' xs' ∧ ∀ Q : VK, Q .non (upd H a (.lst vs')) → r (.ref a) ws H Q
instance {K : PySem.W.Frag} {r : V → List V → Hp → VK → Prop} {f : List A → List A → Option (List A)} : CoeFun (LOp K r f) fun _ => ∀ {m : Env} {H : Hp} {a : Addr} {vs ws : List V} {xs as xs' : List A}, H a = some (.lst vs) → RVs K m H vs xs → RVs K m H ws as → f xs as = some xs' → ∃ vs', RVs K m H vs' xs' ∧ ∀ Q : VK, Q .non (upd H a (.lst vs')) → r (.ref a) ws H Q
:= ⟨LOp.run⟩
def lApp (xs : List A) : List A → Option (List A)
 | [y] => if xs.length < 100000 then some (xs ++ [y]) else none
 | _ => none
theorem l_app : LOp K rAppend lApp := .mk fun {m H a vs ws xs as xs'} h1 h2 h3 e => by
 unfold lApp at e
 split at e
 ·split at e
  ·rename_i y hl
   cases e
   obtain ⟨w, r, rfl, h4, h5⟩ := h3
   have h5 : r = [] := h5
   subst h5
   exact ⟨vs ++ [w], h2.append (.cons h4 .nil), fun Q q => ⟨a, vs, w, rfl, rfl, h1, by rw [h2.length, sizeLine_eq]; omega, q⟩⟩
  ·cases e
 ·cases e
def lClr (_ : List A) : List A → Option (List A)
 | [] => some []
 | _ => none
def lExtT (xs : List A) : List A → Option (List A)
 | [.tup ys] => if xs.length + ys.length ≤ 100000 then some (xs ++ ys) else none
 | _ => none
def lExt (xs : List A) : List A → Option (List A)
 | [.lst ys] => if xs.length + ys.length ≤ 100000 then some (xs ++ ys) else none
 | _ => none
def intsA : List A → Option (List Int)
 | [] => some []
 | .int i :: xs => (intsA xs).map (i :: ·)
 | _ => none
def lRem (xs : List A) : List A → Option (List A)
 | [.int k] => match intsA xs with
  | some ns => if k ∈ ns then some ((ns.erase k).map A.int) else none
  | none => none
 | _ => none
def lstP : Option (Bool × C) → Option (List A)
 | some (false, .lst xs) => some xs
 | _ => none
theorem lstP_some {o : Option (Bool × C)} {xs : List A} (h : lstP o = some xs) : o = some (false, .lst xs) := by
 unfold lstP at h
 split at h
 ·cases h; rfl
 ·cases h
def mMut (f : List A → List A → Option (List A)) (pl : Sl → G → Option P0) (qr : Sl → G → Option (List A)) : MS := fun σ g => ofO ((pl σ g).bind fun p => (lstP (getP σ g p)).bind fun xs => (qr σ g).bind fun as => (f xs as).map fun xs' => (p, xs')) g |>.bind fun q g1 => .ok (.nx (putS (.lst q.2) σ q.1)) (putG (.lst q.2) g1 q.1)
theorem s_mut {r : V → List V → Hp → VK → Prop} {f : List A → List A → Option (List A)} {qr : Sl → G → Option (List A)} (hf : LOp K r f) (hp : SimP K ta pl) (hr : SimAQ K tr qr) : SimS K E (tDrop (tBM K "list" r ta tr)) (mMut f pl qr) := .mk fun {d m s σ g H} D M h => by
 unfold mMut at h
 rw [sat_bind] at h
 obtain ⟨⟨p, xs'⟩, e, h⟩ := sat_ofO h
 obtain ⟨p', e1, e⟩ := Option.bind_eq_some_iff.mp e
 obtain ⟨xs, e2, e⟩ := Option.bind_eq_some_iff.mp e
 obtain ⟨as, e3, e⟩ := Option.bind_eq_some_iff.mp e
 obtain ⟨ys, e4, e5⟩ := Option.map_eq_some_iff.mp e
 cases e5
 refine hp _ _ M e1 fun H1 k1 => ?_
 have M1 := M.quiet k1
 obtain ⟨vs, h1, _, _⟩ := put_lst (xs' := xs') M1 (lstP_some e2)
 refine ⟨Cm.ty_lst h1, hr _ _ M1 e3 fun H2 ws k2 r2 => ?_⟩
 have M2 := M1.quiet k2
 obtain ⟨vs2, h4, h5, h6⟩ := put_lst (xs' := xs') M2 (lstP_some e2)
 obtain ⟨vs', h7, h8⟩ := hf h4 h5 r2 e4
 obtain ⟨M3, x3⟩ := h6 vs' h7
 exact h8 _ (h m s _ M3 ((Ext.quiet (kpt k1 k2)).trans x3))
def mMutE (f : List A → List A → Option (List A)) (i : Nat) (ma : MA) : MS := fun σ g => (ofO ((pVar i σ g).bind fun p => (lstP (getP σ g p)).map fun _ => p) g).bind fun p g0 => (ma σ g0).bind fun as g1 => (ofO ((lstP (getP σ g1 p)).bind fun xs => f xs as) g1).bind fun xs' g2 => .ok (.nx (putS (.lst xs') σ p)) (putG (.lst xs') g2 p)
theorem var_addr {i : Nat} (M : Mt K d m s σ g H) (h : pVar i σ g = some p) : s[i]? = some (some (.ref (m.ad (p.at d)))) := by
 unfold pVar at h
 split at h
 ·rename_i e
  cases h
  obtain ⟨v, h1, h2, _⟩ := M.sl i _ e
  subst h2; exact h1
 ·rename_i l e
  cases h
  obtain ⟨v, h1, h2⟩ := M.sl i _ e
  rw [h1, h2.1]; rfl
 ·cases h
theorem s_mutE {r : V → List V → Hp → VK → Prop} {f : List A → List A → Option (List A)} {i : Nat} (hf : LOp K r f) (hr : SimA K E tr mr) : SimS K E (tDrop (tBM K "list" r (tVar i) tr)) (mMutE f i mr) := .mk fun {d m s σ g H} D M h => by
 unfold mMutE at h
 rw [sat_bind] at h
 obtain ⟨p, e, h⟩ := sat_ofO h
 obtain ⟨p', e1, e2⟩ := Option.bind_eq_some_iff.mp e
 obtain ⟨xs0, e3, e4⟩ := Option.map_eq_some_iff.mp e2
 subst e4
 obtain ⟨vs, h1, _, _⟩ := put_lst (xs' := []) M (lstP_some e3)
 refine ⟨_, var_addr M e1, Cm.ty_lst h1, ?_⟩
 rw [sat_bind] at h
 refine hr _ M (seqE h (fun as g1 h2 m1 H1 ws M1 x1 r1 => ?_) fun _ _ z => z)
 rw [sat_bind] at h2
 obtain ⟨xs', e5, h2⟩ := sat_ofO h2
 obtain ⟨xs, e6, e7⟩ := Option.bind_eq_some_iff.mp e5
 have ea : m1.ad (p'.at d) = m.ad (p'.at d) := by
  have z1 := var_addr M e1
  have z2 := var_addr M1 (show pVar i σ g1 = some p' from e1)
  rw [z1] at z2
  injection z2 with z2; injection z2 with z2; injection z2 with z2
  exact z2.symm
 obtain ⟨vs2, h4, h5, h6⟩ := put_lst (xs' := xs') M1 (lstP_some e6)
 obtain ⟨vs', h7, h8⟩ := hf h4 h5 r1 e7
 obtain ⟨M3, x3⟩ := h6 vs' h7
 rw [ea] at h8 M3 x3
 exact h8 _ (h2 m1 s _ M3 (x1.trans x3))
def setI : C → A → A → Option C
 | .lst xs, .int k, v => (ixN xs.length k).map fun j => .lst (xs.set j v)
 | .dic kvs, k, v => match keyA k with
  | some k => if kvs.length < 100000 then some (.dic (setK kvs k v)) else none
  | none => none
 | _, _, _ => none
def unlk : Option (Bool × C) → Option C
 | some (false, c) => some c
 | _ => none
theorem unlk_some {o : Option (Bool × C)} {c : C} (h : unlk o = some c) : o = some (false, c) := by
 unfold unlk at h
 split at h
 ·cases h; rfl
 ·cases h
def mSub (pl : Sl → G → Option P0) (qi : QE) (mv : ME) : MS := fun σ g => (mv σ g).bind fun v g1 => (ofO ((pl σ g1).bind fun p => (unlk (getP σ g1 p)).bind fun c => (qi σ g1).bind fun i => (setI c i v).map fun c' => (p, c')) g1).bind fun q g2 => .ok (.nx (putS q.2 σ q.1)) (putG q.2 g2 q.1)
def fGet (d k x : A) : Option A := match d with
 | .dic kvs => (keyA k).map fun k => (getK kvs k).getD x
 | _ => none
def q3 (f : A → A → A → Option A) (qa qb qc : QE) : QE := fun σ g => (qa σ g).bind fun a => (qb σ g).bind fun b => (qc σ g).bind fun c => f a b c
theorem q_get (ha : SimW K ta qa) (hb : SimQ K tb qb) (hc : SimQ K tc qc) : SimQ K (tDGet2 ta tb tc) (q3 fGet qa qb qc) := .mk fun {d m s σ g H} Q z M e k => by
 obtain ⟨a, e1, e⟩ := Option.bind_eq_some_iff.mp e
 obtain ⟨b, e2, e⟩ := Option.bind_eq_some_iff.mp e
 obtain ⟨c, e3, e⟩ := Option.bind_eq_some_iff.mp e
 refine ha _ _ M e1 fun H1 x k1 r1 => ?_
 cases a with
 | dic kvs =>
  obtain ⟨kk, e4, e5⟩ := Option.map_eq_some_iff.mp (show (keyA b).map (fun k => (getK kvs k).getD c) = some z from e)
  obtain ⟨a1, ws, rfl, h1, h2⟩ := r1
  refine ⟨a1, rfl, .inl ⟨ws, h1⟩, hb _ _ (M.quiet k1) e2 fun H2 y k2 r2 => hc _ _ ((M.quiet k1).quiet k2) e3 fun H3 w k3 r3 => ?_⟩
  have h3 := h2.quiet (kpt k2 k3)
  have h4 := rd_kp (kpt k2 k3) h1 (fun _ y => nomatch y) (fun z => z)
  have r2' := r2.quiet k3
  refine ⟨valV ws kk, .inl ⟨ws, kk, h4, key_rv r2'.rw e4, rfl⟩, k H3 _ (kpt k1 (kpt k2 k3)) ?_⟩
  rw [← e5]
  cases hz : getK kvs kk with
  | none => rw [h3.none hz]; exact r3
  | some v =>
   obtain ⟨u, h5, h6⟩ := h3.some hz
   rw [h5]; exact h6
 | _ => cases e
def dicP : Option (Bool × C) → Option (List (Key × A))
 | some (false, .dic xs) => some xs
 | _ => none
def isSlot : P0 → Bool
 | .slot _ => true
 | _ => false
def mPop1 (pl : Sl → G → Option P0) (qk : QE) : ME := fun σ g => (ofO ((pl σ g).bind fun p => (dicP (getP σ g p)).bind fun kvs => ((qk σ g).bind keyA).bind fun k => (getK kvs k).bind fun v => if isSlot p then none else some (p, v, delK kvs k)) g).bind fun q g1 => .ok q.2.1 (putG (.dic q.2.2) g1 q.1)
def mPop2 (pl : Sl → G → Option P0) (qk qx : QE) : ME := fun σ g => (ofO ((pl σ g).bind fun p => (dicP (getP σ g p)).bind fun kvs => ((qk σ g).bind keyA).bind fun k => (qx σ g).bind fun x => if isSlot p then none else some (p, (getK kvs k).getD x, if (getK kvs k).isSome then delK kvs k else kvs)) g).bind fun q g1 => .ok q.2.1 (putG (.dic q.2.2) g1 q.1)
end
def startA (n : Nat) (as : List A) : Sl := as.map (fun a => some (Fv.val a)) ++ List.replicate (n - as.length) none
def mFun (n : Nat) (b : MS) : List A → G → R Fv := fun as g => (b (startA n as) g).bind fun o g' => match o with
 | .nx _ => .ok (.val .non) g'
 | .rt v => .ok v g'
 | _ => .no
def SpM (K : PySem.W.Frag) (k : Nat) (mf : List A → G → R Fv) : Sp := fun vs H Q E => ∃ d m s σ g as, as.length = k ∧ Mt K d m s σ g H ∧ RVs K m H vs as ∧
 (mf as g).sat (fun fv g' => ∀ m' H' v, Mt K d m' s σ g' H' → Ext K d m H (Lv d m σ g) m' H' (Lv d m' σ g') → RT K m' H (Lv d m σ g) H' v fv → Q v H') (fun e g' => ∀ m' H' dd, Mt K d m' s σ g' H' → Ext K d m H (Lv d m σ g) m' H' (Lv d m' σ g') → XR H' dd e → E (.ref (He.ga K e.c)) dd H')
section
variable {K : PySem.W.Frag} {E : XK} {te ta tb tc : TE} {ma mb me : ME} {q0 qa qb qc : QE} {m m1 : Env} {H H1 : Hp} {d : Nat} {s : L2.St} {σ : Sl} {g : G} {tr : TA} {mr : MA} {L L1 : Addr → Prop} {mf : MF} {k : Nat} {cf : List A → G → R Fv} {sp : Sp}
theorem spm_len (vs : List V) (H : Hp) (Q : VK) (E : XK) (h : SpM K k cf vs H Q E) : vs.length = k := by
 obtain ⟨_, _, _, _, _, as, h1, _, h2, _⟩ := h
 rw [h2.length]; exact h1
abbrev PurT (sp : Sp) (t : XK → TS) (N : List Str) : Prop := ∀ (vs : List V) (H : Hp) (Q : VK) (E : XK), sp vs H Q E → t E { nx := fun _ H' => Q .non H', rt := Q } (L2.start N vs) H
theorem pure_of {N : List Str} {t : XK → TS} {b : MS} (h : ∀ E, SimS K E (t E) b) (vs : List V) (H : Hp) (Q : VK) (E : XK) (hs : SpM K k (mFun N.length b) vs H Q E) : t E { nx := fun _ H' => Q .non H', rt := Q } (L2.start N vs) H := by
 obtain ⟨d, m, s, σ, g, as, h1, M, hv, hr⟩ := hs
 unfold mFun at hr
 rw [sat_bind] at hr
 have hlen := hv.length
 have M1 : Mt K (d + 1) m (L2.start N vs) (startA N.length as) g H := M.enter (by unfold L2.start startA; simp [hlen]) fun i x e => by
  unfold startA at e
  rw [List.getElem?_append] at e
  split at e
  ·rename_i hi
   rw [List.getElem?_map] at e
   obtain ⟨a, e1, e2⟩ := Option.map_eq_some_iff.mp e
   cases e2
   obtain ⟨v, h3, h4⟩ := hv.get e1
   refine ⟨v, a, ?_, rfl, h4⟩
   unfold L2.start
   rw [List.getElem?_append_left (by rw [List.length_map, hlen]; simpa using hi), List.getElem?_map, h3]; rfl
  ·rw [List.getElem?_replicate] at e
   split at e
   ·cases e
   ·cases e
 have hσ : ∀ (i : Nat) (x : Fv), (startA N.length as)[i]? = some (some x) → ∃ a, x = .val a := fun i x e => by
  unfold startA at e
  rw [List.getElem?_append] at e
  split at e
  ·rw [List.getElem?_map] at e
   obtain ⟨a, e1, e2⟩ := Option.map_eq_some_iff.mp e
   cases e2
   exact ⟨a, rfl⟩
  ·rw [List.getElem?_replicate] at e
   split at e
   ·cases e
   ·cases e
 refine h E _ M1 (sat_mono (fun o g' z => ?_) (fun e g' z => ?_) hr)
 ·cases o with
  | nx σ' =>
   intro m' s' H' M' x'
   obtain ⟨m2, M2, x2, r2⟩ := M.leave M' hσ x' (fv := .val .non) (v := .non) rfl
   exact z m2 H' _ M2 x2 r2
  | rt fv =>
   intro m' s' σ' H' v M' x' r'
   obtain ⟨m2, M2, x2, r2⟩ := M.leave M' hσ x' r'
   exact z m2 H' _ M2 x2 r2
  | bk => exact z.elim
  | ct => exact z.elim
 ·intro m' s' σ' H' dd M' x' r'
  obtain ⟨m2, M2, x2, r2⟩ := M.leave M' hσ x' (fv := .val .non) (v := .non) rfl
  exact z m2 H' dd M2 x2 r'
def mCall (k : Nat) (cf : List A → G → R Fv) (mr : MA) : MF := fun σ g => (mr σ g).bind fun as g1 => if as.length = k then cf as g1 else .no
theorem pureM {N : List Str} {t : XK → TS} {f : List A → G → R Fv} {b : MS} (hf : f = mFun N.length b) (h : ∀ E, SimS K E (t E) b) : PurT (SpM K k f) t N := fun vs H Q E hs => pure_of h vs H Q E (hf ▸ hs)
theorem RT.step {fv : Fv} {m' : Env} {H' : Hp} {v : V} {D : Nat} (x : Ext K D m H L m1 H1 L1) (h : RT K m' H1 L1 H' v fv) : RT K m' H L H' v fv := by
 cases fv with
 | val a => exact h
 | own lk c =>
  obtain ⟨h1, b, h2, h3, h4, h5⟩ := h
  refine ⟨h1, b, h2, h3, ?_, h5⟩
  rcases h4 with h4 | h4
  ·exact .inl (x.kp.dom b h4)
  ·exact (x.gr b h4).symm
theorem f_call (hsp : ∀ vs H Q E, SpM K k cf vs H Q E → sp vs H Q E) (hr : SimA K E tr mr) : SimF K E (tCall sp [] E tr) (mCall k cf mr) := .mk fun {d m s σ g H} Q M h => by
 unfold mCall at h
 rw [sat_bind] at h
 refine hr _ M (seqE h (fun as g1 h1 m1 H1 vs M1 x1 r1 => ?_) fun _ _ z => z)
 split at h1
 ·rename_i hk
  rw [List.append_nil]
  exact hsp _ _ _ _ ⟨d, m1, s, σ, g1, as, hk, M1, r1, seqE h1 (fun fv g2 h2 m2 H2 v M2 x2 r2 => h2 m2 H2 v M2 (x1.trans x2) (r2.step x1)) fun e g2 h2 m2 H2 dd M2 x2 r2 => h2 m2 s σ H2 dd M2 (x1.trans x2) r2⟩
 ·exact h1.elim
def okM (c : Str) (mn : Str) : Option AO → Bool
 | some (.ins cn fs) => decide (cn = c) && (fs.lookup mn).isNone
 | _ => false
def mMeth (c mn : Str) (k : Nat) (cf : List A → G → R Fv) (qa : QE) (mr : MA) : MF := fun σ g => (ofO ((refO (qa σ g)).bind fun l => if okM c mn (g.o l) then some l else none) g).bind fun l g0 => (mr σ g0).bind fun as g1 => if as.length + 1 = k then cf (.ref l :: as) g1 else .no
def mMake (c : Str) (k : Nat) (cf : List A → G → R Fv) (mr : MA) : MF := fun σ g => (mr σ g).bind fun as g1 => if as.length + 1 = k then (cf (.ref g1.n :: as) (g1.add (.ins c []))).bind fun v g2 => (match v with
 | .val .non => .ok (.val (.ref g1.n)) g2
 | _ => .no) else .no
def mRx (c f : Str) (me : ME) : MS := fun σ g => (me σ g).bind fun a g1 => match a with
 | .int i => .err ⟨c, some (f, i)⟩ g1
 | _ => .no
theorem s_rx' {c f : Str} (h0 : SimE K E te me) : SimS K E (tRx K E (He.ga K c) f te) (mRx c f me) := .mk fun {d m s σ g H} D M h => by
 unfold mRx at h
 rw [sat_bind] at h
 refine Cm.s_rx (h0 _ M (seqE h (fun a g1 h1 m1 H1 v M1 x1 r1 => ?_) fun _ _ z => z))
 cases a with
 | int i =>
  have r1 : v = .int i := r1
  subst r1
  refine rx_at fun dd hd => ?_
  have k : Kp (tabs K) No H1 (upd H1 dd (.xd [(f, .int i)])) := Kp.new hd
  exact h1 m1 s σ _ (some dd) (M1.quiet k) (x1.trans (Ext.quiet k)) ⟨dd, rfl, upd_same⟩
 | _ => exact h1.elim
end
section
variable (K : PySem.W.Frag)
structure SimG (tg : TG) (mg : A → Sl → Option Sl) : Prop where
 run : ∀ {d : Nat} {m : Env} {s : L2.St} {σ : Sl} {g : G} {H : Hp} {m0 : Env} {H0 : Hp} {L0 : Addr → Prop} (Q : L2.St → Hp → Prop) (a : A) (v : V) (σ' : Sl), Mt K d m s σ g H → Ext K d m0 H0 L0 m H (Lv d m σ g) → RV K m H v a → mg a σ = some σ' →
 (∀ m' s', Mt K d m' s' σ' g H → Ext K d m0 H0 L0 m' H (Lv d m' σ' g) → (∀ x w, RV K m H w x → RV K m' H w x) → Q s' H) → tg v s H Q
instance {tg : TG} {mg : A → Sl → Option Sl} : CoeFun (SimG K tg mg) fun _ => ∀ {d : Nat} {m : Env} {s : L2.St} {σ : Sl} {g : G} {H : Hp} {m0 : Env} {H0 : Hp} {L0 : Addr → Prop} (Q : L2.St → Hp → Prop) (a : A) (v : V) (σ' : Sl), Mt K d m s σ g H → Ext K d m0 H0 L0 m H (Lv d m σ g) → RV K m H v a → mg a σ = some σ' →
 (∀ m' s', Mt K d m' s' σ' g H → Ext K d m0 H0 L0 m' H (Lv d m' σ' g) → (∀ x w, RV K m H w x → RV K m' H w x) → Q s' H) → tg v s H Q
:= ⟨SimG.run⟩
structure SimGs (tg : TGs) (mg : List A → Sl → Option Sl) : Prop where
 run : ∀ {d : Nat} {m : Env} {s : L2.St} {σ : Sl} {g : G} {H : Hp} {m0 : Env} {H0 : Hp} {L0 : Addr → Prop} (Q : L2.St → Hp → Prop) (as : List A) (vs : List V) (σ' : Sl), Mt K d m s σ g H → Ext K d m0 H0 L0 m H (Lv d m σ g) → RVs K m H vs as → mg as σ = some σ' →
 (∀ m' s', Mt K d m' s' σ' g H → Ext K d m0 H0 L0 m' H (Lv d m' σ' g) → (∀ x w, RV K m H w x → RV K m' H w x) → Q s' H) → tg vs s H Q
instance {tg : TGs} {mg : List A → Sl → Option Sl} : CoeFun (SimGs K tg mg) fun _ => ∀ {d : Nat} {m : Env} {s : L2.St} {σ : Sl} {g : G} {H : Hp} {m0 : Env} {H0 : Hp} {L0 : Addr → Prop} (Q : L2.St → Hp → Prop) (as : List A) (vs : List V) (σ' : Sl), Mt K d m s σ g H → Ext K d m0 H0 L0 m H (Lv d m σ g) → RVs K m H vs as → mg as σ = some σ' →
 (∀ m' s', Mt K d m' s' σ' g H → Ext K d m0 H0 L0 m' H (Lv d m' σ' g) → (∀ x w, RV K m H w x → RV K m' H w x) → Q s' H) → tg vs s H Q
:= ⟨SimGs.run⟩
def JOk (d : Nat) (m : Env) (H : Hp) (L : Addr → Prop) (J : It) (xs : List A) : Prop := ∀ m' H' L', Ext K d m H L m' H' L' →
 (∀ i a, xs[i]? = some a → J.go i H' ∧ ∀ x H'', J.yld i H' x H'' → Kp (tabs K) No H' H'' ∧ RV K m' H'' x a) ∧ J.stop xs.length H'
structure SimI (E : XK) (wi : TI) (mi : MA) : Prop where
 run : ∀ {d : Nat} {m : Env} {s : L2.St} {σ : Sl} {g : G} {H : Hp} (P : It → Hp → Prop), Mt K d m s σ g H →
 (mi σ g).sat (fun xs g' => ∀ m' H' J, Mt K d m' s σ g' H' → Ext K d m H (Lv d m σ g) m' H' (Lv d m' σ g') → JOk K d m' H' (Lv d m' σ g') J xs → P J H') (EK K d m H (Lv d m σ g) E) → wi s H P
instance {E : XK} {wi : TI} {mi : MA} : CoeFun (SimI K E wi mi) fun _ => ∀ {d : Nat} {m : Env} {s : L2.St} {σ : Sl} {g : G} {H : Hp} (P : It → Hp → Prop), Mt K d m s σ g H →
 (mi σ g).sat (fun xs g' => ∀ m' H' J, Mt K d m' s σ g' H' → Ext K d m H (Lv d m σ g) m' H' (Lv d m' σ g') → JOk K d m' H' (Lv d m' σ g') J xs → P J H') (EK K d m H (Lv d m σ g) E) → wi s H P
:= ⟨SimI.run⟩
end
def gN (i : Nat) : A → Sl → Option Sl := fun a σ => setSl σ i (.val a)
def gT (n : Nat) (gs : List A → Sl → Option Sl) : A → Sl → Option Sl := fun a σ => match a with
 | .tup xs => if xs.length = n then gs xs σ else none
 | _ => none
def gs0 : List A → Sl → Option Sl := fun as σ => match as with
 | [] => some σ
 | _ => none
def gsC (h : A → Sl → Option Sl) (gs : List A → Sl → Option Sl) : List A → Sl → Option Sl := fun as σ => match as with
 | x :: xs => (h x σ).bind fun σ1 => gs xs σ1
 | _ => none
def mForL (mg : A → Sl → Option Sl) (ms : MS) : List A → Sl → G → R O
 | [], σ, g => .ok (.nx σ) g
 | x :: xs, σ, g => (ofO (mg x σ) g).bind fun σ1 g1 => (ms σ1 g1).bind fun o g2 => match o with
  | .nx σ2 => mForL mg ms xs σ2 g2
  | .ct σ2 => mForL mg ms xs σ2 g2
  | .bk σ2 => .ok (.nx σ2) g2
  | .rt v => .ok (.rt v) g2
def mFor (mi : MA) (mg : A → Sl → Option Sl) (ms : MS) : MS := fun σ g => (mi σ g).bind fun xs g1 => mForL mg ms xs σ g1
def mWhileN (mt : MT) (ms : MS) : Nat → Sl → G → R O
 | 0, _, _ => .no
 | n + 1, σ, g => (mt σ g).bind fun b g1 => if b then (ms σ g1).bind fun o g2 => (match o with
  | .nx σ2 => mWhileN mt ms n σ2 g2
  | .ct σ2 => mWhileN mt ms n σ2 g2
  | .bk σ2 => .ok (.nx σ2) g2
  | .rt v => .ok (.rt v) g2) else .ok (.nx σ) g1
section
variable {K : PySem.W.Frag} {E : XK} {te ta tb tc : TE} {ma mb me : ME} {q0 qa qb qc : QE} {m m1 : Env} {H H1 : Hp} {d : Nat} {s : L2.St} {σ : Sl} {g : G} {tr : TA} {mr mi : MA} {L L1 : Addr → Prop} {mf : MF} {tt : TT} {mt : MT} {ts : TS} {ms : MS} {wi : TI}
theorem g_name' {i : Nat} : SimG K (gName i) (gN i) := .mk fun {d m s σ g H m0 H0 L0} Q a v σ' M x r e k => by
 obtain ⟨hi, hk, rfl⟩ := setSl_some e
 have hv : NewF K m H v none (.val a) := ⟨rfl, r⟩
 obtain ⟨M2, x2⟩ := M.slot hi hk hv (fun _ z => nomatch z) x
 exact k _ _ M2 x2 fun y w => RV.re (S := No) Kp.refl (fun _ z => z.elim) (Nat.le_refl _) (fun l _ => setp_ad nofun) (fun a ha hn => setp_none (fun b h => nomatch h) ha hn) rfl
theorem gs_nil : SimGs K gNil gs0 := .mk fun Q as vs σ' M x r e k => by
 unfold gs0 at e
 split at e
 ·cases e
  exact ⟨r, k _ _ M x fun _ _ z => z⟩
 ·cases e
theorem gs_cons {tg : TG} {mg : A → Sl → Option Sl} {tgs : TGs} {mgs : List A → Sl → Option Sl} (h : SimG K tg mg) (hs : SimGs K tgs mgs) : SimGs K (gCons tg tgs) (gsC mg mgs) := .mk fun Q as vs σ' M x r e k => by
 unfold gsC at e
 split at e
 ·obtain ⟨σ1, e1, e2⟩ := Option.bind_eq_some_iff.mp e
  obtain ⟨v, ws, rfl, r1, r2⟩ := r
  refine ⟨v, ws, rfl, h _ _ _ _ M x r1 e1 fun m1 s1 M1 x1 k1 => ?_⟩
  exact hs _ _ _ _ M1 x1 (RVs.iff.mpr (L2.Paired.mapP (RVs.iff.mp r2) fun _ _ z => k1 _ _ z)) e2 fun m2 s2 M2 x2 k2 => k m2 s2 M2 x2 fun y w z => k2 _ _ (k1 _ _ z)
 ·cases e
theorem g_tup' {n : Nat} {tgs : TGs} {mgs : List A → Sl → Option Sl} (hs : SimGs K tgs mgs) : SimG K (gTup K n tgs) (gT n mgs) := .mk fun Q a v σ' M x r e k => by
 unfold gT at e
 split at e
 ·split at e
  ·rename_i xs hl
   obtain ⟨b, vs, rfl, h1, h2⟩ := r
   exact ⟨b, vs, rfl, SqT.of h1, by rw [h2.length]; exact hl, hs _ _ _ _ M x h2 e k⟩
  ·cases e
 ·cases e
theorem loop {J : It} {xs : List A} {tg : TG} {mg : A → Sl → Option Sl} {D : Ends} (M : Mt K d m s σ g H) (hJ : JOk K d m H (Lv d m σ g) J xs) (hg : SimG K tg mg) (hb : SimS K E ts ms) (h : (mForL mg ms xs σ g).sat (OK K d m H (Lv d m σ g) D) (EK K d m H (Lv d m σ g) E)) :
  ∃ W : Nat → Nat → L2.St → Hp → Prop, (∃ m, W 0 m s H) ∧ ∀ i m σ H, W i m σ H →
   (J.stop i H ∧ D.nx σ H) ∨ (J.go i H ∧ ∃ N : L2.St → Hp → Prop, (∀ σ' H', N σ' H' → ∃ m', m' < m ∧ W (i + 1) m' σ' H') ∧ ∀ x H', J.yld i H x H' → tg x σ H' fun σ2 H2 => ts { D with nx := N, ct := N, bk := D.nx } σ2 H2) := by
 refine ⟨fun i k s' H' => k = xs.length - i ∧ i ≤ xs.length ∧ ∃ m' σ' g', Mt K d m' s' σ' g' H' ∧ Ext K d m H (Lv d m σ g) m' H' (Lv d m' σ' g') ∧ (mForL mg ms (xs.drop i) σ' g').sat (OK K d m H (Lv d m σ g) D) (EK K d m H (Lv d m σ g) E), ⟨_, rfl, Nat.zero_le _, m, σ, g, M, Ext.refl, h⟩, ?_⟩
 rintro i k s' H' ⟨rfl, hi, m', σ', g', M', x', h'⟩
 obtain ⟨hj1, hj2⟩ := hJ m' H' _ x'
 by_cases hlt : i < xs.length
 ·obtain ⟨a, ha⟩ : ∃ a, xs[i]? = some a := ⟨_, List.getElem?_eq_getElem hlt⟩
  obtain ⟨hgo, hy⟩ := hj1 i a ha
  have hd : xs.drop i = a :: xs.drop (i + 1) := by
   rw [List.drop_eq_getElem_cons hlt]
   rw [List.getElem?_eq_getElem hlt] at ha
   cases ha; rfl
  rw [hd] at h'
  unfold mForL at h'
  rw [sat_bind] at h'
  obtain ⟨σ1, e1, h'⟩ := sat_ofO h'
  rw [sat_bind] at h'
  refine .inr ⟨hgo, fun s2 H2 => ∃ m2 σ2 g2, Mt K d m2 s2 σ2 g2 H2 ∧ Ext K d m H (Lv d m σ g) m2 H2 (Lv d m2 σ2 g2) ∧ (mForL mg ms (xs.drop (i + 1)) σ2 g2).sat (OK K d m H (Lv d m σ g) D) (EK K d m H (Lv d m σ g) E), fun s2 H2 z => ⟨xs.length - (i + 1), by omega, rfl, by omega, z⟩, fun x H2 hyx => ?_⟩
  obtain ⟨k2, r2⟩ := hy x H2 hyx
  refine hg _ a x σ1 (M'.quiet k2) (x'.trans (Ext.quiet k2)) r2 e1 fun m3 s3 M3 x3 k3 => ?_
  refine hb _ M3 (seqE h' (fun o g3 h3 => ?_) fun _ _ z => z.step x3)
  cases o with
  | nx σ4 => exact fun m4 s4 H4 M4 x4 => ⟨m4, σ4, g3, M4, x3.trans x4, h3⟩
  | ct σ4 => exact fun m4 s4 H4 M4 x4 => ⟨m4, σ4, g3, M4, x3.trans x4, h3⟩
  | bk σ4 => exact fun m4 s4 H4 M4 x4 => h3 m4 s4 H4 M4 (x3.trans x4)
  | rt v => exact fun m4 s4 σ4 H4 w M4 x4 r4 => h3 m4 s4 σ4 H4 w M4 (x3.trans x4) (r4.step x3)
 ·have e : i = xs.length := by omega
  subst e
  rw [List.drop_length] at h'
  exact .inl ⟨hj2, h' m' s' H' M' x'⟩
theorem s_for {tg : TG} {mg : A → Sl → Option Sl} (hi : SimI K E wi mi) (hg : SimG K tg mg) (hb : SimS K E ts ms) : SimS K E (tFor wi tg ts) (mFor mi mg ms) := .mk fun {d m s σ g H} D M h => by
 unfold mFor at h
 rw [sat_bind] at h
 exact hi _ M (seqE h (fun xs g1 h1 m1 H1 J M1 x1 hJ => loop M1 hJ hg hb (seqE h1 (fun o g2 z => OK.step x1 z) fun _ _ z => z.step x1)) fun _ _ z => z)
def lstA : A → Option (List A)
 | .lst xs => some xs
 | _ => none
def tupA : A → Option (List A)
 | .tup xs => some xs
 | _ => none
theorem lstA_some {a : A} {xs : List A} (h : lstA a = some xs) : a = .lst xs := by cases a <;> first | (cases h; rfl) | cases h
def iL (me : ME) : MA := fun σ g => (me σ g).bind fun a g1 => ofO (lstA a) g1
def iT (me : ME) : MA := fun σ g => (me σ g).bind fun a g1 => ofO (tupA a) g1
theorem jok_lst {a : Addr} {xs : List A} {vs : List V} (hst : ∀ m' H' L', Ext K d m H L m' H' L' → H' a = some (.lst vs)) (hL : ∀ a, L a → m.ow a ≠ none) (h : RVs K m H vs xs) : JOk K d m H L (Itl K a) xs := fun m' H' L' x => by
 have h1 := hst m' H' L' x
 have h2 := RVs.ext hL x h
 refine ⟨fun i z e => ?_, ⟨vs, SqL.of h1, by rw [h2.length]; exact Nat.le_refl _⟩⟩
 obtain ⟨v, e1, r⟩ := h2.get e
 refine ⟨⟨vs, v, SqL.of h1, e1⟩, fun w H2 hy => ?_⟩
 obtain ⟨rfl, hy⟩ := hy
 have := hy vs (SqL.of h1)
 rw [e1] at this
 cases this
 exact ⟨Kp.refl, r⟩
theorem jok_tup {a : Addr} {xs : List A} {vs : List V} (ht : H a = some (.tup vs)) (hL : ∀ a, L a → m.ow a ≠ none) (h : RVs K m H vs xs) : JOk K d m H L (Itt K a) xs := fun m' H' L' x => by
 have h1 := x.kp.tup ht
 have h2 := RVs.ext hL x h
 refine ⟨fun i z e => ?_, ⟨vs, SqT.of h1, by rw [h2.length]; exact Nat.le_refl _⟩⟩
 obtain ⟨v, e1, r⟩ := h2.get e
 refine ⟨⟨vs, v, SqT.of h1, e1⟩, fun w H2 hy => ?_⟩
 obtain ⟨rfl, hy⟩ := hy
 have := hy vs (SqT.of h1)
 rw [e1] at this
 cases this
 exact ⟨Kp.refl, r⟩
theorem i_lst (h0 : SimE K E te me) : SimI K E (iSeq K te) (iL me) := .mk fun {d m s σ g H} P M h => by
 unfold iL at h
 rw [sat_bind] at h
 refine .inl (h0 _ M (seqE h (fun a g1 h1 m1 H1 v M1 x1 r1 => ?_) fun _ _ z => z))
 obtain ⟨xs, e, h1⟩ := sat_ofO h1
 have e := lstA_some e
 subst e
 obtain ⟨b, vs, rfl, h2, h3, h4⟩ := r1
 refine ⟨b, rfl, ⟨vs, SqL.of h2⟩, h1 m1 H1 _ M1 x1 (jok_lst (fun m' H' L' x => x.kp.lst h2 (fun z => lvo b z h3)) lvo h4)⟩
def rngA (lo : Int) (n : Nat) : List A := (List.range n).map fun i => .int (lo + (i : Nat))
def iR1 (mr : MA) : MA := fun σ g => (mr σ g).bind fun as g1 => match as with
 | [.int j] => if -(2 ^ 62) ≤ j ∧ j < 2 ^ 62 then .ok (rngA 0 j.toNat) g1 else .no
 | _ => .no
def iR2 (mr : MA) : MA := fun σ g => (mr σ g).bind fun as g1 => match as with
 | [.int i, .int j] => if (-(2 ^ 62) ≤ i ∧ i < 2 ^ 62 ∧ -(2 ^ 62) ≤ j ∧ j < 2 ^ 62) then .ok (rngA i (j - i).toNat) g1 else .no
 | _ => .no
theorem jok_rng {lo : Int} {n : Nat} : JOk K d m H L (Itr lo n) (rngA lo n) := fun m' H' L' x => by
 refine ⟨fun i z e => ?_, ?_⟩
 ·unfold rngA at e
  rw [List.getElem?_map] at e
  obtain ⟨j, e1, rfl⟩ := Option.map_eq_some_iff.mp e
  obtain ⟨hj, e2⟩ := List.getElem?_eq_some_iff.mp e1
  rw [List.length_range] at hj
  rw [List.getElem_range] at e2
  subst e2
  exact ⟨hj, fun w H2 hy => by obtain ⟨rfl, rfl⟩ := hy; exact ⟨Kp.refl, rfl⟩⟩
 ·show n ≤ (rngA lo n).length
  unfold rngA; simp
theorem i_rng1 (hr : SimA K E tr mr) : SimI K E (iRng1 tr) (iR1 mr) := .mk fun {d m s σ g H} P M h => by
 unfold iR1 at h
 rw [sat_bind] at h
 refine hr _ M (seqE h (fun as g1 h1 m1 H1 vs M1 x1 r1 => ?_) fun _ _ z => z)
 split at h1
 ·rename_i j
  split at h1
  ·rename_i hj
   obtain ⟨v, r, rfl, e1, e2⟩ := r1
   have e2 : r = [] := e2
   have e1 : v = .int j := e1
   subst e2 e1
   exact ⟨j, rfl, hj.1, hj.2, h1 m1 H1 _ M1 x1 jok_rng⟩
  ·exact h1.elim
 ·exact h1.elim
def zipA (xs ys : List A) : List A := List.zipWith (fun x y => A.tup [x, y]) xs ys
def iZ (mr : MA) : MA := fun σ g => (mr σ g).bind fun as g1 => match as with
 | [.lst xs, .lst ys] => .ok (zipA xs ys) g1
 | _ => .no
def enumA (xs : List A) : List A := (List.range xs.length).zipWith (fun i x => A.tup [.int (i : Nat), x]) xs
def iE (f : A → Option (List A)) (mr : MA) : MA := fun σ g => (mr σ g).bind fun as g1 => match as with
 | [a] => ofO ((f a).map enumA) g1
 | _ => .no
theorem enum_get {xs : List A} {i : Nat} {z : A} (e : (enumA xs)[i]? = some z) : ∃ x, xs[i]? = some x ∧ z = .tup [.int (i : Nat), x] := by
 unfold enumA at e
 rw [List.getElem?_zipWith] at e
 split at e
 ·rename_i j x ej ex
  cases e
  obtain ⟨hj, e2⟩ := List.getElem?_eq_some_iff.mp ej
  rw [List.getElem_range] at e2
  subst e2
  exact ⟨x, ex, rfl⟩
 ·cases e
theorem enum_len {xs : List A} : (enumA xs).length = xs.length := by unfold enumA; simp
end
def wipeA (σ : Sl) : List Nat → Sl
 | [] => σ
 | v :: vs => (wipeA σ vs).set v none
def noOwn : Option (Option Fv) → Bool
 | some (some (.own _ _)) => false
 | _ => true
def vsOk (σ : Sl) (vs : List Nat) : Bool := vs.all fun v => noOwn σ[v]?
def R.cut {α : Type} : R α → R α
 | .ok a g => .ok a g
 | .err _ _ => .no
 | .no => .no
 | .all T k => .all T fun t => (k t).cut
theorem sat_cut {α : Type} {Q : α → G → Prop} {E E' : Ex → G → Prop} : ∀ {r : R α}, r.cut.sat Q E → r.sat Q E'
 | .ok _ _, h => h
 | .err _ _, h => h.elim
 | .no, h => h
 | .all T k, h => fun t => sat_cut (h t)
section
variable (K : PySem.W.Frag)
structure SimGw (vs : List Nat) (tg : TG) (mg : A → Sl → Option Sl) : Prop where
 run : ∀ {d : Nat} {m : Env} {s : L2.St} {σ : Sl} {g : G} {H : Hp} {m0 : Env} {H0 : Hp} {L0 : Addr → Prop} (Q : L2.St → Hp → Prop) (a : A) (v : V) (σ' : Sl), Mt K d m s σ g H → Ext K d m0 H0 L0 m H (Lv d m σ g) → RV K m H v a → mg a σ = some σ' → vsOk σ vs = true →
 (∀ m' s', Mt K d m' s' σ' g H → Ext K d m0 H0 L0 m' H (Lv d m' σ' g) → (∀ x w, RV K m H w x → RV K m' H w x) → wipe s' vs = wipe s vs → wipeA σ' vs = wipeA σ vs → vsOk σ' vs = true → (∀ b, m.ow b = some .tmp → m'.ow b = some .tmp) → Q s' H) → tg v s H Q
instance {vs : List Nat} {tg : TG} {mg : A → Sl → Option Sl} : CoeFun (SimGw K vs tg mg) fun _ => ∀ {d : Nat} {m : Env} {s : L2.St} {σ : Sl} {g : G} {H : Hp} {m0 : Env} {H0 : Hp} {L0 : Addr → Prop} (Q : L2.St → Hp → Prop) (a : A) (v : V) (σ' : Sl), Mt K d m s σ g H → Ext K d m0 H0 L0 m H (Lv d m σ g) → RV K m H v a → mg a σ = some σ' → vsOk σ vs = true →
 (∀ m' s', Mt K d m' s' σ' g H → Ext K d m0 H0 L0 m' H (Lv d m' σ' g) → (∀ x w, RV K m H w x → RV K m' H w x) → wipe s' vs = wipe s vs → wipeA σ' vs = wipeA σ vs → vsOk σ' vs = true → (∀ b, m.ow b = some .tmp → m'.ow b = some .tmp) → Q s' H) → tg v s H Q
:= ⟨SimGw.run⟩
structure SimGsw (vs : List Nat) (tg : TGs) (mg : List A → Sl → Option Sl) : Prop where
 run : ∀ {d : Nat} {m : Env} {s : L2.St} {σ : Sl} {g : G} {H : Hp} {m0 : Env} {H0 : Hp} {L0 : Addr → Prop} (Q : L2.St → Hp → Prop) (as : List A) (us : List V) (σ' : Sl), Mt K d m s σ g H → Ext K d m0 H0 L0 m H (Lv d m σ g) → RVs K m H us as → mg as σ = some σ' → vsOk σ vs = true →
 (∀ m' s', Mt K d m' s' σ' g H → Ext K d m0 H0 L0 m' H (Lv d m' σ' g) → (∀ x w, RV K m H w x → RV K m' H w x) → wipe s' vs = wipe s vs → wipeA σ' vs = wipeA σ vs → vsOk σ' vs = true → (∀ b, m.ow b = some .tmp → m'.ow b = some .tmp) → Q s' H) → tg us s H Q
instance {vs : List Nat} {tg : TGs} {mg : List A → Sl → Option Sl} : CoeFun (SimGsw K vs tg mg) fun _ => ∀ {d : Nat} {m : Env} {s : L2.St} {σ : Sl} {g : G} {H : Hp} {m0 : Env} {H0 : Hp} {L0 : Addr → Prop} (Q : L2.St → Hp → Prop) (as : List A) (us : List V) (σ' : Sl), Mt K d m s σ g H → Ext K d m0 H0 L0 m H (Lv d m σ g) → RVs K m H us as → mg as σ = some σ' → vsOk σ vs = true →
 (∀ m' s', Mt K d m' s' σ' g H → Ext K d m0 H0 L0 m' H (Lv d m' σ' g) → (∀ x w, RV K m H w x → RV K m' H w x) → wipe s' vs = wipe s vs → wipeA σ' vs = wipeA σ vs → vsOk σ' vs = true → (∀ b, m.ow b = some .tmp → m'.ow b = some .tmp) → Q s' H) → tg us s H Q
:= ⟨SimGsw.run⟩
end
def mLcL (mg : A → Sl → Option Sl) (mt : MT) (me : ME) (σ : Sl) : List A → List A → G → R (List A)
 | [], acc, g => .ok acc g
 | x :: xs, acc, g => (ofO (mg x σ) g).bind fun σ1 g1 => ((mt σ1 g1).cut).bind fun b g2 => if b then ((me σ1 g2).cut).bind fun y g3 => (if acc.length < 100000 then mLcL mg mt me σ xs (acc ++ [y]) g3 else .no) else mLcL mg mt me σ xs acc g2
def mLc (mi : MA) (mg : A → Sl → Option Sl) (mt : MT) (me : ME) (vs : List Nat) : MF := fun σ g => (mi σ g).bind fun xs g1 => if vsOk σ vs then (mLcL mg mt me (wipeA σ vs) xs [] g1).bind fun ys g2 => .ok (.own false (.lst ys)) g2 else .no
section
variable {K : PySem.W.Frag} {E : XK} {te ta tb tc : TE} {ma mb me : ME} {q0 qa qb qc : QE} {m m1 : Env} {H H1 : Hp} {d : Nat} {s s1 : L2.St} {σ σ1 : Sl} {g g1 : G} {tr : TA} {mr mi : MA} {L L1 : Addr → Prop} {mf : MF} {tt : TT} {mt : MT} {ts : TS} {ms : MS} {wi : TI} {vs : List Nat}
theorem wipeA_len : ∀ {vs : List Nat}, (wipeA σ vs).length = σ.length
 | [] => rfl
 | v :: vs => by unfold wipeA; rw [List.length_set, wipeA_len]
theorem wipeA_get {i : Nat} : ∀ {vs : List Nat}, i ∉ vs → (wipeA σ vs)[i]? = σ[i]?
 | [], _ => rfl
 | v :: vs, h => by
  unfold wipeA
  rw [List.getElem?_set_ne (fun z => h (by rw [z]; exact List.mem_cons_self)), wipeA_get fun z => h (List.mem_cons_of_mem _ z)]
theorem wipeA_in {i : Nat} : ∀ {vs : List Nat}, i ∈ vs → ∀ x, (wipeA σ vs)[i]? ≠ some (some x)
 | v :: vs, h, x, e => by
  unfold wipeA at e
  by_cases z : v = i
  ·subst z
   by_cases hv : v < (wipeA σ vs).length
   ·rw [List.getElem?_set_self hv] at e; cases e
   ·rw [List.getElem?_eq_none (by simpa using hv)] at e; cases e
  ·rw [List.getElem?_set_ne z] at e
   exact wipeA_in ((List.mem_cons.mp h).resolve_left fun y => z y.symm) x e
theorem wipe_get {i : Nat} : ∀ {vs : List Nat}, i ∉ vs → (wipe s vs)[i]? = s[i]?
 | [], _ => rfl
 | v :: vs, h => by
  unfold wipe
  rw [List.getElem?_set_ne (fun z => h (by rw [z]; exact List.mem_cons_self)), wipe_get fun z => h (List.mem_cons_of_mem _ z)]
theorem vs_own {i : Nat} (h : vsOk σ vs = true) (hi : i ∈ vs) {lk : Bool} {c : C} (e : σ[i]? = some (some (.own lk c))) : False := by
 have := List.all_eq_true.mp h i hi
 rw [e] at this; cases this
theorem live_wipe {p : Pl} (h : vsOk σ vs = true) : live d (wipeA σ vs) g p ↔ live d σ g p := by
 cases p with
 | slot e i =>
  by_cases hi : i ∈ vs
  ·exact ⟨fun ⟨_, c, z⟩ => (wipeA_in hi _ z).elim, fun ⟨_, c, z⟩ => (vs_own h hi z).elim⟩
  ·show (e = d ∧ ∃ c, (wipeA σ vs)[i]? = _) ↔ (e = d ∧ ∃ c, σ[i]? = _)
   rw [wipeA_get hi]
 | lab => exact Iff.rfl
 | emb => exact Iff.rfl
 | adt => exact Iff.rfl
 | tmp => exact Iff.rfl
 | old => exact Iff.rfl
theorem Lv_wipe (h : vsOk σ vs = true) : Lv d m (wipeA σ vs) g = Lv d m σ g := by
 funext a
 exact propext ⟨fun ⟨p, h1, h2⟩ => ⟨p, h1, (live_wipe h).mp h2⟩, fun ⟨p, h1, h2⟩ => ⟨p, h1, (live_wipe h).mpr h2⟩⟩
theorem Mt.wipe (M : Mt K d m s σ g H) (h : vsOk σ vs = true) : Mt K d m (L2.wipe s vs) (wipeA σ vs) g H where
 ne := M.ne
 un := M.un
 nn := M.nn
 fz := M.fz
 gn := M.gn
 ln := M.ln
 dn := M.dn
 tb := M.tb
 so a i e := by
  obtain ⟨lk, c, z⟩ := M.so a i e
  by_cases hi : i ∈ vs
  ·exact (vs_own h hi z).elim
  ·exact ⟨lk, c, by rw [wipeA_get hi]; exact z⟩
 eo := M.eo
 lb := M.lb
 sn := by rw [wipe_length, wipeA_len]; exact M.sn
 sl i x e := by
  by_cases hi : i ∈ vs
  ·exact (wipeA_in hi x e).elim
  ·rw [wipeA_get hi] at e
   rw [wipe_get hi]
   exact M.sl i x e
theorem Mt.unwipe (M0 : Mt K d m s σ g H) (h : vsOk σ vs = true) (M : Mt K d m1 (L2.wipe s vs) (wipeA σ vs) g1 H1) (hL : ∀ a, L a → m.ow a ≠ none) (x : Ext K d m H L m1 H1 L1) : Mt K d m1 s σ g1 H1 where
 ne := M.ne
 un := M.un
 nn := M.nn
 fz := M.fz
 gn := M.gn
 ln := M.ln
 dn := M.dn
 tb := M.tb
 so a i e := by
  obtain ⟨lk, c, z⟩ := M.so a i e
  by_cases hi : i ∈ vs
  ·exact (wipeA_in hi _ z).elim
  ·exact ⟨lk, c, by rw [wipeA_get hi] at z; exact z⟩
 eo := M.eo
 lb := M.lb
 sn := M0.sn
 sl i y e := by
  by_cases hi : i ∈ vs
  ·obtain ⟨v, h1, h2⟩ := M0.sl i y e
   cases y with
   | own lk c => exact (vs_own h hi e).elim
   | val a => exact ⟨v, h1, RV.ext hL x h2⟩
  ·have e' : (wipeA σ vs)[i]? = some (some y) := by rw [wipeA_get hi]; exact e
   obtain ⟨v, h1, h2⟩ := M.sl i y e'
   rw [wipe_get hi] at h1
   exact ⟨v, h1, h2⟩
theorem setp_tmp {i : Nat} {b : Addr} (h : m.ow b = some .tmp) : (m.setp (.slot d i) none m.n).ow b = some .tmp := by
 show (if (none : Option Addr) = some b then some (Pl.slot d i) else if m.ow b = some (Pl.slot d i) then some Pl.old else m.ow b) = _
 rw [if_neg nofun, if_neg (by rw [h]; exact nofun)]; exact h
theorem wipe_set {i : Nat} {x : Option V} : ∀ {vs : List Nat}, i ∈ vs → L2.wipe (s.set i x) vs = L2.wipe s vs := fun {vs} hi => by
 refine List.ext_getElem? fun j => ?_
 by_cases hj : j ∈ vs
 ·have hz : ∀ {s : L2.St} {vs : List Nat}, j ∈ vs → (L2.wipe s vs)[j]? = if j < s.length then some none else none := by
   intro s vs
   induction vs with
   | nil => intro h; cases h
   | cons v vs ih =>
    intro h
    show ((L2.wipe s vs).set v none)[j]? = _
    by_cases z : v = j
    ·subst z
     by_cases hv : v < s.length
     ·rw [List.getElem?_set_self (by rw [wipe_length]; exact hv), if_pos hv]
     ·rw [List.getElem?_eq_none (by rw [List.length_set, wipe_length]; omega), if_neg hv]
    ·rw [List.getElem?_set_ne z]
     exact ih ((List.mem_cons.mp h).resolve_left fun y => z y.symm)
  rw [hz hj, hz hj, List.length_set]
 ·rw [wipe_get hj, wipe_get hj, List.getElem?_set_ne (fun z => hj (by rw [← z]; exact hi))]
theorem wipeA_set {i : Nat} {x : Option Fv} : ∀ {vs : List Nat}, i ∈ vs → wipeA (σ.set i x) vs = wipeA σ vs := fun {vs} hi => by
 refine List.ext_getElem? fun j => ?_
 by_cases hj : j ∈ vs
 ·have hz : ∀ {s : Sl} {vs : List Nat}, j ∈ vs → (wipeA s vs)[j]? = if j < s.length then some none else none := by
   intro s vs
   induction vs with
   | nil => intro h; cases h
   | cons v vs ih =>
    intro h
    show ((wipeA s vs).set v none)[j]? = _
    by_cases z : v = j
    ·subst z
     by_cases hv : v < s.length
     ·rw [List.getElem?_set_self (by rw [wipeA_len]; exact hv), if_pos hv]
     ·rw [List.getElem?_eq_none (by rw [List.length_set, wipeA_len]; omega), if_neg hv]
    ·rw [List.getElem?_set_ne z]
     exact ih ((List.mem_cons.mp h).resolve_left fun y => z y.symm)
  rw [hz hj, hz hj, List.length_set]
 ·rw [wipeA_get hj, wipeA_get hj, List.getElem?_set_ne (fun z => hj (by rw [← z]; exact hi))]
theorem vsOk_set {i : Nat} {a : A} (h : vsOk σ vs = true) : vsOk (σ.set i (some (.val a))) vs = true := by
 refine List.all_eq_true.mpr fun j hj => ?_
 by_cases z : i = j
 ·subst z
  by_cases hi : i < σ.length
  ·rw [List.getElem?_set_self hi]; rfl
  ·rw [List.getElem?_eq_none (by rw [List.length_set]; omega)]; rfl
 ·rw [List.getElem?_set_ne z]; exact List.all_eq_true.mp h j hj
theorem gw_name {i : Nat} (hi : i ∈ vs) : SimGw K vs (gName i) (gN i) := .mk fun {d m s σ g H m0 H0 L0} Q a v σ' M x r e hv k => by
 obtain ⟨hl, hk, rfl⟩ := setSl_some e
 have hn : NewF K m H v none (.val a) := ⟨rfl, r⟩
 obtain ⟨M2, x2⟩ := M.slot hl hk hn (fun _ z => nomatch z) x
 exact k _ _ M2 x2 (fun y w => RV.re (S := No) Kp.refl (fun _ z => z.elim) (Nat.le_refl _) (fun l _ => setp_ad nofun) (fun a ha hn => setp_none (fun b h => nomatch h) ha hn) rfl) (wipe_set hi) (wipeA_set hi) (vsOk_set hv) (fun b => setp_tmp)
theorem Mt.tmp_set {b : Addr} {us us' : List V} (M : Mt K d m s σ g H) (hb : m.ow b = some .tmp) (hH : H b = some (.lst us)) : Mt K d m s σ g (upd H b (.lst us')) ∧ (∀ x v, RV K m H v x → RV K m (upd H b (.lst us')) v x) ∧ Kp (tabs K) (fun a => a = b) H (upd H b (.lst us')) := by
 have k : Kp (tabs K) (fun a => a = b) H (upd H b (.lst us')) := Kp.setL hH rfl
 have rv : ∀ x v, RV K m H v x → RV K m (upd H b (.lst us')) v x := fun x v => RV.re k (fun a z => by rw [z, hb]; exact nofun) (Nat.le_refl _) (fun _ _ => rfl) (fun _ h _ => h) rfl
 have hS : ∀ (a : Addr) (q : Pl), a = b → m.ow a = some q → q = .tmp := fun a q z e => by rw [z, hb] at e; exact (Option.some.inj e).symm
 refine ⟨⟨fun a h z => M.ne a h (k.dom a z), M.un, M.nn, M.fz, M.gn, M.ln, M.dn, M.so, M.eo, fun l o h => (M.lb l o h).keep k (fun a q z e hq => by rw [hS a q z e] at hq; cases hq) (fun _ _ e _ => e) M.un rfl rv, M.sn, fun i y h => ?_, k.tab M.tb⟩, rv, k⟩
 obtain ⟨v, h1, h2⟩ := M.sl i y h
 exact ⟨v, h1, h2.keep rfl k (fun a z e => by have := hS a _ z e; cases this) (fun _ e => e) M.un rv⟩
theorem f_lc {tg : TG} {mg : A → Sl → Option Sl} (hi : SimI K E wi mi) (hg : SimGw K vs tg mg) (ht : SimT K E0 tt mt) (he : SimE K E0 te me) : SimF K E (tLc wi tg tt te vs) (mLc mi mg mt me vs) := .mk fun {d m s σ g H} Q M h => by
 unfold mLc at h
 rw [sat_bind] at h
 refine hi _ M (seqE h (fun xs g1 h1 m1 H1 J M1 x1 hJ => ?_) fun _ _ z => z)
 split at h1
 ·rename_i hvs
  intro Dl hDl
  rw [sat_bind] at h1
  obtain ⟨m2, M2, x2, r2⟩ := M1.fresh_tmp (c := .lst []) (o := .lst []) hDl rfl
  obtain ⟨_, b, eb, hb, _, _⟩ := r2
  cases eb
  -- the invariant
  refine ⟨fun i k Hc => k = xs.length - i ∧ i ≤ xs.length ∧ ∃ m' g' acc us, Mt K d m' (L2.wipe s vs) (wipeA σ vs) g' Hc ∧ Ext K d m1 H1 (Lv d m1 σ g1) m' Hc (Lv d m' (wipeA σ vs) g') ∧ m'.ow Dl = some .tmp ∧ Hc Dl = some (.lst us) ∧ RVs K m' Hc us acc ∧
   (mLcL mg mt me (wipeA σ vs) (xs.drop i) acc g').sat (fun ys g' => ∀ m' H' v, Mt K d m' s σ g' H' → Ext K d m H (Lv d m σ g) m' H' (Lv d m' σ g') → RT K m' H (Lv d m σ g) H' v (.own false (.lst ys)) → Q v H') (EK K d m H (Lv d m σ g) E),
   ⟨_, rfl, Nat.zero_le _, m2, g1, [], [], M2.wipe hvs, by rw [Lv_wipe hvs]; exact x2, hb, upd_same, rfl, h1⟩, ?_⟩
  rintro i k Hc ⟨rfl, hii, m', g', acc, us, M', x', hb', hH', hR', h'⟩
  obtain ⟨hj1, hj2⟩ := hJ m' Hc _ x'
  by_cases hlt : i < xs.length
  ·obtain ⟨a, ha⟩ : ∃ a, xs[i]? = some a := ⟨_, List.getElem?_eq_getElem hlt⟩
   obtain ⟨hgo, hy⟩ := hj1 i a ha
   have hd : xs.drop i = a :: xs.drop (i + 1) := by
    rw [List.drop_eq_getElem_cons hlt]
    rw [List.getElem?_eq_getElem hlt] at ha
    cases ha; rfl
   rw [hd] at h'
   unfold mLcL at h'
   rw [sat_bind] at h'
   obtain ⟨σ2, e2, h'⟩ := sat_ofO h'
   rw [sat_bind] at h'
   refine .inr ⟨hgo, fun H2 => ∃ m2 g2 acc2 us2, Mt K d m2 (L2.wipe s vs) (wipeA σ vs) g2 H2 ∧ Ext K d m1 H1 (Lv d m1 σ g1) m2 H2 (Lv d m2 (wipeA σ vs) g2) ∧ m2.ow Dl = some .tmp ∧ H2 Dl = some (.lst us2) ∧ RVs K m2 H2 us2 acc2 ∧
    (mLcL mg mt me (wipeA σ vs) (xs.drop (i + 1)) acc2 g2).sat (fun ys g' => ∀ m' H' v, Mt K d m' s σ g' H' → Ext K d m H (Lv d m σ g) m' H' (Lv d m' σ g') → RT K m' H (Lv d m σ g) H' v (.own false (.lst ys)) → Q v H') (EK K d m H (Lv d m σ g) E), fun H2 z => ⟨xs.length - (i + 1), by omega, rfl, by omega, z⟩, fun x H2 hyx => ?_⟩
   obtain ⟨k2, r2⟩ := hy x H2 hyx
   have hvw : vsOk (wipeA σ vs) vs = true := List.all_eq_true.mpr fun j hj => by
    cases e : (wipeA σ vs)[j]? with
    | none => rfl
    | some o =>
     cases o with
     | none => rfl
     | some y => exact (wipeA_in hj y e).elim
   refine hg _ a x σ2 (M'.quiet k2) (x'.trans (Ext.quiet k2)) r2 e2 hvw fun m3 s3 M3 x3 k3 w1 w2 hv3 t3 => ?_
   have ww : wipeA (wipeA σ vs) vs = wipeA σ vs := by
    refine List.ext_getElem? fun j => ?_
    by_cases hj : j ∈ vs
    ·have hz : ∀ {s : Sl} {vs : List Nat}, j ∈ vs → (wipeA s vs)[j]? = if j < s.length then some none else none := by
      intro s vs
      induction vs with
      | nil => intro h; cases h
      | cons v vs ih =>
       intro h
       show ((wipeA s vs).set v none)[j]? = _
       by_cases z : v = j
       ·subst z
        by_cases hv : v < s.length
        ·rw [List.getElem?_set_self (by rw [wipeA_len]; exact hv), if_pos hv]
        ·rw [List.getElem?_eq_none (by rw [List.length_set, wipeA_len]; omega), if_neg hv]
       ·rw [List.getElem?_set_ne z]
        exact ih ((List.mem_cons.mp h).resolve_left fun y => z y.symm)
     rw [hz hj, hz hj, wipeA_len]
    ·rw [wipeA_get hj]
   have ws : L2.wipe (L2.wipe s vs) vs = L2.wipe s vs := by
    refine List.ext_getElem? fun j => ?_
    by_cases hj : j ∈ vs
    ·have hz : ∀ {s : L2.St} {vs : List Nat}, j ∈ vs → (L2.wipe s vs)[j]? = if j < s.length then some none else none := by
      intro s vs
      induction vs with
      | nil => intro h; cases h
      | cons v vs ih =>
       intro h
       show ((L2.wipe s vs).set v none)[j]? = _
       by_cases z : v = j
       ·subst z
        by_cases hv : v < s.length
        ·rw [List.getElem?_set_self (by rw [wipe_length]; exact hv), if_pos hv]
        ·rw [List.getElem?_eq_none (by rw [List.length_set, wipe_length]; omega), if_neg hv]
       ·rw [List.getElem?_set_ne z]
        exact ih ((List.mem_cons.mp h).resolve_left fun y => z y.symm)
     rw [hz hj, hz hj, wipe_length]
    ·rw [wipe_get hj]
   rw [ws] at w1
   rw [ww] at w2
   refine ⟨w1, ht _ M3 (sat_cut (seqE h' (fun bb g3 h3 m4 H4 M4 x4 => ?_) fun _ _ z => z))⟩
   have hb3 := t3 Dl hb'
   have nl : ¬ Lv d m3 σ2 g' Dl := fun ⟨p, q1, q2⟩ => by rw [hb3] at q1; cases q1; exact q2
   have hH3 : H2 Dl = some (.lst us) := k2.lst hH' (fun z => z)
   have nw : ∀ {Hz : Hp} {zs : List V}, Hz Dl = some (.lst zs) → ¬ Nw Hz Dl := fun e z => nw_no z e (fun _ y => nomatch y)
   have hb4 : m4.ow Dl = some .tmp := (x4.ow Dl (nw hH3) nl).trans hb3
   have hH4 : H4 Dl = some (.lst us) := x4.kp.lst hH3 nl
   have hR4 : RVs K m4 H4 us acc := RVs.ext lvo x4 (RVs.iff.mpr (L2.Paired.mapP (RVs.iff.mp (hR'.quiet k2)) fun _ _ z => k3 _ _ z))
   cases bb with
   | false =>
    refine iteF ?_
    have M4w := M4.wipe hv3
    rw [w1, w2] at M4w
    refine ⟨m4, g3, acc, us, M4w, ?_, hb4, hH4, hR4, h3⟩
    have := x3.trans x4
    rw [← Lv_wipe hv3, w2] at this
    exact this
   | true =>
    refine iteT ?_
    have h3 : ((me σ2 g3).cut.bind _).sat _ _ := h3
    rw [sat_bind] at h3
    refine he _ M4 (sat_cut (seqE h3 (fun y g4 h4 m5 H5 v5 M5 x5 r5 => ?_) fun _ _ z => z))
    have nl4 : ¬ Lv d m4 σ2 g3 Dl := fun ⟨p, q1, q2⟩ => by rw [hb4] at q1; cases q1; exact q2
    have hb5 : m5.ow Dl = some .tmp := (x5.ow Dl (nw hH4) nl4).trans hb4
    have hH5 : H5 Dl = some (.lst us) := x5.kp.lst hH4 nl4
    have hR5 : RVs K m5 H5 us acc := RVs.ext lvo x5 hR4
    split at h4
    ·rename_i hl
     obtain ⟨M6, rv6, k6⟩ := M5.tmp_set (us' := us ++ [v5]) hb5 hH5
     refine ⟨us, hH5, by rw [hR5.length, sizeLine_eq]; omega, m5, g4, acc ++ [y], us ++ [v5], ?_, ?_, hb5, upd_same, ?_, h4⟩
     ·have M6w := M6.wipe hv3
      rw [w1, w2] at M6w
      exact M6w
     ·have X := (x3.trans x4).trans x5
      have X2 := X.unlock (L2 := Lv d m5 σ2 g4) k6 (.inr (nw_of hDl)) (fun z hz => .inl hz)
      rw [← Lv_wipe (g := g4) (m := m5) hv3, w2] at X2
      exact X2
     ·exact (RVs.iff.mpr (L2.Paired.mapP (RVs.iff.mp hR5) fun _ _ z => rv6 _ _ z)).append (.cons (rv6 _ _ r5) .nil)
    ·exact h4.elim
  ·have e : i = xs.length := by omega
   subst e
   rw [List.drop_length] at h'
   refine .inl ⟨hj2, ?_⟩
   have Mz := M1.unwipe hvs M' lvo x'
   rw [Lv_wipe hvs] at x'
   exact h' m' Hc (.ref Dl) Mz (x1.trans x') ⟨rfl, Dl, rfl, hb', .inl (x1.kp.dom Dl (nw_of hDl)), us, hH', hR'⟩
 ·exact h1.elim
end
def R.fin {α β : Type} : R α → (α → G → R β) → (G → Option G) → R β
 | .ok a g, f, _ => f a g
 | .err e g, _, u => match u g with
  | some g' => .err e g'
  | none => .no
 | .no, _, _ => .no
 | .all T k, f, u => .all T fun t => (k t).fin f u
theorem sat_fin {α β : Type} {f : α → G → R β} {u : G → Option G} {Q : β → G → Prop} {E : Ex → G → Prop} : ∀ {r : R α}, (r.fin f u).sat Q E → r.sat (fun a g => (f a g).sat Q E) (fun e g => ∃ g', u g = some g' ∧ E e g')
 | .ok _ _, h => h
 | .err e g, h => by
  unfold R.fin at h
  split at h
  ·rename_i g' e'
   exact ⟨g', e', h⟩
  ·exact h.elim
 | .no, h => h
 | .all T k, h => fun t => sat_fin (h t)
def isLst : C → Bool
 | .lst _ => true
 | _ => false
def unl (w : Bool) (p : P0) (σ : Sl) (g : G) : Option (Sl × G) := match getP σ g p with
 | some (true, c) => if isLst c = w then some (setS false c σ (p.at 0), setG false c g (p.at 0)) else none
 | _ => none
theorem unl_some {w : Bool} {p : P0} {σ : Sl} {g : G} {q : Sl × G} (h : unl w p σ g = some q) : ∃ c, getP σ g p = some (true, c) ∧ isLst c = w ∧ q = (setS false c σ (p.at 0), setG false c g (p.at 0)) := by
 unfold unl at h
 split at h
 ·rename_i c e
  split at h
  ·rename_i hw
   cases h; exact ⟨c, e, hw, rfl⟩
  ·cases h
 ·cases h
def unO (w : Bool) (p : P0) (o : O) (g : G) : R O := match o with
 | .nx σ => (ofO (unl w p σ g) g).bind fun q _ => .ok (.nx q.1) q.2
 | .bk σ => (ofO (unl w p σ g) g).bind fun q _ => .ok (.bk q.1) q.2
 | .ct σ => (ofO (unl w p σ g) g).bind fun q _ => .ok (.ct q.1) q.2
 | .rt v => if isSlot p then .no else (ofO (unl w p [] g) g).bind fun q _ => .ok (.rt v) q.2
def unGL (p : P0) (g : G) : Option G := if isSlot p then some g else (unl true p [] g).map (·.2)
def mLockL (pl : Sl → G → Option P0) (ms : MS) : MS := fun σ g => (ofO ((pl σ g).bind fun p => (lstP (getP σ g p)).map fun xs => (p, xs)) g).bind fun q g1 => (ms (setS true (.lst q.2) σ (q.1.at 0)) (setG true (.lst q.2) g1 (q.1.at 0))).fin (unO true q.1) (unGL q.1)
def mLockD (pl : Sl → G → Option P0) (ms : MS) : MS := fun σ g => (ofO ((pl σ g).bind fun p => (dicP (getP σ g p)).map fun xs => (p, xs)) g).bind fun q g1 => (ms (setS true (.dic q.2) σ (q.1.at 0)) (setG true (.dic q.2) g1 (q.1.at 0))).fin (unO false q.1) some
def lstT : Option (Bool × C) → Option (List A)
 | some (true, .lst xs) => some xs
 | _ => none
def dicT : Option (Bool × C) → Option (List (Key × A))
 | some (true, .dic xs) => some xs
 | _ => none
def kA : Key → A
 | .inl i => .int i
 | .inr s => .str s
def iLp (pl : Sl → G → Option P0) : MA := fun σ g => ofO ((pl σ g).bind fun p => lstT (getP σ g p)) g
def iKy (pl : Sl → G → Option P0) : MA := fun σ g => ofO ((pl σ g).bind fun p => (dicT (getP σ g p)).map fun kvs => kvs.map fun kv => kA kv.1) g
section
variable {K : PySem.W.Frag} {E : XK} {te ta tb tc : TE} {ma mb me : ME} {q0 qa qb qc : QE} {m m1 m' : Env} {H H1 H' : Hp} {d : Nat} {s s1 s' : L2.St} {σ σ1 σ' : Sl} {g g1 g' : G} {tr : TA} {mr mi : MA} {L L1 : Addr → Prop} {mf : MF} {tt : TT} {mt : MT} {ts : TS} {ms : MS} {wi : TI} {vs : List Nat} {p : P0} {pl : Sl → G → Option P0}
theorem lstT_some {o : Option (Bool × C)} {xs : List A} (h : lstT o = some xs) : o = some (true, .lst xs) := by
 unfold lstT at h
 split at h
 ·cases h; rfl
 ·cases h
theorem get_set {lk lk0 : Bool} {c c0 : C} (h : getP σ g p = some (lk0, c0)) : getP (setS lk c σ (p.at 0)) (setG lk c g (p.at 0)) p = some (lk, c) := by
 unfold getP at h ⊢
 cases p with
 | lab l =>
  show cO (if l = l then _ else _) = _
  rw [if_pos rfl]; rfl
 | emb l f =>
  obtain ⟨cn, fs, e1, e2⟩ := fO_some (cF_some h)
  show cF (fO f ((setG lk c g (.emb l f)).o l)) = _
  simp only [setG, e1]
  show cF (fO f (if l = l then _ else _)) = _
  rw [if_pos rfl]
  show cF ((pF f (.own lk c) fs).lookup f) = _
  rw [lookup_pF, if_pos rfl]; rfl
 | slot i =>
  have e := join_some (cF_some h)
  show cF ((σ.set i (some (.own lk c)))[i]?.join) = _
  rw [List.getElem?_set_self (List.getElem?_eq_some_iff.mp e).1]; rfl
theorem not_live {c : C} (h : getP σ g p = some (true, c)) : ¬ live d σ g (p.at d) := by
 unfold getP at h
 cases p with
 | lab l =>
  have e := cO_some h
  rintro (⟨_, _, z⟩ | ⟨_, z⟩)
  ·rw [e] at z; cases z
  ·rw [e] at z; cases z
 | emb l f =>
  obtain ⟨cn, fs, e1, e2⟩ := fO_some (cF_some h)
  rintro ⟨_, _, _, z1, z2⟩
  rw [e1] at z1; cases z1
  rw [e2] at z2; cases z2
 | slot i =>
  have e := join_some (cF_some h)
  rintro ⟨_, _, z⟩
  rw [e] at z; cases z
theorem not_Lv {c : C} (M : Mt K d m s σ g H) (h : getP σ g p = some (true, c)) : ¬ Lv d m σ g (m.ad (p.at d)) := fun ⟨q, h1, h2⟩ => by
 have := (M.addr slot_at (by rw [getC_at]; exact h)).2.1
 rw [this] at h1
 cases h1
 exact not_live h h2
theorem lock_addr {c : C} (M : Mt K d m s σ g H) (h : getP σ g p = some (true, c)) (x : Ext K d m H (Lv d m σ g) m' H' L1) (M' : Mt K d m' s' σ' g' H') : m'.ad (p.at d) = m.ad (p.at d) ∧ m'.ow (m.ad (p.at d)) = some (p.at d) ∧ H' (m.ad (p.at d)) = H (m.ad (p.at d)) := by
 obtain ⟨hs, how, hr⟩ := M.addr slot_at (by rw [getC_at]; exact h)
 have nl := not_Lv M h
 have nw := hr.nw
 have e := (x.ow _ nw nl).trans how
 refine ⟨(M'.un _ _ e hs).symm, e, ?_⟩
 cases ha : H (m.ad (p.at d)) with
 | none => exact (nw (.inl ha)).elim
 | some o => exact x.kp.old _ o ha (fun ps z => nw (.inr ⟨ps, by rw [ha, z]⟩)) nl
theorem getP_no (h : isSlot p = false) : getP σ g p = getP [] g p := by cases p <;> first | rfl | cases h
theorem setS_no {lk : Bool} {c : C} (h : isSlot p = false) : setS lk c σ (p.at 0) = σ := by cases p <;> first | rfl | cases h
theorem upd_id {a : Addr} {o : HO} (h : H a = some o) : upd H a o = H := by
 funext b
 by_cases hb : b = a
 ·rw [hb, upd_same, h]
 ·rw [upd_ne hb]
theorem lock_l {xs : List A} (M : Mt K d m s σ g H) (h : getP σ g p = some (false, .lst xs)) : Mt K d m s (setS true (.lst xs) σ (p.at 0)) (setG true (.lst xs) g (p.at 0)) H ∧ Ext K d m H (Lv d m σ g) m H (Lv d m (setS true (.lst xs) σ (p.at 0)) (setG true (.lst xs) g (p.at 0))) ∧ Lv d m σ g (m.ad (p.at d)) := by
 have hc : getC σ g (p.at d) = some (false, .lst xs) := by rw [getC_at]; exact h
 obtain ⟨hs, how, us, h1, h2⟩ := M.addr slot_at hc
 have M1 := M.put (lk := true) (c1 := .lst xs) (o := .lst us) slot_at hc (fun _ z => nomatch z) (by rw [upd_id h1]; exact ⟨us, h1, h2⟩)
 have x1 := M.putE (D := d) (lk := true) (c1 := .lst xs) (o := .lst us) slot_at hc (fun _ z => nomatch z)
 rw [upd_id h1, setS_at, setG_at] at M1 x1
 exact ⟨M1, x1, _, how, live_get hc slot_at⟩
theorem unlock_l {xs : List A} {m0 : Env} {H0 : Hp} {L0 : Addr → Prop} (M : Mt K d m s σ g H) (h : getP σ g p = some (true, .lst xs)) (x : Ext K d m0 H0 L0 m H (Lv d m σ g)) (ha : L0 (m.ad (p.at d)) ∨ Nw H0 (m.ad (p.at d))) :
  Mt K d m s (setS false (.lst xs) σ (p.at 0)) (setG false (.lst xs) g (p.at 0)) H ∧ Ext K d m0 H0 L0 m H (Lv d m (setS false (.lst xs) σ (p.at 0)) (setG false (.lst xs) g (p.at 0))) := by
 have hc : getC σ g (p.at d) = some (true, .lst xs) := by rw [getC_at]; exact h
 obtain ⟨hs, how, us, h1, h2⟩ := M.addr slot_at hc
 have M1 := M.put (lk := false) (c1 := .lst xs) (o := .lst us) slot_at hc (fun _ z => nomatch z) (by rw [upd_id h1]; exact ⟨us, h1, h2⟩)
 have k : Kp (tabs K) (fun b => b = m.ad (p.at d)) H (upd H (m.ad (p.at d)) (.lst us)) := Kp.setL h1 rfl
 have x1 := x.unlock (L2 := Lv d m (setS false (.lst xs) σ (p.at d)) (setG false (.lst xs) g (p.at d))) k ha (fun b ⟨q, q1, q2⟩ => (live_set' hc slot_at q2).elim (fun z => .inl ⟨q, q1, z⟩) fun z => .inr (by rw [z] at q1; exact M.un b _ q1 hs))
 rw [upd_id h1, setS_at, setG_at] at x1
 rw [upd_id h1, setS_at, setG_at] at M1
 exact ⟨M1, x1⟩
theorem s_lockL (h0 : SimS K E ts ms) : SimS K E ts (mLockL pl ms) := .mk fun {d m s σ g H} D M h => by
 unfold mLockL at h
 rw [sat_bind] at h
 obtain ⟨⟨p, xs⟩, e, h⟩ := sat_ofO h
 obtain ⟨p', e1, e⟩ := Option.bind_eq_some_iff.mp e
 obtain ⟨xs', e2, e3⟩ := Option.map_eq_some_iff.mp e
 cases e3
 have hP := lstP_some e2
 obtain ⟨M1, x1, hl⟩ := lock_l M hP
 have hL : getP (setS true (.lst xs) σ (p.at 0)) (setG true (.lst xs) g (p.at 0)) p = some (true, .lst xs) := get_set hP
 have key : ∀ {m' s' σ' g' H'}, Mt K d m' s' σ' g' H' → Ext K d m H (Lv d m (setS true (.lst xs) σ (p.at 0)) (setG true (.lst xs) g (p.at 0))) m' H' (Lv d m' σ' g') → Lv d m σ g (m'.ad (p.at d)) := fun M' x' => by
  rw [(lock_addr M1 hL x' M').1]; exact hl
 have stp : ∀ {m' s' σ' g' H' q}, unl true p σ' g' = some q → Mt K d m' s' σ' g' H' → Ext K d m H (Lv d m (setS true (.lst xs) σ (p.at 0)) (setG true (.lst xs) g (p.at 0))) m' H' (Lv d m' σ' g') → Mt K d m' s' q.1 q.2 H' ∧ Ext K d m H (Lv d m σ g) m' H' (Lv d m' q.1 q.2) := fun {m' s' σ' g' H' q} hq M' x' => by
  obtain ⟨c, h1, h2, rfl⟩ := unl_some hq
  cases c with
  | dic => cases h2
  | lst zs => exact unlock_l M' h1 (x1.trans x') (.inl (key M' x'))
 refine h0 D M1 (sat_mono (fun o g' z => ?_) (fun e g' z => ?_) (sat_fin h))
 ·cases o with
  | nx σ' =>
   intro m' s' H' M' x'
   have z : ((ofO (unl true p σ' g') g').bind _).sat _ _ := z
   rw [sat_bind] at z
   obtain ⟨q, hq, z⟩ := sat_ofO z
   obtain ⟨M2, x2⟩ := stp hq M' x'
   exact z m' s' H' M2 x2
  | bk σ' =>
   intro m' s' H' M' x'
   have z : ((ofO (unl true p σ' g') g').bind _).sat _ _ := z
   rw [sat_bind] at z
   obtain ⟨q, hq, z⟩ := sat_ofO z
   obtain ⟨M2, x2⟩ := stp hq M' x'
   exact z m' s' H' M2 x2
  | ct σ' =>
   intro m' s' H' M' x'
   have z : ((ofO (unl true p σ' g') g').bind _).sat _ _ := z
   rw [sat_bind] at z
   obtain ⟨q, hq, z⟩ := sat_ofO z
   obtain ⟨M2, x2⟩ := stp hq M' x'
   exact z m' s' H' M2 x2
  | rt fv =>
   intro m' s' σ' H' v M' x' r'
   unfold unO at z
   split at z
   ·rename_i h9; cases h9
   ·rename_i h9; cases h9
   ·rename_i h9; cases h9
   ·rename_i v9 h9
    cases h9
    split at z
    ·exact z.elim
    ·rename_i hs
     have hs : isSlot p = false := by simpa using hs
     rw [sat_bind] at z
     obtain ⟨q, hq, z⟩ := sat_ofO z
     have hq' : unl true p σ' g' = some (σ', q.2) := by
      obtain ⟨c, h1, h2, rfl⟩ := unl_some hq
      unfold unl
      rw [getP_no hs, h1]
      show (if isLst c = true then _ else none) = _
      rw [if_pos h2, setS_no hs]
     obtain ⟨M2, x2⟩ := stp hq' M' x'
     exact z m' s' σ' H' v M2 x2 (r'.step x1)
 ·intro m' s' σ' H' dd M' x' r'
  obtain ⟨g2, hu, z⟩ := z
  unfold unGL at hu
  split at hu
  ·cases hu
   exact z m' s' σ' H' dd M' (x1.trans x') r'
  ·rename_i hs
   have hs : isSlot p = false := by simpa using hs
   obtain ⟨q, hq, e9⟩ := Option.map_eq_some_iff.mp hu
   have hq' : unl true p σ' g' = some (σ', q.2) := by
    obtain ⟨c, h1, h2, rfl⟩ := unl_some hq
    unfold unl
    rw [getP_no hs, h1]
    show (if isLst c = true then _ else none) = _
    rw [if_pos h2, setS_no hs]
   obtain ⟨M2, x2⟩ := stp hq' M' x'
   rw [← e9] at z
   exact z m' s' σ' H' dd M2 x2 r'
theorem i_lp (h : SimP K te pl) : SimI K E (iSeq K te) (iLp pl) := .mk fun {d m s σ g H} P M hh => by
 unfold iLp at hh
 obtain ⟨xs, e, hh⟩ := sat_ofO hh
 obtain ⟨p, e1, e2⟩ := Option.bind_eq_some_iff.mp e
 have hL := lstT_some e2
 refine .inl (h _ _ M e1 fun H1 k1 => ?_)
 have M1 := M.quiet k1
 obtain ⟨_, how, us, h1, h2⟩ := M1.addr slot_at (by rw [getC_at]; exact hL)
 refine ⟨_, rfl, ⟨us, SqL.of h1⟩, hh m H1 _ M1 (Ext.quiet k1) (jok_lst (fun m' H' L' x => ?_) lvo h2)⟩
 exact x.kp.lst h1 (not_Lv M1 hL)
end
section
variable {K : PySem.W.Frag} {E : XK} {te ta tb tc : TE} {ma mb me : ME} {q0 qa qb qc : QE} {m m1 m' : Env} {H H1 H' : Hp} {d : Nat} {s s1 s' : L2.St} {σ σ1 σ' : Sl} {g g1 g' : G} {tr : TA} {mr mi : MA} {L L1 : Addr → Prop} {mf : MF} {tt : TT} {mt : MT} {ts : TS} {ms : MS} {wi : TI} {vs : List Nat} {p : P0} {pl : Sl → G → Option P0}
theorem RR.rv {fv : Fv} {H0 : Hp} {L0 : Addr → Prop} {v : V} {a : Addr} {o : HO} (hk : Kp (tabs K) (fun b => b = a) H (upd H a o)) (rv : ∀ x v, RV K m H v x → RV K m (upd H a o) v x) (hn : ∀ b, m.ow b = some .tmp ∨ (∃ j, m.ow b = some (.slot d j)) → b ≠ a ∨ ∀ c, ¬ RC K m H b false c) (h : RR K d m H0 L0 H v fv) : RR K d m H0 L0 (upd H a o) v fv := by
 cases fv with
 | val x => exact rv _ _ h
 | own lk c =>
  obtain ⟨h1, b, h2, h3, h4, h5⟩ := h
  refine ⟨h1, b, h2, h3, h4, h5.keep hk ?_ rv⟩
  rcases hn b h3 with z | z
  ·exact z
  ·exact (z c h5).elim
def mLockDE (pl : Sl → G → Option P0) (mf : MF) : MF := fun σ g => (ofO ((pl σ g).bind fun p => if isSlot p then none else (dicP (getP σ g p)).map fun xs => (p, xs)) g).bind fun q g1 => (mf σ (setG true (.dic q.2) g1 (q.1.at 0))).bind fun v g2 => (ofO (unl false q.1 σ g2) g2).bind fun z _ => .ok v z.2
def G.wz (g : G) (z : Bool) : G := { g with fz := z }
def Env.wz (m : Env) (z : Option Addr) : Env := { m with fz := z }
def keysA : A → Option (List A)
 | .dic kvs => some (kvs.map fun kv => kA kv.1)
 | _ => none
def mForKV (i : Nat) (mg : A → Sl → Option Sl) (ms : MS) : MS := fun σ g => (ofO ((qVar i σ g).bind keysA) g).bind fun xs g1 => if g1.fz then .no else ((mForL mg ms xs σ (g1.wz true)).cut).bind fun o g2 => if g2.fz then .ok o (g2.wz false) else .no
theorem Mt.free {a : Addr} {o : HO} {z : Option Addr} (M : Mt K d m s σ g H) (k : Kp (tabs K) (fun b => b = a) H (upd H a o)) (kv : Kv m H (m.wz z) (upd H a o)) (hw : m.ow a = none) : Mt K d (m.wz z) s σ (g.wz z.isSome) (upd H a o) := by
 have rv : ∀ x v, RV K m H v x → RV K (m.wz z) (upd H a o) v x := fun x v h => h.gen kv
 have hS : ∀ (b : Addr) (q : Pl), b = a → m.ow b ≠ some q := fun b q z e => by rw [z, hw] at e; cases e
 refine ⟨fun b h z => M.ne b h (k.dom b z), M.un, M.nn, rfl, M.gn, M.ln, M.dn, M.so, M.eo, fun l o h => (M.lb l o h).keep k (fun b q z e _ => hS b q z e) (fun _ _ e _ => e) M.un rfl rv, M.sn, fun i y h => ?_, k.tab M.tb⟩
 obtain ⟨v, h1, h2⟩ := M.sl i y h
 exact ⟨v, h1, h2.keep rfl k (fun b z e => hS b _ z e) (fun _ e => e) M.un rv⟩
end
def one {α : Type} (f : A → Option α) : List A → Option α
 | [a] => f a
 | _ => none
def two {α : Type} (f : A → A → Option α) : List A → Option α
 | [a, b] => f a b
 | _ => none
def fLen : A → Option A
 | .lst xs => some (.int xs.length)
 | .tup xs => some (.int xs.length)
 | .str s => if s.length ≤ 100000 then some (.int s.length) else none
 | _ => none
def nList : A → Option C
 | .lst xs => some (.lst xs)
 | .tup xs => some (.lst xs)
 | .dic kvs => some (.lst (kvs.map fun kv => kA kv.1))
 | _ => none
def fTupOf : A → Option A
 | .lst xs => some (.tup xs)
 | .tup xs => some (.tup xs)
 | _ => none
def fMax2 : A → A → Option A
 | .int i, .int j => some (.int (if j > i then j else i))
 | _, _ => none
def fMin2 : A → A → Option A
 | .int i, .int j => some (.int (if j < i then j else i))
 | _, _ => none
def fInt1 : A → Option A
 | .int i => some (.int i)
 | .bl b => some (.int (if b then 1 else 0))
 | _ => none
def minZ : List Int → Int
 | [] => 0
 | [i] => i
 | i :: is => min i (minZ is)
def maxZ : List Int → Int
 | [] => 0
 | [i] => i
 | i :: is => max i (maxZ is)
def fMinL : A → Option A
 | .lst xs => match intsA xs with
  | some (n :: ns) => some (.int (minZ (n :: ns)))
  | _ => none
 | _ => none
def fMaxL : A → Option A
 | .lst xs => match intsA xs with
  | some (n :: ns) => some (.int (maxZ (n :: ns)))
  | _ => none
 | _ => none
def fSum : A → Option A
 | .lst xs => (intsA xs).map fun ns => .int ns.sum
 | _ => none
def intK : List (Key × A) → Option (List Int)
 | [] => some []
 | (.inl i, _) :: r => (intK r).map (i :: ·)
 | _ => none
def ins1 (i : Int) : List Int → List Int
 | [] => [i]
 | j :: r => if i ≤ j then i :: j :: r else j :: ins1 i r
def sortZ : List Int → List Int
 | [] => []
 | i :: r => ins1 i (sortZ r)
def nSort : A → Option C
 | .dic kvs => match intK kvs with
  | some ks => if ks.length < 64 then some (.lst ((sortZ ks).map A.int)) else none
  | none => none
 | _ => none
def pairsA : List A → Option (List (Key × A))
 | [] => some []
 | .tup [k, v] :: r => match keyA k with
  | some k => (pairsA r).map ((k, v) :: ·)
  | none => none
 | _ => none
def nDictP : A → Option C
 | .lst xs => (pairsA xs).map fun kvs => .dic (mrgK [] kvs)
 | _ => none
def nDictD : A → Option C
 | .dic kvs => some (.dic kvs)
 | _ => none
section
variable {K : PySem.W.Frag} {E : XK} {m : Env} {H H1 : Hp}
theorem RWs.one {vs : List V} {a : A} (h : RWs K m H vs [a]) : ∃ v, vs = [v] ∧ RW K m H v a := by
 cases h with
 | cons h t => cases t; exact ⟨_, rfl, h⟩
theorem RWs.two {vs : List V} {a b : A} (h : RWs K m H vs [a, b]) : ∃ v w, vs = [v, w] ∧ RW K m H v a ∧ RW K m H w b := by
 cases h with
 | cons h t =>
  cases t with
  | cons h2 t => cases t; exact ⟨_, _, rfl, h, h2⟩
theorem one_some {α : Type} {f : A → Option α} {as : List A} {c : α} (h : one f as = some c) : ∃ a, as = [a] ∧ f a = some c := by
 unfold one at h
 split at h
 ·exact ⟨_, rfl, h⟩
 ·cases h
theorem cb_len : CBQ K (rLenA K) (one fLen) := .mk fun {m H vs as c} Q hf r9 e9 k => by
 obtain ⟨a, rfl, e⟩ := one_some e9
 obtain ⟨v, rfl, r⟩ := r9.one
 cases a with
 | lst xs =>
  cases e
  obtain ⟨b, us, rfl, h1, h2⟩ := r
  refine .inl ⟨b, us, rfl, .inl (SqL.of h1), ?_⟩
  rw [h2.length]; exact k _ _ Kp.refl rfl
 | tup xs =>
  cases e
  obtain ⟨b, us, rfl, h1, h2⟩ := r
  refine .inl ⟨b, us, rfl, .inr (SqT.of h1), ?_⟩
  rw [h2.length]; exact k _ _ Kp.refl rfl
 | str s =>
  have e : (if s.length ≤ 100000 then some (A.int s.length) else none) = some c := e
  split at e
  ·rename_i hl
   cases e
   have r : v = .str s := r
   subst r
   exact .inr ⟨s, rfl, big hl, k _ _ Kp.refl rfl⟩
  ·cases e
 | _ => cases e
theorem cb_tup : CBQ K (rTupleA K) (one fTupOf) := .mk fun {m H vs as c} Q hf r9 e9 k => by
 obtain ⟨a, rfl, e⟩ := one_some e9
 obtain ⟨v, rfl, r⟩ := r9.one
 cases a with
 | lst xs =>
  cases e
  obtain ⟨b, us, rfl, h1, h2⟩ := r
  exact ⟨b, us, rfl, .inl ⟨SqL.of h1, fun p hp => k _ _ (Kp.new hp) ⟨p, us, rfl, upd_same, h2.quiet (Kp.new hp)⟩⟩⟩
 | tup xs =>
  cases e
  obtain ⟨b, us, rfl, h1, h2⟩ := r
  exact ⟨b, us, rfl, .inr ⟨SqT.of h1, k _ _ Kp.refl ⟨b, us, rfl, h1, h2⟩⟩⟩
 | _ => cases e
theorem cb_int1 : CBQ K rInt1 (one fInt1) := .mk fun {m H vs as c} Q hf r9 e9 k => by
 obtain ⟨a, rfl, e⟩ := one_some e9
 obtain ⟨v, rfl, r⟩ := r9.one
 cases a with
 | int i => cases e; exact .inl ⟨i, by rw [show v = _ from r], k _ _ Kp.refl rfl⟩
 | bl b => cases e; exact .inr ⟨b, by rw [show v = _ from r], k _ _ Kp.refl rfl⟩
 | _ => cases e
theorem intK_some : ∀ {kvs : List (Key × A)} {ks : List Int}, intK kvs = some ks → kvs.map (·.1) = ks.map Sum.inl
 | [], ks, h => by cases h; rfl
 | (.inl i, _) :: r, ks, h => by
  obtain ⟨ms, h1, rfl⟩ := Option.map_eq_some_iff.mp (show (intK r).map (i :: ·) = some ks from h)
  rw [List.map_cons, intK_some h1]; rfl
 | (.inr _, _) :: r, ks, h => nomatch h
end
def cutL {α : Type} (xs : List α) (lo hi : Option Int) : List α := (xs.drop (HT.sIx xs.length 0 lo)).take (HT.sIx xs.length xs.length hi - HT.sIx xs.length 0 lo)
abbrev QO := Sl → G → Option (Option Int)
def oNo : QO := fun _ _ => some none
def oPt (q : QE) : QO := fun σ g => match q σ g with
 | some (.int i) => some (some i)
 | _ => none
section
variable (K : PySem.W.Frag)
structure SimO (to : TO) (q : QO) : Prop where
 run : ∀ {d : Nat} {m : Env} {s : L2.St} {σ : Sl} {g : G} {H : Hp} (Q : Option Int → Hp → Prop) (a : Option Int), Mt K d m s σ g H → q σ g = some a → (∀ H', Kp (tabs K) No H H' → Q a H') → to s H Q
instance {to : TO} {q : QO} : CoeFun (SimO K to q) fun _ => ∀ {d : Nat} {m : Env} {s : L2.St} {σ : Sl} {g : G} {H : Hp} (Q : Option Int → Hp → Prop) (a : Option Int), Mt K d m s σ g H → q σ g = some a → (∀ H', Kp (tabs K) No H H' → Q a H') → to s H Q
:= ⟨SimO.run⟩
end
def fSl (a : A) (lo hi : Option Int) : Option A := match a with
 | .tup xs => some (.tup (cutL xs lo hi))
 | _ => none
def nSl (a : A) (lo hi : Option Int) : Option C := match a with
 | .lst xs => some (.lst (cutL xs lo hi))
 | _ => none
def qSl {α : Type} (f : A → Option Int → Option Int → Option α) (q : QE) (l h : QO) : Sl → G → Option α := fun σ g => (q σ g).bind fun a => (l σ g).bind fun lo => (h σ g).bind fun hi => f a lo hi
def mSl {α : Type} (f : A → Option Int → Option Int → Option α) (me : ME) (l h : QO) : Sl → G → R α := fun σ g => (me σ g).bind fun a g1 => ofO ((l σ g1).bind fun lo => (h σ g1).bind fun hi => f a lo hi) g1
section
variable {K : PySem.W.Frag} {E : XK} {te ta tb tc : TE} {ma mb me : ME} {q0 qa qb qc : QE} {m m1 m' : Env} {H H1 H' : Hp} {d : Nat} {s s1 s' : L2.St} {σ σ1 σ' : Sl} {g g1 g' : G} {tr : TA} {mr mi : MA} {mf : MF} {ts : TS} {ms : MS} {tl th : TO} {ql qh : QO}
theorem o_no : SimO K tNoPart oNo := .mk fun Q a M e k => by cases e; exact k _ Kp.refl
theorem o_pt (h : SimQ K ta qa) : SimO K (tPart ta) (oPt qa) := .mk fun {d m s σ g H} Q a M e k => by
 unfold oPt at e
 split at e
 ·rename_i i hi
  cases e
  exact h _ _ M hi fun H1 v k1 r => ⟨i, r, k H1 k1⟩
 ·cases e
theorem RVs.cut {xs : List A} {vs : List V} {lo hi : Option Int} (h : RVs K m H vs xs) : RVs K m H (cutV vs lo hi) (cutL xs lo hi) := by
 unfold cutV cutL
 rw [h.length]
 exact (h.drop _).take _
theorem sl_tup {xs : List A} {lo hi : Option Int} {v : V} {Q : VK} (h : RV K m H v (.tup xs)) (k : ∀ H' v, Kp (tabs K) No H H' → RV K m H' v (.tup (cutL xs lo hi)) → Q v H') : rSlAny K v lo hi H Q := by
 obtain ⟨b, us, rfl, h1, h2⟩ := h
 refine .inr ⟨b, us, rfl, SqT.of h1, fun z => k H _ Kp.refl ⟨b, us, rfl, h1, ?_⟩, fun _ p hp => k _ _ (Kp.new hp) ⟨p, _, rfl, upd_same, h2.cut.quiet (Kp.new hp)⟩⟩
 have := h2.cut (lo := lo) (hi := hi)
 unfold cutV at this
 rw [z.1, z.2] at this
 simpa using this
theorem n_sl (h : SimW K ta qa) (hl : SimO K tl ql) (hh : SimO K th qh) : SimN K (tSl (rSlAny K) ta tl th) (qSl nSl qa ql qh) := .mk fun {d m s σ g H} Q a M e k => by
 obtain ⟨x, e1, e⟩ := Option.bind_eq_some_iff.mp e
 obtain ⟨lo, e2, e⟩ := Option.bind_eq_some_iff.mp e
 obtain ⟨hi, e3, e⟩ := Option.bind_eq_some_iff.mp e
 cases x with
 | lst xs =>
  cases e
  refine h _ _ M e1 fun H1 v k1 r1 => hl _ _ (M.quiet k1) e2 fun H2 k2 => hh _ _ ((M.quiet k1).quiet k2) e3 fun H3 k3 => ?_
  obtain ⟨b, us, rfl, h1, h2⟩ := r1.quiet (kpt k2 k3)
  exact .inl ⟨b, us, rfl, SqL.of h1, fun p hp => k H3 p _ (kpt k1 (kpt k2 k3)) hp h2.cut⟩
 | _ => cases e
theorem e_sl (h : SimE K E ta ma) (hl : SimO K tl ql) (hh : SimO K th qh) : SimE K E (tSl (rSlAny K) ta tl th) (mSl fSl ma ql qh) := .mk fun {d m s σ g H} Q M hs => by
 unfold mSl at hs
 rw [sat_bind] at hs
 refine h _ M (seqE hs (fun x g1 h1 m1 H1 v M1 x1 r1 => ?_) fun _ _ z => z)
 obtain ⟨z, e, h1⟩ := sat_ofO h1
 obtain ⟨lo, e2, e⟩ := Option.bind_eq_some_iff.mp e
 obtain ⟨hi, e3, e⟩ := Option.bind_eq_some_iff.mp e
 cases x with
 | tup xs =>
  cases e
  exact hl _ _ M1 e2 fun H2 k2 => hh _ _ (M1.quiet k2) e3 fun H3 k3 => sl_tup (r1.quiet (kpt k2 k3)) fun H' v k4 r => h1 m1 H' v (M1.quiet (kpt (kpt k2 k3) k4)) (x1.trans (Ext.quiet (kpt (kpt k2 k3) k4))) r
 | _ => cases e
def fU (f : Int → A) : A → Option A
 | .int i => some (f i)
 | _ => none
def m1E (f : A → Option A) (ma : ME) : ME := fun σ g => (ma σ g).bind fun a g1 => ofO (f a) g1
theorem e_un {gv : Int → V} {f : Int → A} (h0 : ∀ (m : Env) (H : Hp) i, RV K m H (gv i) (f i)) (h : SimE K E ta ma) : SimE K E (tUn (rU gv) ta) (m1E (fU f) ma) := .mk fun {d m s σ g H} Q M hs => by
 unfold m1E at hs
 rw [sat_bind] at hs
 refine h _ M (seqE hs (fun a g1 h1 m1 H1 v M1 x1 r1 => ?_) fun _ _ z => z)
 obtain ⟨z, e, h1⟩ := sat_ofO h1
 cases a with
 | int i => cases e; exact ⟨i, r1, h1 m1 H1 _ M1 x1 (h0 _ _ _)⟩
 | _ => cases e
theorem e_notV (h : SimE K E ta ma) : SimE K E (tNotV ta) (m1E fNotV ma) := .mk fun {d m s σ g H} Q M hs => by
 unfold m1E at hs
 rw [sat_bind] at hs
 refine h _ M (seqE hs (fun a g1 h1 m1 H1 v M1 x1 r1 => ?_) fun _ _ z => z)
 obtain ⟨z, e, h1⟩ := sat_ofO h1
 cases a with
 | bl b => cases e; exact ⟨b, r1, h1 m1 H1 _ M1 x1 rfl⟩
 | _ => cases e
def mAndV (a b : ME) : ME := fun σ g => (a σ g).bind fun x g1 => match x with
 | .bl true => b σ g1
 | .bl false => .ok (.bl false) g1
 | _ => .no
def mOrV (a b : ME) : ME := fun σ g => (a σ g).bind fun x g1 => match x with
 | .bl false => b σ g1
 | .bl true => .ok (.bl true) g1
 | _ => .no
theorem e_andV (ha : SimE K E ta ma) (hb : SimE K E tb mb) : SimE K E (tAndV ta tb) (mAndV ma mb) := .mk fun {d m s σ g H} Q M hs => by
 unfold mAndV at hs
 rw [sat_bind] at hs
 refine ha _ M (seqE hs (fun a g1 h1 m1 H1 v M1 x1 r1 => ?_) fun _ _ z => z)
 cases a with
 | bl b =>
  cases b with
  | true => exact ⟨true, r1, iteT (hb _ M1 (seqE h1 (fun y g2 h3 m2 H2 v M2 x2 r => h3 m2 H2 v M2 (x1.trans x2) r) fun _ _ z => z.step x1))⟩
  | false => exact ⟨false, r1, iteF (h1 m1 H1 _ M1 x1 rfl)⟩
 | _ => exact h1.elim
theorem e_orV (ha : SimE K E ta ma) (hb : SimE K E tb mb) : SimE K E (tOrV ta tb) (mOrV ma mb) := .mk fun {d m s σ g H} Q M hs => by
 unfold mOrV at hs
 rw [sat_bind] at hs
 refine ha _ M (seqE hs (fun a g1 h1 m1 H1 v M1 x1 r1 => ?_) fun _ _ z => z)
 cases a with
 | bl b =>
  cases b with
  | false => exact ⟨false, r1, iteF (hb _ M1 (seqE h1 (fun y g2 h3 m2 H2 v M2 x2 r => h3 m2 H2 v M2 (x1.trans x2) r) fun _ _ z => z.step x1))⟩
  | true => exact ⟨true, r1, iteT (h1 m1 H1 _ M1 x1 rfl)⟩
 | _ => exact h1.elim
def qCh (f f' : A → A → Option A) (qa qb qc : QE) : QE := fun σ g => (qa σ g).bind fun a => (qb σ g).bind fun b => (f a b).bind fun z => match z with
 | .bl true => (qc σ g).bind fun c => f' b c
 | .bl false => some (.bl false)
 | _ => none
theorem q_chain {r r' : R2} {f f' : A → A → Option A} (hr : R2Q K r f) (hr' : R2Q K r' f') (ha : SimQ K ta qa) (hb : SimQ K tb qb) (hc : SimQ K tc qc) : SimQ K (tChain r r' ta tb tc) (qCh f f' qa qb qc) := .mk fun {d m s σ g H} Q z M e k => by
 obtain ⟨a, e1, e⟩ := Option.bind_eq_some_iff.mp e
 obtain ⟨b, e2, e⟩ := Option.bind_eq_some_iff.mp e
 obtain ⟨y, e3, e⟩ := Option.bind_eq_some_iff.mp e
 refine ha _ _ M e1 fun H1 v k1 r1 => hb _ _ (M.quiet k1) e2 fun H2 w k2 r2 => ?_
 have M2 := (M.quiet k1).quiet k2
 refine hr _ M2.fr (r1.quiet k2).rw r2.rw e3 fun H3 u k3 r3 => ?_
 cases y with
 | bl t =>
  cases t with
  | true =>
   obtain ⟨c, e4, e5⟩ := Option.bind_eq_some_iff.mp (show (qc σ g).bind (fun c => f' b c) = some z from e)
   refine ⟨true, r3, iteT (hc _ _ (M2.quiet k3) e4 fun H4 w' k4 r4 => ?_)⟩
   exact hr' _ ((M2.quiet k3).quiet k4).fr ((r2.quiet k3).quiet k4).rw r4.rw e5 fun H5 v5 k5 r5 => k H5 v5 (kpt k1 (kpt k2 (kpt k3 (kpt k4 k5)))) r5
  | false => cases e; exact ⟨false, r3, iteF (k H3 _ (kpt k1 (kpt k2 k3)) rfl)⟩
 | _ => cases e
def mCh (f f' : A → A → Option A) (ma mb mc : ME) : ME := fun σ g => (ma σ g).bind fun a g1 => (mb σ g1).bind fun b g2 => (ofO (f a b) g2).bind fun z g3 => match z with
 | .bl true => (mc σ g3).bind fun c g4 => ofO (f' b c) g4
 | .bl false => .ok (.bl false) g3
 | _ => .no
theorem e_chain {r r' : R2} {f f' : A → A → Option A} {mc : ME} (hr : R2Q K r f) (hr' : R2Q K r' f') (ha : SimE K E ta ma) (hb : SimE K E tb mb) (hc : SimE K E tc mc) : SimE K E (tChain r r' ta tb tc) (mCh f f' ma mb mc) := .mk fun {d m s σ g H} Q M hs => by
 unfold mCh at hs
 rw [sat_bind] at hs
 refine ha _ M (seqE hs (fun a g1 h1 m1 H1 v M1 x1 r1 => ?_) fun _ _ z => z)
 rw [sat_bind] at h1
 refine hb _ M1 (seqE h1 (fun b g2 h2 m2 H2 w M2 x2 r2 => ?_) fun _ _ z => z.step x1)
 rw [sat_bind] at h2
 obtain ⟨y, e3, h2⟩ := sat_ofO h2
 have X2 := x1.trans x2
 refine hr _ M2.fr (RV.ext lvo x2 r1).rw r2.rw e3 fun H3 u k3 r3 => ?_
 have X3 := X2.trans (Ext.quiet (L := Lv d m2 σ g2) (m := m2) (D := d) k3)
 cases y with
 | bl t =>
  cases t with
  | true =>
   have h2 : ((mc σ g2).bind fun c g4 => ofO (f' b c) g4).sat _ _ := h2
   rw [sat_bind] at h2
   refine ⟨true, r3, iteT (hc _ (M2.quiet k3) (seqE h2 (fun c g4 h4 m4 H4 w4 M4 x4 r4 => ?_) fun _ _ z => z.step X3))⟩
   obtain ⟨z, e5, h4⟩ := sat_ofO h4
   exact hr' _ M4.fr (RV.ext lvo x4 (r2.quiet k3)).rw r4.rw e5 fun H5 v5 k5 r5 => h4 m4 H5 v5 (M4.quiet k5) ((X3.trans x4).trans (Ext.quiet k5)) r5
  | false => exact ⟨false, r3, iteF (h2 m2 H3 _ (M2.quiet k3) X3 rfl)⟩
 | _ => exact h2.elim
def trA : A → Option Bool
 | .non => some false
 | .bl b => some b
 | .int i => some (i != 0)
 | .lst xs => some (!xs.isEmpty)
 | .tup xs => some (!xs.isEmpty)
 | _ => none
theorem tr_v {a : A} {v : V} {b : Bool} (h : RW K m H v a) (e : trA a = some b) : TruV K v H b := by
 cases a with
 | non => cases e; rw [show v = _ from h]; rfl
 | bl c => cases e; rw [show v = _ from h]; rfl
 | int i => cases e; rw [show v = _ from h]; rfl
 | lst xs =>
  cases e
  obtain ⟨c, us, rfl, h1, h2⟩ := h
  refine .inl ⟨us, SqL.of h1, ?_⟩
  have := h2.length
  cases us <;> cases xs <;> first | rfl | cases this
 | tup xs =>
  cases e
  obtain ⟨c, us, rfl, h1, h2⟩ := h
  refine .inr (.inl ⟨us, SqT.of h1, ?_⟩)
  have := h2.length
  cases us <;> cases xs <;> first | rfl | cases this
 | _ => cases e
theorem qt_tr (h : SimW K ta qa) : SimQT K (tTr K ta) (o1 trA qa) := .mk fun {d m s σ g H} Q b M e k => by
 unfold o1 at e
 cases e1 : qa σ g with
 | none => rw [e1] at e; cases e
 | some a =>
  rw [e1] at e
  exact h _ _ M e1 fun H1 v k1 r => ⟨b, tr_v r e, k H1 k1⟩
def mTr (ma : ME) : MT := fun σ g => (ma σ g).bind fun a g1 => ofO (trA a) g1
theorem t_tr (h : SimE K E ta ma) : SimT K E (tTr K ta) (mTr ma) := .mk fun {d m s σ g H} Q M hs => by
 unfold mTr at hs
 rw [sat_bind] at hs
 refine h _ M (seqE hs (fun a g1 h1 m1 H1 v M1 x1 r1 => ?_) fun _ _ z => z)
 obtain ⟨z, e, h1⟩ := sat_ofO h1
 exact ⟨z, tr_v r1.rw e, h1 m1 H1 M1 x1⟩
def mLab (mf : MF) : ME := fun σ g => (mf σ g).bind fun v g1 => match v with
 | .own false c => .ok (.ref g1.n) (g1.add (.con false c))
 | _ => .no
def isTA : A → String → Option Bool
 | .non, t => if t = "bool" ∨ t = "int" ∨ t = "str" ∨ t = "tuple" ∨ t = "list" then some false else none
 | .bl _, t => if t = "bool" ∨ t = "int" then some true else if t = "str" ∨ t = "tuple" ∨ t = "list" then some false else none
 | .int _, t => if t = "int" then some true else if t = "bool" ∨ t = "str" ∨ t = "tuple" ∨ t = "list" then some false else none
 | .str _, t => if t = "str" then some true else if t = "bool" ∨ t = "int" ∨ t = "tuple" ∨ t = "list" then some false else none
 | .tup _, t => if t = "tuple" then some true else if t = "bool" ∨ t = "int" ∨ t = "str" ∨ t = "list" then some false else none
 | .lst _, t => if t = "list" then some true else if t = "bool" ∨ t = "int" ∨ t = "str" ∨ t = "tuple" then some false else none
 | _, _ => none
def fIsi : A → A → Option A
 | a, .ty t => (isTA a t).map .bl
 | _, _ => none
end
end N
end
section
namespace W
open PySem PySem.Spec PyProof.Rows L2 Cm
def S_take_ (K : PySem.W.Frag) : Sp := spTake (tabs K)
def S_begun_ (K : PySem.W.Frag) : Sp := sp1 fun x H Q _ => ∃ (a : Addr) (ns : List Int), x = .ref a ∧ SqL K H a (ns.map V.int) ∧ ns.length ≤ 63 ∧ ∀ b l H', BoxAt H' b l → Nw H b → Nw H l → Kp (tabs K) No H H' → Q (.ref b) H'
end W
namespace Cm
open PySem PySem.Spec PyProof.Rows L2
def pD (p : Int × Int) : PyData := .tuple [.int p.1, .int p.2]
def mx2 (p q : Int × Int) : Int × Int := if p.1 < q.1 ∨ (p.1 = q.1 ∧ p.2 < q.2) then q else p
def mxs (p : Int × Int) (ps : List (Int × Int)) : Int × Int := ps.foldl mx2 p
def rMaxP (K : PySem.W.Frag) : List V → Hp → VK → Prop := fun vs H Q => ∃ (a : Addr) (xs : List V) (p : Int × Int) (ps : List (Int × Int)), vs = [.ref a] ∧ SqL K H a xs ∧ DpAll K H xs ((p :: ps).map pD) ∧ ∀ (i : Nat) (x : V), xs[i]? = some x → (p :: ps)[i]? = some (mxs p ps) → Q x H
end Cm
end
section
namespace N
open PySem PySem.Spec PyProof.Rows L2 Cm W
def g0 : G := ⟨fun _ => none, 0, false⟩
def env0 : Env := ⟨fun _ => 0, fun _ => none, 0, none⟩
theorem mt0 {K : PySem.W.Frag} {H : Hp} (hT : LamX.Tabs (tabs K) H) : Mt K 0 env0 [] [] g0 H where
 tb := hT
 ne a h := (h rfl).elim
 un a p h := nomatch h
 nn := rfl
 fz := rfl
 gn _ _ := rfl
 ln a l h := by rcases h with h | ⟨_, h⟩ | h <;> cases h
 dn a e i h := nomatch h
 so a i h := nomatch h
 eo a l f h := nomatch h
 lb l o h := nomatch h
 sn := rfl
 sl i x h := by simp at h
def isBox : Option AO → Bool
 | some .box => true
 | _ => false
def p_take : List A → G → R Fv
 | [.ref b, .int n], g => if isBox (g.o b) && decide (0 < n ∧ n < 2 ^ 64) then .all { v : Int // 0 ≤ v ∧ v < n } fun v => .ok (.val (.int v.1)) g else .no
 | _, _ => .no
def p_begun : List A → G → R Fv
 | [.scr ns], g => if ns.length ≤ 63 then .ok (.val (.ref g.n)) (g.add .box) else .no
 | _, _ => .no
section
variable {K : PySem.W.Frag} {E : XK} {te ta tb tc : TE} {ma mb me : ME} {q0 qa qb qc : QE} {m m0 m1 m' : Env} {H H0 H1 H' : Hp} {d : Nat} {s s1 s' : L2.St} {σ σ1 σ' : Sl} {g g1 g' : G} {tr : TA} {mr mi : MA} {mf : MF} {ts : TS} {ms : MS} {L0 : Addr → Prop}
theorem box_some : ∀ {o : Option AO}, isBox o = true → o = some .box
 | some .box, _ => rfl
 | none, h => nomatch h
 | some (.ins _ _), h => nomatch h
 | some (.con _ _), h => nomatch h
 | some (.tab _), h => nomatch h
 | some (.sto _), h => nomatch h
theorem sp_take : ∀ vs H Q E, SpM K 2 p_take vs H Q E → S_take_ K vs H Q E := fun vs H Q E h => by
 obtain ⟨d, m, s, σ, g, as, hl, M, hv, hs⟩ := h
 unfold p_take at hs
 split at hs
 ·rename_i b n
  split at hs
  ·rename_i hc
   rw [Bool.and_eq_true] at hc
   have hn := of_decide_eq_true hc.2
   have hb := box_some hc.1
   obtain ⟨v, r, rfl, ⟨rfl, _⟩, w, r', rfl, e2, e3⟩ := hv
   have e2 : w = .int n := e2
   have e3 : r' = [] := e3
   subst e2 e3
   obtain ⟨F, ⟨l, hB, hF⟩, hw⟩ := M.lb b _ hb
   refine ⟨_, _, rfl, _, l, n, rfl, rfl, hB, hn.1, hn.2, fun v H' h0 h1 hB' k => ?_⟩
   have hS : ∀ a, Bx (m.ad (.lab b)) l a → m.ow a = some (.adt b) := fun a ha => hw a ((hF a).mpr ha)
   have rv : ∀ x v, RV K m H v x → RV K m H' v x := fun x v => RV.re k (fun a ha => by rw [hS a ha]; exact nofun) (Nat.le_refl _) (fun _ _ => rfl) (fun _ h _ => h) rfl
   refine hs ⟨v, h0, h1⟩ m H' _ ⟨fun a h z => M.ne a h (k.dom a z), M.un, M.nn, M.fz, M.gn, M.ln, M.dn, M.so, M.eo, fun j o ho => ?_, M.sn, fun i y hy => ?_, k.tab M.tb⟩ ⟨k.mono fun a ha => ⟨_, hS a ha, .inr (.inr hb)⟩, Nat.le_refl _, fun _ _ => rfl, fun _ _ _ => rfl, fun _ h => .inl h, fun _ _ _ h => .inl h, rfl⟩ rfl
   ·by_cases hj : j = b
    ·subst hj
     rw [hb] at ho
     cases ho
     exact ⟨F, ⟨l, hB', hF⟩, hw⟩
    ·exact (M.lb j o ho).keep k (fun a q z e hq => by rw [hS a z] at e; cases e; exact hj (Option.some.inj hq).symm) (fun _ _ e _ => e) M.un rfl rv
   ·obtain ⟨u, h2, h3⟩ := M.sl i y hy
    exact ⟨u, h2, h3.keep rfl k (fun a z e => by rw [hS a z] at e; cases e) (fun _ e => e) M.un rv⟩
  ·exact hs.elim
 ·exact hs.elim
def Env.addA (m : Env) (b l : Addr) : Env := { m with ow := fun x => if x = b ∨ x = l then some (.adt m.n) else m.ow x, ad := fun q => if q = .lab m.n then b else m.ad q, n := m.n + 1 }
theorem sp_begun : ∀ vs H Q E, SpM K 1 p_begun vs H Q E → S_begun_ K vs H Q E := fun vs H Q E h => by
 obtain ⟨d, m, s, σ, g, as, hl, M, hv, hs⟩ := h
 unfold p_begun at hs
 split at hs
 ·rename_i ns
  split at hs
  ·rename_i hn
   obtain ⟨v, r, rfl, ⟨a, rfl, ha⟩, e3⟩ := hv
   have e3 : r = [] := e3
   subst e3
   have hq : SqL K H a (ns.map V.int) := ha.elim (fun z => .inl z.1) .inr
   refine ⟨_, rfl, a, ns, rfl, hq, hn, fun b l H' hB hb hl' k => ?_⟩
   have hnw : ∀ x, (x = b ∨ x = l) → Nw H x := fun x hx => hx.elim (fun z => by rw [z]; exact hb) (fun z => by rw [z]; exact hl')
   have how : ∀ x q, m.ow x = some q → (m.addA b l).ow x = some q := fun x q e => by
    show (if x = b ∨ x = l then _ else m.ow x) = _
    rw [if_neg (fun z => M.ne x (by rw [e]; exact nofun) (hnw x z))]; exact e
   have back : ∀ x q, (m.addA b l).ow x = some q → q ≠ .adt m.n → m.ow x = some q := fun x q e hq => by
    have e : (if x = b ∨ x = l then some (Pl.adt m.n) else m.ow x) = some q := e
    split at e
    ·cases e; exact (hq rfl).elim
    ·exact e
   have hlt : ∀ x q, m.ow x = some q → q.of ≠ some m.n := fun a q h z => by
    cases q with
    | lab l => cases z; exact Nat.lt_irrefl _ (M.ln a _ (.inl h))
    | emb l f => cases z; exact Nat.lt_irrefl _ (M.ln a _ (.inr (.inl ⟨f, h⟩)))
    | adt l => cases z; exact Nat.lt_irrefl _ (M.ln a _ (.inr (.inr h)))
    | _ => cases z
   have ad : ∀ q, q ≠ .lab m.n → (m.addA b l).ad q = m.ad q := fun q hq => if_neg hq
   have hnl : ∀ l, l < m.n → Pl.lab l ≠ .lab m.n := fun l h z => by cases z; exact Nat.lt_irrefl _ h
   have un1 : ∀ x q, (m.addA b l).ow x = some q → q.single = true → x = (m.addA b l).ad q := fun x q e hq => by
    have e1 := back x q e (fun z => by subst z; cases hq)
    rw [ad q (fun z => by subst z; exact hlt x _ e1 rfl)]
    exact M.un x q e1 hq
   have kv : Kv m H (m.addA b l) H' := by
    refine ⟨Nat.le_succ _, fun j hj => ad _ (hnl j hj), fun x us e => k.tup e, fun x us e hw => ⟨k.lst e (fun z => z), ?_⟩, fun x us e hw => ⟨rd_kp k e (fun _ y => nomatch y) (fun z => z), ?_⟩, fun x us e hw => ⟨?_, ?_⟩⟩
    ·show (if x = b ∨ x = l then _ else m.ow x) = none
     rw [if_neg (fun z => nw_no (hnw x z) e (fun _ y => nomatch y))]; exact hw
    ·show (if x = b ∨ x = l then _ else m.ow x) = none
     rw [if_neg (fun z => rd_nw e (fun _ y => nomatch y) (hnw x z))]; exact hw
    ·rcases e with e | ⟨e, o, e2⟩
     ·exact .inl (k.dK e (fun z => z))
     ·exact .inr ⟨e, o, k.old x _ e2 (fun _ y => nomatch y) (fun z => z)⟩
    ·show (if x = b ∨ x = l then _ else m.ow x) = none
     rw [if_neg (fun z => rd_nw e.rd (fun _ y => nomatch y) (hnw x z))]; exact hw
   have rv : ∀ x v, RV K m H v x → RV K (m.addA b l) H' v x := fun x v h => h.gen kv
   have eo : ∀ j, j ≠ g.n → (g.add .box).o j = g.o j := fun j hj => if_neg hj
   have en : (g.add .box).o g.n = some .box := if_pos rfl
   have hadb : (m.addA b l).ad (.lab m.n) = b := if_pos rfl
   refine hs (m.addA b l) H' _ ⟨fun x h => ?_, un1, by show g.n + 1 = m.n + 1; rw [M.nn], M.fz, fun j hj => ?_, fun x j h => ?_, fun x e i h => M.dn x e i (back _ _ h nofun), fun x i h => M.so x i (back _ _ h nofun), fun x j f h => ?_, fun j o h => ?_, M.sn, fun i y h => ?_, k.tab M.tb⟩ ⟨k.mono fun _ z => z.elim, Nat.le_succ _, fun j hj => ad _ (hnl j hj), fun x h1 _ => ?_, fun x h => ?_, fun x e i h => .inl (back _ _ h nofun), rfl⟩ ⟨by rw [M.nn, hadb], by rw [M.nn]; exact Nat.lt_succ_self _⟩
   ·by_cases z : x = b ∨ x = l
    ·obtain ⟨ns', zz, q1, q2, _⟩ := hB
     rcases z with z | z <;> rw [z]
     ·exact fun y => nw_no y q1 (fun _ y => nomatch y)
     ·exact fun y => nw_no y q2 (fun _ y => nomatch y)
    ·refine fun q => M.ne x (fun y => h ?_) (k.dom x q)
     show (if x = b ∨ x = l then _ else m.ow x) = none
     rw [if_neg z]; exact y
   ·have hj : g.n + 1 ≤ j := hj
    rw [eo j (by omega)]; exact M.gn j (by omega)
   ·show j < m.n + 1
    rcases h with h | ⟨f, h⟩ | h
    ·exact Nat.lt_succ_of_lt (M.ln x j (.inl (back _ _ h nofun)))
    ·exact Nat.lt_succ_of_lt (M.ln x j (.inr (.inl ⟨f, back _ _ h nofun⟩)))
    ·by_cases z : j = m.n
     ·omega
     ·exact Nat.lt_succ_of_lt (M.ln x j (.inr (.inr (back _ _ h (fun y => z (by cases y; rfl))))))
   ·obtain ⟨cn, fs, lk, c, h1, h2⟩ := M.eo x j f (back _ _ h nofun)
    refine ⟨cn, fs, lk, c, ?_, h2⟩
    rw [eo j (fun z => by rw [z, M.gn _ (Nat.le_refl _)] at h1; cases h1)]; exact h1
   ·by_cases z : j = g.n
    ·subst z
     rw [en] at h
     cases h
     rw [M.nn]
     exact ⟨fun x => x = b ∨ x = l, ⟨l, by rw [hadb]; exact hB, fun x => by rw [hadb]⟩, fun x hx => if_pos hx⟩
    ·rw [eo j z] at h
     have := M.labn h
     exact (M.lb j o h).keep k (fun _ _ z => z.elim) (fun x q e hq => how x q e) un1 (ad _ (hnl j this)) rv
   ·obtain ⟨u, h2, h3⟩ := M.sl i y h
    exact ⟨u, h2, h3.keep rfl k (fun _ z => z.elim) (fun x e => how x _ e) un1 rv⟩
   ·show (if x = b ∨ x = l then _ else m.ow x) = _
    rw [if_neg (fun z => h1 (hnw x z))]
   ·obtain ⟨q, h1, h2⟩ := h
    by_cases z : x = b ∨ x = l
    ·exact .inr (hnw x z)
    ·have h3 : m.ow x = some q := by
      have h1 : (if x = b ∨ x = l then some (Pl.adt m.n) else m.ow x) = some q := h1
      rw [if_neg z] at h1; exact h1
     have hq := hlt x q h3
     refine .inl ⟨q, h3, ?_⟩
     cases q with
     | lab j =>
      have : j ≠ g.n := fun w => hq (by rw [w, M.nn]; rfl)
      simp only [live] at h2 ⊢
      rw [eo j this] at h2; exact h2
     | adt j =>
      have : j ≠ g.n := fun w => hq (by rw [w, M.nn]; rfl)
      simp only [live] at h2 ⊢
      rw [eo j this] at h2; exact h2
     | emb j f =>
      have : j ≠ g.n := fun w => hq (by rw [w, M.nn]; rfl)
      simp only [live] at h2 ⊢
      rw [eo j this] at h2; exact h2
     | slot => exact h2
     | tmp => exact h2
     | old => exact h2
  ·exact hs.elim
 ·exact hs.elim
def mAug (i : Nat) (f : Int → Int → Int) (me : ME) : MS := fun σ g => (ofO (qVar i σ g) g).bind fun x g0 => (me σ g0).bind fun y g1 => ofO ((fI (fun a b => .int (f a b)) x y).bind fun z => (setSl σ i (.val z)).map .nx) g1
def mFldAug (cs : List Str) (qo : QE) (f : Str) (op : Int → Int → Int) (qv : QE) : MS := fun σ g => (ofO ((refO (qo σ g)).bind fun l => (vF (fA cs f (g.o l))).bind fun x => (qv σ g).bind fun y => (fI (fun a b => .int (op a b)) x y).bind fun z => setFl cs g l f (.val z)) g).bind fun g2 _ => .ok (.nx σ) g2
def qLenD (pl : Sl → G → Option P0) : QE := fun σ g => (pl σ g).bind fun p => (dicP (getP σ g p)).map fun kvs => .int kvs.length
def idx (k : Int) : List Int → Option Nat
 | [] => none
 | n :: ns => if n = k then some 0 else (idx k ns).map (· + 1)
def fIdx (a b : A) : Option A := match a, b with
 | .lst xs, .int k => (intsA xs).bind fun ns => (idx k ns).map fun j => .int (j : Nat)
 | _, _ => none
end
section
variable {K : PySem.W.Frag} {E : XK} {te ta tb tc : TE} {ma mb me : ME} {q0 qa qb qc : QE} {m m0 m1 m' : Env} {H H0 H1 H' : Hp} {d : Nat} {s s1 s' : L2.St} {σ σ1 σ' : Sl} {g g1 g' : G} {tr : TA} {mr mi : MA} {mf : MF} {ts : TS} {ms : MS} {L0 : Addr → Prop} {tg : TG} {mg : A → Sl → Option Sl}
def mNo {α : Type} : Sl → G → R α := fun _ _ => .no
def qNo {α : Type} : Sl → G → Option α := fun _ _ => none
theorem fa1 {c f : Str} (h1 : Cls K (He.ga K c)) (h2 : NoAttr K (He.ga K c) f) : FA K [c] f := fun cn h => by
 have : cn = c := by simpa using h
 subst this
 exact ⟨h1, h2⟩
theorem sp_id {k : Nat} {cf : List A → G → R Fv} (vs : List V) (H : Hp) (Q : VK) (E : XK) (h : SpM K k cf vs H Q E) : SpM K k cf vs H Q E := h
def mAsgG (me : ME) (mg : A → Sl → Option Sl) : MS := fun σ g => (me σ g).bind fun a g1 => ofO ((mg a σ).map .nx) g1
def mPar (i j : Nat) (mr : MA) : MS := fun σ g => (mr σ g).bind fun as g1 => match as with
 | [a, b] => ofO ((gN i a σ).bind fun σ1 => (gN j b σ1).map .nx) g1
 | _ => .no
end
section
variable {K : PySem.W.Frag} {E : XK} {te ta tb tc : TE} {ma mb me : ME} {q0 qa qb qc : QE} {m m0 m1 m' : Env} {H H0 H1 H' : Hp} {d : Nat} {s s1 s' : L2.St} {σ σ1 σ' : Sl} {g g1 g' : G} {tr : TA} {mr mi : MA} {mf : MF} {ts : TS} {ms : MS} {L0 : Addr → Prop} {pl : Sl → G → Option P0} {p : P0}
def nRg : A → Option C
 | .int n => if -(2 ^ 62) ≤ n ∧ n < 2 ^ 62 ∧ n ≤ 100000 then some (.lst (rngA 0 n.toNat)) else none
 | _ => none
def mLockLE (pl : Sl → G → Option P0) (mf : MF) : MF := fun σ g => (ofO ((pl σ g).bind fun p => if isSlot p then none else (lstP (getP σ g p)).map fun xs => (p, xs)) g).bind fun q g1 => (mf σ (setG true (.lst q.2) g1 (q.1.at 0))).fin (fun v g2 => (ofO (unl true q.1 σ g2) g2).bind fun z _ => .ok v z.2) (unGL q.1)
def iZp (pl : Sl → G → Option P0) (me : ME) : MA := fun σ g => (ofO ((pl σ g).bind fun p => (lstT (getP σ g p)).map fun xs => (p, xs)) g).bind fun q g0 => (me σ g0).bind fun a g1 => ofO ((lstA a).bind fun ys => (lstT (getP σ g1 q.1)).map fun _ => zipA q.2 ys) g1
def fzS (σ : Sl) (i : Nat) : Option Sl := match σ[i]? with
 | some (some (.own false c)) => some (σ.set i (some (.val (cA c))))
 | _ => none
def mFz (i : Nat) (ms : MS) : MS := fun σ g => (ofO (fzS σ i) g).bind fun σ1 g1 => ms σ1 g1
def wRef (q : QE) : QE := fun σ g => (refO (q σ g)).bind fun l => (cO (g.o l)).map fun c => cA c.2
end
end N
end
section
namespace Cm
open PySem PySem.Spec PyProof.Rows L2
abbrev nset (w : World) : Obj := { cls := .type "set", dict := none, data := .set #[] 0 (.fresh 0 0 (!w.params.followText "set-order")) }
section
variable {P : Program} {w : World} {A : Around} {E : Value → Shared → Prop} {s : Shared}
end
section
variable {X : Cx}
def rSetOfL (K : PySem.W.Frag) (w : World) : List V → Hp → VK → Prop := fun xs H Q => ∃ (a : Addr) (ns : List Int), xs = [.ref a] ∧ SqL K H a (ns.map V.int) ∧ ns.length ≤ 1000 ∧ ∀ (c : Nat) (p : Addr), c ≤ ns.length → H p = none → Q (.ref p) (upd H p (SetO w p (fun j => decide (j ∈ ns)) c))
end
end Cm
end
section
namespace N
open PySem PySem.Spec PyProof.Rows L2 Cm W
def insU (i : Int) : List Int → List Int
 | [] => [i]
 | j :: r => if i < j then i :: j :: r else if i = j then j :: r else j :: insU i r
def uniqZ : List Int → List Int
 | [] => []
 | i :: r => insU i (uniqZ r)
def fSS : A → Option C
 | .lst xs => match intsA xs with
  | some ns => if ns.length ≤ 60 then some (.lst ((uniqZ ns).map A.int)) else none
  | none => none
 | _ => none
def mSS (ma : ME) : MF := fun σ g => (ma σ g).bind fun a g1 => ofO ((fSS a).map (Fv.own false)) g1
section
variable {K : PySem.W.Frag} {E : XK} {te ta tb tc : TE} {ma mb me : ME} {q0 qa qb qc : QE} {m m0 m1 m' : Env} {H H0 H1 H' : Hp} {d : Nat} {s s1 s' : L2.St} {σ σ1 σ' : Sl} {g g1 g' : G} {tr : TA} {mr mi : MA} {mf : MF} {ts : TS} {ms : MS} {w : World}
def SpQ (K : PySem.W.Frag) (k : Nat) (f : List A → Option A) : Sp := fun vs H Q _ => ∃ d m s σ g as a, as.length = k ∧ Mt K d m s σ g H ∧ RVs K m H vs as ∧ f as = some a ∧ ∀ H' v, Kp (tabs K) No H H' → RV K m H' v a → Q v H'
theorem spq_len {k : Nat} {f : List A → Option A} (vs : List V) (H : Hp) (Q : VK) (E : XK) (h : SpQ K k f vs H Q E) : vs.length = k := by
 obtain ⟨_, _, _, _, _, as, _, h1, _, h2, _⟩ := h
 rw [h2.length]; exact h1
theorem q_call {k : Nat} {f : List A → Option A} {qr : Sl → G → Option (List A)} (hr : SimAQ K tr qr) : SimQ K (tCall (SpQ K k f) [] E tr) (oL (fun as => if as.length = k then f as else none) qr) := .mk fun {d m s σ g H} Q a M e kk => by
 unfold oL at e
 cases e1 : qr σ g with
 | none => rw [e1] at e; cases e
 | some as =>
  rw [e1] at e
  have e : (if as.length = k then f as else none) = some a := e
  split at e
  ·rename_i hk
   refine hr _ _ M e1 fun H1 vs k1 r1 => ?_
   show SpQ K k f (vs ++ []) H1 Q E
   rw [List.append_nil]
   exact ⟨d, m, s, σ, g, as, a, hk, M.quiet k1, r1, e, fun H' v k2 r2 => kk H' v (kpt k1 k2) r2⟩
  ·cases e
theorem pureQ {k : Nat} {N : List Str} {t : XK → TS} {te : XK → TE} {q : QE} (ht : ∀ E, t E = tRet (te E)) (h : ∀ E, SimQ K (te E) q) (hq : ∀ as g, q (startA N.length as) g = q (startA N.length as) g0) (vs : List V) (H : Hp) (Q : VK) (E : XK) (hs : SpQ K k (fun as => q (startA N.length as) g0) vs H Q E) : t E { nx := fun _ H' => Q .non H', rt := Q } (L2.start N vs) H := by
 obtain ⟨d, m, s, σ, g, as, a, h1, M, hv, e, kk⟩ := hs
 have hlen := hv.length
 have M1 : Mt K (d + 1) m (L2.start N vs) (startA N.length as) g H := M.enter (by unfold L2.start startA; simp [hlen]) fun i x e => by
  unfold startA at e
  rw [List.getElem?_append] at e
  split at e
  ·rename_i hi
   rw [List.getElem?_map] at e
   obtain ⟨a, e1, e2⟩ := Option.map_eq_some_iff.mp e
   cases e2
   obtain ⟨v, h3, h4⟩ := hv.get e1
   refine ⟨v, a, ?_, rfl, h4⟩
   unfold L2.start
   rw [List.getElem?_append_left (by rw [List.length_map, hlen]; simpa using hi), List.getElem?_map, h3]; rfl
  ·rw [List.getElem?_replicate] at e
   split at e
   ·cases e
   ·cases e
 rw [ht]
 exact (h E) Q a M1 ((hq as g).trans e) fun H' v k2 r2 => kk H' v k2 r2
end
def seqA : A → Option (List A)
 | .lst xs => some xs
 | .tup xs => some xs
 | _ => none
def iSq (q : QE) : MA := fun σ g => ofO ((q σ g).bind seqA) g
def mDs : List (Str × ME) → Sl → G → R (List (Key × A))
 | [], _, g => .ok [] g
 | (k, me) :: r, σ, g => (me σ g).bind fun a g1 => (mDs r σ g1).bind fun kvs g2 => .ok ((.inr k, a) :: kvs) g2
def mDisp (r : List (Str × ME)) : MF := fun σ g => (mDs r σ g).bind fun kvs g1 => if kvs.length ≤ 15 then .ok (.own false (.dic (mrgK [] kvs))) g1 else .no
def mUpd (pl : Sl → G → Option P0) (qr : QE) : MS := fun σ g => (ofO ((pl σ g).bind fun p => (dicP (getP σ g p)).bind fun kvs => ((qr σ g).bind lstA).bind fun xs => (pairsA xs).bind fun ps => if kvs.length + xs.length ≤ 100000 then some (p, mrgK kvs ps) else none) g).bind fun q g1 => .ok (.nx (putS (.dic q.2) σ q.1)) (putG (.dic q.2) g1 q.1)
section
variable {K : PySem.W.Frag} {E : XK} {te ta tb tc : TE} {ma mb me : ME} {q0 qa qb qc : QE} {m m0 m1 m' : Env} {H H0 H1 H' : Hp} {d : Nat} {s s1 s' : L2.St} {σ σ1 σ' : Sl} {g g1 g' : G} {tr : TA} {mr mi : MA} {mf : MF} {ts : TS} {ms : MS} {w : World} {pl : Sl → G → Option P0}
theorem i_any (h0 : SimQ K te q0) : SimI K E (iSeq K te) (iSq q0) := .mk fun {d m s σ g H} P M h => by
 unfold iSq at h
 obtain ⟨xs, e, h1⟩ := sat_ofO h
 obtain ⟨a, ea, e⟩ := Option.bind_eq_some_iff.mp e
 cases a with
 | lst ys =>
  cases e
  refine .inl (h0 _ _ M ea fun H1 v k1 r1 => ?_)
  obtain ⟨b, vs, rfl, h2, h3, h4⟩ := r1
  exact ⟨b, rfl, ⟨vs, SqL.of h2⟩, h1 m H1 _ (M.quiet k1) (Ext.quiet k1) (jok_lst (fun m' H' L' x => x.kp.lst h2 (fun z => lvo b z h3)) lvo h4)⟩
 | tup ys =>
  cases e
  refine .inr (h0 _ _ M ea fun H1 v k1 r1 => ?_)
  obtain ⟨b, vs, rfl, h2, h4⟩ := r1
  exact ⟨b, rfl, ⟨vs, SqT.of h2⟩, h1 m H1 _ (M.quiet k1) (Ext.quiet k1) (jok_tup h2 lvo h4)⟩
 | _ => cases e
theorem i_enumA (hr : SimA K E tr mr) : SimI K E (iEnumA K tr) (iE seqA mr) := .mk fun {d m s σ g H} P M h => by
 unfold iE at h
 rw [sat_bind] at h
 refine hr _ M (seqE h (fun as g1 h1 m1 H1 vs M1 x1 r1 => ?_) fun _ _ z => z)
 split at h1
 ·rename_i a
  obtain ⟨zs, e, h1⟩ := sat_ofO h1
  obtain ⟨xs, e9, rfl⟩ := Option.map_eq_some_iff.mp e
  cases a with
  | lst ys =>
   cases e9
   obtain ⟨v, r, rfl, ⟨b, us, rfl, h2, h3, h4⟩, e3⟩ := r1
   have e3 : r = [] := e3
   subst e3
   refine ⟨b, rfl, .inl ⟨us, SqL.of h2, h1 m1 H1 _ M1 x1 fun m' H' L' x => ?_⟩⟩
   have k1 := x.kp.lst h2 (fun z => lvo b z h3)
   have q1 := RVs.ext lvo x h4
   refine ⟨fun i z e => ?_, ⟨us, SqL.of k1, by rw [enum_len, q1.length]; exact Nat.le_refl _⟩⟩
   obtain ⟨y, e1, rfl⟩ := enum_get e
   obtain ⟨u, e2, r2⟩ := q1.get e1
   refine ⟨⟨us, u, SqL.of k1, e2⟩, fun w H2 hy => ?_⟩
   obtain ⟨T, a1, rfl, hT, rfl, y1⟩ := hy
   have y1 := y1 us (SqL.of k1)
   rw [e2] at y1
   cases y1
   have k3 : Kp (tabs K) No H' (upd H' T (.tup [.int (i : Nat), u])) := Kp.new hT
   exact ⟨k3, T, [.int (i : Nat), u], rfl, upd_same, .cons rfl (.cons (r2.quiet k3) .nil)⟩
  | tup ys =>
   cases e9
   obtain ⟨v, r, rfl, ⟨b, us, rfl, h2, h4⟩, e3⟩ := r1
   have e3 : r = [] := e3
   subst e3
   refine ⟨b, rfl, .inr ⟨us, SqT.of h2, h1 m1 H1 _ M1 x1 fun m' H' L' x => ?_⟩⟩
   have k1 := x.kp.tup h2
   have q1 := RVs.ext lvo x h4
   refine ⟨fun i z e => ?_, ⟨us, SqT.of k1, by rw [enum_len, q1.length]; exact Nat.le_refl _⟩⟩
   obtain ⟨y, e1, rfl⟩ := enum_get e
   obtain ⟨u, e2, r2⟩ := q1.get e1
   refine ⟨⟨us, u, SqT.of k1, e2⟩, fun w H2 hy => ?_⟩
   obtain ⟨T, a1, rfl, hT, rfl, y1⟩ := hy
   have y1 := y1 us (SqT.of k1)
   rw [e2] at y1
   cases y1
   have k3 : Kp (tabs K) No H' (upd H' T (.tup [.int (i : Nat), u])) := Kp.new hT
   exact ⟨k3, T, [.int (i : Nat), u], rfl, upd_same, .cons rfl (.cons (r2.quiet k3) .nil)⟩
  | _ => cases e9
 ·exact h1.elim
structure SimDs (K : PySem.W.Frag) (E : XK) (trs : List (TE × TE)) (ms : List (Str × ME)) : Prop where
 run : ∀ {d : Nat} {m : Env} {s : L2.St} {σ : Sl} {g : G} {H : Hp} (Q : List (V × V) → Hp → Prop), Mt K d m s σ g H →
  (mDs ms σ g).sat (fun kvs g' => ∀ m' H' ws, Mt K d m' s σ g' H' → Ext K d m H (Lv d m σ g) m' H' (Lv d m' σ g') → RKs K m' H' ws kvs → Q (ws.map fun kv => (kV kv.1, kv.2)) H') (EK K d m H (Lv d m σ g) E) → tPairs trs s H Q
theorem ds_nil : SimDs K E [] [] := .mk fun Q M h => h _ _ [] M Ext.refl rfl
theorem ds_cons {k : Str} {trs : List (TE × TE)} {ms : List (Str × ME)} (ha : SimE K E ta ma) (hr : SimDs K E trs ms) : SimDs K E ((tC (.str k), ta) :: trs) ((k, ma) :: ms) := .mk fun {d m s σ g H} Q M h => by
 unfold mDs at h
 rw [sat_bind] at h
 refine e_pcons ?_
 refine (ha _ M (seqE h (fun x g1 h1 m1 H1 u M1 x1 r1 => ?_) fun _ _ z => z) : ta s H _)
 rw [sat_bind] at h1
 exact hr.run _ M1 (seqE h1 (fun y g2 h2 m2 H2 w M2 x2 r2 => h2 m2 H2 ((.inr k, u) :: w) M2 (x1.trans x2) (.cons (RV.ext lvo x2 r1) r2)) fun _ _ z => z.step x1)
theorem Mt.tmp_setD {b : Addr} {us us' : List (Key × V)} (M : Mt K d m s σ g H) (hb : m.ow b = some .tmp) (hH : H b = some (.dK us)) : Mt K d m s σ g (upd H b (.dK us')) ∧ (∀ x v, RV K m H v x → RV K m (upd H b (.dK us')) v x) ∧ Kp (tabs K) (fun a => a = b) H (upd H b (.dK us')) := by
 have k : Kp (tabs K) (fun a => a = b) H (upd H b (.dK us')) := Kp.setD hH rfl
 have rv : ∀ x v, RV K m H v x → RV K m (upd H b (.dK us')) v x := fun x v => RV.re k (fun a z => by rw [z, hb]; exact nofun) (Nat.le_refl _) (fun _ _ => rfl) (fun _ h _ => h) rfl
 have hS : ∀ (a : Addr) (q : Pl), a = b → m.ow a = some q → q = .tmp := fun a q z e => by rw [z, hb] at e; exact (Option.some.inj e).symm
 refine ⟨⟨fun a h z => M.ne a h (k.dom a z), M.un, M.nn, M.fz, M.gn, M.ln, M.dn, M.so, M.eo, fun l o h => (M.lb l o h).keep k (fun a q z e hq => by rw [hS a q z e] at hq; cases hq) (fun _ _ e _ => e) M.un rfl rv, M.sn, fun i y h => ?_, k.tab M.tb⟩, rv, k⟩
 obtain ⟨v, h1, h2⟩ := M.sl i y h
 exact ⟨v, h1, h2.keep rfl k (fun a z e => by have := hS a _ z e; cases this) (fun _ e => e) M.un rv⟩
theorem f_disp {trs : List (TE × TE)} {r : List (Str × ME)} (hr : SimDs K E trs r) : SimF K E (tDisp trs) (mDisp r) := .mk fun {d m s σ g H} Q M h => by
 unfold mDisp at h
 rw [sat_bind] at h
 refine e_disp fun p hp => ?_
 obtain ⟨m1, M1, x1, r1⟩ := M.fresh_tmp (D := d) (c := .dic []) (o := .dK []) hp rfl
 obtain ⟨_, b, eb, ow1, _, _⟩ := r1
 cases eb
 refine hr.run _ M1 (seqE h (fun kvs g2 h2 m2 H2 ws M2 x2 r2 => ?_) fun _ _ z => z.step x1)
 have hnl : ¬ Lv d m1 σ g p := fun ⟨q, e, hl⟩ => by rw [ow1] at e; cases e; exact hl
 have hpn : ¬ Nw (upd H p (.dK [])) p := fun z => nw_no z upd_same (fun _ z => nomatch z)
 have ow2 : m2.ow p = some .tmp := (x2.ow p hpn hnl).trans ow1
 have hp2 : H2 p = some (.dK []) := x2.kp.dK upd_same hnl
 have h2 : (if kvs.length ≤ 15 then R.ok (Fv.own false (.dic (mrgK [] kvs))) g2 else R.no).sat _ _ := h2
 split at h2
 ·rename_i hl
  obtain ⟨M3, rv, k3⟩ := M2.tmp_setD (us' := mergeK [] ws) ow2 hp2
  refine ⟨hp2, ws, rfl, by rw [r2.length]; exact hl, ?_⟩
  have rks : ∀ {xs : List (Key × A)} {ws' : List (Key × V)}, RKs K m2 H2 ws' xs → RKs K m2 (upd H2 p (.dK (mergeK [] ws))) ws' xs := by
   intro xs
   induction xs with
   | nil => intro ws h; exact h
   | cons q xs ih =>
    obtain ⟨j, x⟩ := q
    rintro ws ⟨u, r, h1, h2, h3⟩
    exact ⟨u, r, h1, rv _ _ h2, ih h3⟩
  have X := x1.trans x2
  have X3 : Ext K d m H (Lv d m σ g) m2 (upd H2 p (.dK (mergeK [] ws))) (Lv d m2 σ g2) := Ext.unlock X k3 (.inr (nw_of hp)) fun x hx => .inl hx
  exact h2 m2 _ _ M3 X3 ⟨rfl, p, rfl, ow2, .inl (nw_of hp), ⟨_, upd_same, RKs.merge RKs.nil (rks r2)⟩⟩
 ·exact h2.elim
end
end N
end
section
namespace W
open PySem PySem.Spec PyProof.Rows L2 Cm
def S_alike_ (K : PySem.W.Frag) : Nat → Sp
 | 0 => fun _ _ _ _ => False
 | n + 1 => sp2 fun x y H Q _ => ∃ d, Dt H x d ∧ Dt H y d ∧ Dn n d ∧ ∀ H', Kp (tabs K) No H H' → Q (.bl true) H'
end W
namespace N
open PySem PySem.Spec PyProof.Rows L2 Cm W
def deA (g : G) : A → Option A
 | .ref l => (cO (g.o l)).map fun c => cA c.2
 | a => some a
def wDe (q : QE) : QE := fun σ g => (q σ g).bind (deA g)
def mLabV (mf : MF) : ME := fun σ g => (mf σ g).bind fun v g1 => match v with
 | .own false c => .ok (.ref g1.n) (g1.add (.con false c))
 | .val a => .ok a g1
 | _ => .no
def fzV (σ : Sl) (i : Nat) : Option Sl := match σ[i]? with
 | some (some (.own false c)) => some (σ.set i (some (.val (cA c))))
 | some (some (.val _)) => some σ
 | _ => none
def mFzV (i : Nat) (ms : MS) : MS := fun σ g => (ofO (fzV σ i) g).bind fun σ1 g1 => ms σ1 g1
def flD : A → Option PyData
 | .non => some .none
 | .bl b => some (.bool b)
 | .int i => some (.int i)
 | .str s => some (.str s)
 | _ => none
def seqO {α β : Type} (f : α → Option β) : List α → Option (List β)
 | [] => some []
 | x :: xs => match f x with
  | some d => (seqO f xs).map (d :: ·)
  | none => none
def res (g : G) : Nat → A → Option PyData
 | 0, a => flD a
 | n + 1, a => match a with
  | .tup xs => if xs.length ≤ 100000 then (seqO (res g n) xs).map .tuple else none
  | .lst xs => if xs.length ≤ 100000 then (seqO (res g n) xs).map .list else none
  | .ref l => match g.o l with
   | some (.con _ (.lst xs)) => if xs.length ≤ 100000 then (seqO (res g n) xs).map .list else none
   | _ => none
  | a => flD a
def alA (g : G) (a b : A) : Prop := ∃ d, res g 8 a = some d ∧ res g 8 b = some d
open Classical in
noncomputable def p_alike : List A → G → R Fv
 | [a, b], g => if alA g a b then .ok (.val (.bl true)) g else .no
 | _, _ => .no
section
variable {K : PySem.W.Frag} {E : XK} {te ta tb tc : TE} {ma mb me : ME} {q0 qa qb qc : QE} {m m0 m1 m' : Env} {H H0 H1 H' : Hp} {d : Nat} {s s1 s' : L2.St} {σ σ1 σ' : Sl} {g g1 g' : G} {tr : TA} {mr mi : MA} {mf mfa mfb : MF} {ts : TS} {ms : MS} {w : World} {pl : Sl → G → Option P0} {tt : TT} {mt : MT}
theorem w_de (h : SimQ K ta qa) : SimW K ta (wDe qa) := .mk fun {d m s σ g H} Q a M e k => by
 obtain ⟨x, e1, e⟩ := Option.bind_eq_some_iff.mp e
 refine h _ _ M e1 fun H1 v k1 r => k H1 v k1 ?_
 cases x with
 | ref l =>
  obtain ⟨⟨lk, c⟩, e2, rfl⟩ := Option.map_eq_some_iff.mp e
  obtain ⟨_, hr⟩ := (M.quiet k1).lb l _ (cO_some e2)
  rw [r.1]
  exact hr.rw
 | _ => cases e; exact r.rw
theorem e_labV (h : SimF K E ta mf) : SimE K E ta (mLabV mf) := .mk fun {d m s σ g H} Q M hs => by
 unfold mLabV at hs
 rw [sat_bind] at hs
 refine h _ M (seqE hs (fun a g1 h1 m1 H1 v M1 x1 r1 => ?_) fun _ _ z => z)
 cases a with
 | val => exact h1 m1 H1 v M1 x1 r1
 | own lk c =>
  cases lk with
  | true => exact h1.elim
  | false =>
   obtain ⟨_, b, rfl, hb, hb0, hr⟩ := r1
   obtain ⟨M2, x2, r2⟩ := M1.add (o := .con false c) (b := b) (H1 := H1) Kp.refl (.inr hb) hr.nw hb0 (fun rv => ⟨by
     have e1 : (m1.setp (.lab m1.n) (some b) (m1.n + 1)).ad (.lab m1.n) = b := if_pos rfl
     rw [e1]; exact if_pos rfl, by
     have e1 : (m1.setp (.lab m1.n) (some b) (m1.n + 1)).ad (.lab m1.n) = b := if_pos rfl
     rw [e1]; exact hr.keep (S := No) Kp.refl (fun z => z) rv⟩) (fun T => ⟨nofun, nofun, nofun⟩) (fun cn fs e => by cases e) x1
   exact h1 _ H1 _ M2 x2 r2
theorem f_if (h0 : SimT K E tt mt) (ha : SimF K E ta mfa) (hb : SimF K E tb mfb) : SimF K E (tIf tt ta tb) (mIf mt mfa mfb) := .mk fun {d m s σ g H} Q M h => by
 unfold mIf at h
 rw [sat_bind] at h
 refine h0 _ M (seqE h (fun x g1 h1 m1 H1 M1 x1 => ?_) fun _ _ z => z)
 have up : ∀ {m2 : Env} {H2 : Hp} {v : V} {a : Fv}, RT K m2 H1 (Lv d m1 σ g1) H2 v a → RT K m2 H (Lv d m σ g) H2 v a := fun {m2 H2 v a} r => by
  cases a with
  | val => exact r
  | own lk c =>
   obtain ⟨r4, b, r5, r6, r7, r8⟩ := r
   exact ⟨r4, b, r5, r6, r7.elim (fun z => .inl (x1.kp.dom b z)) (fun z => (x1.gr b z).symm), r8⟩
 cases x with
 | true => exact iteT (ha _ M1 (seqE h1 (fun y g2 h3 m2 H2 v M2 x2 r => h3 m2 H2 v M2 (x1.trans x2) (up r)) fun _ _ z => z.step x1))
 | false => exact iteF (hb _ M1 (seqE h1 (fun y g2 h3 m2 H2 v M2 x2 r => h3 m2 H2 v M2 (x1.trans x2) (up r)) fun _ _ z => z.step x1))
theorem flD_dt {n : Nat} {a : A} {v : V} {D : PyData} (e : flD a = some D) (r : RV K m H v a) : Dt H v D ∧ Dn n D := by
 cases a with
 | non => cases e; cases n <;> exact ⟨r, trivial⟩
 | bl => cases e; cases n <;> exact ⟨r, trivial⟩
 | int => cases e; cases n <;> exact ⟨r, trivial⟩
 | str => cases e; cases n <;> exact ⟨r, trivial⟩
 | _ => cases e
theorem seqO_dt {n : Nat} {f : A → Option PyData} (hf : ∀ {a : A} {v : V} {D : PyData}, f a = some D → RV K m H v a → Dt H v D ∧ Dn n D) : ∀ {xs : List A} {vs : List V} {ds : List PyData}, seqO f xs = some ds → RVs K m H vs xs → DtA H vs ds ∧ (∀ D ∈ ds, Dn n D) ∧ ds.length = xs.length
 | [], vs, ds, e, r => by cases e; exact ⟨r, nofun, rfl⟩
 | x :: xs, _, ds, e, ⟨v, r, rfl, h1, h2⟩ => by
  unfold seqO at e
  split at e
  ·rename_i D e1
   obtain ⟨ds, e2, rfl⟩ := Option.map_eq_some_iff.mp e
   obtain ⟨h3, h4⟩ := hf e1 h1
   obtain ⟨h5, h6, h7⟩ := seqO_dt hf e2 h2
   exact ⟨⟨v, r, rfl, h3, h5⟩, fun D hD => (List.mem_cons.mp hD).elim (fun z => by rw [z]; exact h4) (h6 D), by simp [h7]⟩
  ·cases e
theorem res_dt (M : Mt K d m s σ g H) : ∀ {n : Nat} {a : A} {v : V} {D : PyData}, res g n a = some D → RV K m H v a → Dt H v D ∧ Dn n D
 | 0, a, v, D, e, r => flD_dt e r
 | n + 1, a, v, D, e, r => by
  cases a with
  | tup xs =>
   have e : (if xs.length ≤ 100000 then (seqO (res g n) xs).map PyData.tuple else none) = some D := e
   split at e
   ·rename_i hl
    obtain ⟨ds, e1, rfl⟩ := Option.map_eq_some_iff.mp e
    obtain ⟨a, vs, rfl, h1, h2⟩ := r
    obtain ⟨h3, h4, h5⟩ := seqO_dt (res_dt M) e1 h2
    exact ⟨⟨a, vs, rfl, h1, h3⟩, by rw [h5]; exact hl, h4⟩
   ·cases e
  | lst xs =>
   have e : (if xs.length ≤ 100000 then (seqO (res g n) xs).map PyData.list else none) = some D := e
   split at e
   ·rename_i hl
    obtain ⟨ds, e1, rfl⟩ := Option.map_eq_some_iff.mp e
    obtain ⟨a, vs, rfl, h1, _, h2⟩ := r
    obtain ⟨h3, h4, h5⟩ := seqO_dt (res_dt M) e1 h2
    exact ⟨⟨a, vs, rfl, h1, h3⟩, by rw [h5]; exact hl, h4⟩
   ·cases e
  | ref l =>
   have e : (match g.o l with | some (.con _ (.lst xs)) => if xs.length ≤ 100000 then (seqO (res g n) xs).map PyData.list else none | _ => none) = some D := e
   split at e
   ·rename_i lk xs ho
    split at e
    ·rename_i hl
     obtain ⟨ds, e1, rfl⟩ := Option.map_eq_some_iff.mp e
     obtain ⟨_, vs, h1, h2⟩ := M.lb l _ ho
     obtain ⟨h3, h4, h5⟩ := seqO_dt (res_dt M) e1 h2
     exact ⟨⟨_, vs, r.1, h1, h3⟩, by rw [h5]; exact hl, h4⟩
    ·cases e
   ·cases e
  | non => exact flD_dt (a := .non) (by unfold res at e; exact e) r
  | bl => exact flD_dt (a := (.bl _)) (by unfold res at e; exact e) r
  | int => exact flD_dt (a := (.int _)) (by unfold res at e; exact e) r
  | str => exact flD_dt (a := (.str _)) (by unfold res at e; exact e) r
  | dic => cases e
  | gl => cases e
  | ty => cases e
  | scr => cases e
theorem sp_alike : ∀ vs H Q E, SpM K 2 p_alike vs H Q E → S_alike_ K 9 vs H Q E := fun vs H Q E h => by
 obtain ⟨d, m, s, σ, g, as, hl, M, hv, hs⟩ := h
 unfold p_alike at hs
 split at hs
 ·rename_i a b
  split at hs
  ·rename_i hc
   obtain ⟨D, e1, e2⟩ := hc
   obtain ⟨v, r, rfl, h1, w, r', rfl, h2, e3⟩ := hv
   have e3 : r' = [] := e3
   subst e3
   obtain ⟨h3, h4⟩ := res_dt M e1 h1
   obtain ⟨h5, _⟩ := res_dt M e2 h2
   exact ⟨_, _, rfl, D, h3, h5, h4, fun H' k => hs m H' _ (M.quiet k) (Ext.quiet k) rfl⟩
  ·exact hs.elim
 ·exact hs.elim
end
def dEqG (g : G) (a b : A) : Option Bool := match res g 8 a, res g 8 b with
 | some d, some e => if SeqAt.shaped d && SeqAt.shaped e then some (PyData.eqv d e) else none
 | _, _ => none
def m2G (neg : Bool) (ma mb : ME) : ME := fun σ g => (ma σ g).bind fun a g1 => (mb σ g1).bind fun b g2 => ofO ((dEqG g2 a b).map fun r => .bl (r != neg)) g2
section
variable {K : PySem.W.Frag} {E : XK} {ta tb : TE} {ma mb : ME}
end
def fld1 (cs : List Str) (qo : QE) (f : Str) (σ : Sl) (g : G) (x : A) : Option G := (refO (qo σ g)).bind fun l => setFl cs g l f (.val x)
def fld3 (cs : List Str) (qo : QE) (f1 f2 f3 : Str) (σ : Sl) (g : G) : A → Option G
 | .tup [x, y, z] => (fld1 cs qo f1 σ g x).bind fun g1 => (fld1 cs qo f2 σ g1 y).bind fun g2 => fld1 cs qo f3 σ g2 z
 | _ => none
def mFld3 (cs : List Str) (qo : QE) (f1 f2 f3 : Str) (me : ME) : MS := fun σ g => (me σ g).bind fun a g1 => (ofO (fld3 cs qo f1 f2 f3 σ g1 a) g1).bind fun g2 _ => .ok (.nx σ) g2
section
variable {K : PySem.W.Frag} {E : XK} {te ta : TE} {me : ME} {qa : QE}
end
def labP : P0 → Option Nat
 | .lab l => some l
 | _ => none
def mSubE (pl : Sl → G → Option P0) (mi mv : ME) : MS := fun σ g => (mv σ g).bind fun v g1 => (ofO ((pl σ g1).bind labP) g1).bind fun l _ => if l < g1.n then (mi σ g1).bind fun i g2 => (ofO ((unlk (getP σ g2 (.lab l))).bind fun c => setI c i v) g2).bind fun c' _ => .ok (.nx σ) (putG c' g2 (.lab l)) else .no
section
variable {K : PySem.W.Frag} {E : XK} {te ta tb : TE} {me mi : ME} {pl : Sl → G → Option P0}
theorem s_subE (hp : SimP K ta pl) (hi : SimE K E tb mi) (hv : SimE K E te me) : SimS K E (tAsg te (gSub ta tb rSetA)) (mSubE pl mi me) := .mk fun {d m s σ g H} D M h => by
 unfold mSubE at h
 rw [sat_bind] at h
 refine hv _ M (seqE h (fun x g1 h1 m1 H1 u M1 x1 r1 => ?_) fun _ _ z => z)
 rw [sat_bind] at h1
 obtain ⟨l, e, h2⟩ := sat_ofO h1
 obtain ⟨p, e1, e0⟩ := Option.bind_eq_some_iff.mp e
 have ep : p = .lab l := by
  cases p with
  | lab => cases e0; rfl
  | _ => cases e0
 subst ep
 refine hp _ _ M1 e1 fun H2 k2 => ?_
 by_cases hl : l < g1.n
 ·rw [if_pos hl, sat_bind] at h2
  have X2 := x1.trans (Ext.quiet (L := Lv d m1 σ g1) (m := m1) (D := d) k2)
  refine hi _ (M1.quiet k2) (seqE h2 (fun i g2 h3 m3 H3 w M3 x3 r3 => ?_) fun e g' z => EK.step X2 z)
  rw [sat_bind] at h3
  obtain ⟨c', e9, h4⟩ := sat_ofO h3
  obtain ⟨c, e2, e4⟩ := Option.bind_eq_some_iff.mp e9
  have e2 := unlk_some e2
  have hln : l < m1.n := by have := M1.nn; omega
  have ead : m3.ad (.lab l) = m1.ad (.lab l) := x3.ad l hln
  have r1' : RV K m3 H3 u x := RV.ext lvo x3 (r1.quiet k2)
  have X3 := X2.trans x3
  show rSetA (.ref (m1.ad (.lab l))) w u H3 _
  rw [← ead]
  cases c with
  | lst xs =>
   cases i with
   | int k =>
    obtain ⟨j, ej, rfl⟩ := Option.map_eq_some_iff.mp (show (ixN xs.length k).map (fun j => C.lst (xs.set j x)) = some c' from e4)
    obtain ⟨vs, h7, h5, h6⟩ := put_lst (xs' := xs.set j x) M3 e2
    obtain ⟨M4, x4⟩ := h6 _ (h5.set j r1')
    exact .inl ⟨_, vs, k, j, rfl, r3, h7, by rw [h5.length]; exact ej, h4 m3 s _ M4 (X3.trans x4)⟩
   | _ => cases e4
  | dic kvs =>
   have e4 : (match keyA i with | some k => if kvs.length < 100000 then some (C.dic (setK kvs k x)) else none | none => none) = some c' := e4
   cases hk : keyA i with
   | none => rw [hk] at e4; cases e4
   | some kk =>
    rw [hk] at e4
    have e4 : (if kvs.length < 100000 then some (C.dic (setK kvs kk x)) else none) = some c' := e4
    split at e4
    ·rename_i hl
     cases e4
     obtain ⟨vs, h7, h5, h6⟩ := put_dic (xs' := setK kvs kk x) M3 e2
     obtain ⟨M4, x4⟩ := h6 _ (h5.put r1')
     exact .inr ⟨_, _, rfl, .inl ⟨vs, kk, h7, key_rv r3.rw hk, by rw [h5.length, sizeLine_eq]; omega, rfl⟩, h4 m3 s _ M4 (X3.trans x4)⟩
    ·cases e4
 ·rw [if_neg hl] at h2
  exact h2.elim
end
end N
end
section
namespace Cm
open PySem PySem.Spec PyProof.Rows L2
def rEqDE : R2 := fun x y H Q => ∃ a b ks, x = .ref a ∧ y = .ref b ∧ Rd H a (.dK ks) ∧ Rd H b (.dK []) ∧ Q (.bl ks.isEmpty) H
def rNeDE : R2 := fun x y H Q => ∃ a b ks, x = .ref a ∧ y = .ref b ∧ Rd H a (.dK ks) ∧ Rd H b (.dK []) ∧ Q (.bl (!ks.isEmpty)) H
end Cm
namespace N
open PySem PySem.Spec PyProof.Rows L2 Cm W
def fEqD0 : A → A → Option A
 | .dic ks, .dic [] => some (.bl ks.isEmpty)
 | _, _ => none
def fNeD0 : A → A → Option A
 | .dic ks, .dic [] => some (.bl (!ks.isEmpty))
 | _, _ => none
def popI (xs : List A) : A → Option (A × List A)
 | .int i => if xs.length < 100000 then (ixN xs.length i).bind fun j => (xs[j]?).map fun v => (v, xs.eraseIdx j) else none
 | _ => none
def mPopAt (pl : Sl → G → Option P0) (qk : QE) : ME := fun σ g => (ofO ((pl σ g).bind fun p => (lstP (getP σ g p)).bind fun xs => ((qk σ g).bind (popI xs)).bind fun q => if isSlot p then none else some (p, q)) g).bind fun q g1 => .ok q.2.1 (putG (.lst q.2.2) g1 q.1)
section
variable {K : PySem.W.Frag} {E : XK} {ta tb : TE} {pl : Sl → G → Option P0} {qb : QE}
theorem RVs.eraseIdx {m : Env} {H : Hp} : ∀ {xs : List A} {vs : List V} (i : Nat), RVs K m H vs xs → RVs K m H (vs.eraseIdx i) (xs.eraseIdx i)
 | [], vs, i, h => by rw [show vs = [] from h]; rfl
 | _ :: _, _, 0, ⟨v, r, h1, h2, h3⟩ => by subst h1; exact h3
 | _ :: _, _, i + 1, ⟨v, r, h1, h2, h3⟩ => by subst h1; exact ⟨_, _, rfl, h2, RVs.eraseIdx i h3⟩
end
def popE1 (l : Nat) (σ : Sl) : A → G → R A := fun k g1 => (ofO ((lstP (getP σ g1 (.lab l))).bind fun xs => popI xs k) g1).bind fun q g2 => .ok q.1 (putG (.lst q.2) g2 (.lab l))
def popE0 (mb : ME) (σ : Sl) : Nat → G → R A := fun l g0 => (ofO (lstP (getP σ g0 (.lab l))) g0).bind fun _ g1 => (mb σ g1).bind (popE1 l σ)
def mPopAtE (qa : QE) (mb : ME) : ME := fun σ g => (ofO (refO (qa σ g)) g).bind (popE0 mb σ)
section
variable {K : PySem.W.Frag} {E : XK} {ta tb : TE} {qa : QE} {mb : ME}
end
def mCut (ms : MS) : MS := fun σ g => (ms σ g).cut
section
variable {K : PySem.W.Frag} {E : XK} {ts : TS} {ms : MS}
end
def pA2 (p : Int × Int) : A := .tup [.int p.1, .int p.2]
def pairs2 : List A → Option (List (Int × Int))
 | [] => some []
 | .tup [.int i, .int j] :: xs => (pairs2 xs).map ((i, j) :: ·)
 | _ => none
def fMaxP : A → Option A
 | .lst xs => match pairs2 xs with
  | some (p :: ps) => some (pA2 (mxs p ps))
  | _ => none
 | _ => none
section
variable {K : PySem.W.Frag} {m : Env} {H : Hp}
end
end N
end
section
namespace L2H
open PySem PySem.Spec PyProof.Rows L2 HotX
section
variable {X : Cx} {CX : CXT} {k : Nat} {f C : Addr} {fd : FuncData} {ps : List Str} {sp : Sp} {E : St → XK} {x m : Str} {p pos apos : Pos} {e o : Expr} {es : List Expr} {ta : TE} {t : TA}
def tMakeS (C : Addr) (sp : Sp) (E : St → XK) (t : TA) : TE := fun σ H Q => t σ H fun vs H1 => ∀ x dx, H1 x = none → H1 dx = none → dx ≠ x →
 sp (.ref x :: vs) (upd (upd H1 dx (.own x)) x (.ins C dx [])) (fun v H2 => v = .non ∧ Q (.ref x) H2) (E σ)
end
end L2H
namespace N
open PySem PySem.Spec PyProof.Rows L2 Cm W
structure SimFX (K : PySem.W.Frag) (W : WX) (te : TE) (me : MF) : Prop where
 run : ∀ {d : Nat} {m : Env} {s : L2.St} {σ : Sl} {g : G} {H : Hp} (Q : VK), Mt K d m s σ g H →
 (me σ g).sat (fun a g' => ∀ m' H' v, Mt K d m' s σ g' H' → Ext K d m H (Lv d m σ g) m' H' (Lv d m' σ g') → RT K m' H (Lv d m σ g) H' v a → Q v H') (fun e g' => ∀ m' H' dd, Mt K d m' s σ g' H' → Ext K d m H (Lv d m σ g) m' H' (Lv d m' σ g') → XR H' dd e → W (.ref (He.ga K e.c)) dd s H') → te s H Q
structure SimSX (K : PySem.W.Frag) (W : WX) (ts : TS) (ms : MS) : Prop where
 run : ∀ {d : Nat} {m : Env} {s : L2.St} {σ : Sl} {g : G} {H : Hp} (D : Ends), Mt K d m s σ g H → (ms σ g).sat (OK K d m H (Lv d m σ g) D) (fun e g' => ∀ m' H' dd, Mt K d m' s σ g' H' → Ext K d m H (Lv d m σ g) m' H' (Lv d m' σ g') → XR H' dd e → W (.ref (He.ga K e.c)) dd s H') → ts D s H
section
variable {K : PySem.W.Frag} {E : XK} {W : WX} {te ta : TE} {mf : MF} {qa : QE} {m m1 : Env} {H H1 : Hp} {d : Nat} {s : L2.St} {σ : Sl} {g : G} {tr : TA} {mr : MA} {k : Nat} {cf : List A → G → R Fv} {sp : Sp} {ts tv : TS} {ms mv : MS}
def mCallX (k : Nat) (cf : List A → G → R Fv) (mr : MA) : MF := fun σ g => ((mr σ g).cut).bind fun as g1 => if as.length = k then cf as g1 else .no
theorem f_callX (hsp : ∀ vs H Q E, SpM K k cf vs H Q E → sp vs H Q E) (hr : SimA K E0 tr mr) : SimFX K W (tCallS sp (WE W) tr) (mCallX k cf mr) := .mk fun {d m s σ g H} Q M h => by
 unfold mCallX at h
 rw [sat_bind] at h
 refine hr _ M (sat_cut (seqE h (fun as g1 h1 m1 H1 vs M1 x1 r1 => ?_) fun _ _ z => z))
 split at h1
 ·rename_i hk
  exact hsp _ _ _ _ ⟨d, m1, s, σ, g1, as, hk, M1, r1, seqE h1 (fun fv g2 h2 m2 H2 v M2 x2 r2 => h2 m2 H2 v M2 (x1.trans x2) (r2.step x1)) fun e g2 h2 m2 H2 dd M2 x2 r2 => h2 m2 H2 dd M2 (x1.trans x2) r2⟩
 ·exact h1.elim
def mMethX (c mn : Str) (k : Nat) (cf : List A → G → R Fv) (qa : QE) (mr : MA) : MF := fun σ g => (ofO ((refO (qa σ g)).bind fun l => if okM c mn (g.o l) then some l else none) g).bind fun l g0 => ((mr σ g0).cut).bind fun as g1 => if as.length + 1 = k then cf (.ref l :: as) g1 else .no
def mMakeX (c : Str) (k : Nat) (cf : List A → G → R Fv) (mr : MA) : MF := fun σ g => ((mr σ g).cut).bind fun as g1 => if as.length + 1 = k then (cf (.ref g1.n :: as) (g1.add (.ins c []))).bind fun v g2 => (match v with
 | .val .non => .ok (.val (.ref g1.n)) g2
 | _ => .no) else .no
def mSeqX (a b : MS) : MS := fun σ g => (a σ g).bind fun o g1 => match o with
 | .nx σ1 => (b σ1 g1).cut
 | o => .ok o g1
def R.tryE {α : Type} : R α → (Ex → G → R α) → R α
 | .ok a g, _ => .ok a g
 | .err e g, h => h e g
 | .no, _ => .no
 | .all T k, h => .all T fun t => (k t).tryE h
def kTry (b : MS) (σ : Sl) : Ex → G → R O := fun e g => if e.c = "Stopped" then b σ g else .no
def mTry (a b : MS) : MS := fun σ g => (a σ g).tryE (kTry b σ)
def tTry (K : PySem.W.Frag) (E : XK) (tb : WX → TS) (ts : TS) : TS := fun D σ H => tb (L2.wMany K (fun cls d _ H' => E cls d H') D [(.ref (He.ga K "Stopped"), fun _ _ _ => ts)]) D σ H
end
section
variable {X : Cx} {x : Str} {E : XK} {body suite : List Stmt} {b₀ : Stmt} {np pos pos' : Pos} {tb : WX → TS} {ts : TS}
end
end N
end
section
namespace HotX
open PySem PySem.Spec PyProof.Rows
section
variable {prog : Program} {w : World} {A : Around} {E : Value → Shared → Prop} {s : Shared}
end
end HotX
end
section
namespace L2H
open PySem PySem.Spec PyProof.Rows L2 HotX
def It0 (K : PySem.W.Frag) (a : Addr) : It := ⟨fun _ _ => False, fun _ _ _ _ => False, fun _ H => SqL K H a []⟩
def iZip0 (K : PySem.W.Frag) (ta : TA) : TI := fun σ H R => ta σ H fun vs H1 => ∃ a b ys, vs = [.ref a, .ref b] ∧ SqL K H1 a [] ∧ SqL K H1 b ys ∧ R (It0 K a) H1
end L2H
end
section
namespace N
open PySem PySem.Spec PyProof.Rows L2 Cm W
def mSlU (qa : QE) (me : ME) : MF := fun σ g => (ofO (qa σ g) g).bind fun x g0 => (me σ g0).bind fun b g1 => match b with
 | .int i => (ofO (nSl x none (some i)) g1).bind fun c g2 => .ok (.own false c) g2
 | _ => .no
section
variable {K : PySem.W.Frag} {E : XK} {te ta : TE} {me : ME} {qa : QE}
end
end N
namespace N
open PySem PySem.Spec PyProof.Rows L2 Cm W
def mCutF (mf : MF) : MF := fun σ g => (mf σ g).cut
section
variable {K : PySem.W.Frag} {E : XK} {W : WX} {te : TE} {mf : MF}
end
def kMethE1 (c mn : Str) (k : Nat) (cf : List A → G → R Fv) (mr : MA) (σ : Sl) : A → G → R Fv := fun a g => (ofO ((refO (some a)).bind fun l => if okM c mn (g.o l) then some l else none) g).bind fun l g0 => (mr σ g0).bind fun as g1 => if as.length + 1 = k then cf (.ref l :: as) g1 else .no
def mMethE (c mn : Str) (k : Nat) (cf : List A → G → R Fv) (me : ME) (mr : MA) : MF := fun σ g => (me σ g).bind (kMethE1 c mn k cf mr σ)
def mOrM (p : Sl → G → Bool) (m1 m2 : MF) : MF := fun σ g => if p σ g then m1 σ g else m2 σ g
def isC (c : Str) (qa : QE) : Sl → G → Bool := fun σ g => match qa σ g with
 | some (.ref l) => match g.o l with
  | some (.ins cn _) => decide (cn = c)
  | _ => false
 | _ => false
def tOrE (t1 t2 : TE) : TE := fun σ H Q => t1 σ H Q ∨ t2 σ H Q
section
variable {X : Cx} {e : Expr} {t1 t2 : TE}
theorem pe_or (h1 : PE X e t1) (h2 : PE X e t2) : PE X e (tOrE t1 t2) := .mk fun pins s σ H Q I h => h.elim (h1.run pins s σ H Q I) (h2.run pins s σ H Q I)
end
section
variable {K : PySem.W.Frag} {E : XK} {te ta t1 t2 : TE} {me : ME} {m1 m2 : MF} {qa : QE} {tr : TA} {mr : MA} {k : Nat} {cf : List A → G → R Fv} {sp : Sp}
end
end N
end
section
namespace Cm
open PySem PySem.Spec PyProof.Rows L2
abbrev leP : V × PyData → V × PyData → Bool := PySem.W.dataLe false Prod.snd
def rSortT (K : PySem.W.Frag) : List V → Hp → VK → Prop := fun vs H Q => ∃ (a : Addr) (xs : List V) (ds : List PyData), vs = [.ref a] ∧ SqL K H a xs ∧ DpAll K H xs ds ∧ PySem.W.AllAlike ds ∧ PySem.W.Sortable ds ∧ ds.length ≤ 1000 ∧ (∀ d ∈ ds, d.depth ≤ 1) ∧ ∀ p, H p = none → Q (.ref p) (upd H p (.lst (((xs.zip ds).mergeSort leP).map Prod.fst)))
theorem DpAll.len {K : PySem.W.Frag} {H : Hp} : ∀ {xs : List V} {ds : List PyData}, DpAll K H xs ds → xs.length = ds.length
 | [], _, h => by cases h; rfl
 | x :: xs, _, h => by
  cases h with
  | cons _ t => exact congrArg (· + 1) (DpAll.len t)
end Cm
namespace N
open PySem PySem.Spec PyProof.Rows L2 Cm W
def encA (a : A) : PyData := (toD a).getD .none
abbrev leA : A → A → Bool := PySem.W.dataLe false encA
def rowQ : PyData → Bool
 | .tuple (.int _ :: r) => r.all fun d => match d with
  | .int _ => true
  | .bool _ => true
  | .str _ => true
  | .none => true
  | _ => false
 | _ => false
def nSortT : A → Option C
 | .lst xs => match toDs xs with
  | some ds => if (ds.all fun d => ds.all fun d' => PySem.W.alike d d') = true ∧ ds.length ≤ 1000 ∧ ds.all rowQ = true then some (.lst (xs.mergeSort leA)) else none
  | none => none
 | _ => none
section
variable {K : PySem.W.Frag}
end
def iEp (pl : Sl → G → Option P0) : MA := fun σ g => ofO ((pl σ g).bind fun p => (lstT (getP σ g p)).map enumA) g
section
variable {K : PySem.W.Frag} {E : XK} {ta : TE} {pl : Sl → G → Option P0}
end
end N
end
section
namespace Cm
open PySem PySem.Spec PyProof.Rows L2 L2H
def XdOk (d : Option Addr) (H : Hp) : Prop := ∀ dd, d = some dd → ∃ fs, H dd = some (.xd fs)
theorem XdOk.kp {T : List (Addr × Str)} {S : Addr → Prop} {d : Option Addr} {H H' : Hp} (h : XdOk d H) (k : Kp T S H H') : XdOk d H' := fun dd e => by
 obtain ⟨fs, q⟩ := h dd e
 exact ⟨fs, k.imm dd _ q rfl⟩
def rIsX (K : PySem.W.Frag) (D a : Addr) (d : Option Addr) : List V → Hp → VK → Prop := fun xs H Q => XdOk d H ∧ rIsE K D a xs H Q
theorem is_pinX {X : Cx} {a D : Addr} {d : Option Addr} {oe : Obj} (C : ExcC X.K D) (hz : Zc (.ref D) d oe) (hf : ∃ vs, oe.data = .fields vs) (hp : (a, oe) ∈ X.pn) : CallR X (.builtin "isinstance") (rIsX X.K D a d) := by
 intro pins s σ H xs us Q I r h
 obtain ⟨hx, c, cv, b, rfl, hcv, e, q⟩ := h
 rcases r with _ | ⟨rx, _ | ⟨rt, _ | _⟩⟩
 cases rx
 obtain rfl := hcv _ rt
 have hget := (I.pin (a, oe) (List.mem_append.mpr (.inl hp))).1
 obtain ⟨vs, hv⟩ := hf
 have hcl : (PySem.W.clsIn X.K D).isSome = true := by
  have := C.hd
  unfold PySem.W.hasDictIn at this
  cases hq : PySem.W.clsIn X.K D with
  | none => rw [hq] at this; cases this
  | some _ => rfl
 obtain ⟨od, J⟩ : ∃ od, PySem.W.InstAt s.heap a oe D od := by
  cases d with
  | none =>
   refine ⟨none, hget, hz.1, by unfold PySem.W.notCls; rw [hv] <;> rfl, ?_⟩
   rw [hz.2]; trivial
  | some dd =>
   obtain ⟨fs, hdd⟩ := hx dd rfl
   obtain ⟨mA, hns, _⟩ : ∃ mA, s.heap.Ns1 dd mA ∧ True := by
    have z : ObjOk X.prog X.w H s.heap dd (.xd fs) := I.hok dd _ hdd
    obtain ⟨mA, h1, _⟩ := z
    exact ⟨mA, h1, trivial⟩
   obtain ⟨o, ho, _⟩ := lookIn_ns hns
   refine ⟨some o, hget, hz.1, by unfold PySem.W.notCls; rw [hv] <;> rfl, ?_⟩
   rw [hz.2]; exact ho
 refine PySem.W.kia_one (PySem.W.kitx_exc hcl C.hg C.hk C.hs C.ha C.hn C.ht C.hm) I.kIn J e (fun z => nomatch z) ?_
 intro tk
 exact ⟨.bl b, H, I.kept (t' := tk) fun _ _ z => z, rfl, q⟩
end Cm
end
section
namespace W
open PySem PySem.Spec PyProof.Rows L2 Cm
section
variable {X : Cx} {k n i : Nat} {f C : Addr} {fd : FuncData} {ps : List Str} {sp : Sp} {E : XK} {E₁ : Value → Shared → Prop} {x m : Str} {p pos apos : Pos} {a b e o : Expr} {es : List Expr} {ta tb : TE} {t : TA}
theorem pcG (F : FnOk X.prog X.w X.K X.mg X.base (L2N.CX X.prog X.w) k f fd ps sp) (hr : Room n X.A) (hm : X.mg x = some (.ref f)) (hk : PySem.W.keepIn X.K (.ref f) = true) (hb : Binds X.K fd ps []) (ha : PA X (e :: es) t)
  (hx : Passes (L2N.CX X.prog X.w) X E := by exact psG rfl rfl rfl rfl) (hle : k ≤ n := by omega) (hg : Gl X x := by rfl) (hdb : (x == ("__debug__" : Str)) = false := by decide) (he : starEach (e :: es) X.env = (false, eval e X.env) :: starEach es X.env := by rfl) (hpl : (backTo pos (starEach es X.env)).any (·.1) = false := by rfl) :
  PE X (.Call (.Name x p) (e :: es) [] pos) (tCall sp [] E t) := pe_call F (hr.mono hle) hg hm hk hb .nil hx ha hdb he hpl
theorem pc0G (F : FnOk X.prog X.w X.K X.mg X.base (L2N.CX X.prog X.w) k f fd ps sp) (hr : Room n X.A) (hm : X.mg x = some (.ref f)) (hk : PySem.W.keepIn X.K (.ref f) = true) (hb : Binds X.K fd ps [])
  (hx : Passes (L2N.CX X.prog X.w) X E := by exact psG rfl rfl rfl rfl) (hle : k ≤ n := by omega) (hg : Gl X x := by rfl) (hdb : (x == ("__debug__" : Str)) = false := by decide) :
  PE X (.Call (.Name x p) [] [] pos) (tCall sp [] E tNil) := pe_call0 F (hr.mono hle) hg hm hk hb .nil hx hdb
theorem pgA (i : Nat) (hN : X.N.Nodup) (hx : Loc X.env.scope x := by first | exact Or.inl rfl | exact Or.inr rfl) (hi : X.N[i]? = some x := by rfl) (hf : X.fn x = true ∨ X.env.scope.names.lookup x = some .local := by first | exact .inl rfl | exact .inr rfl | assumption) : PG X (.Name x pos) (gName i) := pg_name hN hi hx hf
theorem psA {te : TE} {pos' : Pos} (i : Nat) (hN : X.N.Nodup) (he : PE X e te) (hx : Loc X.env.scope x := by first | exact Or.inl rfl | exact Or.inr rfl) (hi : X.N[i]? = some x := by rfl) (hs : swapsWith e (some (.Name x pos')) pos.line X.env = pure false := by rfl) (hf : X.fn x = true ∨ X.env.scope.names.lookup x = some .local := by first | exact .inl rfl | exact .inr rfl | assumption) :
  PS X (.Assign [.Name x pos'] e pos) (tAsg te (gName i)) := ps_set hN hi hx he hs hf
theorem pixH (hu : X.A.units + 1 < cLine) (ha : PE X a ta) (hb : PE X b tb) (hs : PlainIx b := by exact fun _ _ => rfl) : PE X (.Subscript a b pos) (tOp (rIxA X.K) ta tb) := pe_ix (ix_any hu) ha hb hs
theorem pixA (hr : Room n X.A) (ha : PE X a ta) (hb : PE X b tb) (hs : PlainIx b := by exact fun _ _ => rfl) : PE X (.Subscript a b pos) (tOp (rIxA X.K) ta tb) := pe_ix (ix_any (hu_of hr)) ha hb hs
end
end W
end
section
namespace W
open PySem PySem.Spec PyProof.Rows L2 L2H Cm
def t_class_ (K : PySem.W.Frag) (D a : Addr) (d : Option Addr) : TS := (tSeq (tAsg (tLst (tCons (tCB (rIsX K D a d) (tCons (tVar 0) (tCons (tC (.ref (He.ga K "BadDeal"))) tNil))) (tCons (tCB (rIsX K D a d) (tCons (tVar 0) (tCons (tC (.ref (He.ga K "BadHand"))) tNil))) (tCons (tCB (rIsX K D a d) (tCons (tVar 0) (tCons (tC (.ref (He.ga K "BadLetter"))) tNil))) (tCons (tCB (rIsX K D a d) (tCons (tVar 0) (tCons (tC (.ref (He.ga K "BadTime"))) tNil))) tNil))))) (gName 1)) (tSeq (tAsg (tOp (rAddA K) (tVar 1) (tLst (tCons (tCB (rIsX K D a d) (tCons (tVar 0) (tCons (tC (.ref (He.ga K "BadKey"))) tNil))) (tCons (tCB (rIsX K D a d) (tCons (tVar 0) (tCons (tC (.ref (He.ga K "BadHouse"))) tNil))) (tCons (tCB (rIsX K D a d) (tCons (tVar 0) (tCons (tC (.ref (He.ga K "NoCopy"))) tNil))) (tCons (tCB (rIsX K D a d) (tCons (tVar 0) (tCons (tC (.ref (He.ga K "Behind"))) tNil))) tNil)))))) (gName 1)) (tSeq (tAsg (tOp (rAddA K) (tVar 1) (tLst (tCons (tCB (rIsX K D a d) (tCons (tVar 0) (tCons (tC (.ref (He.ga K "BadBlock"))) tNil))) (tCons (tCB (rIsX K D a d) (tCons (tVar 0) (tCons (tC (.ref (He.ga K "BadEntry"))) tNil))) (tCons (tCB (rIsX K D a d) (tCons (tVar 0) (tCons (tC (.ref (He.ga K "BadText"))) tNil))) (tCons (tCB (rIsX K D a d) (tCons (tVar 0) (tCons (tC (.ref (He.ga K "Stopped"))) tNil))) tNil)))))) (gName 1)) (tSeq (tAsg (tLst (tCons (tC (.str "BadDeal")) (tCons (tC (.str "BadHand")) (tCons (tC (.str "BadLetter")) (tCons (tC (.str "BadTime")) (tCons (tC (.str "BadKey")) (tCons (tC (.str "BadHouse")) (tCons (tC (.str "NoCopy")) (tCons (tC (.str "Behind")) (tCons (tC (.str "BadBlock")) tNil)))))))))) (gName 2)) (tSeq (tAsg (tOp (rAddA K) (tVar 2) (tLst (tCons (tC (.str "BadEntry")) (tCons (tC (.str "BadText")) (tCons (tC (.str "Stopped")) tNil))))) (gName 2)) (tRet (tIf (tAnd (tTest (tOp (rEqA K) (tBM K "list" (rCntB K) (tVar 1) (tCons (tC (.bl true)) tNil)) (tC (.int 1)))) (tTr K (tCB (rIsX K D a d) (tCons (tVar 0) (tCons (tC (.ty "ValueError")) tNil))))) (tOp (rIxA K) (tVar 2) (tBM K "list" (rIndex K) (tVar 1) (tCons (tC (.bl true)) tNil))) (tC (.str "")))))))))
section
variable {w : World} {K : PySem.W.Frag} {mg : Str → Option Value}
theorem Tx.f_class_ (T : Tx w K mg) : ∃ fd, FunD K "_law_class" "_law_class" (defArgs s_class_) (defBody s_class_) (defScope s_class_) [] [] (He.fAd K ("_law_class", none)) fd := T.dfn 17 (d := d_class_) rfl
theorem Tx.f_refused_ (T : Tx w K mg) : ∃ fd, FunD K "_law_refused" "_law_refused" (defArgs s_refused_) (defBody s_refused_) (defScope s_refused_) [] [] (He.fAd K ("_law_refused", none)) fd := T.dfn 18 (d := d_refused_) rfl
end
section
variable {P : Program} {w : World} {K : PySem.W.Frag} {mg : Str → Option Value} {base : Heap}
theorem der_class_ {w' : World} (T : Tx w K mg) {k : Nat} {D a : Addr} {d : Option Addr} {oe : Obj} {cdv : Value} {A : Around} {outer : List Env} {s : Shared} {H : Hp} (C : ExcC K D) (hz : Zc (.ref D) d oe) (hf : ∃ vs, oe.data = .fields vs)
  (hr : RoomH k (A.deeper (envOfC "_law_class" (defScope s_class_) s.heap.objs.size (He.fAd K ("_law_class", none)) cdv))) :
  PSs (cxH CX0 P w' K mg base N_class_ "_law_class" (defScope s_class_) (He.fAd K ("_law_class", none)) cdv A outer s H E0 (a, oe)) (defBody s_class_) (t_class_ K D a d) := by
 have IP : CallR (cxH CX0 P w' K mg base N_class_ "_law_class" (defScope s_class_) (He.fAd K ("_law_class", none)) cdv A outer s H E0 (a, oe)) (.builtin "isinstance") (rIsX K D a d) := is_pinX C hz hf (List.mem_singleton.mpr rfl)
 have hu64 := Nat.lt_of_le_of_lt (Nat.add_le_add_left (show 64 ≤ 16 * k + 200 by omega) _) (by have := hr.un; rw [Nat.add_assoc] at this; exact this)
 have hu1 := Nat.lt_of_le_of_lt (Nat.add_le_add_left (show 1 ≤ 16 * k + 200 by omega) _) (by have := hr.un; rw [Nat.add_assoc] at this; exact this)
 exact (pss_cons (psA 1 sc_class_.nd (pe_lst (pa_cons (pe_callB IP (by rfl) T.n_isinstance bt_isinstance (pa_cons (pv 0) (pa_cons (pe_glob (by rfl) T.g_BadDeal rfl) pa_nil))) (pa_cons (pe_callB IP (by rfl) T.n_isinstance bt_isinstance (pa_cons (pv 0) (pa_cons (pe_glob (by rfl) T.g_BadHand rfl) pa_nil))) (pa_cons (pe_callB IP (by rfl) T.n_isinstance bt_isinstance (pa_cons (pv 0) (pa_cons (pe_glob (by rfl) T.g_BadLetter rfl) pa_nil))) (pa_cons (pe_callB IP (by rfl) T.n_isinstance bt_isinstance (pa_cons (pv 0) (pa_cons (pe_glob (by rfl) T.g_BadTime rfl) pa_nil))) pa_nil))))))
   (pss_cons (psA 1 sc_class_.nd (pe_op op_addA (pv 1) (pe_lst (pa_cons (pe_callB IP (by rfl) T.n_isinstance bt_isinstance (pa_cons (pv 0) (pa_cons (pe_glob (by rfl) T.g_BadKey rfl) pa_nil))) (pa_cons (pe_callB IP (by rfl) T.n_isinstance bt_isinstance (pa_cons (pv 0) (pa_cons (pe_glob (by rfl) T.g_BadHouse rfl) pa_nil))) (pa_cons (pe_callB IP (by rfl) T.n_isinstance bt_isinstance (pa_cons (pv 0) (pa_cons (pe_glob (by rfl) T.g_NoCopy rfl) pa_nil))) (pa_cons (pe_callB IP (by rfl) T.n_isinstance bt_isinstance (pa_cons (pv 0) (pa_cons (pe_glob (by rfl) T.g_Behind rfl) pa_nil))) pa_nil)))))))
   (pss_cons (psA 1 sc_class_.nd (pe_op op_addA (pv 1) (pe_lst (pa_cons (pe_callB IP (by rfl) T.n_isinstance bt_isinstance (pa_cons (pv 0) (pa_cons (pe_glob (by rfl) T.g_BadBlock rfl) pa_nil))) (pa_cons (pe_callB IP (by rfl) T.n_isinstance bt_isinstance (pa_cons (pv 0) (pa_cons (pe_glob (by rfl) T.g_BadEntry rfl) pa_nil))) (pa_cons (pe_callB IP (by rfl) T.n_isinstance bt_isinstance (pa_cons (pv 0) (pa_cons (pe_glob (by rfl) T.g_BadText rfl) pa_nil))) (pa_cons (pe_callB IP (by rfl) T.n_isinstance bt_isinstance (pa_cons (pv 0) (pa_cons (pe_glob (by rfl) T.g_Stopped rfl) pa_nil))) pa_nil)))))))
   (pss_cons (psA 2 sc_class_.nd (pe_lst (pa_cons pe_str (pa_cons pe_str (pa_cons pe_str (pa_cons pe_str (pa_cons pe_str (pa_cons pe_str (pa_cons pe_str (pa_cons pe_str (pa_cons pe_str pa_nil)))))))))))
   (pss_cons (psA 2 sc_class_.nd (pe_op op_addA (pv 2) (pe_lst (pa_cons pe_str (pa_cons pe_str (pa_cons pe_str pa_nil))))))
   (pss_one (ps_ret (pe_ifExp (PW.pt (pw_and (pt_cmpR (op_eqA hu64) (pe_bm PySem.F.plainAttrs_list PySem.F.slot_list_count PySem.F.type_list_count mt_cntB (pv 1) (pa_cons pe_bl pa_nil)) pe_int (nomark _)) (pw_and1 (pt_truth (pe_callB IP (by rfl) T.n_isinstance bt_isinstance (pa_cons (pv 0) (pa_cons (pe_bltn (v := .ty "ValueError") (by rfl) T.n_ValueError bt_ValueError rfl) pa_nil))) (by intro _; rfl))))) (pixH hu1 (pv 2) (pe_bm PySem.F.plainAttrs_list PySem.F.slot_list_index PySem.F.type_list_index mt_index (pv 1) (pa_cons pe_bl pa_nil))) pe_str))))))))
end
end W
namespace W
open PySem PySem.Spec PyProof.Rows L2 L2H Cm
def tClsX (K : PySem.W.Frag) (x : Str) (a : Addr) (d : Option Addr) : Sp := sp1 fun v H Q _ => v = .ref a ∧ XdOk d H ∧ ∀ H', Kp (tabs K) No H H' → Q (.str x) H'
def t_refS (K : PySem.W.Frag) (x : Str) (a : Addr) (d : Option Addr) : TS := (tSeq (tAsg (tCall (tClsX K x a d) [] E0 (tCons (tVar 1) tNil)) (gName 2)) (tSeq (tIfS (tTest (tOp (rEqA K) (tVar 2) (tC (.str "BadDeal")))) (tRet (tTup (tCons (tVar 2) (tCons (tXf a (.ref (He.ga K x)) d (He.ga K "BadDeal") "place" (tVar 1)) tNil)))) tNext) (tSeq (tIfS (tTest (tOp (rEqA K) (tVar 2) (tC (.str "Behind")))) (tRet (tTup (tCons (tVar 2) (tCons (tXf a (.ref (He.ga K x)) d (He.ga K "Behind") "number" (tVar 1)) tNil)))) tNext) (tRet (tTup (tCons (tVar 2) (tCons (tIf (tTest (tOp (rEqA K) (tVar 2) (tC (.str "BadText")))) (tXf a (.ref (He.ga K x)) d (He.ga K "BadText") "row" (tVar 1)) (tC (.int 0))) tNil)))))))
end W
end
section
namespace Cm
open PySem PySem.Spec PyProof.Rows L2 L2H
noncomputable def restB (h : Heap) (H : Hp) (fs : List Addr) : Heap :=
 open Classical in { h with objs := h.objs.mapIdx fun b o => if H b = none ∧ b ∉ fs then o else { o with data := .freed } }
section
variable {X : Cx} {pins : List (Addr × Obj)} {σ : L2.St} {H : Hp} {s : Shared}
noncomputable abbrev baseB (X : Cx) (s : Shared) (H : Hp) : Heap := restB s.heap H (frs X.stack)
structure CellsB (X : Cx) (b : Heap) (σ : L2.St) : Prop where
 len : σ.length = X.N.length
 inj : ∀ x y c, X.env.cells.lookup x = some c → X.env.cells.lookup y = some c → x = y
 has : ∀ x, (X.env.scope.names.lookup x = some .cell ∨ X.env.scope.names.lookup x = some .free) → ∃ c, X.env.cells.lookup x = some c
 cell : ∀ x c, X.env.cells.lookup x = some c → ∃ v, b.IsCell c v
 val : ∀ (i : Nat) x v, X.N[i]? = some x → σ[i]? = some (some v) → (X.env.scope.names.lookup x = some .cell ∨ X.env.scope.names.lookup x = some .free) → ∃ u c, RelV v u ∧ X.env.cells.lookup x = some c ∧ b.IsCell c (some u)
end
end Cm
namespace Cm
open PySem PySem.Spec PyProof.Rows L2 L2H
def LamP (X : Cx) (B : Nat → Arguments × Expr × Scope) (j : Nat) (f c' : Addr) (h : Heap) : Prop :=
 ∃ pm ctv, h.get? f = some (PySem.W.kla_obj "<lambda>" (X.env.qual ++ "<lambda>") (B j).1 (B j).2.1 (B j).2.2 (cloFrom X.env.cells (B j).2.2.names []) pm c' ctv)
def tLamV (T : List (Addr × Str)) (q : Str) (P : Nat → Addr → Addr → Heap → Prop) (j : Nat) : TE := fun _ H Q =>
 LamX.Tabs T H ∧ ∀ H1 f c', LamX.ExtN H H1 → LamX.Tabs T H1 → H1 f = none → H1 c' = some (LamX.CodeO c' q) → Q (.ref f) (upd H1 f (.ext (P j f c')))
section
variable {X : Cx} {pins : List (Addr × Obj)} {σ : L2.St} {H : Hp} {s : Shared}
end
end Cm
namespace Cm
open PySem PySem.Spec PyProof.Rows L2 L2H
abbrev lamW (W X : Cx) : Cx := { X with prog := W.prog, w := W.w, K := W.K, mg := W.mg, base := W.base }
def LamK (P : Nat → Addr → Addr → Heap → Prop) (q : Str) (j : Nat) (f c' : Addr) (H : Hp) : Prop := H f = some (.ext (P j f c')) ∧ H c' = some (LamX.CodeO c' q)
def GivesB (X : Cx) (k : Nat) (Ng : List Str) (x : Str) (sg : Scope) (g : Addr) (cdg : Value) (bg : List Stmt) (a : Str) (TT : (XK → Hp → VK → Prop) → Hp → VK → Prop) : Prop :=
 ∀ (f : Addr) (Φ : Hp → Prop) (s : Shared) (H : Hp) (Q : VK) (tl : XK → Hp → VK → Prop), Room k (X.A.deeper (envOfC x sg s.heap.objs.size g cdg)) →
  (∀ (W : WX) (pn : List (Addr × Obj)) (xe : Value → Shared → Prop) (E : XK) (p1 p2 : Pos), L2N.Takes ((zCx CX0 X Ng x sg g cdg s H E0).tr pn xe) W → (∀ cls d σ' H', E cls d H' → W cls d σ' H') →
   PE ((zCx CX0 X Ng x sg g cdg s H E0).tr pn xe) (.Call (.Name a p1) [] [] p2) (fun σZ HZ Q => σZ[0]? = some (some (.ref f)) ∧ Φ HZ ∧ tl E HZ Q)) →
  Φ H → TT tl H Q → ∃ t, PSs (zCx CX0 X Ng x sg g cdg s H E0).nox bg t ∧ t { nx := fun _ H' => Q .non H', rt := Q } (L2.start Ng [.ref f]) H
def tGive (P : Nat → Addr → Addr → Heap → Prop) (q : Str) (TT : (XK → Hp → VK → Prop) → Hp → VK → Prop) (i : Nat) (tl : Nat → XK → Hp → VK → Prop) : TE := fun σ H Q => ∃ j f c', σ[i]? = some (some (.ref f)) ∧ LamK P q j f c' H ∧ TT (tl j) H Q
end Cm
end
section
local macro_rules | `(tactic| walk_at "st") => `(tactic| first
 | (with_reducible refine Cm.s_seq ?_) | (with_reducible refine Cm.s_asg ?_) | (with_reducible refine Cm.s_drop ?_) | (with_reducible refine Cm.s_ret ?_) | (with_reducible refine Cm.s_if ?_) | (with_reducible refine Cm.s_next ?_) | (with_reducible refine Cm.s_retN ?_) | (with_reducible refine Cm.s_rs ?_) | (with_reducible refine Cm.s_fld0 ?_)
 | ((with_reducible refine' Cm.e_var ?hv ?_); (case hv => exact rfl))
 | (with_reducible refine Cm.e_c ?_) | (with_reducible refine Cm.e_op ?_) | (with_reducible refine Cm.e_un ?_) | (with_reducible refine Cm.e_nil ?_) | (with_reducible refine Cm.e_cons ?_) | (with_reducible refine Cm.e_tup ?_) | (with_reducible refine Cm.e_lst ?_) | (with_reducible refine Cm.e_cb ?_) | (with_reducible refine Cm.e_call ?_) | (with_reducible refine Cm.e_if ?_)
 | (with_reducible refine Cm.e_andV ?_) | (with_reducible refine Cm.e_orV ?_) | (with_reducible refine Cm.e_notV ?_) | (with_reducible refine Cm.e_fld0 ?_) | (with_reducible refine Cm.e_meth0 ?_) | (with_reducible refine Cm.e_bm0 ?_) | (with_reducible refine Cm.e_bm ?_) | (with_reducible refine Cm.e_sl ?_) | (with_reducible refine Cm.o_none ?_) | (with_reducible refine Cm.o_some ?_) | (with_reducible refine Cm.e_dnew ?_)
 | (with_reducible refine Cm.e_test ?_) | (with_reducible refine Cm.e_tr ?_) | (with_reducible refine Cm.e_and ?_) | (with_reducible refine Cm.e_or ?_) | (with_reducible refine Cm.e_not ?_) | (with_reducible refine Cm.e_yes ?_) | (with_reducible refine Cm.e_chain ?_)
 | (with_reducible refine Cm.r_i0 ?_) | (with_reducible refine Cm.r_u ?_) | (with_reducible refine Cm.r_isNo ?_) | (with_reducible refine Cm.r_notNo ?_) | (with_reducible refine Cm.r_addI ?_) | (with_reducible refine Cm.r_int1b ?_) | (with_reducible refine Cm.r_max2 ?_)
 | ((with_reducible refine Cm.r_i ?hc ?_); (case hc => walk_at "num"))
 | ((with_reducible refine Cm.r_mulI ?hc ?_); (case hc => walk_at "num"))
 | ((with_reducible refine Cm.r_eqS ?hc ?_); (case hc => exact rfl))
 | ((with_reducible refine Cm.r_neS ?hc ?_); (case hc => exact rfl))
 | ((with_reducible refine' Cm.r_ixl ?h1 ?h2 ?_); (case h1 => walk_at "look"); (case h2 => walk_at "at"))
 | ((with_reducible refine' Cm.r_ixt ?h1 ?h2 ?_); (case h1 => walk_at "look"); (case h2 => walk_at "at"))
 | ((with_reducible refine' Cm.r_ixT ?h1 ?h2 ?_); (case h1 => walk_at "lookT"); (case h2 => walk_at "at"))
 | ((with_reducible refine' Cm.r_ixds ?h1 ?h2 ?_); (case h1 => walk_at "look"); (case h2 => walk_at "key"))
 | ((with_reducible refine' Cm.r_eqe ?h1 ?h2 ?_); (case h1 => walk_at "look"); (case h2 => walk_at "look"))
 | ((with_reducible refine' Cm.r_nee ?h1 ?h2 ?_); (case h1 => walk_at "look"); (case h2 => walk_at "look"))
 | ((with_reducible refine' Cm.r_lenl ?h1 ?_); (case h1 => walk_at "look"))
 | ((with_reducible refine' Cm.r_lent ?h1 ?_); (case h1 => walk_at "look"))
 | ((with_reducible refine' Cm.r_lenT ?h1 ?_); (case h1 => walk_at "lookT"))
 | ((with_reducible refine' Cm.r_listl ?h1 ?_); (case h1 => walk_at "look"); (intro _ _))
 | ((with_reducible refine' Cm.r_tupl ?h1 ?_); (case h1 => walk_at "look"); (intro _ _))
 | ((with_reducible refine' Cm.r_addL ?h1 ?h2 ?h3 ?_); (case h1 => walk_at "look"); (case h2 => walk_at "look"); (case h3 => walk_at "size"); (intro _ _))
 | ((with_reducible refine' Cm.m_append ?h1 ?h2 ?_); (case h1 => walk_at "look"); (case h2 => walk_at "size"))
 | ((with_reducible refine' Cm.m_clear ?h1 ?_); (case h1 => walk_at "look"))
 | ((with_reducible refine' Cm.g_setL ?h1 ?h2 ?_); (case h1 => walk_at "look"); (case h2 => walk_at "ix"))
 | ((with_reducible refine' Cm.g_setDs ?h1 ?h2 ?h3 ?_); (case h1 => walk_at "look"); (case h2 => walk_at "size"); (case h3 => walk_at "put"))
 | ((with_reducible refine' Cm.fld_at ?h1 ?h2 ?h3 ?h4 ?_); (case h1 => walk_at "look"); (case h2 => assumption); (case h3 => assumption); (case h4 => walk_at "key"))
 | ((with_reducible refine' Cm.fldset_at ?h1 ?h2 ?h3 ?h4 ?h5 ?_); (case h1 => walk_at "look"); (case h2 => assumption); (case h3 => assumption); (case h4 => walk_at "size"); (case h5 => walk_at "put"))
 | (with_reducible refine Cm.s_fldaug0 ?_)
 | ((with_reducible refine' Cm.aug_at ?h1 ?h2 ?h3 ?h4 ?_); (case h1 => walk_at "look"); (case h2 => assumption); (case h3 => assumption); (case h4 => walk_at "key"))
 | ((with_reducible refine' Cm.augset_at ?h1 ?h4 ?h5 ?_); (case h1 => walk_at "look"); (case h4 => walk_at "size"); (case h5 => walk_at "put"))
 | (with_reducible refine Cm.in_sub_at ?_) | (with_reducible refine Cm.in_add_at ?_)
 | ((with_reducible refine' Cm.meth_at ?h1 ?h2 ?_); (case h1 => walk_at "look"); (case h2 => walk_at "key"))
 | ((with_reducible refine Cm.new_at ?h1 ?_); (case h1 => walk_at "size"); (intro _ _))
 | ((with_reducible refine Cm.and_at (A := L2.tyV _ "list" _ _) ?h1 ?_); (case h1 => exact Cm.ty_lst (by walk_at "look")))
 | ((with_reducible refine' Cm.g_tupt ?h1 ?h2 ?_); (case h1 => walk_at "look"); (case h2 => exact rfl))
 | ((with_reducible refine' Cm.g_tup ?h1 ?h2 ?_); (case h1 => walk_at "lookT"); (case h2 => exact rfl))
 | (with_reducible refine Cm.g_name ?_) | (with_reducible refine Cm.g_sub ?_) | (with_reducible refine Cm.g_cons ?_) | (with_reducible refine Cm.g_nil ?_)
 | (with_reducible refine Cm.int_at ?_) | (with_reducible refine Cm.bl_at ?_) | (with_reducible refine Cm.tr_bl ?_) | (with_reducible refine Cm.tr_non ?_)
 | ((with_reducible refine' Cm.m_pop0 ?h1 ?_); (case h1 => walk_at "look"))
 | ((with_reducible refine' Cm.r_slTo ?h1 ?h2 ?_); (case h1 => walk_at "look"); (case h2 => walk_at "num2"); (intro _ _))
 | ((with_reducible refine' Cm.r_slFrom ?h1 ?h2 ?_); (case h1 => walk_at "look"); (case h2 => walk_at "num2"); (intro _ _))
 | ((with_reducible refine' Cm.at_forL ?h1 ?_); (case h1 => walk_at "look"))
 | ((with_reducible refine' Cm.at_forT ?h1 ?_); (case h1 => walk_at "look"))
 | ((with_reducible refine' Cm.at_forR ?h1 ?h2 ?_); (case h1 => walk_at "num2"); (case h2 => walk_at "num2"))
 | ((with_reducible refine' Cm.at_forZ ?h1 ?h2 ?_); (case h1 => walk_at "look"); (case h2 => walk_at "look"))
 | (with_reducible refine Cm.s_forZ ?_) | (with_reducible refine Cm.s_forR ?_)
 | ((with_reducible refine Cm.and_at (A := _ = _) ?h1 ?_); (case h1 => exact rfl))
 | ((with_reducible show L2.rIsi _ _ _ _); walk_at "isi")
 | (with_reducible refine Cm.ite_nt ?_) | (with_reducible refine Cm.ite_nf ?_)
 | (with_reducible refine L2.iteT ?_) | (with_reducible refine L2.iteF ?_)
 | dsimp only
 | fail)
local macro_rules | `(tactic| walk_at "run") => `(tactic| repeat (walk_at "st"))
local macro_rules | `(tactic| walk_at "num") => `(tactic| first
 | exact Or.inr ⟨by decide, by decide⟩ | exact Or.inl ⟨by decide, by decide⟩
 | exact Cm.wdiv (by first | decide | omega) (by first | decide | omega)
 | (show (0 : Int) < _; first | decide | omega)
 | exact ⟨by decide, by decide, by decide⟩
 | fail)
local macro_rules | `(tactic| walk_at "put") => `(tactic| exact rfl)
local macro_rules | `(tactic| walk_at "fl") => `(tactic| first | exact Cm.fl0 | (refine' Cm.flS ?hz; (case hz => walk_at "fl")) | fail)
local macro_rules | `(tactic| walk_at "size") => `(tactic| first | exact Cm.sz_lit rfl | exact Cm.sz_lt rfl | exact Cm.fs_lt rfl | decide | (refine' Nat.lt_of_le_of_lt ?ha ?hb; (case ha => walk_at "fl"); (case hb => decide)) | (simp only [List.length_cons, List.length_nil, List.length_append, List.length_map, List.length_set, List.length_replicate, PySem.sizeLine_eq]; omega) | (simp only [List.length_cons, List.length_nil, List.length_append, List.length_map, List.length_set, List.length_replicate, PySem.sizeLine_eq] at *; omega) | fail)
local macro_rules | `(tactic| walk_at "at") => `(tactic| first | assumption | (with_reducible exact Cm.at0) | (with_reducible exact Cm.at1) | (with_reducible exact Cm.at2) | (with_reducible exact Cm.at3) | (with_reducible exact Cm.at4) | (with_reducible exact Cm.at5) | (with_reducible exact Cm.at6) | (with_reducible exact Cm.at7) | (with_reducible exact Cm.at8) | (with_reducible exact Cm.at0s) | (with_reducible exact Cm.at1s) | (with_reducible exact Cm.at01s) | (with_reducible exact Cm.at10s) | fail)
local macro_rules | `(tactic| walk_at "ix") => `(tactic| first | exact Cm.ix0 (by walk_at "size") | exact Cm.ix1 (by walk_at "size") | assumption | fail)
local macro_rules | `(tactic| walk_at "key") => `(tactic| first | assumption | fail)
local macro_rules | `(tactic| walk_at "ne") => `(tactic| first
 | assumption
 | (refine Ne.symm ?_; assumption)
 | (refine' L2.ne_of_none ?h1 ?h2; (case h2 => assumption); (case h1 => walk_at "look"))
 | (refine' Ne.symm (L2.ne_of_none ?h1 ?h2); (case h2 => assumption); (case h1 => walk_at "look"))
 | fail)
local macro_rules | `(tactic| walk_at "lookT") => `(tactic| first
 | assumption
 | exact L2.SqT.of (by walk_at "look")
 | fail)
local macro_rules | `(tactic| walk_at "look") => `(tactic| first
 | assumption
 | exact L2.upd_same
 | ((fail_if_success (with_reducible refine Eq.trans L2.upd_same ?_)); (refine' Eq.trans (L2.upd_ne ?h1) ?h2); (case h1 => walk_at "ne"); (case h2 => walk_at "look"))
 | (refine' Cm.kp_look ?h1 ?h2 ?h3 ?h4; (case h1 => assumption); (case h2 => walk_at "look"); (case h3 => intro _ z; cases z); (case h4 => first | exact Or.inl rfl | exact Or.inr (by walk_at "out")))
 | fail)
local macro_rules | `(tactic| walk_at "out") => `(tactic| first
 | assumption
 | exact fun z => z
 | exact fun z => z.elim (fun e => absurd e (by walk_at "ne")) (fun e => absurd e (by walk_at "ne"))
 | exact fun e => absurd e (by walk_at "ne")
 | fail)
local macro_rules | `(tactic| walk_at "dom") => `(tactic| first
 | exact Cm.dm_refl
 | (refine Cm.dm_upd ?_; walk_at "dom")
 | (refine' Cm.dm_kp ?h1 ?h2; (case h2 => assumption); (case h1 => walk_at "dom"))
 | fail)
local macro_rules | `(tactic| walk_at "free") => `(tactic| first
 | assumption
 | exact Cm.nw_of (by assumption)
 | (refine' Cm.dm_use ?h1 ?h2; (case h2 => assumption); (case h1 => walk_at "dom"))
 | (refine' Cm.dm_use2 ?h1 ?h2; (case h2 => assumption); (case h1 => walk_at "dom"))
 | fail)
local macro_rules | `(tactic| walk_at "in") => `(tactic| first
 | exact Or.inl rfl | exact Or.inl (Or.inl rfl) | exact Or.inl (Or.inr rfl) | exact Or.inl (Or.inr (Or.inl rfl)) | exact Or.inl (Or.inr (Or.inr rfl))
 | exact Or.inl (by assumption)
 | exact Or.inr (by walk_at "free")
 | fail)
local macro_rules | `(tactic| walk_at "kp") => `(tactic| first
 | assumption
 | exact Cm.Kp.refl
 | (refine' Cm.Kp.new' ?h1 ?h2; (case h2 => assumption); (case h1 => walk_at "kp"))
 | (refine' Cm.Kp.setX' ?h1 ?h2 ?h4 ?h5 ?h3; (case h2 => walk_at "look"); (case h4 => exact rfl); (case h5 => intro _ z; cases z); (case h3 => walk_at "in"); (case h1 => walk_at "kp"))
 | (refine' Cm.kp_step ?h1 ?h2 ?h3; (case h2 => assumption); (case h3 => walk_at "sub"); (case h1 => walk_at "kp"))
 | fail)
local macro_rules | `(tactic| walk_at "sub") => `(tactic| first
 | exact fun _ z => z.elim
 | exact fun _ z => Or.inl z
 | (intro a z; rcases z with rfl | rfl <;> walk_at "in")
 | (intro a z; subst z; walk_at "in")
 | fail)
local macro_rules | `(tactic| walk_at "num2") => `(tactic| first | decide | omega | fail)
local macro_rules | `(tactic| walk_at "isi") => `(tactic| first | (with_reducible refine Cm.isi_non_bool ?_) | (with_reducible refine Cm.isi_non_int ?_) | (with_reducible refine Cm.isi_non_str ?_) | (with_reducible refine Cm.isi_non_tuple ?_) | (with_reducible refine Cm.isi_non_list ?_) | (with_reducible refine Cm.isi_bl_bool ?_) | (with_reducible refine Cm.isi_bl_int ?_) | (with_reducible refine Cm.isi_bl_str ?_) | (with_reducible refine Cm.isi_bl_tuple ?_) | (with_reducible refine Cm.isi_bl_list ?_) | (with_reducible refine Cm.isi_int_bool ?_) | (with_reducible refine Cm.isi_int_int ?_) | (with_reducible refine Cm.isi_int_str ?_) | (with_reducible refine Cm.isi_int_tuple ?_) | (with_reducible refine Cm.isi_int_list ?_) | (with_reducible refine Cm.isi_str_bool ?_) | (with_reducible refine Cm.isi_str_int ?_) | (with_reducible refine Cm.isi_str_str ?_) | (with_reducible refine Cm.isi_str_tuple ?_) | (with_reducible refine Cm.isi_str_list ?_) | ((with_reducible refine' Cm.isi_tup_bool ?h1 ?_); (case h1 => walk_at "look")) | ((with_reducible refine' Cm.isi_tup_int ?h1 ?_); (case h1 => walk_at "look")) | ((with_reducible refine' Cm.isi_tup_str ?h1 ?_); (case h1 => walk_at "look")) | ((with_reducible refine' Cm.isi_tup_tuple ?h1 ?_); (case h1 => walk_at "look")) | ((with_reducible refine' Cm.isi_tup_list ?h1 ?_); (case h1 => walk_at "look")) | ((with_reducible refine' Cm.isi_lst_bool ?h1 ?_); (case h1 => walk_at "look")) | ((with_reducible refine' Cm.isi_lst_int ?h1 ?_); (case h1 => walk_at "look")) | ((with_reducible refine' Cm.isi_lst_str ?h1 ?_); (case h1 => walk_at "look")) | ((with_reducible refine' Cm.isi_lst_tuple ?h1 ?_); (case h1 => walk_at "look")) | ((with_reducible refine' Cm.isi_lst_list ?h1 ?_); (case h1 => walk_at "look")) | fail)
local macro_rules | `(tactic| walk_at "st") => `(tactic| first
 | ((with_reducible refine Cm.and_at (A := L2.tyV _ "dict" _ _) ?h1 ?_); (case h1 => exact Cm.ty_dic (by walk_at "look")))
 | (with_reducible refine Cm.e_dget2 ?_) | (with_reducible refine Cm.e_dpop2 ?_) | (with_reducible refine Cm.e_dpop1 ?_) | (with_reducible refine Cm.s_rx ?_)
 | ((with_reducible refine' Cm.isd_at ?h1 ?_); (case h1 => walk_at "look"))
 | ((with_reducible refine' Cm.get_at ?h1 ?_); (case h1 => walk_at "look"))
 | ((with_reducible refine' Cm.pop1_at ?h1 ?h2 ?_); (case h1 => walk_at "look"); (case h2 => assumption))
 | ((with_reducible refine' Cm.r_dictD ?h1 ?_); (case h1 => walk_at "look"); (intro _ _))
 | ((with_reducible refine' Cm.r_lenD ?h1 ?_); (case h1 => walk_at "look"))
 | ((with_reducible refine' Cm.r_ixdi ?h1 ?h2 ?_); (case h1 => walk_at "look"); (case h2 => assumption))
 | ((with_reducible refine' Cm.g_setdi ?h1 ?h2 ?_); (case h1 => walk_at "look"); (case h2 => first | assumption | omega))
 | (with_reducible refine Cm.r_min2 ?_)
 | (with_reducible refine W.r_eq_lv ?_) | (with_reducible refine W.r_ne_lv ?_) | (with_reducible refine W.r_isNo_lv ?_) | (with_reducible refine W.r_notNo_lv ?_)
 | fail)
namespace W
open PySem PySem.Spec PyProof.Rows L2 L2H Cm
section
variable {P : Program} {w : World} {K : PySem.W.Frag} {mg : Str → Option Value} {base : Heap}
theorem Tx.kin (T : Tx w K mg) {x : Str} (hx : x ∈ kinds) : ExcC K (He.ga K x) ∧ PySem.W.kitOne K (.ref (He.ga K x)) (.type "ValueError") = some true ∧ ∀ y ∈ kinds, PySem.W.kitOne K (.ref (He.ga K x)) (.ref (He.ga K y)) = some (x == y) := exK_of T.ex1 hx
theorem Tx.exm (T : Tx w K mg) {x : Str} (hx : x ∈ kinds) : PySem.W.exmOne K (.ref (He.ga K x)) (.ref (He.ga K "StillError")) = some true := by
 simp only [kinds, List.mem_cons, List.not_mem_nil, or_false] at hx
 rcases hx with rfl | rfl | rfl | rfl | rfl | rfl | rfl | rfl | rfl | rfl | rfl | rfl
 ·exact T.xm_BadDeal_StillError
 ·exact T.xm_BadHand_StillError
 ·exact T.xm_BadLetter_StillError
 ·exact T.xm_BadTime_StillError
 ·exact T.xm_BadKey_StillError
 ·exact T.xm_BadHouse_StillError
 ·exact T.xm_NoCopy_StillError
 ·exact T.xm_Behind_StillError
 ·exact T.xm_BadBlock_StillError
 ·exact T.xm_BadEntry_StillError
 ·exact T.xm_BadText_StillError
 ·exact T.xm_Stopped_StillError
theorem r_isX (T : Tx w K mg) {x y : Str} {a : Addr} {d : Option Addr} {H : Hp} {Q : VK} (hx : x ∈ kinds) (hy : y ∈ kinds) (xd : XdOk d H) (q : Q (.bl (x == y)) H) : rIsX K (He.ga K x) a d [.ref a, .ref (He.ga K y)] H Q :=
 ⟨xd, .ref (He.ga K y), .ref (He.ga K y), x == y, rfl, fun _ r => r, (T.kin hx).2.2 y hy, q⟩
theorem r_isXV (T : Tx w K mg) {x : Str} {a : Addr} {d : Option Addr} {H : Hp} {Q : VK} (hx : x ∈ kinds) (xd : XdOk d H) (q : Q (.bl true) H) : rIsX K (He.ga K x) a d [.ref a, .ty "ValueError"] H Q :=
 ⟨xd, .ty "ValueError", .type "ValueError", true, rfl, fun _ r => r, (T.kin hx).2.1, q⟩
theorem pure_class_ (T : Tx w K mg) {x : Str} (hx : x ∈ kinds) {a : Addr} {d : Option Addr} {H : Hp} {Q : VK} (xd : XdOk d H) (hq : ∀ H', Kp (tabs K) No H H' → Q (.str x) H') : t_class_ K (He.ga K x) a d { nx := fun _ H' => Q .non H', rt := Q } (start N_class_ [.ref a]) H := by
 unfold t_class_
 iterate 12 (walk_at "run"; refine r_isX T hx (by decide) (xd.kp (T := tabs K) (S := No) (by walk_at "kp")) ?_)
 walk_at "run"
 rename_i p1 h1 p2 h2 p3 h3 p4 h4 p5 h5 p6 h6 p7 h7 p8 h8
 obtain ⟨hc, j, hj, hjt, hjf, hjw⟩ := kinds_at x hx
 have e58 : p5 ≠ p8 := by walk_at "ne"
 have e57 : p5 ≠ p7 := by walk_at "ne"
 have e56 : p5 ≠ p6 := by walk_at "ne"
 refine ⟨p5, kinds.map (x == ·), true, rfl, rfl, SqL.of ?_, ?_⟩
 ·rw [upd_ne e58, upd_ne e57, upd_ne e56]; exact upd_same
 rw [hc]
 walk_at "run"
 refine if_dT rfl ?_
 walk_at "run"
 refine r_isXV T hx (xd.kp (T := tabs K) (S := No) (by walk_at "kp")) ?_
 walk_at "run"
 refine ⟨p5, (kinds.map (x == ·)).map V.bl, .bl true, j, .bl true, rfl, rfl, SqL.of ?_, rfl, ?_, ?_, rfl, fun m z hm hz => ?_, ?_⟩
 ·rw [upd_ne e58, upd_ne e57, upd_ne e56]; exact upd_same
 ·rw [List.all_map]; exact List.all_eq_true.mpr fun _ _ => rfl
 ·rw [List.getElem?_map, hjt]; rfl
 ·rw [List.getElem?_map, hjf m hm] at hz
  cases hz; rfl
 ·refine r_ixl (xs := kinds.map V.str) (v := .str x) upd_same (atI_nat (j := j) ?_) (hq _ (by walk_at "kp"))
  rw [List.getElem?_map, hjw]; rfl
theorem pe_classX {X : Cx} (T : Tx w X.K X.mg) {k : Nat} {x : Str} {a : Addr} {d : Option Addr} {oe : Obj} {e : Expr} {es : List Expr} {t : TA} {p pos : Pos} (hx : x ∈ kinds) (hz : L2N.Zn (.ref (He.ga X.K x)) d oe) (hf : ∃ vs, oe.data = .fields vs) (hh : X.A.handled = some (.ref a)) (hr : RoomH (k + 1) X.A) (hp : (a, oe) ∈ X.pn) (hg : Gl X "_law_class")
  (ha : PA X (e :: es) t) (he : starEach (e :: es) X.env = (false, eval e X.env) :: starEach es X.env := by rfl) (hpl : (backTo pos (starEach es X.env)).any (·.1) = false := by rfl) : PE X (.Call (.Name "_law_class" p) (e :: es) [] pos) (tCall (tClsX X.K x a d) [] E0 t) := by
 obtain ⟨fd, F⟩ := T.f_class_
 have hv : ∃ vs : Array Value, oe.data = .fields vs ∧ vs[2]? = some .none := by
  obtain ⟨vs, e⟩ := hf
  exact ⟨vs, e, hz.2.2 vs e⟩
 refine call_pin (k := k) (p := (a, oe)) F sc_class_ (fun vs H Q E h => by obtain ⟨_, rfl, _⟩ := h; rfl) hr ⟨hh, hv⟩ hp hg T.g_class_ (F.bindsN (fun _ _ _ _ _ _ us hl => match us, hl with | [_], _ => rfl)) (fun cdv s H vs Q hr' hsp => ?_) ha (by rfl) he hpl
 obtain ⟨_, rfl, rfl, xd, hq⟩ := hsp
 exact ⟨t_class_ X.K (He.ga X.K x) a d, der_class_ T (T.kin hx).1 hz.zc hf hr', pure_class_ T hx xd hq⟩
def xfs : List (Str × Str) := [("BadDeal", "place"), ("Behind", "number"), ("BadText", "row")]
def Told (K : PySem.W.Frag) (cls : Value) (d : Option Addr) (H' : Hp) (Q : VK) : Prop := ∃ x, x ∈ kinds ∧ cls = .ref (He.ga K x) ∧
 ((d = none ∧ (∀ q ∈ xfs, q.1 ≠ x) ∧ ∀ t H'', Nw H' t → Kp (tabs K) No H' H'' → H'' t = some (.tup [.str x, .int 0]) → Q (.ref t) H'') ∨
 ∃ dd f i, d = some dd ∧ (x, f) ∈ xfs ∧ H' dd = some (.xd [(f, .int i)]) ∧ ∀ t H'', Nw H' t → Kp (tabs K) No H' H'' → H'' t = some (.tup [.str x, .int i]) → Q (.ref t) H'')
def TT_refused_ (K : PySem.W.Frag) : (XK → Hp → VK → Prop) → Hp → VK → Prop := fun tl H Q => tl (fun cls d H' => Told K cls d H' Q) H (fun _ H' => Q .non H')
theorem pure_refS {x : Str} (hx : x ∈ kinds) {a : Addr} {d : Option Addr} {σ : L2.St} {H : Hp} {D : Ends} (v0 v2 : Option V) (he : σ = [v0, some (.ref a), v2]) (h : Told K (.ref (He.ga K x)) d H D.rt) (hinj : ∀ y, y ∈ kinds → He.ga K x = He.ga K y → x = y) : t_refS K x a d D σ H := by
 subst he
 obtain ⟨y, hy, e, h⟩ := h
 have e : x = y := hinj y hy (by injection e)
 subst e
 have xd : XdOk d H := fun dd e => by
  rcases h with ⟨rfl, _⟩ | ⟨dd', f, i, rfl, _, h1, _⟩
  ·cases e
  ·cases e; exact ⟨_, h1⟩
 unfold t_refS
 walk_at "run"
 refine ⟨_, rfl, rfl, xd, fun H1 k1 => ?_⟩
 walk_at "run"
 rcases h with ⟨rfl, hn, q⟩ | ⟨dd, f, i, rfl, hm, hd, q⟩
 ·refine if_dF (fun z => hn ("BadDeal", "place") (by decide) (by injection z with z; exact z.symm)) ?_
  walk_at "run"
  refine if_dF (fun z => hn ("Behind", "number") (by decide) (by injection z with z; exact z.symm)) ?_
  walk_at "run"
  refine if_dF (fun z => hn ("BadText", "row") (by decide) (by injection z with z; exact z.symm)) ?_
  walk_at "run"
  rename_i t ht
  exact q t _ (k1.free ht) (by walk_at "kp") upd_same
 ·have hd1 := k1.imm dd _ hd rfl
  simp only [xfs, List.mem_cons, List.not_mem_nil, or_false, Prod.mk.injEq] at hm
  rcases hm with ⟨rfl, rfl⟩ | ⟨rfl, rfl⟩ | ⟨rfl, rfl⟩
  ·refine if_dT rfl ?_
   walk_at "run"
   refine ⟨_, rfl, rfl, rfl, dd, _, .int i, rfl, hd1, by kernel_rfl, ?_⟩
   walk_at "run"
   rename_i t ht
   exact q t _ (k1.free ht) (by walk_at "kp") upd_same
  ·refine if_dF (by decide) ?_
   walk_at "run"
   refine if_dT rfl ?_
   walk_at "run"
   refine ⟨_, rfl, rfl, rfl, dd, _, .int i, rfl, hd1, by kernel_rfl, ?_⟩
   walk_at "run"
   rename_i t ht
   exact q t _ (k1.free ht) (by walk_at "kp") upd_same
  ·refine if_dF (by decide) ?_
   walk_at "run"
   refine if_dF (by decide) ?_
   walk_at "run"
   refine if_dT rfl ?_
   walk_at "run"
   refine ⟨_, rfl, rfl, rfl, dd, _, .int i, rfl, hd1, by kernel_rfl, ?_⟩
   walk_at "run"
   rename_i t ht
   exact q t _ (k1.free ht) (by walk_at "kp") upd_same
theorem Tx.kinj (T : Tx w K mg) {x y : Str} (hx : x ∈ kinds) (hy : y ∈ kinds) (e : He.ga K x = He.ga K y) : x = y := by
 have h1 := (T.kin hx).2.2 x hx
 have h2 := (T.kin hx).2.2 y hy
 rw [← e, h1] at h2
 injection h2 with h2
 rw [beq_self_eq_true] at h2
 exact eq_of_beq h2.symm
theorem gives_refusedB {X : Cx} (T : Tx w X.K X.mg) {k : Nat} (cdv : Value) : GivesB X (k + 1) N_refused_ "_law_refused" (defScope s_refused_) (He.fAd X.K ("_law_refused", none)) cdv (defBody s_refused_) "_law_work" (TT_refused_ X.K) := by
 intro f Φ s H Q tl hr act hco ht
 refine ⟨_, pss_cons (L2N.ps_try_as (i := 1) (x := "StillError") (c := .ref (He.ga X.K "StillError")) rfl rfl sc_refused_.nd rfl rfl ⟨by rfl, by rfl, .inl T.g_StillError⟩ tkN
  (tb := fun W D σ H => ∃ E : XK, (∀ cls d σ' H', E cls d H' → W cls d σ' H') ∧ tDrop (fun σZ HZ Q => σZ[0]? = some (some (.ref f)) ∧ Φ HZ ∧ tl E HZ Q) D σ H)
  (ts := fun a cls d D σ H => ∃ x, x ∈ kinds ∧ cls = .ref (He.ga X.K x) ∧ (σ.length = 3 → t_refS X.K x a d D σ H)) ?hb ?hsu) (pss_one (ps_ret pe_non)), ?_⟩
 case hb =>
  intro W pn xe tk _
  refine ⟨fun pins s σ H D I h => ?_⟩
  obtain ⟨E, hE, h⟩ := h
  exact (pss_one (ps_expr (act W pn xe E _ _ tk hE))).run pins s σ H D I h
 case hsu =>
  intro a oe cls d pn hz hf
  refine ⟨fun pins s' σ H' D I h => ?_⟩
  obtain ⟨x, hx, rfl, h⟩ := h
  have hr2 : RoomH (k + 1) ((X.A.deeper (envOfC "_law_refused" (defScope s_refused_) s.heap.objs.size (He.fAd X.K ("_law_refused", none)) cdv)).mark (some (.ref a))) := ⟨hr.dp, hr.un⟩
  have hu64 := Nat.lt_of_le_of_lt (Nat.add_le_add_left (show 64 ≤ 16 * (k + 1) + 200 by omega) _) (by have := hr2.un; rw [Nat.add_assoc] at this; exact this)
  refine PSs.run (X := (zCx CX0 X N_refused_ "_law_refused" (defScope s_refused_) (He.fAd X.K ("_law_refused", none)) cdv s H E0).nox.suite a ((a, oe) :: pn)) (t := t_refS X.K x a d) ?_ pins s' σ H' D I (h I.len)
  exact (pss_cons (psA 2 sc_refused_.nd (pe_classX (X := (zCx CX0 X N_refused_ "_law_refused" (defScope s_refused_) (He.fAd X.K ("_law_refused", none)) cdv s H E0).nox.suite a ((a, oe) :: pn)) (k := k) T hx hz hf rfl hr2 List.mem_cons_self (by rfl) (pa_cons (pv 1) pa_nil)))
   (pss_cons (ps_if (pt_cmpR (op_eqA hu64) (pv 2) pe_str (nomark _)) (pss_one (ps_ret (pe_tup (pa_cons (pv 2) (pa_cons (pe_xf (X := (zCx CX0 X N_refused_ "_law_refused" (defScope s_refused_) (He.fAd X.K ("_law_refused", none)) cdv s H E0).nox) (a := a) (pn := pn) T.x_BadDeal.xf T.x_BadDeal.no hz.zc hf (pv 1)) pa_nil))))) pss_nil)
   (pss_cons (ps_if (pt_cmpR (op_eqA hu64) (pv 2) pe_str (nomark _)) (pss_one (ps_ret (pe_tup (pa_cons (pv 2) (pa_cons (pe_xf (X := (zCx CX0 X N_refused_ "_law_refused" (defScope s_refused_) (He.fAd X.K ("_law_refused", none)) cdv s H E0).nox) (a := a) (pn := pn) T.x_Behind.xf T.x_Behind.no hz.zc hf (pv 1)) pa_nil))))) pss_nil)
   (pss_one (ps_ret (pe_tup (pa_cons (pv 2) (pa_cons (pe_ifExp (pt_cmpR (op_eqA hu64) (pv 2) pe_str (nomark _)) (pe_xf (X := (zCx CX0 X N_refused_ "_law_refused" (defScope s_refused_) (He.fAd X.K ("_law_refused", none)) cdv s H E0).nox) (a := a) (pn := pn) T.x_BadText.xf T.x_BadText.no hz.zc hf (pv 1)) pe_int) pa_nil))))))))
 ·refine ⟨_, fun cls d σ' H' h => ?_, rfl, hco, ht⟩
  obtain ⟨x, hx, rfl, hq⟩ := id h
  refine ⟨true, T.exm hx, fun _ a ha => ⟨x, hx, rfl, fun hl => ?_⟩, fun z => nomatch z⟩
  have hl : σ'.length = 3 := by simpa using hl
  match σ', hl with
  | [v0, v1, v2], _ => exact pure_refS hx v0 v2 rfl h (fun y hy e => T.kinj hx hy e)
theorem gives_refused {X : Cx} (T : Tx w X.K X.mg) {k : Nat} {q : Str} (cdv : Value) : GivesN X (k + 1) N_refused_ "_law_refused" (defScope s_refused_) (He.fAd X.K ("_law_refused", none)) cdv (defBody s_refused_) "_law_work" q (TT_refused_ X.K) :=
 fun f c' s H Q tl hr act hco ht => gives_refusedB T cdv f (fun HZ => HZ c' = some (LamX.CodeO c' q)) s H Q tl hr act hco ht
theorem lam_refused_ {X : Cx} (T : Tx w X.K X.mg) (TB : ∀ p ∈ tf, LamX.TabB X.base X.mg (He.cT X.K p).1 (He.cT X.K p).2) {k : Nat} {at_ : He.Defn} {params : Arguments} {body : Expr} {scope : Scope} {t : XK → TE} {p lpos pos : Pos} (hat : at_ ∈ tf) (hq : X.env.qual ++ "<lambda>" = at_.1 ++ ".<locals>.<lambda>") (hcode : X.env.code = .ref (He.codeOf X.K at_))
  (hr : Room (k + 2) X.A) (hL : LamX.lamSB X.env.scope scope = true) (hg : Gl X "_law_refused") (hdef : defaultsOf params X.env = ([], [])) (hbind : ∀ (q : Str) (cl : List (Str × Addr)) (pm cv ctv : Value), bindArgs (PySem.W.kla_fn "<lambda>" q params body scope cl pm cv ctv) ⟨[], []⟩ = pure [])
  (hbody : ∀ (A : Around) (outer : List Env) (s : Shared) (H : Hp) (E : XK) (f c' : Addr), Room k (A.deeper (LamX.lamEnv X scope s.heap.objs.size f c')) → PE (lamN X A outer s H E scope f c') body (t E)) :
  PE X (.Call (.Name "_law_refused" p) [.Lambda params body scope lpos] [] pos) (LamX.tLam (tabs X.K) (TT_refused_ X.K) t) := by
 obtain ⟨fd, F⟩ := T.f_refused_
 refine lam_n (T := tabs X.K) (P := (He.cT X.K at_).2) (c := He.codeOf X.K at_) (k := k) F hg T.g_refused_ (F.bindsN (fun _ _ _ _ _ _ us hl => match us, hl with | [_], _ => rfl)) sc_refused_ rfl (.inl rfl) (fun cdv => gives_refused T cdv) (TB at_ hat) hcode ?_ ?_ hr (LamX.lamS_by hL) hdef hbind hbody
 ·rw [hq]; exact List.mem_map.mpr ⟨at_, hat, rfl⟩
 ·intro q hm e
  obtain ⟨at2, h2, rfl⟩ := List.mem_map.mp hm
  rw [hq, inj_map (f := fun p => (He.cT X.K p).2) T.tnd h2 hat e]
end
end W
end
section
namespace N
open PySem PySem.Spec PyProof.Rows L2 Cm W
def R.tellB {α β : Type} : R α → (Ex → G → R β) → R β
 | .ok _ _, _ => .no
 | .err e g, k => k e g
 | .no, _ => .no
 | .all T f, k => .all T fun t => (f t).tellB k
def toldE (e : Ex) : Option (Str × Int) := if e.c ∈ kinds then match e.x with
 | none => if ∀ q ∈ xfs, q.1 ≠ e.c then some (e.c, 0) else none
 | some (f, i) => if (e.c, f) ∈ xfs then some (e.c, i) else none
 else none
def dueA : A → Option (Str × Int)
 | .tup [.str x, .int i] => some (x, i)
 | _ => none
structure SimL (K : PySem.W.Frag) (tB : XK → TE) (mb : MF) : Prop where
 run : ∀ W : WX, SimFX K W (fun s H Q => tB (WE W s) s H Q) mb
section
variable {K : PySem.W.Frag} {E : XK} {ta : TE} {qa : QE} {tr : TA} {mr : MA} {k : Nat} {cf : List A → G → R Fv} {sp : Sp} {t1 t2 : XK → TE} {m1 m2 : MF}
theorem l_call (hsp : ∀ vs H Q E, SpM K k cf vs H Q E → sp vs H Q E) (hr : SimA K E0 tr mr) : SimL K (fun E => tCall sp [] E tr) (mCallX k cf mr) := ⟨fun W => ⟨fun {d m s σ g H} Q M h => by
 have z := (f_callX (W := W) hsp hr).run Q M h
 unfold tCallS at z
 unfold tCall
 simp only [List.append_nil]
 exact z⟩⟩
theorem told_of {e : Ex} {x : Str} {i : Int} {H : Hp} {dd : Option Addr} {Q : VK} (h : toldE e = some (x, i)) (r : XR H dd e) (q : ∀ t H'', Nw H t → Kp (tabs K) No H H'' → H'' t = some (.tup [.str x, .int i]) → Q (.ref t) H'') : Told K (.ref (He.ga K e.c)) dd H Q := by
 unfold toldE at h
 unfold XR at r
 split at h
 ·rename_i hk
  split at h
  ·rename_i hx
   rw [hx] at r
   have r : dd = none := r
   split at h
   ·rename_i hf
    cases h
    exact ⟨e.c, hk, rfl, .inl ⟨r, hf, q⟩⟩
   ·cases h
  ·rename_i f j hx
   rw [hx] at r
   obtain ⟨a, r1, r2⟩ := r
   split at h
   ·rename_i hf
    cases h
    exact ⟨e.c, hk, rfl, .inr ⟨a, f, i, r1, hf, r2, q⟩⟩
   ·cases h
 ·cases h
end
def strsOf : List A → Option (List Str)
 | [] => some []
 | .str s :: r => (strsOf r).map (s :: ·)
 | _ :: _ => none
def fJoin (a : Str) : A → Option A
 | .lst xs => match strsOf xs with
  | some ys => if (ys.map (·.length)).sum + ys.length * a.length ≤ 16777216 then some (.str (Txt.join a ys)) else none
  | none => none
 | _ => none
def nSplit (b : Str) : A → Option C
 | .str a => if (b.length == 0) = false ∧ a.length + 2 ≤ sizeLine then some (.lst ((Txt.split a b).map A.str)) else none
 | _ => none
def mM1 {α : Type} (f : A → Option α) (a : ME) : Sl → G → R α := fun σ g => (a σ g).bind fun x g1 => ofO (f x) g1
abbrev rJn (K : PySem.W.Frag) : V → List V → Hp → VK → Prop := fun x xs H Q => ∃ a p, ∃ ys : List Str, x = .str a ∧ xs = [.ref p] ∧ (SqL K H p (ys.map V.str) ∨ SqT K H p (ys.map V.str)) ∧
  (ys.map (·.length)).sum + ys.length * a.length ≤ 16777216 ∧ Q (.str (Txt.join a ys)) H
abbrev rSpl : V → List V → Hp → VK → Prop := fun x xs H Q => ∃ a b, x = .str a ∧ xs = [.str b] ∧ (b.length == 0) = false ∧ a.length + 2 ≤ sizeLine ∧ rNewStrs (Txt.split a b) H Q
section
variable {K : PySem.W.Frag} {E : XK} {te : TE} {me : ME} {a b : Str}
theorem rvs_strs {m : Env} {H : Hp} : ∀ {xs : List A} {us : List V} {ys : List Str}, RVs K m H us xs → strsOf xs = some ys → us = ys.map V.str
 | [], us, ys, h, e => by
  cases e
  exact h
 | x :: xs, us, ys, h, e => by
  obtain ⟨v, vs, rfl, h1, h2⟩ := h
  cases x <;> first | cases e | skip
  rename_i s
  have e : (strsOf xs).map (s :: ·) = some ys := e
  obtain ⟨zs, e1, rfl⟩ := Option.map_eq_some_iff.mp e
  have h1 : v = .str s := h1
  rw [h1, rvs_strs h2 e1]
  rfl
theorem rvs_of_strs {m : Env} {H : Hp} : ∀ {ys : List Str}, RVs K m H (ys.map V.str) (ys.map A.str)
 | [] => rfl
 | y :: ys => ⟨.str y, ys.map V.str, rfl, rfl, rvs_of_strs⟩
theorem e_join (h0 : SimE K E te me) : SimE K E (tM1 (rJn K) (tC (.str a)) te) (mM1 (fJoin a) me) := .mk fun {d m s σ g H} Q M h => by
 unfold mM1 at h
 rw [sat_bind] at h
 refine ⟨⟨a, rfl⟩, h0 _ M (seqE h (fun x g1 h1 m1 H1 u M1 x1 r1 => ?_) fun _ _ z => z)⟩
 obtain ⟨z, e, h1⟩ := sat_ofO h1
 unfold fJoin at e
 split at e
 ·rename_i xs
  split at e
  ·rename_i ys hy
   split at e
   ·rename_i hs
    cases e
    obtain ⟨p, us, rfl, r2, _, r3⟩ := r1
    exact ⟨a, p, ys, rfl, rfl, .inl (SqL.of (by rw [← rvs_strs r3 hy]; exact r2)), hs, h1 m1 H1 _ M1 x1 rfl⟩
   ·cases e
  ·cases e
 ·cases e
theorem f_split (h0 : SimE K E te me) : SimF K E (tM1 rSpl te (tC (.str b))) (mM1 (fun x => (nSplit b x).map (Fv.own false)) me) := .mk fun {d m s σ g H} Q M h => by
 unfold mM1 at h
 rw [sat_bind] at h
 refine h0 _ M (seqE h (fun x g1 h1 m1 H1 u M1 x1 r1 => ?_) fun _ _ z => z)
 obtain ⟨w2, e, h1⟩ := sat_ofO h1
 obtain ⟨z, e3, rfl⟩ := Option.map_eq_some_iff.mp e
 unfold nSplit at e3
 split at e3
 ·rename_i y
  split at e3
  ·rename_i hs
   cases e3
   have r1 : u = .str y := r1
   subst r1
   refine ⟨⟨y, rfl⟩, y, b, rfl, rfl, hs.1, hs.2, fun p hp => ?_⟩
   have ho : OC K m1 H1 (.lst ((Txt.split y b).map V.str)) (.lst ((Txt.split y b).map A.str)) := rvs_of_strs
   obtain ⟨m3, M3, x3, r3⟩ := M1.fresh_tmp hp ho
   refine h1 m3 _ _ M3 (x1.trans x3) ?_
   obtain ⟨r4, b', r5, r6, r7, r8⟩ := r3
   exact ⟨r4, b', r5, r6, .inl (x1.kp.dom b' (by
    rcases r7 with r7 | r7
    ·exact r7
    ·cases r5; exact nw_of hp)), r8⟩
  ·cases e3
 ·cases e3
def rStr1 : List V → Hp → VK → Prop := fun xs H Q => (∃ i : Int, xs = [.int i] ∧ i.natAbs.log2 < 1920 ∧ Q (.str (toString i)) H) ∨ ∃ a, xs = [.str a] ∧ Q (.str a) H
def fStr1 : List A → Option A
 | [.int i] => if i.natAbs.log2 < 1920 then some (.str (toString i)) else none
 | [.str a] => some (.str a)
 | _ => none
theorem cr_str1 {X : Cx} : CallR X (.type "str") rStr1 := by
 intro pins s σ H xs us Q I rs h
 rcases h with h | h
 ·exact call_str_int pins s σ H xs us Q I rs h
 ·exact SkE.call_str_str pins s σ H xs us Q I rs h
theorem cb_str1 : CBQ K rStr1 fStr1 := .mk fun {m H vs as c} Q hf r9 e9 k => by
 unfold fStr1 at e9
 split at e9
 ·split at e9
  ·rename_i i hi
   cases e9
   obtain ⟨v, rfl, r⟩ := r9.one
   have r : v = .int i := r
   subst r
   exact .inl ⟨i, rfl, hi, k H _ Kp.refl rfl⟩
  ·cases e9
 ·rename_i a
  cases e9
  obtain ⟨v, rfl, r⟩ := r9.one
  have r : v = .str a := r
  subst r
  exact .inr ⟨a, rfl, k H _ Kp.refl rfl⟩
 ·cases e9
def rInt1 : List V → Hp → VK → Prop := fun xs H Q => ∃ a n, xs = [.str a] ∧ PySem.intText? a = some n ∧ a.length ≤ 640 ∧ Q (.int n) H
def fIntT : List A → Option A
 | [.str a] => if a.length ≤ 640 then (PySem.intText? a).map A.int else none
 | _ => none
theorem cb_intT : CBQ K rInt1 fIntT := .mk fun {m H vs as c} Q hf r9 e9 k => by
 unfold fIntT at e9
 split at e9
 ·split at e9
  ·rename_i a ha
   obtain ⟨n, hn, rfl⟩ := Option.map_eq_some_iff.mp e9
   obtain ⟨v, rfl, r⟩ := r9.one
   have r : v = .str a := r
   subst r
   exact ⟨a, n, rfl, hn, ha, k H _ Kp.refl rfl⟩
  ·cases e9
 ·cases e9
def rNotInT : R2 := fun x y H Q => ∃ (c : Nat) (z : Str), x = .str ⟨#[c]⟩ ∧ y = .str z ∧ Q (.bl (!decide (c ∈ z.cps.toList))) H
def fNotInT : A → A → Option A
 | .str i, .str z => match i.cps.toList with
  | [c] => some (.bl (!decide (c ∈ z.cps.toList)))
  | _ => none
 | _, _ => none
theorem r2_notInT : R2Q K rNotInT fNotInT := .mk fun {m H x y a b c} Q hf r1 r2 e k => by
 unfold fNotInT at e
 split at e
 ·rename_i i z
  split at e
  ·rename_i c hc
   cases e
   have r1 : x = .str i := r1
   have r2 : y = .str z := r2
   have ei : i = ⟨#[c]⟩ := Str.ext' (Array.toList_inj.mp hc)
   subst r1 r2 ei
   exact ⟨c, z, rfl, rfl, k H _ Kp.refl rfl⟩
  ·cases e
 ·cases e
def fIxT : A → A → Option A
 | .str z, .int i => if z.length ≤ sizeLine then (atI z.cps.toList i).map fun c => .str ⟨#[c]⟩ else none
 | _, _ => none
theorem r2_ixT : R2Q K rIxS fIxT := .mk fun {m H x y a b c} Q hf r1 r2 e k => by
 unfold fIxT at e
 split at e
 ·rename_i z i
  split at e
  ·rename_i hz
   obtain ⟨c, hc, rfl⟩ := Option.map_eq_some_iff.mp e
   have r1 : x = .str z := r1
   have r2 : y = .int i := r2
   subst r1 r2
   exact ⟨z, i, c, rfl, rfl, hz, hc, k H _ Kp.refl rfl⟩
  ·cases e
 ·cases e
def rSlS : V → Option Int → Option Int → Hp → VK → Prop := fun x lo hi H Q => ∃ z, x = .str z ∧ z.length ≤ sizeLine ∧ Q (.str (Txt.slice z lo hi)) H
def fSlT : A → Option Int → Option Int → Option A
 | .str z, lo, hi => if z.length ≤ sizeLine then some (.str (Txt.slice z lo hi)) else none
 | _, _, _ => none
section
variable {ta : TE} {tl th : TO} {ql qh : QO} {qa : QE} {ma : ME}
theorem q_slT (h : SimQ K ta qa) (hl : SimO K tl ql) (hh : SimO K th qh) : SimQ K (tSl rSlS ta tl th) (qSl fSlT qa ql qh) := .mk fun {d m s σ g H} Q a M e k => by
 obtain ⟨x, e1, e⟩ := Option.bind_eq_some_iff.mp e
 obtain ⟨lo, e2, e⟩ := Option.bind_eq_some_iff.mp e
 obtain ⟨hi, e3, e⟩ := Option.bind_eq_some_iff.mp e
 unfold fSlT at e
 split at e
 ·rename_i z lo hi
  split at e
  ·rename_i hz
   cases e
   refine h _ _ M e1 fun H1 v k1 r1 => hl _ _ (M.quiet k1) e2 fun H2 k2 => hh _ _ ((M.quiet k1).quiet k2) e3 fun H3 k3 => ?_
   have r1 : v = .str z := r1
   subst r1
   exact ⟨z, rfl, hz, k H3 _ (kpt k1 (kpt k2 k3)) rfl⟩
  ·cases e
 ·cases e
end
end
instance mulOkD {x : Str} {n : Int} : Decidable (MulOk x n) := by
 unfold MulOk
 infer_instance
def fMulT : A → A → Option A
 | .str a, .int n => if MulOk a n then some (.str (Txt.mul a n)) else none
 | _, _ => none
def fInD (a b : A) : Option A := match toD a, toD b with
 | some d, some (.list ds) => if SeqAt.shaped d && SeqAt.shaped (.list ds) then some (.bl (ds.any fun z => PyData.eqv z d)) else none
 | _, _ => none
def fIdxD (a b : A) : Option A := match toD a, toD b with
 | some (.list ds), some d => if SeqAt.shaped (.list ds) && SeqAt.shaped d then (ds.findIdx? fun z => PyData.eqv z d).map fun j => .int (j : Nat) else none
 | _, _ => none
def signs (z : Str) : List A := z.cps.toList.map fun c => .str ⟨#[c]⟩
def strT : A → Option (List A)
 | .str z => some (signs z)
 | _ => none
def iSt (q : QE) : MA := fun σ g => ofO ((q σ g).bind strT) g
def fKGet (kvs : List (Str × Str)) (x : Str) : A → Option A
 | .str z => some (.str ((lkT kvs z).getD x))
 | _ => none
def fAbs : A → Option A
 | .int i => some (.int (if i < 0 then -i else i))
 | _ => none
def R.refB {α : Type} : R α → R A
 | .ok _ g => .ok .non g
 | .err e g => match toldE e with
  | some p => .ok (A.tup [A.str p.1, A.int p.2]) g
  | none => .no
 | .no => .no
 | .all T f => .all T fun t => (f t).refB
theorem sat_refB {α : Type} {Q : A → G → Prop} {E : Ex → G → Prop} : ∀ {r : R α}, r.refB.sat Q E ↔ r.sat (fun _ g => Q .non g) (fun e g => ∃ p, toldE e = some p ∧ Q (A.tup [A.str p.1, A.int p.2]) g)
 | .ok _ _ => Iff.rfl
 | .err e g => by
  show (match toldE e with
   | some p => R.ok (A.tup [A.str p.1, A.int p.2]) g
   | none => .no).sat Q E ↔ ∃ p, toldE e = some p ∧ Q (A.tup [A.str p.1, A.int p.2]) g
  cases toldE e with
  | some p => exact ⟨fun h => ⟨p, rfl, h⟩, fun ⟨_, h, q⟩ => by cases h; exact q⟩
  | none => exact ⟨fun h => h.elim, fun ⟨_, h, _⟩ => by cases h⟩
 | .no => Iff.rfl
 | .all T f => ⟨fun h t => sat_refB.mp (h t), fun h t => sat_refB.mpr (h t)⟩
def mRef (mb : MF) : ME := fun σ g => (mb σ g).refB
section
variable {K : PySem.W.Frag} {E : XK} {te ta tb : TE} {qa qb : QE} {me : ME} {a b : Str}
theorem o1_some {f : A → Option A} {σ : Sl} {g : G} {z : A} (e : o1 f qa σ g = some z) : ∃ x, qa σ g = some x ∧ f x = some z := by
 unfold o1 at e
 cases e1 : qa σ g with
 | none => rw [e1] at e; cases e
 | some x => rw [e1] at e; exact ⟨x, rfl, e⟩
theorem kp_of {H H1 : Hp} (e : LamX.ExtN H H1) (t : LamX.Tabs (tabs K) H1) : Kp (tabs K) No H H1 where
 old x o h n _ := e x o h n
 imm x o h i := e x o h (fun ps y => by subst y; cases i)
 tab _ := t
 dom x h := by
  cases ho : H x with
  | none => exact .inl ho
  | some o =>
   by_cases n : ∀ ps, o ≠ .tbl ps
   ·exact (nw_no h (e x o ho n) n).elim
   ·cases o with
    | tbl ps => exact .inr ⟨ps, ho⟩
    | _ => exact (n fun ps => nofun).elim
theorem r2_mulT : R2Q K rMulT fMulT := .mk fun {m H x y a b c} Q hf r1 r2 e k => by
 unfold fMulT at e
 split at e
 ·rename_i z n
  split at e
  ·rename_i ok
   cases e
   have r1 : x = .str z := r1
   have r2 : y = .int n := r2
   subst r1 r2
   exact ⟨z, n, rfl, rfl, ok, k H _ Kp.refl rfl⟩
  ·cases e
 ·cases e
theorem r2_ixTA : R2Q K (rIxA K) fIxT := .mk fun {m H x y a b c} Q hf r1 r2 e k => .inl (.inr (.inr ((r2_ixT (K := K)).run Q hf r1 r2 e k)))
theorem r2_inD : R2Q K (rInD K) fInD := .mk fun {m H x y a b c} Q hf r1 r2 e k => by
 unfold fInD at e
 split at e
 ·rename_i d ds e1 e2
  split at e
  ·rename_i hs
   cases e
   rw [Bool.and_eq_true] at hs
   exact ⟨d, ds, rw_dp r1 e1, rw_dp r2 e2, hs.1, hs.2, k H _ Kp.refl rfl⟩
  ·cases e
 ·cases e
theorem q_indexD (ha : SimW K ta qa) (hb : SimQ K tb qb) : SimQ K (tBM K "list" (rIndexD K) ta (tCons tb tNil)) (o2 fIdxD qa qb) := .mk fun {d m s σ g H} Q z M e k => by
 unfold o2 at e
 cases e1 : qa σ g with
 | none => rw [e1] at e; cases e
 | some a =>
  rw [e1] at e
  cases e2 : qb σ g with
  | none => rw [e2] at e; cases e
  | some b =>
   rw [e2] at e
   have e : fIdxD a b = some z := e
   unfold fIdxD at e
   split at e
   ·rename_i ds d2 e3 e4
    split at e
    ·rename_i hs
     rw [Bool.and_eq_true] at hs
     obtain ⟨j, e5, rfl⟩ := Option.map_eq_some_iff.mp e
     have e6 := List.findIdx?_eq_some_iff_getElem.mp e5
     obtain ⟨hj, h6, h7⟩ := e6
     refine ha _ _ M e1 fun H1 v k1 r1 => ?_
     have hl : ∃ xs, a = .lst xs := by
      cases a with
      | lst xs => exact ⟨xs, rfl⟩
      | non => cases e3
      | bl => cases e3
      | int => cases e3
      | str => cases e3
      | dic => cases e3
      | ref => cases e3
      | gl => cases e3
      | ty => cases e3
      | scr => cases e3
      | tup xs =>
       obtain ⟨_, _, y⟩ := Option.map_eq_some_iff.mp (show (toDs xs).map PyData.tuple = some (.list ds) from e3)
       cases y
     obtain ⟨xs, rfl⟩ := hl
     obtain ⟨ad, vs, rfl, h1, h2⟩ := r1
     refine ⟨.inl ⟨rfl, vs, SqL.of h1⟩, hb _ _ (M.quiet k1) e2 fun H2 v2 k2 r2 => ?_⟩
     refine ⟨ad, v2, d2, ds, j, ds[j], rfl, rfl, rw_dp (K := K) (m := m) (a := .lst xs) ⟨ad, vs, rfl, k2.lst h1 id, h2.quiet k2⟩ e3, rv_dp r2 e4, hs.1, hs.2, List.getElem?_eq_getElem hj, h6, fun i z' hi hz => ?_, k H2 _ (kpt k1 k2) rfl⟩
     obtain ⟨hil, rfl⟩ := List.getElem?_eq_some_iff.mp hz
     simpa using h7 i hi
    ·cases e
   ·cases e
theorem q_join (h0 : SimW K te qa) : SimQ K (tM1 (rJn K) (tC (.str a)) te) (o1 (fJoin a) qa) := .mk fun {d m s σ g H} Q z M e k => by
 obtain ⟨x, e1, e⟩ := o1_some e
 refine ⟨⟨a, rfl⟩, h0 _ _ M e1 fun H1 u k1 r1 => ?_⟩
 unfold fJoin at e
 split at e
 ·rename_i xs
  split at e
  ·rename_i ys hy
   split at e
   ·rename_i hs
    cases e
    obtain ⟨p, us, rfl, r2, r3⟩ := r1
    exact ⟨a, p, ys, rfl, rfl, .inl (SqL.of (by rw [← rvs_strs r3 hy]; exact r2)), hs, k H1 _ k1 rfl⟩
   ·cases e
  ·cases e
 ·cases e
theorem i_str (h0 : SimQ K te qa) : SimI K E (iStr te) (iSt qa) := .mk fun {d m s σ g H} P M hh => by
 unfold iSt at hh
 obtain ⟨zs, e, hh⟩ := sat_ofO hh
 obtain ⟨x, e1, e⟩ := Option.bind_eq_some_iff.mp e
 unfold strT at e
 split at e
 ·rename_i z
  cases e
  refine h0 _ _ M e1 fun H1 v k1 r1 => ?_
  have r1 : v = .str z := r1
  subst r1
  refine ⟨z, rfl, hh m H1 _ (M.quiet k1) (Ext.quiet k1) fun m' H' L' x => ⟨fun i y hy => ?_, ?_⟩⟩
  ·unfold signs at hy
   rw [List.getElem?_map] at hy
   obtain ⟨c, hc, rfl⟩ := Option.map_eq_some_iff.mp hy
   rw [Array.getElem?_toList] at hc
   refine ⟨(Array.getElem?_eq_some_iff.mp hc).1, fun w H2 hw => ?_⟩
   obtain ⟨rfl, c', hc', rfl⟩ := hw
   rw [hc] at hc'
   cases hc'
   exact ⟨Kp.refl, rfl⟩
  ·show z.cps.size ≤ (signs z).length
   unfold signs
   rw [List.length_map, Array.length_toList]
   exact Nat.le_refl _
 ·cases e
theorem q_kget {kvs : List (Str × Str)} {x : Str} (h0 : SimQ K te qa) : SimQ K (tKGet kvs te x) (o1 (fKGet kvs x) qa) := .mk fun {d m s σ g H} Q z M e k => by
 obtain ⟨y, e1, e⟩ := o1_some e
 unfold fKGet at e
 split at e
 ·rename_i y
  cases e
  refine h0 _ _ M e1 fun H1 u k1 r1 => ?_
  have r1 : u = .str y := r1
  subst r1
  exact ⟨y, rfl, k H1 _ k1 rfl⟩
 ·cases e
theorem cb_abs : CBQ K rAbs (one fAbs) := .mk fun {m H vs as c} Q hf r9 e9 k => by
 obtain ⟨a, rfl, e⟩ := one_some e9
 obtain ⟨v, rfl, r⟩ := r9.one
 unfold fAbs at e
 split at e
 ·rename_i i
  cases e
  have r : v = .int i := r
  subst r
  exact ⟨i, rfl, k H _ Kp.refl rfl⟩
 ·cases e
theorem e_ref {tB : XK → TE} {mb : MF} (hb : SimL K tB mb) : SimE K E (LamX.tLam (tabs K) (TT_refused_ K) tB) (mRef mb) := .mk fun {d m s σ g H} Q M h => by
 unfold mRef at h
 rw [sat_refB] at h
 refine ⟨M.tb, fun H1 eN T1 => ?_⟩
 have k1 : Kp (tabs K) No H H1 := kp_of eN T1
 refine (hb.run fun cls dd _ H' => Told K cls dd H' Q).run _ (M.quiet k1) (seqE h (fun _ g1 h1 m5 H5 v M5 x5 r5 => h1 m5 H5 _ M5 ((Ext.quiet k1).trans x5) rfl) fun e g1 ⟨p, hp, h1⟩ m5 H5 dd M5 x5 hx => ?_)
 refine told_of (x := p.1) (i := p.2) hp hx fun t H6 ht k6 h6 => ?_
 exact h1 m5 H6 _ (M5.quiet k6) ((Ext.quiet k1).trans (x5.trans (Ext.quiet k6))) ⟨t, _, rfl, h6, .cons rfl (.cons rfl .nil)⟩
end
end N
end
section
noncomputable section
namespace N
open PySem PySem.Spec PyProof.Rows L2 Cm W
def m_store_ : List A → G → R Fv := mFun 0
 (mRet (mVal (mLabV (mDisp [("rows", (mLabV (mNew nDic))), ("hands", (mLabV (mNew nDic))), ("moment", (mQ (qC (.int 0)))), ("number", (mQ (qC (.int 0))))]))))
def m_seen_ : List A → G → R Fv := mFun 3
 (mSeq (mAsg 2 (mVal (mQ (q3 fGet (wDe (o2 fIx (wDe (qVar 0)) (qC (.str "rows")))) (qVar 1) (oL fTup (aCons (qC .non) (aCons (qC (.int 0)) aNil)))))))
 (mRet (mVal (mQ (qIf (qOr (o1 tB (o2 fEq (o2 fIx (qVar 2) (qC (.int 1))) (qC (.int 0)))) (o1 tB (o2 (fI fun i j => .bl (decide (j < i))) (o2 fIx (qVar 2) (qC (.int 1))) (o2 fIx (wDe (qVar 0)) (qC (.str "moment")))))) (o2 fIx (qVar 2) (qC (.int 0))) (qC .non))))))
def m_deed_ : List A → G → R Fv := mFun 6
 (mSeq (mAsg 2 (mVal (mFrz (mCall 2 p_take (maCons (mQ (qVar 0)) (maCons (m2 fIx (mQ (qNew (oL fLst (aCons (qC (.int 2)) (aCons (qC (.int 6)) (aCons (qC (.int 32)) aNil)))))) (mFrz (mCall 2 p_take (maCons (mQ (qVar 0)) (maCons (mQ (qC (.int 3))) maNil))))) maNil))))))
 (mSeq (mAsg 3 (mVal (mFrz (mCall 2 m_seen_ (maCons (mQ (qVar 1)) (maCons (mQ (qVar 2)) maNil))))))
 (mSeq (mAsg 4 (mVal (mFrz (mCall 2 p_take (maCons (mQ (qVar 0)) (maCons (mQ (qC (.int 10))) maNil))))))
 (mSeq (mIfS (mQT (o1 tB (o2 (fI fun i j => .bl (decide (i < j))) (qVar 4) (qC (.int 5)))))
 (mSeq (mAsg 5 (mVal (m2 fIx (mFrz (mL (fun a => (fLst a).map (Fv.own false)) (maCons (mQ (qC (.int 0))) (maCons (m2 fAdd (mQ (qC (.int 1))) (mFrz (mCall 2 p_take (maCons (mQ (qVar 0)) (maCons (mQ (qC (.int 9))) maNil))))) (maCons (m2 fAdd (mQ (qC (.int 1))) (mFrz (mCall 2 p_take (maCons (mQ (qVar 0)) (maCons (mQ (qC (.int 1000))) maNil))))) maNil))))) (mFrz (mCall 2 p_take (maCons (mQ (qVar 0)) (maCons (mQ (qC (.int 3))) maNil)))))))
 (mRet (mVal (mL fTup (maCons (mQ (qC (.str "put"))) (maCons (mQ (qVar 2)) (maCons (m2 fIx (mFrz (mL (fun a => (fLst a).map (Fv.own false)) (maCons (mFrz (mCall 2 p_take (maCons (mQ (qVar 0)) (maCons (mQ (qC (.int 1000))) maNil)))) (maCons (mQ (qC (.int 999))) (maCons (mQ (qC (.int 0))) maNil))))) (mFrz (mCall 2 p_take (maCons (mQ (qVar 0)) (maCons (mQ (qC (.int 3))) maNil))))) (maCons (mQ (qVar 5)) maNil))))))))
 mNext)
 (mSeq (mIfS (mQT (o1 tB (o2 fEq (qVar 4) (qC (.int 5)))))
 (mRet (mVal (mQ (oL fTup (aCons (qC (.str "drop")) (aCons (qVar 2) aNil))))))
 mNext)
 (mSeq (mIfS (mQT (o1 tB (o2 (fI fun i j => .bl (decide (i < j))) (qVar 4) (qC (.int 8)))))
 (mRet (mVal (mL fTup (maCons (mQ (qC (.str "add"))) (maCons (mQ (qVar 2)) (maCons (m2 fIx (mFrz (mL (fun a => (fLst a).map (Fv.own false)) (maCons (m2 (fI fun i j => .int (i - j)) (mFrz (mCall 2 p_take (maCons (mQ (qVar 0)) (maCons (mQ (qC (.int 9))) maNil)))) (mQ (qC (.int 4)))) (maCons (m2 (fI fun i j => .int (i - j)) (mFrz (mCall 2 p_take (maCons (mQ (qVar 0)) (maCons (mQ (qC (.int 1999))) maNil)))) (mQ (qC (.int 999)))) maNil)))) (mFrz (mCall 2 p_take (maCons (mQ (qVar 0)) (maCons (mQ (qC (.int 2))) maNil))))) maNil))))))
 mNext)
 (mRet (mVal (mL fTup (maCons (mQ (qC (.str "if"))) (maCons (mQ (qVar 2)) (maCons (m2 fIx (mFrz (mL (fun a => (fLst a).map (Fv.own false)) (maCons (mQ (qVar 3)) (maCons (mQ (qVar 3)) (maCons (mQ (qVar 3)) (maCons (mQ (qC .non)) (maCons (mFrz (mCall 2 p_take (maCons (mQ (qVar 0)) (maCons (mQ (qC (.int 1000))) maNil)))) maNil))))))) (mFrz (mCall 2 p_take (maCons (mQ (qVar 0)) (maCons (mQ (qC (.int 5))) maNil))))) maNil))))))))))))
def m_drawn_ : List A → G → R Fv := mFun 3
 (mRet (mVal (mL (one fTupOf) (maCons (mFrz (mLc (iR1 (maCons (m2 fAdd (mQ (qC (.int 1))) (mFrz (mCall 2 p_take (maCons (mQ (qVar 0)) (maCons (m2 fIx (mQ (qNew (oL fLst (aCons (qC (.int 1)) (aCons (qC (.int 2)) (aCons (qC (.int 4)) aNil)))))) (mFrz (mCall 2 p_take (maCons (mQ (qVar 0)) (maCons (mQ (qC (.int 3))) maNil))))) maNil))))) maNil)) (gN 2) (mQT fun _ _ => some true) (mFrz (mCall 2 m_deed_ (maCons (mQ (qVar 0)) (maCons (mQ (qVar 1)) maNil)))) [2])) maNil))))
def m_deals_ : List A → G → R Fv := mFun 4
 (mSeq (mAsg 1 (mNew (oL fLst aNil)))
 (mSeq (mFor (iR1 (maCons (mFrz (mCall 2 p_take (maCons (mQ (qVar 0)) (maCons (mQ (qC (.int 13))) maNil)))) maNil)) (gN 2)
 (mSeq (mAsg 3 (mVal (m2 fIx (mFrz (mL (fun a => (fLst a).map (Fv.own false)) (maCons (m2 fAdd (mQ (qC (.int 1))) (mFrz (mCall 2 p_take (maCons (mQ (qVar 0)) (maCons (mQ (qC (.int 9))) maNil))))) (maCons (mFrz (mCall 2 p_take (maCons (mQ (qVar 0)) (maCons (mQ (qC (.int 10000))) maNil)))) maNil)))) (mFrz (mCall 2 p_take (maCons (mQ (qVar 0)) (maCons (mQ (qC (.int 2))) maNil)))))))
 (mMutE lApp 1 (maCons (mL fTup (maCons (mFrz (mCall 2 p_take (maCons (mQ (qVar 0)) (maCons (mQ (qC (.int 4))) maNil)))) (maCons (mQ (qVar 3)) (maCons (mFrz (mCall 2 m_drawn_ (maCons (mQ (qVar 0)) (maCons (mFrz (mCall 0 m_store_ maNil)) maNil)))) maNil)))) maNil))))
 (mRetO 1)))
def m_text_ : List A → G → R Fv := mFun 8
 (mSeq (mAsg 1 (mNew (oL fLst aNil)))
 (mSeq (mFor (iSq (qVar 0)) (gT 3 (gsC (gN 2) (gsC (gN 3) (gsC (gN 4) gs0))))
 (mSeq (mAsg 5 (mVal (mFrz (mLc (iSq (qVar 4)) (gN 7) (mQT fun _ _ => some true) (mM1 (fJoin " ") (mFrz (mLc (iSq (qVar 7)) (gN 6) (mQT fun _ _ => some true) (mQ (qIf (o1 tB (o2 fIsNo (qVar 6) (qC .non))) (qC (.str "-")) (oL fStr1 (aCons (qVar 6) aNil)))) [6]))) [7]))))
 (mMut lApp (pVar 1) (aCons (o2 fAdd (o2 fAdd (o2 fAdd (o2 fAdd (oL fStr1 (aCons (qVar 2) aNil)) (qC (.str " "))) (oL fStr1 (aCons (qVar 3) aNil))) (qC (.str ": "))) (o1 (fJoin "; ") (qVar 5))) aNil))))
 (mRet (mVal (mQ (o1 (fJoin "\n") (wVar 1)))))))
def m_spoilt_ : List A → G → R Fv := mFun 11
 (mSeq (mAsg 2 (mVal (mFrz (mCall 2 p_take (maCons (mQ (qVar 0)) (maCons (mQ (qC (.int 7))) maNil))))))
 (mSeq (mAsg 3 (mVal (mFrz (mCall 2 p_take (maCons (mQ (qVar 0)) (maCons (mQ (o2 fAdd (oL (one fLen) (aCons (qVar 1) aNil)) (qC (.int 1)))) maNil))))))
 (mSeq (mAsg 4 (mVal (mFrz (mM1 (fun x => (nSplit "\n" x).map (Fv.own false)) (mQ (qVar 1))))))
 (mSeq (mAsg 5 (mVal (mFrz (mCall 2 p_take (maCons (mQ (qVar 0)) (maCons (mQ (oL (one fLen) (aCons (qVar 4) aNil))) maNil))))))
 (mSeq (mIfS (mQT (o1 tB (o2 (fI fun i j => .bl (decide (i < j))) (qVar 2) (qC (.int 2)))))
 (mRet (mVal (mQ (o1 (fJoin "\n") (qNew (o2 nAdd (qNew (qSl nSl (qVar 4) oNo (oPt (o2 fAdd (qVar 5) (qVar 2))))) (qNew (qSl nSl (qVar 4) (oPt (o2 (fI fun i j => .int (i - j)) (o2 fAdd (qVar 5) (qC (.int 1))) (qVar 2))) oNo))))))))
 mNext)
 (mSeq (mIfS (mQT (o1 tB (o2 fEq (qVar 2) (qC (.int 2)))))
 (mSeq (mAsg 6 (mVal (mLabV (mM1 (fun x => (nSplit " " x).map (Fv.own false)) (mQ (o2 fIx (qVar 4) (qVar 5)))))))
 (mSeq (mAsg 7 (mVal (mQ (qNew (oL fLst (aCons (qC (.str "")) (aCons (qC (.str "put")) (aCons (qC (.str "drop")) (aCons (qC (.str "add")) (aCons (qC (.str "if")) (aCons (qC (.str "take")) (aCons (qC (.str "0")) (aCons (qC (.str "00")) (aCons (qC (.str "07")) (aCons (qC (.str "-1")) (aCons (qC (.str "-")) (aCons (qC (.str "-0")) (aCons (qC (.str "9999")) (aCons (qC (.str "10000")) (aCons (qC (.str "32")) (aCons (qC (.str "4:")) aNil)))))))))))))))))))))
 (mSeq (mSubE (pVar 6) (mFrz (mCall 2 p_take (maCons (mQ (qVar 0)) (maCons (mQ (oL (one fLen) (aCons (wDe (qVar 6)) aNil))) maNil)))) (m2 fIx (mQ (qNew (o2 nAdd (qVar 7) (qNew (oL fLst (aCons (qC (.str "5;")) (aCons (qC (.str ";")) (aCons (qC (.str "x")) (aCons (qC (.str "1001")) (aCons (qC (.str "--1")) aNil)))))))))) (mFrz (mCall 2 p_take (maCons (mQ (qVar 0)) (maCons (mQ (qC (.int 21))) maNil))))))
 (mRet (mVal (mQ (o1 (fJoin "\n") (qNew (o2 nAdd (qNew (o2 nAdd (qNew (qSl nSl (qVar 4) oNo (oPt (qVar 5)))) (qNew (oL fLst (aCons (o1 (fJoin " ") (wDe (qVar 6))) aNil))))) (qNew (qSl nSl (qVar 4) (oPt (o2 fAdd (qVar 5) (qC (.int 1)))) oNo)))))))))))
 mNext)
 (mSeq (mIfS (mQT (o1 tB (o2 fEq (qVar 2) (qC (.int 3)))))
 (mSeq (mAsg 8 (mVal (mQ (qNew (oL fLst (aCons (qC (.str "; drop 2")) (aCons (qC (.str "; put 1 2")) (aCons (qC (.str "; add 3 -")) (aCons (qC (.str "; if 2 -3")) (aCons (qC (.str "; drop -1")) (aCons (qC (.str ";")) (aCons (qC (.str "; ")) (aCons (qC (.str ": drop 1")) aNil)))))))))))))
 (mRet (mVal (mM1 (fJoin "\n") (mFrz (m2 (fun a b => (nAdd a b).map (Fv.own false)) (mFrz (m2 (fun a b => (nAdd a b).map (Fv.own false)) (mQ (qNew (qSl nSl (qVar 4) oNo (oPt (qVar 5))))) (mFrz (mL (fun a => (fLst a).map (Fv.own false)) (maCons (m2 fAdd (mQ (o2 fIx (qVar 4) (qVar 5))) (m2 fIx (mQ (qVar 8)) (mFrz (mCall 2 p_take (maCons (mQ (qVar 0)) (maCons (mQ (qC (.int 8))) maNil)))))) maNil))))) (mQ (qNew (qSl nSl (qVar 4) (oPt (o2 fAdd (qVar 5) (qC (.int 1)))) oNo)))))))))
 mNext)
 (mSeq (mAsg 9 (mVal (mQ (qC (.str "0123456789 -;:\nabcdefghijklmnopqrstuvwxyz!#$&'()*+,./<=>?@ABCDEFGHIJKLMNOPQRSTUVWXYZ[]^_`{|}~")))))
 (mSeq (mAsg 10 (mVal (m2 fIx (mFrz (mL (fun a => (fLst a).map (Fv.own false)) (maCons (m2 fIxT (mQ (qVar 9)) (mFrz (mCall 2 p_take (maCons (mQ (qVar 0)) (maCons (mQ (oL (one fLen) (aCons (qVar 9) aNil))) maNil))))) (maCons (mQ (qC (.str ""))) (maCons (m2 fIxT (mQ (qVar 9)) (mFrz (mCall 2 p_take (maCons (mQ (qVar 0)) (maCons (mQ (qC (.int 15))) maNil))))) maNil))))) (mQ (o2 (fI fun i j => .int (i - j)) (qVar 2) (qC (.int 4)))))))
 (mRet (mVal (mQ (o2 fAdd (o2 fAdd (qSl fSlT (qVar 1) oNo (oPt (qVar 3))) (qVar 10)) (qSl fSlT (qVar 1) (oPt (o2 fAdd (qVar 3) (oL (one fInt1) (aCons (o2 (fI fun i j => .bl (decide (j < i))) (qVar 2) (qC (.int 4))) aNil)))) oNo))))))))))))))
def m_wrong_ : List A → G → R Fv := mFun 6
 (mSeq (mAsg 2 (mVal (mFrz (mIf (mQT (o1 tB (o2 fNe (qVar 1) (qC (.str ""))))) (mM1 (fun x => (nSplit "\n" x).map (Fv.own false)) (mQ (qVar 1))) (mNew (oL fLst aNil))))))
 (mSeq (mAsg 3 (mVal (mQ (qNew (oL fLst (aCons (qC (.str "0 1: drop 32")) (aCons (qC (.str "9 1: drop 0")) (aCons (qC (.str "4 12: drop 3")) (aCons (qC (.str "7 2: put 0 1000 0")) (aCons (qC (.str "3 3: if 4 1000")) (aCons (qC (.str "2 2: add 5 1000")) aNil)))))))))))
 (mSeq (mAsg 3 (mVal (mQ (qNew (o2 nAdd (qVar 3) (qNew (oL fLst (aCons (qC (.str "1 1: drop 1; drop 2; drop 3; drop 4; drop 5")) (aCons (qC (.str "2 0: put 31 999 1001")) (aCons (qC (.str "0 9: drop 1; drop 99")) aNil))))))))))
 (mSeq (mFor (iR1 (maCons (m2 fAdd (mQ (qC (.int 2))) (mFrz (mCall 2 p_take (maCons (mQ (qVar 0)) (maCons (mQ (qC (.int 2))) maNil))))) maNil)) (gN 4)
 (mSeq (mAsg 5 (mVal (mFrz (mCall 2 p_take (maCons (mQ (qVar 0)) (maCons (mQ (o2 fAdd (oL (one fLen) (aCons (qVar 2) aNil)) (qC (.int 1)))) maNil))))))
 (mAsg 2 (mVal (mFrz (m2 (fun a b => (nAdd a b).map (Fv.own false)) (mFrz (m2 (fun a b => (nAdd a b).map (Fv.own false)) (mQ (qNew (qSl nSl (qVar 2) oNo (oPt (qVar 5))))) (mFrz (mL (fun a => (fLst a).map (Fv.own false)) (maCons (m2 fIx (mQ (qVar 3)) (mFrz (mCall 2 p_take (maCons (mQ (qVar 0)) (maCons (mQ (qC (.int 9))) maNil))))) maNil))))) (mQ (qNew (qSl nSl (qVar 2) (oPt (qVar 5)) oNo)))))))))
 (mRet (mVal (mQ (o1 (fJoin "\n") (qVar 2)))))))))
def m_number_ : List A → G → R Fv := mFun 2
 (mSeq (mIfS (mOr (mQT (o1 tB (o2 fEq (qVar 0) (qC (.str ""))))) (mOr (mQT (o1 tB (o2 (fI fun i j => .bl (decide (j < i))) (oL (one fLen) (aCons (qVar 0) aNil)) (qC (.int 4))))) (mTest (m2 fNe (mFrz (mLc (iSt (qVar 0)) (gN 1) (mQT (o1 tB (o2 fNotInT (qVar 1) (qC (.str "0123456789"))))) (mQ (qVar 1)) [1])) (mQ (qNew (oL fLst aNil)))))))
 (mRet (mVal (mQ (qC .non))))
 mNext)
 (mRet (mVal (mQ (qIf (o1 tB (o2 fEq (oL fStr1 (aCons (oL fIntT (aCons (qVar 0) aNil)) aNil)) (qVar 0))) (oL fIntT (aCons (qVar 0) aNil)) (qC .non))))))
def m_part_ : List A → G → R Fv := mFun 3
 (mSeq (mIfS (mQT (qAnd (o1 tB (o2 fEq (qVar 1) (qC (.str "worth")))) (o1 tB (o2 fEq (qVar 0) (qC (.str "-"))))))
 (mRet (mNew (oL fLst (aCons (qC .non) aNil))))
 mNext)
 (mSeq (mIfS (mQT (qAnd (o1 tB (o2 fEq (qVar 1) (qC (.str "more")))) (o1 tB (o2 fEq (qSl fSlT (qVar 0) oNo (oPt (qC (.int 1)))) (qC (.str "-"))))))
 (mSeq (mAsg 2 (mVal (mFrz (mCall 1 m_number_ (maCons (mQ (qSl fSlT (qVar 0) (oPt (qC (.int 1))) oNo)) maNil)))))
 (mRet (mVal (mQ (qIf (qAnd (o1 tB (o2 fNotNo (qVar 2) (qC .non))) (o1 tB (o2 (fI fun i j => .bl (decide (j < i))) (qVar 2) (qC (.int 0))))) (qNew (oL fLst (aCons (o2 (fI fun i j => .int (i - j)) (qC (.int 0)) (qVar 2)) aNil))) (qNew (oL fLst aNil)))))))
 mNext)
 (mSeq (mAsg 2 (mVal (mFrz (mCall 1 m_number_ (maCons (mQ (qVar 0)) maNil)))))
 (mRet (mVal (mQ (qIf (o1 tB (o2 fNotNo (qVar 2) (qC .non))) (qNew (oL fLst (aCons (qVar 2) aNil))) (qNew (oL fLst aNil)))))))))
def m_row_ : List A → G → R Fv := mFun 11
 (mSeq (mAsg 1 (mVal (mFrz (mM1 (fun x => (nSplit ": " x).map (Fv.own false)) (mQ (qVar 0))))))
 (mSeq (mAsg 2 (mVal (mFrz (mM1 (fun x => (nSplit " " x).map (Fv.own false)) (mQ (o2 fIx (qVar 1) (qC (.int 0))))))))
 (mSeq (mIfS (mOr (mQT (o1 tB (o2 fNe (oL (one fLen) (aCons (qVar 1) aNil)) (qC (.int 2))))) (mOr (mQT (o1 tB (o2 fNe (oL (one fLen) (aCons (qVar 2) aNil)) (qC (.int 2))))) (mTest (m2 fIn (mQ (qC .non)) (mFrz (mLc (iSq (qVar 2)) (gN 3) (mQT fun _ _ => some true) (mFrz (mCall 1 m_number_ (maCons (mQ (qVar 3)) maNil))) [3]))))))
 (mRet (mVal (mQ (qC .non))))
 mNext)
 (mSeq (mAsg 4 (mVal (mFrz (mDisp [("put", (mQ (qNew (oL fLst (aCons (qC (.str "key")) (aCons (qC (.str "key")) (aCons (qC (.str "key")) aNil))))))), ("drop", (mQ (qNew (oL fLst (aCons (qC (.str "key")) aNil))))), ("add", (mQ (qNew (oL fLst (aCons (qC (.str "key")) (aCons (qC (.str "more")) aNil)))))), ("if", (mQ (qNew (oL fLst (aCons (qC (.str "key")) (aCons (qC (.str "worth")) aNil))))))]))))
 (mSeq (mAsg 5 (mNew (oL fLst aNil)))
 (mSeq (mFor (iL (mFrz (mM1 (fun x => (nSplit "; " x).map (Fv.own false)) (mQ (o2 fIx (qVar 1) (qC (.int 1))))))) (gN 6)
 (mSeq (mAsg 7 (mVal (mFrz (mM1 (fun x => (nSplit " " x).map (Fv.own false)) (mQ (qVar 6))))))
 (mSeq (mIfS (mQT (qOr (o1 tB (o2 fNotIn (o2 fIx (qVar 7) (qC (.int 0))) (qVar 4))) (o1 tB (o2 fNe (oL (one fLen) (aCons (qVar 7) aNil)) (o2 fAdd (oL (one fLen) (aCons (o2 fIx (qVar 4) (o2 fIx (qVar 7) (qC (.int 0)))) aNil)) (qC (.int 1)))))))
 (mRet (mVal (mQ (qC .non))))
 mNext)
 (mSeq (mAsg 8 (mVal (mFrz (mLc (iR1 (maCons (mQ (o2 (fI fun i j => .int (i - j)) (oL (one fLen) (aCons (qVar 7) aNil)) (qC (.int 1)))) maNil)) (gN 9) (mQT fun _ _ => some true) (mFrz (mCall 2 m_part_ (maCons (mQ (o2 fIx (qVar 7) (o2 fAdd (qVar 9) (qC (.int 1))))) (maCons (mQ (o2 fIx (o2 fIx (qVar 4) (o2 fIx (qVar 7) (qC (.int 0)))) (qVar 9))) maNil)))) [9]))))
 (mSeq (mIfS (mQT (o1 tB (o2 fInD (qNew (oL fLst aNil)) (qVar 8))))
 (mRet (mVal (mQ (qC .non))))
 mNext)
 (mMutE lApp 5 (maCons (mL (one fTupOf) (maCons (mFrz (m2 (fun a b => (nAdd a b).map (Fv.own false)) (mQ (qNew (oL fLst (aCons (o2 fIx (qVar 7) (qC (.int 0))) aNil)))) (mFrz (mLc (iSq (qVar 8)) (gN 10) (mQT fun _ _ => some true) (mQ (o2 fIx (qVar 10) (qC (.int 0)))) [10])))) maNil)) maNil)))))))
 (mRet (mVal (mQ (oL fTup (aCons (oL fIntT (aCons (o2 fIx (qVar 2) (qC (.int 0))) aNil)) (aCons (oL fIntT (aCons (o2 fIx (qVar 2) (qC (.int 1))) aNil)) (aCons (oL (one fTupOf) (aCons (wVar 5) aNil)) aNil)))))))))))))
def m_fault_ : List A → G → R Fv := mFun 6
 (mSeq (mIfS (mQT (o1 tB (o2 (fI fun i j => .bl (decide (j < i))) (o2 fIx (qVar 0) (qC (.int 0))) (qC (.int 3)))))
 (mRet (mVal (mQ (oL fTup (aCons (qC (.str "BadHand")) (aCons (qC (.int 0)) aNil))))))
 mNext)
 (mSeq (mFor (iR1 (maCons (mQ (oL (one fLen) (aCons (o2 fIx (qVar 0) (qC (.int 2))) aNil))) maNil)) (gN 1)
 (mSeq (mAsg 2 (mVal (mQ (o2 fIx (o2 fIx (qVar 0) (qC (.int 2))) (qVar 1)))))
 (mSeq (mAsg 3 (mVal (m2 fIx (mFrz (mDisp [("put", (mQ (oL fTup (aCons (qC (.int 31)) (aCons (qC (.int 999)) (aCons (qC (.int 1000)) aNil)))))), ("drop", (mQ (oL fTup (aCons (qC (.int 31)) aNil)))), ("add", (mQ (oL fTup (aCons (qC (.int 31)) (aCons (qC (.int 999)) aNil))))), ("if", (mQ (oL fTup (aCons (qC (.int 31)) (aCons (qC (.int 999)) aNil)))))])) (mQ (o2 fIx (qVar 2) (qC (.int 0)))))))
 (mSeq (mAsg 4 (mVal (mFrz (mLc (iR1 (maCons (mQ (oL (one fLen) (aCons (qVar 3) aNil))) maNil)) (gN 5) (mQT (qAnd (o1 tB (o2 fNotNo (o2 fIx (qVar 2) (o2 fAdd (qVar 5) (qC (.int 1)))) (qC .non))) (o1 tB (o2 (fI fun i j => .bl (decide (j < i))) (oL (one fAbs) (aCons (o2 fIx (qVar 2) (o2 fAdd (qVar 5) (qC (.int 1)))) aNil)) (o2 fIx (qVar 3) (qVar 5)))))) (mQ (qVar 5)) [5]))))
 (mIfS (mQT (qOr (o1 tB (o2 (fI fun i j => .bl (decide (j < i))) (qVar 1) (qC (.int 3)))) (o1 tB (o2 fNe (qVar 4) (qNew (oL fLst aNil))))))
 (mRet (mVal (mQ (oL fTup (aCons (qC (.str "BadDeal")) (aCons (qVar 1) aNil))))))
 mNext)))))
 (mRet (mVal (mQ (qC .non))))))
def m_due_ : List A → G → R Fv := mFun 5
 (mSeq (mAsg 1 (mVal (mFrz (mIf (mQT (o1 tB (o2 fNe (qVar 0) (qC (.str ""))))) (mLc (iL (mFrz (mM1 (fun x => (nSplit "\n" x).map (Fv.own false)) (mQ (qVar 0))))) (gN 2) (mQT fun _ _ => some true) (mFrz (mCall 1 m_row_ (maCons (mQ (qVar 2)) maNil))) [2]) (mNew (oL fLst aNil))))))
 (mSeq (mIfS (mQT (o1 tB (o2 fInD (qC .non) (qVar 1))))
 (mRet (mVal (mQ (oL fTup (aCons (qC (.str "BadText")) (aCons (o2 fIdxD (qVar 1) (qC .non)) aNil))))))
 mNext)
 (mSeq (mAsg 3 (mVal (mFrz (mLc (iSq (qVar 1)) (gN 4) (mTest (m2 fNotNo (mFrz (mCall 1 m_fault_ (maCons (mQ (qVar 4)) maNil))) (mQ (qC .non)))) (mFrz (mCall 1 m_fault_ (maCons (mQ (qVar 4)) maNil))) [4]))))
 (mRet (mVal (mQ (qIf (o1 tB (o2 fNe (qVar 3) (qNew (oL fLst aNil)))) (o2 fIx (qVar 3) (qC (.int 0))) (qVar 1))))))))
def q_is_from : List A → Option A := fun as => (qCh (fI fun i j => .bl (decide (i ≤ j))) (fI fun i j => .bl (decide (i ≤ j))) (qVar 1) (qVar 0) (qVar 2)) (startA 3 as) g0
def m_is_put : List A → G → R Fv := mFun 1
 (mRet (mVal (mQ (qAndV (o2 fEq (oL (one fLen) (aCons (qVar 0) aNil)) (qC (.int 4))) (qAndV (oL (fun as => if as.length = 3 then q_is_from as else none) (aCons (o2 fIx (qVar 0) (qC (.int 2))) (aCons (qC (.int 0)) (aCons (qC (.int 999)) aNil)))) (oL (fun as => if as.length = 3 then q_is_from as else none) (aCons (o2 fIx (qVar 0) (qC (.int 3))) (aCons (qC (.int 0)) (aCons (qC (.int 1000)) aNil)))))))))
def m_is_if : List A → G → R Fv := mFun 1
 (mRet (mVal (mQ (qAndV (o2 fEq (oL (one fLen) (aCons (qVar 0) aNil)) (qC (.int 3))) (qOrV (o2 fIsNo (o2 fIx (qVar 0) (qC (.int 2))) (qC .non)) (oL (fun as => if as.length = 3 then q_is_from as else none) (aCons (o2 fIx (qVar 0) (qC (.int 2))) (aCons (qC (.int 0)) (aCons (qC (.int 999)) aNil)))))))))
def m_is_deed : List A → G → R Fv := mFun 1
 (mSeq (mIfS (mQT (qOr (o1 tB (o2 (fI fun i j => .bl (decide (i < j))) (oL (one fLen) (aCons (qVar 0) aNil)) (qC (.int 2)))) (qOr (o1 tB (o2 fNotIn (o2 fIx (qVar 0) (qC (.int 0))) (oL fTup (aCons (qC (.str "put")) (aCons (qC (.str "drop")) (aCons (qC (.str "add")) (aCons (qC (.str "if")) aNil))))))) (qNot (o1 trA (oL (fun as => if as.length = 3 then q_is_from as else none) (aCons (o2 fIx (qVar 0) (qC (.int 1))) (aCons (qC (.int 0)) (aCons (o2 (fI fun i j => .int (i - j)) (qC (.int 32)) (qC (.int 1))) aNil)))))))))
 (mRet (mVal (mQ (qC (.bl false)))))
 mNext)
 (mSeq (mIfS (mQT (o1 tB (o2 fEq (o2 fIx (qVar 0) (qC (.int 0))) (qC (.str "put")))))
 (mRet (mCall 1 m_is_put (maCons (mQ (qVar 0)) maNil)))
 mNext)
 (mSeq (mIfS (mQT (o1 tB (o2 fEq (o2 fIx (qVar 0) (qC (.int 0))) (qC (.str "if")))))
 (mRet (mCall 1 m_is_if (maCons (mQ (qVar 0)) maNil)))
 mNext)
 (mSeq (mIfS (mQT (o1 tB (o2 fEq (o2 fIx (qVar 0) (qC (.int 0))) (qC (.str "drop")))))
 (mRet (mVal (mQ (o2 fEq (oL (one fLen) (aCons (qVar 0) aNil)) (qC (.int 2))))))
 mNext)
 (mRet (mVal (mQ (qAndV (o2 fEq (oL (one fLen) (aCons (qVar 0) aNil)) (qC (.int 3))) (oL (fun as => if as.length = 3 then q_is_from as else none) (aCons (o2 fIx (qVar 0) (qC (.int 2))) (aCons (o2 (fI fun i j => .int (i - j)) (qC (.int 0)) (qC (.int 999))) (aCons (qC (.int 999)) aNil))))))))))))
def m_need_deal : List A → G → R Fv := mFun 3
 (mSeq (mFor (iE seqA (maCons (mQ (qVar 0)) maNil)) (gT 2 (gsC (gN 1) (gsC (gN 2) gs0)))
 (mIfS (mOr (mQT (o1 tB (o2 (fI fun i j => .bl (decide (j ≤ i))) (qVar 1) (qC (.int 4))))) (mNot (mTr (mFrz (mCall 1 m_is_deed (maCons (mQ (qVar 2)) maNil))))))
 (mRx "BadDeal" "place" (mQ (qVar 1)))
 mNext))
 (mIfS (mQT (o1 tB (o2 fEq (oL (one fLen) (aCons (qVar 0) aNil)) (qC (.int 0)))))
 (mRx "BadDeal" "place" (mQ (qC (.int 0))))
 mNext))
def m_need_hand : List A → G → R Fv := mFun 1
 (mIfS (mQT (qNot (o1 trA (oL (fun as => if as.length = 3 then q_is_from as else none) (aCons (qVar 0) (aCons (qC (.int 0)) (aCons (o2 (fI fun i j => .int (i - j)) (qC (.int 4)) (qC (.int 1))) aNil)))))))
 (mRs "BadHand")
 mNext)
def m_number_of : List A → G → R Fv := mFun 2
 (mSeq (mIfS (mOr (mQT (qNot (o1 tB (qCh (fI fun i j => .bl (decide (i ≤ j))) (fI fun i j => .bl (decide (i ≤ j))) (qC (.int 1)) (oL (one fLen) (aCons (qVar 0) aNil)) (qC (.int 4)))))) (mTest (m2 fNe (mFrz (mLc (iSt (qVar 0)) (gN 1) (mQT (o1 tB (o2 fNotInT (qVar 1) (qC (.str "0123456789"))))) (mQ (qVar 1)) [1])) (mQ (qNew (oL fLst aNil))))))
 (mRet (mVal (mQ (qC .non))))
 mNext)
 (mRet (mVal (mQ (qIf (qAnd (o1 tB (o2 fEq (o2 fIxT (qVar 0) (qC (.int 0))) (qC (.str "0")))) (o1 tB (o2 fNe (qVar 0) (qC (.str "0"))))) (qC .non) (oL fIntT (aCons (qVar 0) aNil)))))))
def m_part_of : List A → G → R Fv := mFun 4
 (mSeq (mIfS (mQT (qAnd (o1 tB (o2 fEq (qVar 1) (qC (.str "o")))) (o1 tB (o2 fEq (qVar 0) (qC (.str "-"))))))
 (mRet (mVal (mQ (oL fTup (aCons (qC (.bl true)) (aCons (qC .non) aNil))))))
 mNext)
 (mSeq (mAsg 2 (mVal (mQ (qAndV (o2 fEq (qVar 1) (qC (.str "s"))) (o2 fEq (qSl fSlT (qVar 0) oNo (oPt (qC (.int 1)))) (qC (.str "-")))))))
 (mSeq (mAsg 3 (mVal (mFrz (mCall 1 m_number_of (maCons (mQ (qIf (o1 trA (qVar 2)) (qSl fSlT (qVar 0) (oPt (qC (.int 1))) oNo) (qVar 0))) maNil)))))
 (mSeq (mIfS (mQT (qOr (o1 tB (o2 fIsNo (qVar 3) (qC .non))) (qAnd (o1 trA (qVar 2)) (o1 tB (o2 fEq (qVar 3) (qC (.int 0)))))))
 (mRet (mVal (mQ (oL fTup (aCons (qC (.bl false)) (aCons (qC .non) aNil))))))
 mNext)
 (mRet (mVal (mQ (oL fTup (aCons (qC (.bl true)) (aCons (qIf (o1 trA (qVar 2)) (o2 (fI fun i j => .int (i - j)) (qC (.int 0)) (qVar 3)) (qVar 3)) aNil))))))))))
def m_deed_of : List A → G → R Fv := mFun 6
 (mSeq (mAsg 1 (mVal (mFrz (mM1 (fun x => (nSplit " " x).map (Fv.own false)) (mQ (qVar 0))))))
 (mSeq (mAsg 2 (mVal (mQ (o1 (fKGet kt_KINDS "") (o2 fIx (qVar 1) (qC (.int 0)))))))
 (mSeq (mIfS (mQT (qOr (o1 tB (o2 fEq (qVar 2) (qC (.str "")))) (o1 tB (o2 fNe (oL (one fLen) (aCons (qVar 1) aNil)) (o2 fAdd (oL (one fLen) (aCons (qVar 2) aNil)) (qC (.int 1)))))))
 (mRet (mVal (mQ (qC .non))))
 mNext)
 (mSeq (mAsg 3 (mVal (mFrz (mLc (iR1 (maCons (mQ (oL (one fLen) (aCons (qVar 2) aNil))) maNil)) (gN 4) (mQT fun _ _ => some true) (mFrz (mCall 2 m_part_of (maCons (mQ (o2 fIx (qVar 1) (o2 fAdd (qVar 4) (qC (.int 1))))) (maCons (mQ (o2 fIxT (qVar 2) (qVar 4))) maNil)))) [4]))))
 (mSeq (mIfS (mTest (m2 fNe (mFrz (mLc (iSq (qVar 3)) (gN 5) (mQT (qNot (o1 trA (o2 fIx (qVar 5) (qC (.int 0)))))) (mQ (qVar 5)) [5])) (mQ (qNew (oL fLst aNil)))))
 (mRet (mVal (mQ (qC .non))))
 mNext)
 (mRet (mVal (mL (one fTupOf) (maCons (mFrz (m2 (fun a b => (nAdd a b).map (Fv.own false)) (mQ (qNew (qSl nSl (qVar 1) oNo (oPt (qC (.int 1)))))) (mFrz (mLc (iSq (qVar 3)) (gN 5) (mQT fun _ _ => some true) (mQ (o2 fIx (qVar 5) (qC (.int 1)))) [5])))) maNil)))))))))
def m_deal_of : List A → G → R Fv := mFun 7
 (mSeq (mAsg 1 (mVal (mFrz (mM1 (fun x => (nSplit ": " x).map (Fv.own false)) (mQ (qVar 0))))))
 (mSeq (mAsg 2 (mVal (mFrz (mM1 (fun x => (nSplit " " x).map (Fv.own false)) (mQ (o2 fIx (qVar 1) (qC (.int 0))))))))
 (mSeq (mIfS (mQT (qOr (o1 tB (o2 fNe (oL (one fLen) (aCons (qVar 1) aNil)) (qC (.int 2)))) (o1 tB (o2 fNe (oL (one fLen) (aCons (qVar 2) aNil)) (qC (.int 2))))))
 (mRet (mVal (mQ (qC .non))))
 mNext)
 (mSeq (mAsg 3 (mVal (mFrz (mLc (iSq (qVar 2)) (gN 4) (mQT fun _ _ => some true) (mFrz (mCall 1 m_number_of (maCons (mQ (qVar 4)) maNil))) [4]))))
 (mSeq (mAsg 5 (mVal (mFrz (mLc (iL (mFrz (mM1 (fun x => (nSplit "; " x).map (Fv.own false)) (mQ (o2 fIx (qVar 1) (qC (.int 1))))))) (gN 6) (mQT fun _ _ => some true) (mFrz (mCall 1 m_deed_of (maCons (mQ (qVar 6)) maNil))) [6]))))
 (mSeq (mIfS (mQT (qOr (o1 tB (o2 fInD (qC .non) (qVar 3))) (o1 tB (o2 fInD (qC .non) (qVar 5)))))
 (mRet (mVal (mQ (qC .non))))
 mNext)
 (mRet (mVal (mQ (oL fTup (aCons (o2 fIx (qVar 3) (qC (.int 0))) (aCons (o2 fIx (qVar 3) (qC (.int 1))) (aCons (oL (one fTupOf) (aCons (qVar 5) aNil)) aNil)))))))))))))
def m_read_deals : List A → G → R Fv := mFun 8
 (mSeq (mAsg 1 (mNew (oL fLst aNil)))
 (mSeq (mFor (iE seqA (maCons (mFrz (mIf (mQT (o1 tB (o2 fNe (qVar 0) (qC (.str ""))))) (mM1 (fun x => (nSplit "\n" x).map (Fv.own false)) (mQ (qVar 0))) (mNew (oL fLst aNil)))) maNil)) (gT 2 (gsC (gN 2) (gsC (gN 3) gs0)))
 (mSeq (mAsg 4 (mVal (mFrz (mCall 1 m_deal_of (maCons (mQ (qVar 3)) maNil)))))
 (mSeq (mIfS (mQT (o1 tB (o2 fIsNo (qVar 4) (qC .non))))
 (mRx "BadText" "row" (mQ (qVar 2)))
 mNext)
 (mMut lApp (pVar 1) (aCons (qVar 4) aNil)))))
 (mSeq (mLockL (pVar 1) (mFor (iLp (pVar 1)) (gT 3 (gsC (gN 5) (gsC (gN 6) (gsC (gN 7) gs0))))
 (mSeq (mDrop (mCall 1 m_need_hand (maCons (mQ (qVar 5)) maNil)))
 (mDrop (mCall 1 m_need_deal (maCons (mQ (qVar 7)) maNil))))))
 (mRetO 1))))
def m_told_ : List A → G → R Fv := mFun 2
 (mSeq (mAsg 1 (mVal (mRef (mCallX 1 m_read_deals (maCons (mQ (qVar 0)) maNil)))))
 (mRet (mIf (mQT (o1 tB (o2 fIsNo (qVar 1) (qC .non)))) (mCall 1 m_read_deals (maCons (mQ (qVar 0)) maNil)) (mVal (mQ (qVar 1))))))
def m_law : List A → G → R Fv := mFun 7
 (mSeq (mAsg 1 (mVal (mFrz (mCall 1 p_begun (maCons (mQ (qVar 0)) maNil)))))
 (mSeq (mAsg 2 (mVal (mQ (qNew (oL fLst (aCons (qC (.str "")) (aCons (qC (.str " ")) (aCons (qC (.str "\n")) (aCons (qC (.str "0 1")) (aCons (qC (.str "0 1:")) (aCons (qC (.str "0 1: ")) (aCons (qC (.str "0 1:drop 2")) (aCons (qC (.str "0 1: drop 2\n")) (aCons (qC (.str "0 1: if 2 -")) aNil))))))))))))))
 (mSeq (mAsg 2 (mVal (mQ (qNew (o2 nAdd (qVar 2) (qNew (oL fLst (aCons (qC (.str "0 1: add 2 -5")) (aCons (qC (.str "4 1: drop 0")) (aCons (qC (.str "0 1: put 1 -2 0")) (aCons (qC (.str " 0 1: drop 2")) (aCons (qC (.str "0 1: drop 2;drop 3")) aNil))))))))))))
 (mSeq (mAsg 2 (mVal (mQ (qNew (o2 nAdd (qVar 2) (qNew (oL fLst (aCons (o2 fMulT (qC (.str "0 1: drop 1; ")) (qC (.int 2))) (aCons (qC (.str "0 1: drop 32")) aNil)))))))))
 (mSeq (mFor (iR1 (maCons (mQ (qC (.int 5))) maNil)) (gN 3)
 (mSeq (mAsg 4 (mVal (m2 fIx (mFrz (mL (fun a => (fLst a).map (Fv.own false)) (maCons (mFrz (mCall 1 m_text_ (maCons (mFrz (mCall 1 m_deals_ (maCons (mQ (qVar 1)) maNil))) maNil))) (maCons (m2 fIx (mQ (qVar 2)) (mFrz (mCall 2 p_take (maCons (mQ (qVar 1)) (maCons (mQ (qC (.int 16))) maNil))))) maNil)))) (m2 (fIc cDiv fun i j => .int (i / j)) (mFrz (mCall 2 p_take (maCons (mQ (qVar 1)) (maCons (mQ (qC (.int 3))) maNil)))) (mQ (qC (.int 2)))))))
 (mSeq (mFor (iR1 (maCons (mFrz (mCall 2 p_take (maCons (mQ (qVar 1)) (maCons (mQ (qC (.int 4))) maNil)))) maNil)) (gN 5)
 (mAsg 4 (mVal (mFrz (mCall 2 m_spoilt_ (maCons (mQ (qVar 1)) (maCons (mQ (qVar 4)) maNil)))))))
 (mSeq (mIfS (mTest (m2 fEq (mFrz (mCall 2 p_take (maCons (mQ (qVar 1)) (maCons (mQ (qC (.int 3))) maNil)))) (mQ (qC (.int 0)))))
 (mAsg 4 (mVal (mFrz (mCall 2 m_wrong_ (maCons (mQ (qVar 1)) (maCons (mQ (qVar 4)) maNil))))))
 mNext)
 (mSeq (mAsg 6 (mVal (mFrz (mCall 1 m_due_ (maCons (mQ (qVar 4)) maNil)))))
 (mIfS (mOr (mNot (mTr (mFrz (mCall 2 p_alike (maCons (mFrz (mCall 1 m_told_ (maCons (mQ (qVar 4)) maNil))) (maCons (mQ (qVar 6)) maNil)))))) (mNot (mTr (mFrz (mCall 2 p_alike (maCons (mFrz (mCall 1 m_told_ (maCons (mQ (qVar 4)) maNil))) (maCons (mQ (qVar 6)) maNil)))))))
 (mRet (mVal (mQ (qC (.bl false)))))
 mNext))))))
 (mRet (mVal (mQ (qC (.bl true))))))))))
end N
end
namespace W
open PySem PySem.Spec PyProof.Rows L2 Cm
def S_store_ (K : PySem.W.Frag) : Sp := N.SpM K 0 (N.m_store_)
def S_seen_ (K : PySem.W.Frag) : Sp := N.SpM K 2 (N.m_seen_)
def S_deed_ (K : PySem.W.Frag) : Sp := N.SpM K 2 (N.m_deed_)
def S_drawn_ (K : PySem.W.Frag) : Sp := N.SpM K 2 (N.m_drawn_)
def S_deals_ (K : PySem.W.Frag) : Sp := N.SpM K 1 (N.m_deals_)
def S_text_ (K : PySem.W.Frag) : Sp := N.SpM K 1 (N.m_text_)
def S_spoilt_ (K : PySem.W.Frag) : Sp := N.SpM K 2 (N.m_spoilt_)
def S_wrong_ (K : PySem.W.Frag) : Sp := N.SpM K 2 (N.m_wrong_)
def S_number_ (K : PySem.W.Frag) : Sp := N.SpM K 1 (N.m_number_)
def S_part_ (K : PySem.W.Frag) : Sp := N.SpM K 2 (N.m_part_)
def S_row_ (K : PySem.W.Frag) : Sp := N.SpM K 1 (N.m_row_)
def S_fault_ (K : PySem.W.Frag) : Sp := N.SpM K 1 (N.m_fault_)
def S_due_ (K : PySem.W.Frag) : Sp := N.SpM K 1 (N.m_due_)
def S_BadText_init (K : PySem.W.Frag) : Sp := spXI K (He.ga K "BadText") "row"
def S_BadDeal_init (K : PySem.W.Frag) : Sp := spXI K (He.ga K "BadDeal") "place"
def S_is_from (K : PySem.W.Frag) : Sp := N.SpQ K 3 N.q_is_from
def S_is_put (K : PySem.W.Frag) : Sp := N.SpM K 1 (N.m_is_put)
def S_is_if (K : PySem.W.Frag) : Sp := N.SpM K 1 (N.m_is_if)
def S_is_deed (K : PySem.W.Frag) : Sp := N.SpM K 1 (N.m_is_deed)
def S_need_deal (K : PySem.W.Frag) : Sp := N.SpM K 1 (N.m_need_deal)
def S_need_hand (K : PySem.W.Frag) : Sp := N.SpM K 1 (N.m_need_hand)
def S_number_of (K : PySem.W.Frag) : Sp := N.SpM K 1 (N.m_number_of)
def S_part_of (K : PySem.W.Frag) : Sp := N.SpM K 2 (N.m_part_of)
def S_deed_of (K : PySem.W.Frag) : Sp := N.SpM K 1 (N.m_deed_of)
def S_deal_of (K : PySem.W.Frag) : Sp := N.SpM K 1 (N.m_deal_of)
def S_read_deals (K : PySem.W.Frag) : Sp := N.SpM K 1 (N.m_read_deals)
def S_told_ (K : PySem.W.Frag) : Sp := N.SpM K 1 (N.m_told_)
def S_law (K : PySem.W.Frag) : Sp := N.SpM K 1 (N.m_law)
end W
end
section
namespace W
open PySem PySem.Spec PyProof.Rows L2 Cm
def t_begun_ (K : PySem.W.Frag) (E : XK) : TS := (tSeq (tAsg (tC (.int 0)) (gName 1)) (tSeq (tFor (iSeq K (tVar 0)) (gName 2) (tAsg (tOp (rI (fun _ j => 0 < j) fun i j => .int (i % j)) (tOp (rAddA K) (tOp (rAddA K) (tOp rMulA (tVar 1) (tC (.int 48271))) (tOp rMulA (tVar 2) (tC (.int 69621)))) (tC (.int 11))) (tC (.int 2147483647))) (gName 1))) (tRet (tLst (tCons (tCB (rListA K) (tCons (tVar 0) tNil)) (tCons (tOp rMulA (tVar 1) (tCB rInt1 (tCons (tOp (rI0 fun i j => .bl (decide (j < i))) (tCB (rLenA K) (tCons (tVar 0) tNil)) (tC (.int 2))) tNil))) tNil))))))
def t_take_ (K : PySem.W.Frag) (E : XK) : TS := (tSeq (tIfS (tTest (tOp (rEqA K) (tOp (rIxA K) (tVar 0) (tC (.int 0))) (tLst tNil))) (tSeq (tAsg (tOp (rI (fun _ j => 0 < j) fun i j => .int (i % j)) (tOp rMulA (tOp (rIxA K) (tVar 0) (tC (.int 1))) (tC (.int 48271))) (tC (.int 2147483647))) (gSub (tVar 0) (tC (.int 1)) rSetA)) (tRet (tOp (rI (fun _ j => 0 < j) fun i j => .int (i % j)) (tOp (rI CDivW fun i j => .int (i / j)) (tOp (rIxA K) (tVar 0) (tC (.int 1))) (tC (.int 7))) (tVar 1)))) tNext) (tSeq (tAsg (tOp (rIxA K) (tOp (rIxA K) (tVar 0) (tC (.int 0))) (tC (.int 0))) (gName 2)) (tSeq (tAsg (tOp (rI CDivW fun i j => .int (i / j)) (tVar 2) (tVar 1)) (gSub (tOp (rIxA K) (tVar 0) (tC (.int 0))) (tC (.int 0)) rSetA)) (tSeq (tIfS (tOr (tTest (tOp (rEqA K) (tOp (rIxA K) (tOp (rIxA K) (tVar 0) (tC (.int 0))) (tC (.int 0))) (tC (.int 0)))) (tTest (tOp (rEqA K) (tOp (rIxA K) (tOp (rIxA K) (tVar 0) (tC (.int 0))) (tC (.int 0))) (tUn (rU fun i => .int (-i)) (tC (.int 1)))))) (tDrop (tBM K "list" rPopAt (tOp (rIxA K) (tVar 0) (tC (.int 0))) (tCons (tC (.int 0)) tNil))) tNext) (tRet (tOp (rI (fun _ j => 0 < j) fun i j => .int (i % j)) (tVar 2) (tVar 1)))))))
def t_alike_ (K : PySem.W.Frag) (n : Nat) (E : XK) : TS := (tSeq (tIfS (tTest (tOp rIsNo (tVar 1) (tC .non))) (tRet (tOp rIsNo (tVar 0) (tC .non))) tNext) (tSeq (tIfS (tTr K (tCB (rIsi K) (tCons (tVar 1) (tCons (tC (.ty "bool")) tNil)))) (tRet (tAndV (tCB (rIsi K) (tCons (tVar 0) (tCons (tC (.ty "bool")) tNil))) (tOp (rEqA K) (tVar 0) (tVar 1)))) tNext) (tSeq (tIfS (tTr K (tCB (rIsi K) (tCons (tVar 1) (tCons (tC (.ty "int")) tNil)))) (tRet (tAndV (tCB (rIsi K) (tCons (tVar 0) (tCons (tC (.ty "int")) tNil))) (tAndV (tNotV (tCB (rIsi K) (tCons (tVar 0) (tCons (tC (.ty "bool")) tNil)))) (tOp (rEqA K) (tVar 0) (tVar 1))))) tNext) (tSeq (tIfS (tTr K (tCB (rIsi K) (tCons (tVar 1) (tCons (tC (.ty "str")) tNil)))) (tRet (tAndV (tCB (rIsi K) (tCons (tVar 0) (tCons (tC (.ty "str")) tNil))) (tOp (rEqA K) (tVar 0) (tVar 1)))) tNext) (tSeq (tIfS (tOr (tTest (tOp (rNeA K) (tCB (rIsi K) (tCons (tVar 1) (tCons (tC (.ty "tuple")) tNil))) (tCB (rIsi K) (tCons (tVar 0) (tCons (tC (.ty "tuple")) tNil))))) (tTest (tOp (rNeA K) (tCB (rIsi K) (tCons (tVar 1) (tCons (tC (.ty "list")) tNil))) (tCB (rIsi K) (tCons (tVar 0) (tCons (tC (.ty "list")) tNil)))))) (tRet (tC (.bl false))) tNext) (tSeq (tIfS (tTest (tOp (rNeA K) (tCB (rLenA K) (tCons (tVar 0) tNil)) (tCB (rLenA K) (tCons (tVar 1) tNil)))) (tRet (tC (.bl false))) tNext) (tSeq (tFor (iRng1 (tCons (tCB (rLenA K) (tCons (tVar 1) tNil)) tNil)) (gName 2) (tIfS (tNot (tTr K (tCall (S_alike_ K n) [] E (tCons (tOp (rIxA K) (tVar 0) (tVar 2)) (tCons (tOp (rIxA K) (tVar 1) (tVar 2)) tNil))))) (tRet (tC (.bl false))) tNext)) (tRet (tC (.bl true))))))))))
def t_store_ (K : PySem.W.Frag) (E : XK) : TS := (tRet (tDisp [((tC (.str "rows")), tDNewK), ((tC (.str "hands")), tDNewK), ((tC (.str "moment")), (tC (.int 0))), ((tC (.str "number")), (tC (.int 0)))]))
def t_seen_ (K : PySem.W.Frag) (E : XK) : TS := (tSeq (tAsg (tDGet2 (tOp (rIxA K) (tVar 0) (tC (.str "rows"))) (tVar 1) (tTup (tCons (tC .non) (tCons (tC (.int 0)) tNil)))) (gName 2)) (tRet (tIf (tOr (tTest (tOp (rEqA K) (tOp (rIxA K) (tVar 2) (tC (.int 1))) (tC (.int 0)))) (tTest (tOp (rI0 fun i j => .bl (decide (j < i))) (tOp (rIxA K) (tVar 2) (tC (.int 1))) (tOp (rIxA K) (tVar 0) (tC (.str "moment")))))) (tOp (rIxA K) (tVar 2) (tC (.int 0))) (tC .non))))
def t_deed_ (K : PySem.W.Frag) (E : XK) : TS := (tSeq (tAsg (tCall (S_take_ K) [] E (tCons (tVar 0) (tCons (tOp (rIxA K) (tLst (tCons (tC (.int 2)) (tCons (tC (.int 6)) (tCons (tC (.int 32)) tNil)))) (tCall (S_take_ K) [] E (tCons (tVar 0) (tCons (tC (.int 3)) tNil)))) tNil))) (gName 2)) (tSeq (tAsg (tCall (S_seen_ K) [] E (tCons (tVar 1) (tCons (tVar 2) tNil))) (gName 3)) (tSeq (tAsg (tCall (S_take_ K) [] E (tCons (tVar 0) (tCons (tC (.int 10)) tNil))) (gName 4)) (tSeq (tIfS (tTest (tOp (rI0 fun i j => .bl (decide (i < j))) (tVar 4) (tC (.int 5)))) (tSeq (tAsg (tOp (rIxA K) (tLst (tCons (tC (.int 0)) (tCons (tOp (rAddA K) (tC (.int 1)) (tCall (S_take_ K) [] E (tCons (tVar 0) (tCons (tC (.int 9)) tNil)))) (tCons (tOp (rAddA K) (tC (.int 1)) (tCall (S_take_ K) [] E (tCons (tVar 0) (tCons (tC (.int 1000)) tNil)))) tNil)))) (tCall (S_take_ K) [] E (tCons (tVar 0) (tCons (tC (.int 3)) tNil)))) (gName 5)) (tRet (tTup (tCons (tC (.str "put")) (tCons (tVar 2) (tCons (tOp (rIxA K) (tLst (tCons (tCall (S_take_ K) [] E (tCons (tVar 0) (tCons (tC (.int 1000)) tNil))) (tCons (tC (.int 999)) (tCons (tC (.int 0)) tNil)))) (tCall (S_take_ K) [] E (tCons (tVar 0) (tCons (tC (.int 3)) tNil)))) (tCons (tVar 5) tNil))))))) tNext) (tSeq (tIfS (tTest (tOp (rEqA K) (tVar 4) (tC (.int 5)))) (tRet (tTup (tCons (tC (.str "drop")) (tCons (tVar 2) tNil)))) tNext) (tSeq (tIfS (tTest (tOp (rI0 fun i j => .bl (decide (i < j))) (tVar 4) (tC (.int 8)))) (tRet (tTup (tCons (tC (.str "add")) (tCons (tVar 2) (tCons (tOp (rIxA K) (tLst (tCons (tOp (rI0 fun i j => .int (i - j)) (tCall (S_take_ K) [] E (tCons (tVar 0) (tCons (tC (.int 9)) tNil))) (tC (.int 4))) (tCons (tOp (rI0 fun i j => .int (i - j)) (tCall (S_take_ K) [] E (tCons (tVar 0) (tCons (tC (.int 1999)) tNil))) (tC (.int 999))) tNil))) (tCall (S_take_ K) [] E (tCons (tVar 0) (tCons (tC (.int 2)) tNil)))) tNil))))) tNext) (tRet (tTup (tCons (tC (.str "if")) (tCons (tVar 2) (tCons (tOp (rIxA K) (tLst (tCons (tVar 3) (tCons (tVar 3) (tCons (tVar 3) (tCons (tC .non) (tCons (tCall (S_take_ K) [] E (tCons (tVar 0) (tCons (tC (.int 1000)) tNil))) tNil)))))) (tCall (S_take_ K) [] E (tCons (tVar 0) (tCons (tC (.int 5)) tNil)))) tNil)))))))))))
def t_drawn_ (K : PySem.W.Frag) (E : XK) : TS := (tRet (tCB (rTupleA K) (tCons (tLc (iRng1 (tCons (tOp (rAddA K) (tC (.int 1)) (tCall (S_take_ K) [] E (tCons (tVar 0) (tCons (tOp (rIxA K) (tLst (tCons (tC (.int 1)) (tCons (tC (.int 2)) (tCons (tC (.int 4)) tNil)))) (tCall (S_take_ K) [] E (tCons (tVar 0) (tCons (tC (.int 3)) tNil)))) tNil)))) tNil)) (gName 2) tYes (tCall (S_deed_ K) [] E0 (tCons (tVar 0) (tCons (tVar 1) tNil))) [2]) tNil)))
def t_deals_ (K : PySem.W.Frag) (E : XK) : TS := (tSeq (tAsg (tLst tNil) (gName 1)) (tSeq (tFor (iRng1 (tCons (tCall (S_take_ K) [] E (tCons (tVar 0) (tCons (tC (.int 13)) tNil))) tNil)) (gName 2) (tSeq (tAsg (tOp (rIxA K) (tLst (tCons (tOp (rAddA K) (tC (.int 1)) (tCall (S_take_ K) [] E (tCons (tVar 0) (tCons (tC (.int 9)) tNil)))) (tCons (tCall (S_take_ K) [] E (tCons (tVar 0) (tCons (tC (.int 10000)) tNil))) tNil))) (tCall (S_take_ K) [] E (tCons (tVar 0) (tCons (tC (.int 2)) tNil)))) (gName 3)) (tDrop (tBM K "list" rAppend (tVar 1) (tCons (tTup (tCons (tCall (S_take_ K) [] E (tCons (tVar 0) (tCons (tC (.int 4)) tNil))) (tCons (tVar 3) (tCons (tCall (S_drawn_ K) [] E (tCons (tVar 0) (tCons (tCall (S_store_ K) [] E tNil) tNil))) tNil)))) tNil))))) (tRet (tVar 1))))
def t_text_ (K : PySem.W.Frag) (E : XK) : TS := (tSeq (tAsg (tLst tNil) (gName 1)) (tSeq (tFor (iSeq K (tVar 0)) (gTup K 3 (gCons (gName 2) (gCons (gName 3) (gCons (gName 4) gNil)))) (tSeq (tAsg (tLc (iSeq K (tVar 4)) (gName 7) tYes (tM1 (N.rJn K) (tC (.str " ")) (tLc (iSeq K (tVar 7)) (gName 6) tYes (tIf (tTest (tOp rIsNo (tVar 6) (tC .non))) (tC (.str "-")) (tCB N.rStr1 (tCons (tVar 6) tNil))) [6])) [7]) (gName 5)) (tDrop (tBM K "list" rAppend (tVar 1) (tCons (tOp (rAddA K) (tOp (rAddA K) (tOp (rAddA K) (tOp (rAddA K) (tCB N.rStr1 (tCons (tVar 2) tNil)) (tC (.str " "))) (tCB N.rStr1 (tCons (tVar 3) tNil))) (tC (.str ": "))) (tM1 (N.rJn K) (tC (.str "; ")) (tVar 5))) tNil))))) (tRet (tM1 (N.rJn K) (tC (.str "\n")) (tVar 1)))))
def t_spoilt_ (K : PySem.W.Frag) (E : XK) : TS := (tSeq (tAsg (tCall (S_take_ K) [] E (tCons (tVar 0) (tCons (tC (.int 7)) tNil))) (gName 2)) (tSeq (tAsg (tCall (S_take_ K) [] E (tCons (tVar 0) (tCons (tOp (rAddA K) (tCB (rLenA K) (tCons (tVar 1) tNil)) (tC (.int 1))) tNil))) (gName 3)) (tSeq (tAsg (tM1 N.rSpl (tVar 1) (tC (.str "\n"))) (gName 4)) (tSeq (tAsg (tCall (S_take_ K) [] E (tCons (tVar 0) (tCons (tCB (rLenA K) (tCons (tVar 4) tNil)) tNil))) (gName 5)) (tSeq (tIfS (tTest (tOp (rI0 fun i j => .bl (decide (i < j))) (tVar 2) (tC (.int 2)))) (tRet (tM1 (N.rJn K) (tC (.str "\n")) (tOp (rAddA K) (tSl (rSlAny K) (tVar 4) tNoPart (tPart (tOp (rAddA K) (tVar 5) (tVar 2)))) (tSl (rSlAny K) (tVar 4) (tPart (tOp (rI0 fun i j => .int (i - j)) (tOp (rAddA K) (tVar 5) (tC (.int 1))) (tVar 2))) tNoPart)))) tNext) (tSeq (tIfS (tTest (tOp (rEqA K) (tVar 2) (tC (.int 2)))) (tSeq (tAsg (tM1 N.rSpl (tOp (rIxA K) (tVar 4) (tVar 5)) (tC (.str " "))) (gName 6)) (tSeq (tAsg (tLst (tCons (tC (.str "")) (tCons (tC (.str "put")) (tCons (tC (.str "drop")) (tCons (tC (.str "add")) (tCons (tC (.str "if")) (tCons (tC (.str "take")) (tCons (tC (.str "0")) (tCons (tC (.str "00")) (tCons (tC (.str "07")) (tCons (tC (.str "-1")) (tCons (tC (.str "-")) (tCons (tC (.str "-0")) (tCons (tC (.str "9999")) (tCons (tC (.str "10000")) (tCons (tC (.str "32")) (tCons (tC (.str "4:")) tNil))))))))))))))))) (gName 7)) (tSeq (tAsg (tOp (rIxA K) (tOp (rAddA K) (tVar 7) (tLst (tCons (tC (.str "5;")) (tCons (tC (.str ";")) (tCons (tC (.str "x")) (tCons (tC (.str "1001")) (tCons (tC (.str "--1")) tNil))))))) (tCall (S_take_ K) [] E (tCons (tVar 0) (tCons (tC (.int 21)) tNil)))) (gSub (tVar 6) (tCall (S_take_ K) [] E (tCons (tVar 0) (tCons (tCB (rLenA K) (tCons (tVar 6) tNil)) tNil))) rSetA)) (tRet (tM1 (N.rJn K) (tC (.str "\n")) (tOp (rAddA K) (tOp (rAddA K) (tSl (rSlAny K) (tVar 4) tNoPart (tPart (tVar 5))) (tLst (tCons (tM1 (N.rJn K) (tC (.str " ")) (tVar 6)) tNil))) (tSl (rSlAny K) (tVar 4) (tPart (tOp (rAddA K) (tVar 5) (tC (.int 1)))) tNoPart))))))) tNext) (tSeq (tIfS (tTest (tOp (rEqA K) (tVar 2) (tC (.int 3)))) (tSeq (tAsg (tLst (tCons (tC (.str "; drop 2")) (tCons (tC (.str "; put 1 2")) (tCons (tC (.str "; add 3 -")) (tCons (tC (.str "; if 2 -3")) (tCons (tC (.str "; drop -1")) (tCons (tC (.str ";")) (tCons (tC (.str "; ")) (tCons (tC (.str ": drop 1")) tNil))))))))) (gName 8)) (tRet (tM1 (N.rJn K) (tC (.str "\n")) (tOp (rAddA K) (tOp (rAddA K) (tSl (rSlAny K) (tVar 4) tNoPart (tPart (tVar 5))) (tLst (tCons (tOp (rAddA K) (tOp (rIxA K) (tVar 4) (tVar 5)) (tOp (rIxA K) (tVar 8) (tCall (S_take_ K) [] E (tCons (tVar 0) (tCons (tC (.int 8)) tNil))))) tNil))) (tSl (rSlAny K) (tVar 4) (tPart (tOp (rAddA K) (tVar 5) (tC (.int 1)))) tNoPart))))) tNext) (tSeq (tAsg (tC (.str "0123456789 -;:\nabcdefghijklmnopqrstuvwxyz!#$&'()*+,./<=>?@ABCDEFGHIJKLMNOPQRSTUVWXYZ[]^_`{|}~")) (gName 9)) (tSeq (tAsg (tOp (rIxA K) (tLst (tCons (tOp (rIxA K) (tVar 9) (tCall (S_take_ K) [] E (tCons (tVar 0) (tCons (tCB (rLenA K) (tCons (tVar 9) tNil)) tNil)))) (tCons (tC (.str "")) (tCons (tOp (rIxA K) (tVar 9) (tCall (S_take_ K) [] E (tCons (tVar 0) (tCons (tC (.int 15)) tNil)))) tNil)))) (tOp (rI0 fun i j => .int (i - j)) (tVar 2) (tC (.int 4)))) (gName 10)) (tRet (tOp (rAddA K) (tOp (rAddA K) (tSl N.rSlS (tVar 1) tNoPart (tPart (tVar 3))) (tVar 10)) (tSl N.rSlS (tVar 1) (tPart (tOp (rAddA K) (tVar 3) (tCB rInt1 (tCons (tOp (rI0 fun i j => .bl (decide (j < i))) (tVar 2) (tC (.int 4))) tNil)))) tNoPart))))))))))))
def t_wrong_ (K : PySem.W.Frag) (E : XK) : TS := (tSeq (tAsg (tIf (tTest (tOp (rNeA K) (tVar 1) (tC (.str "")))) (tM1 N.rSpl (tVar 1) (tC (.str "\n"))) (tLst tNil)) (gName 2)) (tSeq (tAsg (tLst (tCons (tC (.str "0 1: drop 32")) (tCons (tC (.str "9 1: drop 0")) (tCons (tC (.str "4 12: drop 3")) (tCons (tC (.str "7 2: put 0 1000 0")) (tCons (tC (.str "3 3: if 4 1000")) (tCons (tC (.str "2 2: add 5 1000")) tNil))))))) (gName 3)) (tSeq (tAsg (tOp (rAddA K) (tVar 3) (tLst (tCons (tC (.str "1 1: drop 1; drop 2; drop 3; drop 4; drop 5")) (tCons (tC (.str "2 0: put 31 999 1001")) (tCons (tC (.str "0 9: drop 1; drop 99")) tNil))))) (gName 3)) (tSeq (tFor (iRng1 (tCons (tOp (rAddA K) (tC (.int 2)) (tCall (S_take_ K) [] E (tCons (tVar 0) (tCons (tC (.int 2)) tNil)))) tNil)) (gName 4) (tSeq (tAsg (tCall (S_take_ K) [] E (tCons (tVar 0) (tCons (tOp (rAddA K) (tCB (rLenA K) (tCons (tVar 2) tNil)) (tC (.int 1))) tNil))) (gName 5)) (tAsg (tOp (rAddA K) (tOp (rAddA K) (tSl (rSlAny K) (tVar 2) tNoPart (tPart (tVar 5))) (tLst (tCons (tOp (rIxA K) (tVar 3) (tCall (S_take_ K) [] E (tCons (tVar 0) (tCons (tC (.int 9)) tNil)))) tNil))) (tSl (rSlAny K) (tVar 2) (tPart (tVar 5)) tNoPart)) (gName 2)))) (tRet (tM1 (N.rJn K) (tC (.str "\n")) (tVar 2)))))))
def t_number_ (K : PySem.W.Frag) (E : XK) : TS := (tSeq (tIfS (tOr (tTest (tOp (rEqA K) (tVar 0) (tC (.str "")))) (tOr (tTest (tOp (rI0 fun i j => .bl (decide (j < i))) (tCB (rLenA K) (tCons (tVar 0) tNil)) (tC (.int 4)))) (tTest (tOp (rNeA K) (tLc (iStr (tVar 0)) (gName 1) (tTest (tOp N.rNotInT (tVar 1) (tC (.str "0123456789")))) (tVar 1) [1]) (tLst tNil))))) (tRet (tC .non)) tNext) (tRet (tIf (tTest (tOp (rEqA K) (tCB N.rStr1 (tCons (tCB N.rInt1 (tCons (tVar 0) tNil)) tNil)) (tVar 0))) (tCB N.rInt1 (tCons (tVar 0) tNil)) (tC .non))))
def t_part_ (K : PySem.W.Frag) (E : XK) : TS := (tSeq (tIfS (tAnd (tTest (tOp (rEqA K) (tVar 1) (tC (.str "worth")))) (tTest (tOp (rEqA K) (tVar 0) (tC (.str "-"))))) (tRet (tLst (tCons (tC .non) tNil))) tNext) (tSeq (tIfS (tAnd (tTest (tOp (rEqA K) (tVar 1) (tC (.str "more")))) (tTest (tOp (rEqA K) (tSl N.rSlS (tVar 0) tNoPart (tPart (tC (.int 1)))) (tC (.str "-"))))) (tSeq (tAsg (tCall (S_number_ K) [] E (tCons (tSl N.rSlS (tVar 0) (tPart (tC (.int 1))) tNoPart) tNil)) (gName 2)) (tRet (tIf (tAnd (tTest (tOp rNotNo (tVar 2) (tC .non))) (tTest (tOp (rI0 fun i j => .bl (decide (j < i))) (tVar 2) (tC (.int 0))))) (tLst (tCons (tOp (rI0 fun i j => .int (i - j)) (tC (.int 0)) (tVar 2)) tNil)) (tLst tNil)))) tNext) (tSeq (tAsg (tCall (S_number_ K) [] E (tCons (tVar 0) tNil)) (gName 2)) (tRet (tIf (tTest (tOp rNotNo (tVar 2) (tC .non))) (tLst (tCons (tVar 2) tNil)) (tLst tNil))))))
def t_row_ (K : PySem.W.Frag) (E : XK) : TS := (tSeq (tAsg (tM1 N.rSpl (tVar 0) (tC (.str ": "))) (gName 1)) (tSeq (tAsg (tM1 N.rSpl (tOp (rIxA K) (tVar 1) (tC (.int 0))) (tC (.str " "))) (gName 2)) (tSeq (tIfS (tOr (tTest (tOp (rNeA K) (tCB (rLenA K) (tCons (tVar 1) tNil)) (tC (.int 2)))) (tOr (tTest (tOp (rNeA K) (tCB (rLenA K) (tCons (tVar 2) tNil)) (tC (.int 2)))) (tTest (tOp (rInA K) (tC .non) (tLc (iSeq K (tVar 2)) (gName 3) tYes (tCall (S_number_ K) [] E0 (tCons (tVar 3) tNil)) [3]))))) (tRet (tC .non)) tNext) (tSeq (tAsg (tDisp [((tC (.str "put")), (tLst (tCons (tC (.str "key")) (tCons (tC (.str "key")) (tCons (tC (.str "key")) tNil))))), ((tC (.str "drop")), (tLst (tCons (tC (.str "key")) tNil))), ((tC (.str "add")), (tLst (tCons (tC (.str "key")) (tCons (tC (.str "more")) tNil)))), ((tC (.str "if")), (tLst (tCons (tC (.str "key")) (tCons (tC (.str "worth")) tNil))))]) (gName 4)) (tSeq (tAsg (tLst tNil) (gName 5)) (tSeq (tFor (iSeq K (tM1 N.rSpl (tOp (rIxA K) (tVar 1) (tC (.int 1))) (tC (.str "; ")))) (gName 6) (tSeq (tAsg (tM1 N.rSpl (tVar 6) (tC (.str " "))) (gName 7)) (tSeq (tIfS (tOr (tTest (tOp (rNotInA K) (tOp (rIxA K) (tVar 7) (tC (.int 0))) (tVar 4))) (tTest (tOp (rNeA K) (tCB (rLenA K) (tCons (tVar 7) tNil)) (tOp (rAddA K) (tCB (rLenA K) (tCons (tOp (rIxA K) (tVar 4) (tOp (rIxA K) (tVar 7) (tC (.int 0)))) tNil)) (tC (.int 1)))))) (tRet (tC .non)) tNext) (tSeq (tAsg (tLc (iRng1 (tCons (tOp (rI0 fun i j => .int (i - j)) (tCB (rLenA K) (tCons (tVar 7) tNil)) (tC (.int 1))) tNil)) (gName 9) tYes (tCall (S_part_ K) [] E0 (tCons (tOp (rIxA K) (tVar 7) (tOp (rAddA K) (tVar 9) (tC (.int 1)))) (tCons (tOp (rIxA K) (tOp (rIxA K) (tVar 4) (tOp (rIxA K) (tVar 7) (tC (.int 0)))) (tVar 9)) tNil))) [9]) (gName 8)) (tSeq (tIfS (tTest (tOp (rInD K) (tLst tNil) (tVar 8))) (tRet (tC .non)) tNext) (tDrop (tBM K "list" rAppend (tVar 5) (tCons (tCB (rTupleA K) (tCons (tOp (rAddA K) (tLst (tCons (tOp (rIxA K) (tVar 7) (tC (.int 0))) tNil)) (tLc (iSeq K (tVar 8)) (gName 10) tYes (tOp (rIxA K) (tVar 10) (tC (.int 0))) [10])) tNil)) tNil)))))))) (tRet (tTup (tCons (tCB N.rInt1 (tCons (tOp (rIxA K) (tVar 2) (tC (.int 0))) tNil)) (tCons (tCB N.rInt1 (tCons (tOp (rIxA K) (tVar 2) (tC (.int 1))) tNil)) (tCons (tCB (rTupleA K) (tCons (tVar 5) tNil)) tNil)))))))))))
def t_fault_ (K : PySem.W.Frag) (E : XK) : TS := (tSeq (tIfS (tTest (tOp (rI0 fun i j => .bl (decide (j < i))) (tOp (rIxA K) (tVar 0) (tC (.int 0))) (tC (.int 3)))) (tRet (tTup (tCons (tC (.str "BadHand")) (tCons (tC (.int 0)) tNil)))) tNext) (tSeq (tFor (iRng1 (tCons (tCB (rLenA K) (tCons (tOp (rIxA K) (tVar 0) (tC (.int 2))) tNil)) tNil)) (gName 1) (tSeq (tAsg (tOp (rIxA K) (tOp (rIxA K) (tVar 0) (tC (.int 2))) (tVar 1)) (gName 2)) (tSeq (tAsg (tOp (rIxA K) (tDisp [((tC (.str "put")), (tTup (tCons (tC (.int 31)) (tCons (tC (.int 999)) (tCons (tC (.int 1000)) tNil))))), ((tC (.str "drop")), (tTup (tCons (tC (.int 31)) tNil))), ((tC (.str "add")), (tTup (tCons (tC (.int 31)) (tCons (tC (.int 999)) tNil)))), ((tC (.str "if")), (tTup (tCons (tC (.int 31)) (tCons (tC (.int 999)) tNil))))]) (tOp (rIxA K) (tVar 2) (tC (.int 0)))) (gName 3)) (tSeq (tAsg (tLc (iRng1 (tCons (tCB (rLenA K) (tCons (tVar 3) tNil)) tNil)) (gName 5) (tAnd (tTest (tOp rNotNo (tOp (rIxA K) (tVar 2) (tOp (rAddA K) (tVar 5) (tC (.int 1)))) (tC .non))) (tTest (tOp (rI0 fun i j => .bl (decide (j < i))) (tCB rAbs (tCons (tOp (rIxA K) (tVar 2) (tOp (rAddA K) (tVar 5) (tC (.int 1)))) tNil)) (tOp (rIxA K) (tVar 3) (tVar 5))))) (tVar 5) [5]) (gName 4)) (tIfS (tOr (tTest (tOp (rI0 fun i j => .bl (decide (j < i))) (tVar 1) (tC (.int 3)))) (tTest (tOp (rNeA K) (tVar 4) (tLst tNil)))) (tRet (tTup (tCons (tC (.str "BadDeal")) (tCons (tVar 1) tNil)))) tNext))))) (tRet (tC .non))))
def t_due_ (K : PySem.W.Frag) (E : XK) : TS := (tSeq (tAsg (tIf (tTest (tOp (rNeA K) (tVar 0) (tC (.str "")))) (tLc (iSeq K (tM1 N.rSpl (tVar 0) (tC (.str "\n")))) (gName 2) tYes (tCall (S_row_ K) [] E0 (tCons (tVar 2) tNil)) [2]) (tLst tNil)) (gName 1)) (tSeq (tIfS (tTest (tOp (rInD K) (tC .non) (tVar 1))) (tRet (tTup (tCons (tC (.str "BadText")) (tCons (tBM K "list" (rIndexD K) (tVar 1) (tCons (tC .non) tNil)) tNil)))) tNext) (tSeq (tAsg (tLc (iSeq K (tVar 1)) (gName 4) (tTest (tOp rNotNo (tCall (S_fault_ K) [] E0 (tCons (tVar 4) tNil)) (tC .non))) (tCall (S_fault_ K) [] E0 (tCons (tVar 4) tNil)) [4]) (gName 3)) (tRet (tIf (tTest (tOp (rNeA K) (tVar 3) (tLst tNil))) (tOp (rIxA K) (tVar 3) (tC (.int 0))) (tVar 1))))))
def t_BadText_init (K : PySem.W.Frag) (E : XK) : TS := (tSeq (tDrop (tVeI K (tCons (tVar 0) (tCons (tC (.str "a bad row")) tNil)))) (tOst K "row" (tVar 0) (tVar 1)))
def t_BadDeal_init (K : PySem.W.Frag) (E : XK) : TS := (tSeq (tDrop (tVeI K (tCons (tVar 0) (tCons (tC (.str "no deal")) tNil)))) (tOst K "place" (tVar 0) (tVar 1)))
def t_is_from (K : PySem.W.Frag) (E : XK) : TS := (tRet (tChain (rI0 fun i j => .bl (decide (i ≤ j))) (rI0 fun i j => .bl (decide (i ≤ j))) (tVar 1) (tVar 0) (tVar 2)))
def t_is_put (K : PySem.W.Frag) (E : XK) : TS := (tRet (tAndV (tOp (rEqA K) (tCB (rLenA K) (tCons (tVar 0) tNil)) (tC (.int 4))) (tAndV (tCall (S_is_from K) [] E (tCons (tOp (rIxA K) (tVar 0) (tC (.int 2))) (tCons (tC (.int 0)) (tCons (tC (.int 999)) tNil)))) (tCall (S_is_from K) [] E (tCons (tOp (rIxA K) (tVar 0) (tC (.int 3))) (tCons (tC (.int 0)) (tCons (tC (.int 1000)) tNil)))))))
def t_is_if (K : PySem.W.Frag) (E : XK) : TS := (tRet (tAndV (tOp (rEqA K) (tCB (rLenA K) (tCons (tVar 0) tNil)) (tC (.int 3))) (tOrV (tOp rIsNo (tOp (rIxA K) (tVar 0) (tC (.int 2))) (tC .non)) (tCall (S_is_from K) [] E (tCons (tOp (rIxA K) (tVar 0) (tC (.int 2))) (tCons (tC (.int 0)) (tCons (tC (.int 999)) tNil)))))))
def t_is_deed (K : PySem.W.Frag) (E : XK) : TS := (tSeq (tIfS (tOr (tTest (tOp (rI0 fun i j => .bl (decide (i < j))) (tCB (rLenA K) (tCons (tVar 0) tNil)) (tC (.int 2)))) (tOr (tTest (tOp (rNotInA K) (tOp (rIxA K) (tVar 0) (tC (.int 0))) (tTup (tCons (tC (.str "put")) (tCons (tC (.str "drop")) (tCons (tC (.str "add")) (tCons (tC (.str "if")) tNil))))))) (tNot (tTr K (tCall (S_is_from K) [] E (tCons (tOp (rIxA K) (tVar 0) (tC (.int 1))) (tCons (tC (.int 0)) (tCons (tOp (rI0 fun i j => .int (i - j)) (tC (.int 32)) (tC (.int 1))) tNil)))))))) (tRet (tC (.bl false))) tNext) (tSeq (tIfS (tTest (tOp (rEqA K) (tOp (rIxA K) (tVar 0) (tC (.int 0))) (tC (.str "put")))) (tRet (tCall (S_is_put K) [] E (tCons (tVar 0) tNil))) tNext) (tSeq (tIfS (tTest (tOp (rEqA K) (tOp (rIxA K) (tVar 0) (tC (.int 0))) (tC (.str "if")))) (tRet (tCall (S_is_if K) [] E (tCons (tVar 0) tNil))) tNext) (tSeq (tIfS (tTest (tOp (rEqA K) (tOp (rIxA K) (tVar 0) (tC (.int 0))) (tC (.str "drop")))) (tRet (tOp (rEqA K) (tCB (rLenA K) (tCons (tVar 0) tNil)) (tC (.int 2)))) tNext) (tRet (tAndV (tOp (rEqA K) (tCB (rLenA K) (tCons (tVar 0) tNil)) (tC (.int 3))) (tCall (S_is_from K) [] E (tCons (tOp (rIxA K) (tVar 0) (tC (.int 2))) (tCons (tOp (rI0 fun i j => .int (i - j)) (tC (.int 0)) (tC (.int 999))) (tCons (tC (.int 999)) tNil))))))))))
def t_need_deal (K : PySem.W.Frag) (E : XK) : TS := (tSeq (tFor (iEnumA K (tCons (tVar 0) tNil)) (gTup K 2 (gCons (gName 1) (gCons (gName 2) gNil))) (tIfS (tOr (tTest (tOp (rI0 fun i j => .bl (decide (j ≤ i))) (tVar 1) (tC (.int 4)))) (tNot (tTr K (tCall (S_is_deed K) [] E (tCons (tVar 2) tNil))))) (tRx K E (He.ga K "BadDeal") "place" (tVar 1)) tNext)) (tIfS (tTest (tOp (rEqA K) (tCB (rLenA K) (tCons (tVar 0) tNil)) (tC (.int 0)))) (tRx K E (He.ga K "BadDeal") "place" (tC (.int 0))) tNext))
def t_need_hand (K : PySem.W.Frag) (E : XK) : TS := (tIfS (tNot (tTr K (tCall (S_is_from K) [] E (tCons (tVar 0) (tCons (tC (.int 0)) (tCons (tOp (rI0 fun i j => .int (i - j)) (tC (.int 4)) (tC (.int 1))) tNil)))))) (tRs E (He.ga K "BadHand")) tNext)
def t_number_of (K : PySem.W.Frag) (E : XK) : TS := (tSeq (tIfS (tOr (tNot (tTest (tChain (rI0 fun i j => .bl (decide (i ≤ j))) (rI0 fun i j => .bl (decide (i ≤ j))) (tC (.int 1)) (tCB (rLenA K) (tCons (tVar 0) tNil)) (tC (.int 4))))) (tTest (tOp (rNeA K) (tLc (iStr (tVar 0)) (gName 1) (tTest (tOp N.rNotInT (tVar 1) (tC (.str "0123456789")))) (tVar 1) [1]) (tLst tNil)))) (tRet (tC .non)) tNext) (tRet (tIf (tAnd (tTest (tOp (rEqA K) (tOp (rIxA K) (tVar 0) (tC (.int 0))) (tC (.str "0")))) (tTest (tOp (rNeA K) (tVar 0) (tC (.str "0"))))) (tC .non) (tCB N.rInt1 (tCons (tVar 0) tNil)))))
def t_part_of (K : PySem.W.Frag) (E : XK) : TS := (tSeq (tIfS (tAnd (tTest (tOp (rEqA K) (tVar 1) (tC (.str "o")))) (tTest (tOp (rEqA K) (tVar 0) (tC (.str "-"))))) (tRet (tTup (tCons (tC (.bl true)) (tCons (tC .non) tNil)))) tNext) (tSeq (tAsg (tAndV (tOp (rEqA K) (tVar 1) (tC (.str "s"))) (tOp (rEqA K) (tSl N.rSlS (tVar 0) tNoPart (tPart (tC (.int 1)))) (tC (.str "-")))) (gName 2)) (tSeq (tAsg (tCall (S_number_of K) [] E (tCons (tIf (tTr K (tVar 2)) (tSl N.rSlS (tVar 0) (tPart (tC (.int 1))) tNoPart) (tVar 0)) tNil)) (gName 3)) (tSeq (tIfS (tOr (tTest (tOp rIsNo (tVar 3) (tC .non))) (tAnd (tTr K (tVar 2)) (tTest (tOp (rEqA K) (tVar 3) (tC (.int 0)))))) (tRet (tTup (tCons (tC (.bl false)) (tCons (tC .non) tNil)))) tNext) (tRet (tTup (tCons (tC (.bl true)) (tCons (tIf (tTr K (tVar 2)) (tOp (rI0 fun i j => .int (i - j)) (tC (.int 0)) (tVar 3)) (tVar 3)) tNil))))))))
def t_deed_of (K : PySem.W.Frag) (E : XK) : TS := (tSeq (tAsg (tM1 N.rSpl (tVar 0) (tC (.str " "))) (gName 1)) (tSeq (tAsg (tKGet kt_KINDS (tOp (rIxA K) (tVar 1) (tC (.int 0))) "") (gName 2)) (tSeq (tIfS (tOr (tTest (tOp (rEqA K) (tVar 2) (tC (.str "")))) (tTest (tOp (rNeA K) (tCB (rLenA K) (tCons (tVar 1) tNil)) (tOp (rAddA K) (tCB (rLenA K) (tCons (tVar 2) tNil)) (tC (.int 1)))))) (tRet (tC .non)) tNext) (tSeq (tAsg (tLc (iRng1 (tCons (tCB (rLenA K) (tCons (tVar 2) tNil)) tNil)) (gName 4) tYes (tCall (S_part_of K) [] E0 (tCons (tOp (rIxA K) (tVar 1) (tOp (rAddA K) (tVar 4) (tC (.int 1)))) (tCons (tOp (rIxA K) (tVar 2) (tVar 4)) tNil))) [4]) (gName 3)) (tSeq (tIfS (tTest (tOp (rNeA K) (tLc (iSeq K (tVar 3)) (gName 5) (tNot (tTr K (tOp (rIxA K) (tVar 5) (tC (.int 0))))) (tVar 5) [5]) (tLst tNil))) (tRet (tC .non)) tNext) (tRet (tCB (rTupleA K) (tCons (tOp (rAddA K) (tSl (rSlAny K) (tVar 1) tNoPart (tPart (tC (.int 1)))) (tLc (iSeq K (tVar 3)) (gName 5) tYes (tOp (rIxA K) (tVar 5) (tC (.int 1))) [5])) tNil))))))))
def t_deal_of (K : PySem.W.Frag) (E : XK) : TS := (tSeq (tAsg (tM1 N.rSpl (tVar 0) (tC (.str ": "))) (gName 1)) (tSeq (tAsg (tM1 N.rSpl (tOp (rIxA K) (tVar 1) (tC (.int 0))) (tC (.str " "))) (gName 2)) (tSeq (tIfS (tOr (tTest (tOp (rNeA K) (tCB (rLenA K) (tCons (tVar 1) tNil)) (tC (.int 2)))) (tTest (tOp (rNeA K) (tCB (rLenA K) (tCons (tVar 2) tNil)) (tC (.int 2))))) (tRet (tC .non)) tNext) (tSeq (tAsg (tLc (iSeq K (tVar 2)) (gName 4) tYes (tCall (S_number_of K) [] E0 (tCons (tVar 4) tNil)) [4]) (gName 3)) (tSeq (tAsg (tLc (iSeq K (tM1 N.rSpl (tOp (rIxA K) (tVar 1) (tC (.int 1))) (tC (.str "; ")))) (gName 6) tYes (tCall (S_deed_of K) [] E0 (tCons (tVar 6) tNil)) [6]) (gName 5)) (tSeq (tIfS (tOr (tTest (tOp (rInD K) (tC .non) (tVar 3))) (tTest (tOp (rInD K) (tC .non) (tVar 5)))) (tRet (tC .non)) tNext) (tRet (tTup (tCons (tOp (rIxA K) (tVar 3) (tC (.int 0))) (tCons (tOp (rIxA K) (tVar 3) (tC (.int 1))) (tCons (tCB (rTupleA K) (tCons (tVar 5) tNil)) tNil)))))))))))
def t_read_deals (K : PySem.W.Frag) (E : XK) : TS := (tSeq (tAsg (tLst tNil) (gName 1)) (tSeq (tFor (iEnumA K (tCons (tIf (tTest (tOp (rNeA K) (tVar 0) (tC (.str "")))) (tM1 N.rSpl (tVar 0) (tC (.str "\n"))) (tLst tNil)) tNil)) (gTup K 2 (gCons (gName 2) (gCons (gName 3) gNil))) (tSeq (tAsg (tCall (S_deal_of K) [] E (tCons (tVar 3) tNil)) (gName 4)) (tSeq (tIfS (tTest (tOp rIsNo (tVar 4) (tC .non))) (tRx K E (He.ga K "BadText") "row" (tVar 2)) tNext) (tDrop (tBM K "list" rAppend (tVar 1) (tCons (tVar 4) tNil)))))) (tSeq (tFor (iSeq K (tVar 1)) (gTup K 3 (gCons (gName 5) (gCons (gName 6) (gCons (gName 7) gNil)))) (tSeq (tDrop (tCall (S_need_hand K) [] E (tCons (tVar 5) tNil))) (tDrop (tCall (S_need_deal K) [] E (tCons (tVar 7) tNil))))) (tRet (tVar 1)))))
def t_told_ (K : PySem.W.Frag) (E : XK) : TS := (tSeq (tAsg (LamX.tLam (tabs K) (TT_refused_ K) (fun E => (tCall (S_read_deals K) [] E (tCons (tVar 0) tNil)))) (gName 1)) (tRet (tIf (tTest (tOp rIsNo (tVar 1) (tC .non))) (tCall (S_read_deals K) [] E (tCons (tVar 0) tNil)) (tVar 1))))
def t_law (K : PySem.W.Frag) (E : XK) : TS := (tSeq (tAsg (tCall (S_begun_ K) [] E (tCons (tVar 0) tNil)) (gName 1)) (tSeq (tAsg (tLst (tCons (tC (.str "")) (tCons (tC (.str " ")) (tCons (tC (.str "\n")) (tCons (tC (.str "0 1")) (tCons (tC (.str "0 1:")) (tCons (tC (.str "0 1: ")) (tCons (tC (.str "0 1:drop 2")) (tCons (tC (.str "0 1: drop 2\n")) (tCons (tC (.str "0 1: if 2 -")) tNil)))))))))) (gName 2)) (tSeq (tAsg (tOp (rAddA K) (tVar 2) (tLst (tCons (tC (.str "0 1: add 2 -5")) (tCons (tC (.str "4 1: drop 0")) (tCons (tC (.str "0 1: put 1 -2 0")) (tCons (tC (.str " 0 1: drop 2")) (tCons (tC (.str "0 1: drop 2;drop 3")) tNil))))))) (gName 2)) (tSeq (tAsg (tOp (rAddA K) (tVar 2) (tLst (tCons (tOp rMulT (tC (.str "0 1: drop 1; ")) (tC (.int 2))) (tCons (tC (.str "0 1: drop 32")) tNil)))) (gName 2)) (tSeq (tFor (iRng1 (tCons (tC (.int 5)) tNil)) (gName 3) (tSeq (tAsg (tOp (rIxA K) (tLst (tCons (tCall (S_text_ K) [] E (tCons (tCall (S_deals_ K) [] E (tCons (tVar 1) tNil)) tNil)) (tCons (tOp (rIxA K) (tVar 2) (tCall (S_take_ K) [] E (tCons (tVar 1) (tCons (tC (.int 16)) tNil)))) tNil))) (tOp (rI CDivW fun i j => .int (i / j)) (tCall (S_take_ K) [] E (tCons (tVar 1) (tCons (tC (.int 3)) tNil))) (tC (.int 2)))) (gName 4)) (tSeq (tFor (iRng1 (tCons (tCall (S_take_ K) [] E (tCons (tVar 1) (tCons (tC (.int 4)) tNil))) tNil)) (gName 5) (tAsg (tCall (S_spoilt_ K) [] E (tCons (tVar 1) (tCons (tVar 4) tNil))) (gName 4))) (tSeq (tIfS (tTest (tOp (rEqA K) (tCall (S_take_ K) [] E (tCons (tVar 1) (tCons (tC (.int 3)) tNil))) (tC (.int 0)))) (tAsg (tCall (S_wrong_ K) [] E (tCons (tVar 1) (tCons (tVar 4) tNil))) (gName 4)) tNext) (tSeq (tAsg (tCall (S_due_ K) [] E (tCons (tVar 4) tNil)) (gName 6)) (tIfS (tOr (tNot (tTr K (tCall (S_alike_ K 9) [] E (tCons (tCall (S_told_ K) [] E (tCons (tVar 4) tNil)) (tCons (tVar 6) tNil))))) (tNot (tTr K (tCall (S_alike_ K 9) [] E (tCons (tCall (S_told_ K) [] E (tCons (tVar 4) tNil)) (tCons (tVar 6) tNil)))))) (tRet (tC (.bl false))) tNext)))))) (tRet (tC (.bl true))))))))
end W
end
section
local macro_rules | `(tactic| walk_at "st") => `(tactic| first
 | (with_reducible refine Cm.s_seq ?_) | (with_reducible refine Cm.s_asg ?_) | (with_reducible refine Cm.s_drop ?_) | (with_reducible refine Cm.s_ret ?_) | (with_reducible refine Cm.s_if ?_) | (with_reducible refine Cm.s_next ?_) | (with_reducible refine Cm.s_retN ?_) | (with_reducible refine Cm.s_rs ?_) | (with_reducible refine Cm.s_fld0 ?_)
 | ((with_reducible refine' Cm.e_var ?hv ?_); (case hv => exact rfl))
 | (with_reducible refine Cm.e_c ?_) | (with_reducible refine Cm.e_op ?_) | (with_reducible refine Cm.e_un ?_) | (with_reducible refine Cm.e_nil ?_) | (with_reducible refine Cm.e_cons ?_) | (with_reducible refine Cm.e_tup ?_) | (with_reducible refine Cm.e_lst ?_) | (with_reducible refine Cm.e_cb ?_) | (with_reducible refine Cm.e_call ?_) | (with_reducible refine Cm.e_if ?_)
 | (with_reducible refine Cm.e_andV ?_) | (with_reducible refine Cm.e_orV ?_) | (with_reducible refine Cm.e_notV ?_) | (with_reducible refine Cm.e_fld0 ?_) | (with_reducible refine Cm.e_meth0 ?_) | (with_reducible refine Cm.e_bm0 ?_) | (with_reducible refine Cm.e_bm ?_) | (with_reducible refine Cm.e_sl ?_) | (with_reducible refine Cm.o_none ?_) | (with_reducible refine Cm.o_some ?_) | (with_reducible refine Cm.e_dnew ?_)
 | (with_reducible refine Cm.e_test ?_) | (with_reducible refine Cm.e_tr ?_) | (with_reducible refine Cm.e_and ?_) | (with_reducible refine Cm.e_or ?_) | (with_reducible refine Cm.e_not ?_) | (with_reducible refine Cm.e_yes ?_) | (with_reducible refine Cm.e_chain ?_)
 | (with_reducible refine Cm.r_i0 ?_) | (with_reducible refine Cm.r_u ?_) | (with_reducible refine Cm.r_isNo ?_) | (with_reducible refine Cm.r_notNo ?_) | (with_reducible refine Cm.r_addI ?_) | (with_reducible refine Cm.r_int1b ?_) | (with_reducible refine Cm.r_max2 ?_)
 | ((with_reducible refine Cm.r_i ?hc ?_); (case hc => walk_at "num"))
 | ((with_reducible refine Cm.r_mulI ?hc ?_); (case hc => walk_at "num"))
 | ((with_reducible refine Cm.r_eqS ?hc ?_); (case hc => exact rfl))
 | ((with_reducible refine Cm.r_neS ?hc ?_); (case hc => exact rfl))
 | ((with_reducible refine' Cm.r_ixl ?h1 ?h2 ?_); (case h1 => walk_at "look"); (case h2 => walk_at "at"))
 | ((with_reducible refine' Cm.r_ixt ?h1 ?h2 ?_); (case h1 => walk_at "look"); (case h2 => walk_at "at"))
 | ((with_reducible refine' Cm.r_ixT ?h1 ?h2 ?_); (case h1 => walk_at "lookT"); (case h2 => walk_at "at"))
 | ((with_reducible refine' Cm.r_ixds ?h1 ?h2 ?_); (case h1 => walk_at "look"); (case h2 => walk_at "key"))
 | ((with_reducible refine' Cm.r_eqe ?h1 ?h2 ?_); (case h1 => walk_at "look"); (case h2 => walk_at "look"))
 | ((with_reducible refine' Cm.r_nee ?h1 ?h2 ?_); (case h1 => walk_at "look"); (case h2 => walk_at "look"))
 | ((with_reducible refine' Cm.r_lenl ?h1 ?_); (case h1 => walk_at "look"))
 | ((with_reducible refine' Cm.r_lent ?h1 ?_); (case h1 => walk_at "look"))
 | ((with_reducible refine' Cm.r_lenT ?h1 ?_); (case h1 => walk_at "lookT"))
 | ((with_reducible refine' Cm.r_listl ?h1 ?_); (case h1 => walk_at "look"); (intro _ _))
 | ((with_reducible refine' Cm.r_tupl ?h1 ?_); (case h1 => walk_at "look"); (intro _ _))
 | ((with_reducible refine' Cm.r_addL ?h1 ?h2 ?h3 ?_); (case h1 => walk_at "look"); (case h2 => walk_at "look"); (case h3 => walk_at "size"); (intro _ _))
 | ((with_reducible refine' Cm.m_append ?h1 ?h2 ?_); (case h1 => walk_at "look"); (case h2 => walk_at "size"))
 | ((with_reducible refine' Cm.m_clear ?h1 ?_); (case h1 => walk_at "look"))
 | ((with_reducible refine' Cm.g_setL ?h1 ?h2 ?_); (case h1 => walk_at "look"); (case h2 => walk_at "ix"))
 | ((with_reducible refine' Cm.g_setDs ?h1 ?h2 ?h3 ?_); (case h1 => walk_at "look"); (case h2 => walk_at "size"); (case h3 => walk_at "put"))
 | ((with_reducible refine' Cm.fld_at ?h1 ?h2 ?h3 ?h4 ?_); (case h1 => walk_at "look"); (case h2 => assumption); (case h3 => assumption); (case h4 => walk_at "key"))
 | ((with_reducible refine' Cm.fldset_at ?h1 ?h2 ?h3 ?h4 ?h5 ?_); (case h1 => walk_at "look"); (case h2 => assumption); (case h3 => assumption); (case h4 => walk_at "size"); (case h5 => walk_at "put"))
 | (with_reducible refine Cm.s_fldaug0 ?_)
 | ((with_reducible refine' Cm.aug_at ?h1 ?h2 ?h3 ?h4 ?_); (case h1 => walk_at "look"); (case h2 => assumption); (case h3 => assumption); (case h4 => walk_at "key"))
 | ((with_reducible refine' Cm.augset_at ?h1 ?h4 ?h5 ?_); (case h1 => walk_at "look"); (case h4 => walk_at "size"); (case h5 => walk_at "put"))
 | (with_reducible refine Cm.in_sub_at ?_) | (with_reducible refine Cm.in_add_at ?_)
 | ((with_reducible refine' Cm.meth_at ?h1 ?h2 ?_); (case h1 => walk_at "look"); (case h2 => walk_at "key"))
 | ((with_reducible refine Cm.new_at ?h1 ?_); (case h1 => walk_at "size"); (intro _ _))
 | ((with_reducible refine Cm.and_at (A := L2.tyV _ "list" _ _) ?h1 ?_); (case h1 => exact Cm.ty_lst (by walk_at "look")))
 | ((with_reducible refine' Cm.g_tupt ?h1 ?h2 ?_); (case h1 => walk_at "look"); (case h2 => exact rfl))
 | ((with_reducible refine' Cm.g_tup ?h1 ?h2 ?_); (case h1 => walk_at "lookT"); (case h2 => exact rfl))
 | (with_reducible refine Cm.g_name ?_) | (with_reducible refine Cm.g_sub ?_) | (with_reducible refine Cm.g_cons ?_) | (with_reducible refine Cm.g_nil ?_)
 | (with_reducible refine Cm.int_at ?_) | (with_reducible refine Cm.bl_at ?_) | (with_reducible refine Cm.tr_bl ?_) | (with_reducible refine Cm.tr_non ?_)
 | ((with_reducible refine' Cm.m_pop0 ?h1 ?_); (case h1 => walk_at "look"))
 | ((with_reducible refine' Cm.r_slTo ?h1 ?h2 ?_); (case h1 => walk_at "look"); (case h2 => walk_at "num2"); (intro _ _))
 | ((with_reducible refine' Cm.r_slFrom ?h1 ?h2 ?_); (case h1 => walk_at "look"); (case h2 => walk_at "num2"); (intro _ _))
 | ((with_reducible refine' Cm.at_forL ?h1 ?_); (case h1 => walk_at "look"))
 | ((with_reducible refine' Cm.at_forT ?h1 ?_); (case h1 => walk_at "look"))
 | ((with_reducible refine' Cm.at_forR ?h1 ?h2 ?_); (case h1 => walk_at "num2"); (case h2 => walk_at "num2"))
 | ((with_reducible refine' Cm.at_forZ ?h1 ?h2 ?_); (case h1 => walk_at "look"); (case h2 => walk_at "look"))
 | (with_reducible refine Cm.s_forZ ?_) | (with_reducible refine Cm.s_forR ?_)
 | ((with_reducible refine Cm.and_at (A := _ = _) ?h1 ?_); (case h1 => exact rfl))
 | ((with_reducible show L2.rIsi _ _ _ _); walk_at "isi")
 | (with_reducible refine Cm.ite_nt ?_) | (with_reducible refine Cm.ite_nf ?_)
 | (with_reducible refine L2.iteT ?_) | (with_reducible refine L2.iteF ?_)
 | dsimp only
 | fail)
local macro_rules | `(tactic| walk_at "run") => `(tactic| repeat (walk_at "st"))
local macro_rules | `(tactic| walk_at "num") => `(tactic| first
 | exact Or.inr ⟨by decide, by decide⟩ | exact Or.inl ⟨by decide, by decide⟩
 | exact Cm.wdiv (by first | decide | omega) (by first | decide | omega)
 | (show (0 : Int) < _; first | decide | omega)
 | exact ⟨by decide, by decide, by decide⟩
 | fail)
local macro_rules | `(tactic| walk_at "put") => `(tactic| exact rfl)
local macro_rules | `(tactic| walk_at "fl") => `(tactic| first | exact Cm.fl0 | (refine' Cm.flS ?hz; (case hz => walk_at "fl")) | fail)
local macro_rules | `(tactic| walk_at "size") => `(tactic| first | exact Cm.sz_lit rfl | exact Cm.sz_lt rfl | exact Cm.fs_lt rfl | decide | (refine' Nat.lt_of_le_of_lt ?ha ?hb; (case ha => walk_at "fl"); (case hb => decide)) | (simp only [List.length_cons, List.length_nil, List.length_append, List.length_map, List.length_set, List.length_replicate, PySem.sizeLine_eq]; omega) | (simp only [List.length_cons, List.length_nil, List.length_append, List.length_map, List.length_set, List.length_replicate, PySem.sizeLine_eq] at *; omega) | fail)
local macro_rules | `(tactic| walk_at "at") => `(tactic| first | assumption | (with_reducible exact Cm.at0) | (with_reducible exact Cm.at1) | (with_reducible exact Cm.at2) | (with_reducible exact Cm.at3) | (with_reducible exact Cm.at4) | (with_reducible exact Cm.at5) | (with_reducible exact Cm.at6) | (with_reducible exact Cm.at7) | (with_reducible exact Cm.at8) | (with_reducible exact Cm.at0s) | (with_reducible exact Cm.at1s) | (with_reducible exact Cm.at01s) | (with_reducible exact Cm.at10s) | fail)
local macro_rules | `(tactic| walk_at "ix") => `(tactic| first | exact Cm.ix0 (by walk_at "size") | exact Cm.ix1 (by walk_at "size") | assumption | fail)
local macro_rules | `(tactic| walk_at "key") => `(tactic| first | assumption | fail)
local macro_rules | `(tactic| walk_at "ne") => `(tactic| first
 | assumption
 | (refine Ne.symm ?_; assumption)
 | (refine' L2.ne_of_none ?h1 ?h2; (case h2 => assumption); (case h1 => walk_at "look"))
 | (refine' Ne.symm (L2.ne_of_none ?h1 ?h2); (case h2 => assumption); (case h1 => walk_at "look"))
 | fail)
local macro_rules | `(tactic| walk_at "lookT") => `(tactic| first
 | assumption
 | exact L2.SqT.of (by walk_at "look")
 | fail)
local macro_rules | `(tactic| walk_at "look") => `(tactic| first
 | assumption
 | exact L2.upd_same
 | ((fail_if_success (with_reducible refine Eq.trans L2.upd_same ?_)); (refine' Eq.trans (L2.upd_ne ?h1) ?h2); (case h1 => walk_at "ne"); (case h2 => walk_at "look"))
 | (refine' Cm.kp_look ?h1 ?h2 ?h3 ?h4; (case h1 => assumption); (case h2 => walk_at "look"); (case h3 => intro _ z; cases z); (case h4 => first | exact Or.inl rfl | exact Or.inr (by walk_at "out")))
 | fail)
local macro_rules | `(tactic| walk_at "out") => `(tactic| first
 | assumption
 | exact fun z => z
 | exact fun z => z.elim (fun e => absurd e (by walk_at "ne")) (fun e => absurd e (by walk_at "ne"))
 | exact fun e => absurd e (by walk_at "ne")
 | fail)
local macro_rules | `(tactic| walk_at "dom") => `(tactic| first
 | exact Cm.dm_refl
 | (refine Cm.dm_upd ?_; walk_at "dom")
 | (refine' Cm.dm_kp ?h1 ?h2; (case h2 => assumption); (case h1 => walk_at "dom"))
 | fail)
local macro_rules | `(tactic| walk_at "free") => `(tactic| first
 | assumption
 | exact Cm.nw_of (by assumption)
 | (refine' Cm.dm_use ?h1 ?h2; (case h2 => assumption); (case h1 => walk_at "dom"))
 | (refine' Cm.dm_use2 ?h1 ?h2; (case h2 => assumption); (case h1 => walk_at "dom"))
 | fail)
local macro_rules | `(tactic| walk_at "in") => `(tactic| first
 | exact Or.inl rfl | exact Or.inl (Or.inl rfl) | exact Or.inl (Or.inr rfl) | exact Or.inl (Or.inr (Or.inl rfl)) | exact Or.inl (Or.inr (Or.inr rfl))
 | exact Or.inl (by assumption)
 | exact Or.inr (by walk_at "free")
 | fail)
local macro_rules | `(tactic| walk_at "kp") => `(tactic| first
 | assumption
 | exact Cm.Kp.refl
 | (refine' Cm.Kp.new' ?h1 ?h2; (case h2 => assumption); (case h1 => walk_at "kp"))
 | (refine' Cm.Kp.setX' ?h1 ?h2 ?h4 ?h5 ?h3; (case h2 => walk_at "look"); (case h4 => exact rfl); (case h5 => intro _ z; cases z); (case h3 => walk_at "in"); (case h1 => walk_at "kp"))
 | (refine' Cm.kp_step ?h1 ?h2 ?h3; (case h2 => assumption); (case h3 => walk_at "sub"); (case h1 => walk_at "kp"))
 | fail)
local macro_rules | `(tactic| walk_at "sub") => `(tactic| first
 | exact fun _ z => z.elim
 | exact fun _ z => Or.inl z
 | (intro a z; rcases z with rfl | rfl <;> walk_at "in")
 | (intro a z; subst z; walk_at "in")
 | fail)
local macro_rules | `(tactic| walk_at "num2") => `(tactic| first | decide | omega | fail)
local macro_rules | `(tactic| walk_at "isi") => `(tactic| first | (with_reducible refine Cm.isi_non_bool ?_) | (with_reducible refine Cm.isi_non_int ?_) | (with_reducible refine Cm.isi_non_str ?_) | (with_reducible refine Cm.isi_non_tuple ?_) | (with_reducible refine Cm.isi_non_list ?_) | (with_reducible refine Cm.isi_bl_bool ?_) | (with_reducible refine Cm.isi_bl_int ?_) | (with_reducible refine Cm.isi_bl_str ?_) | (with_reducible refine Cm.isi_bl_tuple ?_) | (with_reducible refine Cm.isi_bl_list ?_) | (with_reducible refine Cm.isi_int_bool ?_) | (with_reducible refine Cm.isi_int_int ?_) | (with_reducible refine Cm.isi_int_str ?_) | (with_reducible refine Cm.isi_int_tuple ?_) | (with_reducible refine Cm.isi_int_list ?_) | (with_reducible refine Cm.isi_str_bool ?_) | (with_reducible refine Cm.isi_str_int ?_) | (with_reducible refine Cm.isi_str_str ?_) | (with_reducible refine Cm.isi_str_tuple ?_) | (with_reducible refine Cm.isi_str_list ?_) | ((with_reducible refine' Cm.isi_tup_bool ?h1 ?_); (case h1 => walk_at "look")) | ((with_reducible refine' Cm.isi_tup_int ?h1 ?_); (case h1 => walk_at "look")) | ((with_reducible refine' Cm.isi_tup_str ?h1 ?_); (case h1 => walk_at "look")) | ((with_reducible refine' Cm.isi_tup_tuple ?h1 ?_); (case h1 => walk_at "look")) | ((with_reducible refine' Cm.isi_tup_list ?h1 ?_); (case h1 => walk_at "look")) | ((with_reducible refine' Cm.isi_lst_bool ?h1 ?_); (case h1 => walk_at "look")) | ((with_reducible refine' Cm.isi_lst_int ?h1 ?_); (case h1 => walk_at "look")) | ((with_reducible refine' Cm.isi_lst_str ?h1 ?_); (case h1 => walk_at "look")) | ((with_reducible refine' Cm.isi_lst_tuple ?h1 ?_); (case h1 => walk_at "look")) | ((with_reducible refine' Cm.isi_lst_list ?h1 ?_); (case h1 => walk_at "look")) | fail)
local macro_rules | `(tactic| walk_at "st") => `(tactic| first
 | ((with_reducible refine Cm.and_at (A := L2.tyV _ "dict" _ _) ?h1 ?_); (case h1 => exact Cm.ty_dic (by walk_at "look")))
 | (with_reducible refine Cm.e_dget2 ?_) | (with_reducible refine Cm.e_dpop2 ?_) | (with_reducible refine Cm.e_dpop1 ?_) | (with_reducible refine Cm.s_rx ?_)
 | ((with_reducible refine' Cm.isd_at ?h1 ?_); (case h1 => walk_at "look"))
 | ((with_reducible refine' Cm.get_at ?h1 ?_); (case h1 => walk_at "look"))
 | ((with_reducible refine' Cm.pop1_at ?h1 ?h2 ?_); (case h1 => walk_at "look"); (case h2 => assumption))
 | ((with_reducible refine' Cm.r_dictD ?h1 ?_); (case h1 => walk_at "look"); (intro _ _))
 | ((with_reducible refine' Cm.r_lenD ?h1 ?_); (case h1 => walk_at "look"))
 | ((with_reducible refine' Cm.r_ixdi ?h1 ?h2 ?_); (case h1 => walk_at "look"); (case h2 => assumption))
 | ((with_reducible refine' Cm.g_setdi ?h1 ?h2 ?_); (case h1 => walk_at "look"); (case h2 => first | assumption | omega))
 | (with_reducible refine Cm.r_min2 ?_)
 | (with_reducible refine W.r_eq_lv ?_) | (with_reducible refine W.r_ne_lv ?_) | (with_reducible refine W.r_isNo_lv ?_) | (with_reducible refine W.r_notNo_lv ?_)
 | fail)
namespace N
open PySem PySem.Spec PyProof.Rows L2 Cm W
section
variable {w : World} {K : PySem.W.Frag} {mg : Str → Option Value}
theorem _root_.W.pure_store_ (T : Tx w K mg) : PurT (S_store_ K) (t_store_ K) N_store_ := pureM rfl fun E =>
 (s_ret (SimE.f (e_labV (f_disp (ds_cons (e_labV (SimN.f n_dnew)) (ds_cons (e_labV (SimN.f n_dnew)) (ds_cons (SimQ.e q_int) (ds_cons (SimQ.e q_int) ds_nil))))))))
theorem _root_.W.pure_seen_ (T : Tx w K mg) : PurT (S_seen_ K) (t_seen_ K) N_seen_ := pureM rfl fun E =>
 (s_seq (s_asg (SimE.f (SimQ.e (q_get (w_de (q_op r2_ix (w_de q_var) (SimQ.w q_str))) q_var (q_tup (aq_cons q_non (aq_cons q_int aq_nil)))))))
 (s_ret (SimE.f (SimQ.e (q_if (qt_or (qt_test (q_op r2_eq (SimQ.w (q_op r2_ix (SimQ.w q_var) (SimQ.w q_int))) (SimQ.w q_int))) (qt_test (q_op (r2_i0 fun _ _ _ _ => by rfl) (SimQ.w (q_op r2_ix (SimQ.w q_var) (SimQ.w q_int))) (SimQ.w (q_op r2_ix (w_de q_var) (SimQ.w q_str)))))) (q_op r2_ix (SimQ.w q_var) (SimQ.w q_int)) q_non)))))
theorem _root_.W.pure_deed_ (T : Tx w K mg) : PurT (S_deed_ K) (t_deed_ K) N_deed_ := pureM rfl fun E =>
 (s_seq (s_asg (SimE.f (SimF.e (f_call sp_take (a_cons (SimQ.e q_var) (a_cons (e_op r2_ix (SimQ.e (SimN.q (n_lst (aq_cons q_int (aq_cons q_int (aq_cons q_int aq_nil)))))) (SimF.e (f_call sp_take (a_cons (SimQ.e q_var) (a_cons (SimQ.e q_int) a_nil))))) a_nil))))))
 (s_seq (s_asg (SimE.f (SimF.e (f_call sp_id (a_cons (SimQ.e q_var) (a_cons (SimQ.e q_var) a_nil))))))
 (s_seq (s_asg (SimE.f (SimF.e (f_call sp_take (a_cons (SimQ.e q_var) (a_cons (SimQ.e q_int) a_nil))))))
 (s_seq (s_if (SimQT.t (qt_test (q_op (r2_i0 fun _ _ _ _ => by rfl) (SimQ.w q_var) (SimQ.w q_int))))
 (s_seq (s_asg (SimE.f (e_op r2_ix (SimF.e (f_lst (a_cons (SimQ.e q_int) (a_cons (e_op r2_add (SimQ.e q_int) (SimF.e (f_call sp_take (a_cons (SimQ.e q_var) (a_cons (SimQ.e q_int) a_nil))))) (a_cons (e_op r2_add (SimQ.e q_int) (SimF.e (f_call sp_take (a_cons (SimQ.e q_var) (a_cons (SimQ.e q_int) a_nil))))) a_nil))))) (SimF.e (f_call sp_take (a_cons (SimQ.e q_var) (a_cons (SimQ.e q_int) a_nil)))))))
 (s_ret (SimE.f (e_tup (a_cons (SimQ.e q_str) (a_cons (SimQ.e q_var) (a_cons (e_op r2_ix (SimF.e (f_lst (a_cons (SimF.e (f_call sp_take (a_cons (SimQ.e q_var) (a_cons (SimQ.e q_int) a_nil)))) (a_cons (SimQ.e q_int) (a_cons (SimQ.e q_int) a_nil))))) (SimF.e (f_call sp_take (a_cons (SimQ.e q_var) (a_cons (SimQ.e q_int) a_nil))))) (a_cons (SimQ.e q_var) a_nil))))))))
 s_next)
 (s_seq (s_if (SimQT.t (qt_test (q_op r2_eq (SimQ.w q_var) (SimQ.w q_int))))
 (s_ret (SimE.f (SimQ.e (q_tup (aq_cons q_str (aq_cons q_var aq_nil))))))
 s_next)
 (s_seq (s_if (SimQT.t (qt_test (q_op (r2_i0 fun _ _ _ _ => by rfl) (SimQ.w q_var) (SimQ.w q_int))))
 (s_ret (SimE.f (e_tup (a_cons (SimQ.e q_str) (a_cons (SimQ.e q_var) (a_cons (e_op r2_ix (SimF.e (f_lst (a_cons (e_op (r2_i0 fun _ _ _ _ => by rfl) (SimF.e (f_call sp_take (a_cons (SimQ.e q_var) (a_cons (SimQ.e q_int) a_nil)))) (SimQ.e q_int)) (a_cons (e_op (r2_i0 fun _ _ _ _ => by rfl) (SimF.e (f_call sp_take (a_cons (SimQ.e q_var) (a_cons (SimQ.e q_int) a_nil)))) (SimQ.e q_int)) a_nil)))) (SimF.e (f_call sp_take (a_cons (SimQ.e q_var) (a_cons (SimQ.e q_int) a_nil))))) a_nil))))))
 s_next)
 (s_ret (SimE.f (e_tup (a_cons (SimQ.e q_str) (a_cons (SimQ.e q_var) (a_cons (e_op r2_ix (SimF.e (f_lst (a_cons (SimQ.e q_var) (a_cons (SimQ.e q_var) (a_cons (SimQ.e q_var) (a_cons (SimQ.e q_non) (a_cons (SimF.e (f_call sp_take (a_cons (SimQ.e q_var) (a_cons (SimQ.e q_int) a_nil)))) a_nil))))))) (SimF.e (f_call sp_take (a_cons (SimQ.e q_var) (a_cons (SimQ.e q_int) a_nil))))) a_nil))))))))))))
theorem _root_.W.pure_drawn_ (T : Tx w K mg) : PurT (S_drawn_ K) (t_drawn_ K) N_drawn_ := pureM rfl fun E =>
 (s_ret (SimE.f (e_cb cb_tup (a_cons (SimF.e (f_lc (i_rng1 (a_cons (e_op r2_add (SimQ.e q_int) (SimF.e (f_call sp_take (a_cons (SimQ.e q_var) (a_cons (e_op r2_ix (SimQ.e (SimN.q (n_lst (aq_cons q_int (aq_cons q_int (aq_cons q_int aq_nil)))))) (SimF.e (f_call sp_take (a_cons (SimQ.e q_var) (a_cons (SimQ.e q_int) a_nil))))) a_nil))))) a_nil)) (gw_name (by decide)) (SimQT.t qt_yes) (SimF.e (f_call sp_id (a_cons (SimQ.e q_var) (a_cons (SimQ.e q_var) a_nil)))))) a_nil))))
theorem _root_.W.pure_deals_ (T : Tx w K mg) : PurT (S_deals_ K) (t_deals_ K) N_deals_ := pureM rfl fun E =>
 (s_seq (s_asg (SimN.f (n_lst aq_nil)))
 (s_seq (s_for (i_rng1 (a_cons (SimF.e (f_call sp_take (a_cons (SimQ.e q_var) (a_cons (SimQ.e q_int) a_nil)))) a_nil)) g_name'
 (s_seq (s_asg (SimE.f (e_op r2_ix (SimF.e (f_lst (a_cons (e_op r2_add (SimQ.e q_int) (SimF.e (f_call sp_take (a_cons (SimQ.e q_var) (a_cons (SimQ.e q_int) a_nil))))) (a_cons (SimF.e (f_call sp_take (a_cons (SimQ.e q_var) (a_cons (SimQ.e q_int) a_nil)))) a_nil)))) (SimF.e (f_call sp_take (a_cons (SimQ.e q_var) (a_cons (SimQ.e q_int) a_nil)))))))
 (s_mutE l_app (a_cons (e_tup (a_cons (SimF.e (f_call sp_take (a_cons (SimQ.e q_var) (a_cons (SimQ.e q_int) a_nil)))) (a_cons (SimQ.e q_var) (a_cons (SimF.e (f_call sp_id (a_cons (SimQ.e q_var) (a_cons (SimF.e (f_call sp_id a_nil)) a_nil)))) a_nil)))) a_nil))))
 s_retO))
theorem _root_.W.pure_text_ (T : Tx w K mg) : PurT (S_text_ K) (t_text_ K) N_text_ := pureM rfl fun E =>
 (s_seq (s_asg (SimN.f (n_lst aq_nil)))
 (s_seq (s_for (i_any q_var) (g_tup' (gs_cons g_name' (gs_cons g_name' (gs_cons g_name' gs_nil))))
 (s_seq (s_asg (SimE.f (SimF.e (f_lc (i_any q_var) (gw_name (by decide)) (SimQT.t qt_yes) (e_join (SimF.e (f_lc (i_any q_var) (gw_name (by decide)) (SimQT.t qt_yes) (SimQ.e (q_if (qt_test (q_op r2_isNo (SimQ.w q_var) (SimQ.w q_non))) q_str (q_cb cb_str1 (aw_cons (SimQ.w q_var) aw_nil)))))))))))
 (s_mut l_app p_var (aq_cons (q_op r2_add (SimQ.w (q_op r2_add (SimQ.w (q_op r2_add (SimQ.w (q_op r2_add (SimQ.w (q_cb cb_str1 (aw_cons (SimQ.w q_var) aw_nil))) (SimQ.w q_str))) (SimQ.w (q_cb cb_str1 (aw_cons (SimQ.w q_var) aw_nil))))) (SimQ.w q_str))) (SimQ.w (q_join (SimQ.w q_var)))) aq_nil))))
 (s_ret (SimE.f (SimQ.e (q_join w_var))))))
theorem _root_.W.pure_spoilt_ (T : Tx w K mg) : PurT (S_spoilt_ K) (t_spoilt_ K) N_spoilt_ := pureM rfl fun E =>
 (s_seq (s_asg (SimE.f (SimF.e (f_call sp_take (a_cons (SimQ.e q_var) (a_cons (SimQ.e q_int) a_nil))))))
 (s_seq (s_asg (SimE.f (SimF.e (f_call sp_take (a_cons (SimQ.e q_var) (a_cons (SimQ.e (q_op r2_add (SimQ.w (q_cb cb_len (aw_cons (SimQ.w q_var) aw_nil))) (SimQ.w q_int))) a_nil))))))
 (s_seq (s_asg (SimE.f (SimF.e (f_split (SimQ.e q_var)))))
 (s_seq (s_asg (SimE.f (SimF.e (f_call sp_take (a_cons (SimQ.e q_var) (a_cons (SimQ.e (q_cb cb_len (aw_cons (SimQ.w q_var) aw_nil))) a_nil))))))
 (s_seq (s_if (SimQT.t (qt_test (q_op (r2_i0 fun _ _ _ _ => by rfl) (SimQ.w q_var) (SimQ.w q_int))))
 (s_ret (SimE.f (SimQ.e (q_join (SimQ.w (SimN.q (n_op r2n_add (SimQ.w (SimN.q (n_sl (SimQ.w q_var) o_no (o_pt (q_op r2_add (SimQ.w q_var) (SimQ.w q_var)))))) (SimQ.w (SimN.q (n_sl (SimQ.w q_var) (o_pt (q_op (r2_i0 fun _ _ _ _ => by rfl) (SimQ.w (q_op r2_add (SimQ.w q_var) (SimQ.w q_int))) (SimQ.w q_var))) o_no))))))))))
 s_next)
 (s_seq (s_if (SimQT.t (qt_test (q_op r2_eq (SimQ.w q_var) (SimQ.w q_int))))
 (s_seq (s_asg (SimE.f (e_labV (f_split (SimQ.e (q_op r2_ix (SimQ.w q_var) (SimQ.w q_var)))))))
 (s_seq (s_asg (SimE.f (SimQ.e (SimN.q (n_lst (aq_cons q_str (aq_cons q_str (aq_cons q_str (aq_cons q_str (aq_cons q_str (aq_cons q_str (aq_cons q_str (aq_cons q_str (aq_cons q_str (aq_cons q_str (aq_cons q_str (aq_cons q_str (aq_cons q_str (aq_cons q_str (aq_cons q_str (aq_cons q_str aq_nil)))))))))))))))))))))
 (s_seq (s_subE p_var (SimF.e (f_call sp_take (a_cons (SimQ.e q_var) (a_cons (SimQ.e (q_cb cb_len (aw_cons (w_de q_var) aw_nil))) a_nil)))) (e_op r2_ix (SimQ.e (SimN.q (n_op r2n_add (SimQ.w q_var) (SimQ.w (SimN.q (n_lst (aq_cons q_str (aq_cons q_str (aq_cons q_str (aq_cons q_str (aq_cons q_str aq_nil))))))))))) (SimF.e (f_call sp_take (a_cons (SimQ.e q_var) (a_cons (SimQ.e q_int) a_nil))))))
 (s_ret (SimE.f (SimQ.e (q_join (SimQ.w (SimN.q (n_op r2n_add (SimQ.w (SimN.q (n_op r2n_add (SimQ.w (SimN.q (n_sl (SimQ.w q_var) o_no (o_pt q_var)))) (SimQ.w (SimN.q (n_lst (aq_cons (q_join (w_de q_var)) aq_nil))))))) (SimQ.w (SimN.q (n_sl (SimQ.w q_var) (o_pt (q_op r2_add (SimQ.w q_var) (SimQ.w q_int))) o_no)))))))))))))
 s_next)
 (s_seq (s_if (SimQT.t (qt_test (q_op r2_eq (SimQ.w q_var) (SimQ.w q_int))))
 (s_seq (s_asg (SimE.f (SimQ.e (SimN.q (n_lst (aq_cons q_str (aq_cons q_str (aq_cons q_str (aq_cons q_str (aq_cons q_str (aq_cons q_str (aq_cons q_str (aq_cons q_str aq_nil)))))))))))))
 (s_ret (SimE.f (e_join (SimF.e (f_op r2n_add (SimF.e (f_op r2n_add (SimQ.e (SimN.q (n_sl (SimQ.w q_var) o_no (o_pt q_var)))) (SimF.e (f_lst (a_cons (e_op r2_add (SimQ.e (q_op r2_ix (SimQ.w q_var) (SimQ.w q_var))) (e_op r2_ix (SimQ.e q_var) (SimF.e (f_call sp_take (a_cons (SimQ.e q_var) (a_cons (SimQ.e q_int) a_nil)))))) a_nil))))) (SimQ.e (SimN.q (n_sl (SimQ.w q_var) (o_pt (q_op r2_add (SimQ.w q_var) (SimQ.w q_int))) o_no)))))))))
 s_next)
 (s_seq (s_asg (SimE.f (SimQ.e q_str)))
 (s_seq (s_asg (SimE.f (e_op r2_ix (SimF.e (f_lst (a_cons (e_op r2_ixTA (SimQ.e q_var) (SimF.e (f_call sp_take (a_cons (SimQ.e q_var) (a_cons (SimQ.e (q_cb cb_len (aw_cons (SimQ.w q_var) aw_nil))) a_nil))))) (a_cons (SimQ.e q_str) (a_cons (e_op r2_ixTA (SimQ.e q_var) (SimF.e (f_call sp_take (a_cons (SimQ.e q_var) (a_cons (SimQ.e q_int) a_nil))))) a_nil))))) (SimQ.e (q_op (r2_i0 fun _ _ _ _ => by rfl) (SimQ.w q_var) (SimQ.w q_int))))))
 (s_ret (SimE.f (SimQ.e (q_op r2_add (SimQ.w (q_op r2_add (SimQ.w (q_slT q_var o_no (o_pt q_var))) (SimQ.w q_var))) (SimQ.w (q_slT q_var (o_pt (q_op r2_add (SimQ.w q_var) (SimQ.w (q_cb cb_int1 (aw_cons (SimQ.w (q_op (r2_i0 fun _ _ _ _ => by rfl) (SimQ.w q_var) (SimQ.w q_int))) aw_nil))))) o_no)))))))))))))))
theorem _root_.W.pure_wrong_ (T : Tx w K mg) : PurT (S_wrong_ K) (t_wrong_ K) N_wrong_ := pureM rfl fun E =>
 (s_seq (s_asg (SimE.f (SimF.e (f_if (SimQT.t (qt_test (q_op r2_ne (SimQ.w q_var) (SimQ.w q_str)))) (f_split (SimQ.e q_var)) (SimN.f (n_lst aq_nil))))))
 (s_seq (s_asg (SimE.f (SimQ.e (SimN.q (n_lst (aq_cons q_str (aq_cons q_str (aq_cons q_str (aq_cons q_str (aq_cons q_str (aq_cons q_str aq_nil)))))))))))
 (s_seq (s_asg (SimE.f (SimQ.e (SimN.q (n_op r2n_add (SimQ.w q_var) (SimQ.w (SimN.q (n_lst (aq_cons q_str (aq_cons q_str (aq_cons q_str aq_nil)))))))))))
 (s_seq (s_for (i_rng1 (a_cons (e_op r2_add (SimQ.e q_int) (SimF.e (f_call sp_take (a_cons (SimQ.e q_var) (a_cons (SimQ.e q_int) a_nil))))) a_nil)) g_name'
 (s_seq (s_asg (SimE.f (SimF.e (f_call sp_take (a_cons (SimQ.e q_var) (a_cons (SimQ.e (q_op r2_add (SimQ.w (q_cb cb_len (aw_cons (SimQ.w q_var) aw_nil))) (SimQ.w q_int))) a_nil))))))
 (s_asg (SimE.f (SimF.e (f_op r2n_add (SimF.e (f_op r2n_add (SimQ.e (SimN.q (n_sl (SimQ.w q_var) o_no (o_pt q_var)))) (SimF.e (f_lst (a_cons (e_op r2_ix (SimQ.e q_var) (SimF.e (f_call sp_take (a_cons (SimQ.e q_var) (a_cons (SimQ.e q_int) a_nil))))) a_nil))))) (SimQ.e (SimN.q (n_sl (SimQ.w q_var) (o_pt q_var) o_no)))))))))
 (s_ret (SimE.f (SimQ.e (q_join (SimQ.w q_var)))))))))
theorem _root_.W.pure_number_ (T : Tx w K mg) : PurT (S_number_ K) (t_number_ K) N_number_ := pureM rfl fun E =>
 (s_seq (s_if (t_or (SimQT.t (qt_test (q_op r2_eq (SimQ.w q_var) (SimQ.w q_str)))) (t_or (SimQT.t (qt_test (q_op (r2_i0 fun _ _ _ _ => by rfl) (SimQ.w (q_cb cb_len (aw_cons (SimQ.w q_var) aw_nil))) (SimQ.w q_int)))) (t_test (e_op r2_ne (SimF.e (f_lc (i_str q_var) (gw_name (by decide)) (SimQT.t (qt_test (q_op r2_notInT (SimQ.w q_var) (SimQ.w q_str)))) (SimQ.e q_var))) (SimQ.e (SimN.q (n_lst aq_nil)))))))
 (s_ret (SimE.f (SimQ.e q_non)))
 s_next)
 (s_ret (SimE.f (SimQ.e (q_if (qt_test (q_op r2_eq (SimQ.w (q_cb cb_str1 (aw_cons (SimQ.w (q_cb cb_intT (aw_cons (SimQ.w q_var) aw_nil))) aw_nil))) (SimQ.w q_var))) (q_cb cb_intT (aw_cons (SimQ.w q_var) aw_nil)) q_non)))))
theorem _root_.W.pure_part_ (T : Tx w K mg) : PurT (S_part_ K) (t_part_ K) N_part_ := pureM rfl fun E =>
 (s_seq (s_if (SimQT.t (qt_and (qt_test (q_op r2_eq (SimQ.w q_var) (SimQ.w q_str))) (qt_test (q_op r2_eq (SimQ.w q_var) (SimQ.w q_str)))))
 (s_ret (SimN.f (n_lst (aq_cons q_non aq_nil))))
 s_next)
 (s_seq (s_if (SimQT.t (qt_and (qt_test (q_op r2_eq (SimQ.w q_var) (SimQ.w q_str))) (qt_test (q_op r2_eq (SimQ.w (q_slT q_var o_no (o_pt q_int))) (SimQ.w q_str)))))
 (s_seq (s_asg (SimE.f (SimF.e (f_call sp_id (a_cons (SimQ.e (q_slT q_var (o_pt q_int) o_no)) a_nil)))))
 (s_ret (SimE.f (SimQ.e (q_if (qt_and (qt_test (q_op r2_notNo (SimQ.w q_var) (SimQ.w q_non))) (qt_test (q_op (r2_i0 fun _ _ _ _ => by rfl) (SimQ.w q_var) (SimQ.w q_int)))) (SimN.q (n_lst (aq_cons (q_op (r2_i0 fun _ _ _ _ => by rfl) (SimQ.w q_int) (SimQ.w q_var)) aq_nil))) (SimN.q (n_lst aq_nil)))))))
 s_next)
 (s_seq (s_asg (SimE.f (SimF.e (f_call sp_id (a_cons (SimQ.e q_var) a_nil)))))
 (s_ret (SimE.f (SimQ.e (q_if (qt_test (q_op r2_notNo (SimQ.w q_var) (SimQ.w q_non))) (SimN.q (n_lst (aq_cons q_var aq_nil))) (SimN.q (n_lst aq_nil)))))))))
theorem _root_.W.pure_row_ (T : Tx w K mg) : PurT (S_row_ K) (t_row_ K) N_row_ := pureM rfl fun E =>
 (s_seq (s_asg (SimE.f (SimF.e (f_split (SimQ.e q_var)))))
 (s_seq (s_asg (SimE.f (SimF.e (f_split (SimQ.e (q_op r2_ix (SimQ.w q_var) (SimQ.w q_int)))))))
 (s_seq (s_if (t_or (SimQT.t (qt_test (q_op r2_ne (SimQ.w (q_cb cb_len (aw_cons (SimQ.w q_var) aw_nil))) (SimQ.w q_int)))) (t_or (SimQT.t (qt_test (q_op r2_ne (SimQ.w (q_cb cb_len (aw_cons (SimQ.w q_var) aw_nil))) (SimQ.w q_int)))) (t_test (e_op r2_in (SimQ.e q_non) (SimF.e (f_lc (i_any q_var) (gw_name (by decide)) (SimQT.t qt_yes) (SimF.e (f_call sp_id (a_cons (SimQ.e q_var) a_nil)))))))))
 (s_ret (SimE.f (SimQ.e q_non)))
 s_next)
 (s_seq (s_asg (SimE.f (SimF.e (f_disp (ds_cons (SimQ.e (SimN.q (n_lst (aq_cons q_str (aq_cons q_str (aq_cons q_str aq_nil)))))) (ds_cons (SimQ.e (SimN.q (n_lst (aq_cons q_str aq_nil)))) (ds_cons (SimQ.e (SimN.q (n_lst (aq_cons q_str (aq_cons q_str aq_nil))))) (ds_cons (SimQ.e (SimN.q (n_lst (aq_cons q_str (aq_cons q_str aq_nil))))) ds_nil))))))))
 (s_seq (s_asg (SimN.f (n_lst aq_nil)))
 (s_seq (s_for (i_lst (SimF.e (f_split (SimQ.e (q_op r2_ix (SimQ.w q_var) (SimQ.w q_int)))))) g_name'
 (s_seq (s_asg (SimE.f (SimF.e (f_split (SimQ.e q_var)))))
 (s_seq (s_if (SimQT.t (qt_or (qt_test (q_op r2_notIn (SimQ.w (q_op r2_ix (SimQ.w q_var) (SimQ.w q_int))) (SimQ.w q_var))) (qt_test (q_op r2_ne (SimQ.w (q_cb cb_len (aw_cons (SimQ.w q_var) aw_nil))) (SimQ.w (q_op r2_add (SimQ.w (q_cb cb_len (aw_cons (SimQ.w (q_op r2_ix (SimQ.w q_var) (SimQ.w (q_op r2_ix (SimQ.w q_var) (SimQ.w q_int))))) aw_nil))) (SimQ.w q_int)))))))
 (s_ret (SimE.f (SimQ.e q_non)))
 s_next)
 (s_seq (s_asg (SimE.f (SimF.e (f_lc (i_rng1 (a_cons (SimQ.e (q_op (r2_i0 fun _ _ _ _ => by rfl) (SimQ.w (q_cb cb_len (aw_cons (SimQ.w q_var) aw_nil))) (SimQ.w q_int))) a_nil)) (gw_name (by decide)) (SimQT.t qt_yes) (SimF.e (f_call sp_id (a_cons (SimQ.e (q_op r2_ix (SimQ.w q_var) (SimQ.w (q_op r2_add (SimQ.w q_var) (SimQ.w q_int))))) (a_cons (SimQ.e (q_op r2_ix (SimQ.w (q_op r2_ix (SimQ.w q_var) (SimQ.w (q_op r2_ix (SimQ.w q_var) (SimQ.w q_int))))) (SimQ.w q_var))) a_nil))))))))
 (s_seq (s_if (SimQT.t (qt_test (q_op r2_inD (SimQ.w (SimN.q (n_lst aq_nil))) (SimQ.w q_var))))
 (s_ret (SimE.f (SimQ.e q_non)))
 s_next)
 (s_mutE l_app (a_cons (e_cb cb_tup (a_cons (SimF.e (f_op r2n_add (SimQ.e (SimN.q (n_lst (aq_cons (q_op r2_ix (SimQ.w q_var) (SimQ.w q_int)) aq_nil)))) (SimF.e (f_lc (i_any q_var) (gw_name (by decide)) (SimQT.t qt_yes) (SimQ.e (q_op r2_ix (SimQ.w q_var) (SimQ.w q_int))))))) a_nil)) a_nil)))))))
 (s_ret (SimE.f (SimQ.e (q_tup (aq_cons (q_cb cb_intT (aw_cons (SimQ.w (q_op r2_ix (SimQ.w q_var) (SimQ.w q_int))) aw_nil)) (aq_cons (q_cb cb_intT (aw_cons (SimQ.w (q_op r2_ix (SimQ.w q_var) (SimQ.w q_int))) aw_nil)) (aq_cons (q_cb cb_tup (aw_cons w_var aw_nil)) aq_nil)))))))))))))
theorem _root_.W.pure_fault_ (T : Tx w K mg) : PurT (S_fault_ K) (t_fault_ K) N_fault_ := pureM rfl fun E =>
 (s_seq (s_if (SimQT.t (qt_test (q_op (r2_i0 fun _ _ _ _ => by rfl) (SimQ.w (q_op r2_ix (SimQ.w q_var) (SimQ.w q_int))) (SimQ.w q_int))))
 (s_ret (SimE.f (SimQ.e (q_tup (aq_cons q_str (aq_cons q_int aq_nil))))))
 s_next)
 (s_seq (s_for (i_rng1 (a_cons (SimQ.e (q_cb cb_len (aw_cons (SimQ.w (q_op r2_ix (SimQ.w q_var) (SimQ.w q_int))) aw_nil))) a_nil)) g_name'
 (s_seq (s_asg (SimE.f (SimQ.e (q_op r2_ix (SimQ.w (q_op r2_ix (SimQ.w q_var) (SimQ.w q_int))) (SimQ.w q_var)))))
 (s_seq (s_asg (SimE.f (e_op r2_ix (SimF.e (f_disp (ds_cons (SimQ.e (q_tup (aq_cons q_int (aq_cons q_int (aq_cons q_int aq_nil))))) (ds_cons (SimQ.e (q_tup (aq_cons q_int aq_nil))) (ds_cons (SimQ.e (q_tup (aq_cons q_int (aq_cons q_int aq_nil)))) (ds_cons (SimQ.e (q_tup (aq_cons q_int (aq_cons q_int aq_nil)))) ds_nil)))))) (SimQ.e (q_op r2_ix (SimQ.w q_var) (SimQ.w q_int))))))
 (s_seq (s_asg (SimE.f (SimF.e (f_lc (i_rng1 (a_cons (SimQ.e (q_cb cb_len (aw_cons (SimQ.w q_var) aw_nil))) a_nil)) (gw_name (by decide)) (SimQT.t (qt_and (qt_test (q_op r2_notNo (SimQ.w (q_op r2_ix (SimQ.w q_var) (SimQ.w (q_op r2_add (SimQ.w q_var) (SimQ.w q_int))))) (SimQ.w q_non))) (qt_test (q_op (r2_i0 fun _ _ _ _ => by rfl) (SimQ.w (q_cb cb_abs (aw_cons (SimQ.w (q_op r2_ix (SimQ.w q_var) (SimQ.w (q_op r2_add (SimQ.w q_var) (SimQ.w q_int))))) aw_nil))) (SimQ.w (q_op r2_ix (SimQ.w q_var) (SimQ.w q_var))))))) (SimQ.e q_var)))))
 (s_if (SimQT.t (qt_or (qt_test (q_op (r2_i0 fun _ _ _ _ => by rfl) (SimQ.w q_var) (SimQ.w q_int))) (qt_test (q_op r2_ne (SimQ.w q_var) (SimQ.w (SimN.q (n_lst aq_nil)))))))
 (s_ret (SimE.f (SimQ.e (q_tup (aq_cons q_str (aq_cons q_var aq_nil))))))
 s_next)))))
 (s_ret (SimE.f (SimQ.e q_non)))))
theorem _root_.W.pure_due_ (T : Tx w K mg) : PurT (S_due_ K) (t_due_ K) N_due_ := pureM rfl fun E =>
 (s_seq (s_asg (SimE.f (SimF.e (f_if (SimQT.t (qt_test (q_op r2_ne (SimQ.w q_var) (SimQ.w q_str)))) (f_lc (i_lst (SimF.e (f_split (SimQ.e q_var)))) (gw_name (by decide)) (SimQT.t qt_yes) (SimF.e (f_call sp_id (a_cons (SimQ.e q_var) a_nil)))) (SimN.f (n_lst aq_nil))))))
 (s_seq (s_if (SimQT.t (qt_test (q_op r2_inD (SimQ.w q_non) (SimQ.w q_var))))
 (s_ret (SimE.f (SimQ.e (q_tup (aq_cons q_str (aq_cons (q_indexD (SimQ.w q_var) q_non) aq_nil))))))
 s_next)
 (s_seq (s_asg (SimE.f (SimF.e (f_lc (i_any q_var) (gw_name (by decide)) (t_test (e_op r2_notNo (SimF.e (f_call sp_id (a_cons (SimQ.e q_var) a_nil))) (SimQ.e q_non))) (SimF.e (f_call sp_id (a_cons (SimQ.e q_var) a_nil)))))))
 (s_ret (SimE.f (SimQ.e (q_if (qt_test (q_op r2_ne (SimQ.w q_var) (SimQ.w (SimN.q (n_lst aq_nil))))) (q_op r2_ix (SimQ.w q_var) (SimQ.w q_int)) q_var)))))))
theorem sim_is_from (T : Tx w K mg) (E : XK) : SimQ K (tChain (rI0 fun i j => .bl (decide (i ≤ j))) (rI0 fun i j => .bl (decide (i ≤ j))) (tVar 1) (tVar 0) (tVar 2)) (qCh (fI fun i j => .bl (decide (i ≤ j))) (fI fun i j => .bl (decide (i ≤ j))) (qVar 1) (qVar 0) (qVar 2)) := (q_chain (r2_i0 fun _ _ _ _ => by rfl) (r2_i0 fun _ _ _ _ => by rfl) q_var q_var q_var)
theorem _root_.W.pure_is_put (T : Tx w K mg) : PurT (S_is_put K) (t_is_put K) N_is_put := pureM rfl fun E =>
 (s_ret (SimE.f (SimQ.e (q_andV (q_op r2_eq (SimQ.w (q_cb cb_len (aw_cons (SimQ.w q_var) aw_nil))) (SimQ.w q_int)) (q_andV (q_call (aq_cons (q_op r2_ix (SimQ.w q_var) (SimQ.w q_int)) (aq_cons q_int (aq_cons q_int aq_nil)))) (q_call (aq_cons (q_op r2_ix (SimQ.w q_var) (SimQ.w q_int)) (aq_cons q_int (aq_cons q_int aq_nil)))))))))
theorem _root_.W.pure_is_if (T : Tx w K mg) : PurT (S_is_if K) (t_is_if K) N_is_if := pureM rfl fun E =>
 (s_ret (SimE.f (SimQ.e (q_andV (q_op r2_eq (SimQ.w (q_cb cb_len (aw_cons (SimQ.w q_var) aw_nil))) (SimQ.w q_int)) (q_orV (q_op r2_isNo (SimQ.w (q_op r2_ix (SimQ.w q_var) (SimQ.w q_int))) (SimQ.w q_non)) (q_call (aq_cons (q_op r2_ix (SimQ.w q_var) (SimQ.w q_int)) (aq_cons q_int (aq_cons q_int aq_nil)))))))))
theorem _root_.W.pure_is_deed (T : Tx w K mg) : PurT (S_is_deed K) (t_is_deed K) N_is_deed := pureM rfl fun E =>
 (s_seq (s_if (SimQT.t (qt_or (qt_test (q_op (r2_i0 fun _ _ _ _ => by rfl) (SimQ.w (q_cb cb_len (aw_cons (SimQ.w q_var) aw_nil))) (SimQ.w q_int))) (qt_or (qt_test (q_op r2_notIn (SimQ.w (q_op r2_ix (SimQ.w q_var) (SimQ.w q_int))) (SimQ.w (q_tup (aq_cons q_str (aq_cons q_str (aq_cons q_str (aq_cons q_str aq_nil)))))))) (qt_not (qt_tr (SimQ.w (q_call (aq_cons (q_op r2_ix (SimQ.w q_var) (SimQ.w q_int)) (aq_cons q_int (aq_cons (q_op (r2_i0 fun _ _ _ _ => by rfl) (SimQ.w q_int) (SimQ.w q_int)) aq_nil))))))))))
 (s_ret (SimE.f (SimQ.e q_bl)))
 s_next)
 (s_seq (s_if (SimQT.t (qt_test (q_op r2_eq (SimQ.w (q_op r2_ix (SimQ.w q_var) (SimQ.w q_int))) (SimQ.w q_str))))
 (s_ret (f_call sp_id (a_cons (SimQ.e q_var) a_nil)))
 s_next)
 (s_seq (s_if (SimQT.t (qt_test (q_op r2_eq (SimQ.w (q_op r2_ix (SimQ.w q_var) (SimQ.w q_int))) (SimQ.w q_str))))
 (s_ret (f_call sp_id (a_cons (SimQ.e q_var) a_nil)))
 s_next)
 (s_seq (s_if (SimQT.t (qt_test (q_op r2_eq (SimQ.w (q_op r2_ix (SimQ.w q_var) (SimQ.w q_int))) (SimQ.w q_str))))
 (s_ret (SimE.f (SimQ.e (q_op r2_eq (SimQ.w (q_cb cb_len (aw_cons (SimQ.w q_var) aw_nil))) (SimQ.w q_int)))))
 s_next)
 (s_ret (SimE.f (SimQ.e (q_andV (q_op r2_eq (SimQ.w (q_cb cb_len (aw_cons (SimQ.w q_var) aw_nil))) (SimQ.w q_int)) (q_call (aq_cons (q_op r2_ix (SimQ.w q_var) (SimQ.w q_int)) (aq_cons (q_op (r2_i0 fun _ _ _ _ => by rfl) (SimQ.w q_int) (SimQ.w q_int)) (aq_cons q_int aq_nil))))))))))))
theorem _root_.W.pure_need_deal (T : Tx w K mg) : PurT (S_need_deal K) (t_need_deal K) N_need_deal := pureM rfl fun E =>
 (s_seq (s_for (i_enumA (a_cons (SimQ.e q_var) a_nil)) (g_tup' (gs_cons g_name' (gs_cons g_name' gs_nil)))
 (s_if (t_or (SimQT.t (qt_test (q_op (r2_i0 fun _ _ _ _ => by rfl) (SimQ.w q_var) (SimQ.w q_int)))) (t_not (t_tr (SimF.e (f_call sp_id (a_cons (SimQ.e q_var) a_nil))))))
 (s_rx' (SimQ.e q_var))
 s_next))
 (s_if (SimQT.t (qt_test (q_op r2_eq (SimQ.w (q_cb cb_len (aw_cons (SimQ.w q_var) aw_nil))) (SimQ.w q_int))))
 (s_rx' (SimQ.e q_int))
 s_next))
theorem _root_.W.pure_need_hand (T : Tx w K mg) : PurT (S_need_hand K) (t_need_hand K) N_need_hand := pureM rfl fun E =>
 (s_if (SimQT.t (qt_not (qt_tr (SimQ.w (q_call (aq_cons q_var (aq_cons q_int (aq_cons (q_op (r2_i0 fun _ _ _ _ => by rfl) (SimQ.w q_int) (SimQ.w q_int)) aq_nil))))))))
 s_rs
 s_next)
theorem _root_.W.pure_number_of (T : Tx w K mg) : PurT (S_number_of K) (t_number_of K) N_number_of := pureM rfl fun E =>
 (s_seq (s_if (t_or (SimQT.t (qt_not (qt_test (q_chain (r2_i0 fun _ _ _ _ => by rfl) (r2_i0 fun _ _ _ _ => by rfl) q_int (q_cb cb_len (aw_cons (SimQ.w q_var) aw_nil)) q_int)))) (t_test (e_op r2_ne (SimF.e (f_lc (i_str q_var) (gw_name (by decide)) (SimQT.t (qt_test (q_op r2_notInT (SimQ.w q_var) (SimQ.w q_str)))) (SimQ.e q_var))) (SimQ.e (SimN.q (n_lst aq_nil))))))
 (s_ret (SimE.f (SimQ.e q_non)))
 s_next)
 (s_ret (SimE.f (SimQ.e (q_if (qt_and (qt_test (q_op r2_eq (SimQ.w (q_op r2_ixTA (SimQ.w q_var) (SimQ.w q_int))) (SimQ.w q_str))) (qt_test (q_op r2_ne (SimQ.w q_var) (SimQ.w q_str)))) q_non (q_cb cb_intT (aw_cons (SimQ.w q_var) aw_nil)))))))
theorem _root_.W.pure_part_of (T : Tx w K mg) : PurT (S_part_of K) (t_part_of K) N_part_of := pureM rfl fun E =>
 (s_seq (s_if (SimQT.t (qt_and (qt_test (q_op r2_eq (SimQ.w q_var) (SimQ.w q_str))) (qt_test (q_op r2_eq (SimQ.w q_var) (SimQ.w q_str)))))
 (s_ret (SimE.f (SimQ.e (q_tup (aq_cons q_bl (aq_cons q_non aq_nil))))))
 s_next)
 (s_seq (s_asg (SimE.f (SimQ.e (q_andV (q_op r2_eq (SimQ.w q_var) (SimQ.w q_str)) (q_op r2_eq (SimQ.w (q_slT q_var o_no (o_pt q_int))) (SimQ.w q_str))))))
 (s_seq (s_asg (SimE.f (SimF.e (f_call sp_id (a_cons (SimQ.e (q_if (qt_tr (SimQ.w q_var)) (q_slT q_var (o_pt q_int) o_no) q_var)) a_nil)))))
 (s_seq (s_if (SimQT.t (qt_or (qt_test (q_op r2_isNo (SimQ.w q_var) (SimQ.w q_non))) (qt_and (qt_tr (SimQ.w q_var)) (qt_test (q_op r2_eq (SimQ.w q_var) (SimQ.w q_int))))))
 (s_ret (SimE.f (SimQ.e (q_tup (aq_cons q_bl (aq_cons q_non aq_nil))))))
 s_next)
 (s_ret (SimE.f (SimQ.e (q_tup (aq_cons q_bl (aq_cons (q_if (qt_tr (SimQ.w q_var)) (q_op (r2_i0 fun _ _ _ _ => by rfl) (SimQ.w q_int) (SimQ.w q_var)) q_var) aq_nil))))))))))
theorem _root_.W.pure_deed_of (T : Tx w K mg) : PurT (S_deed_of K) (t_deed_of K) N_deed_of := pureM rfl fun E =>
 (s_seq (s_asg (SimE.f (SimF.e (f_split (SimQ.e q_var)))))
 (s_seq (s_asg (SimE.f (SimQ.e (q_kget (q_op r2_ix (SimQ.w q_var) (SimQ.w q_int))))))
 (s_seq (s_if (SimQT.t (qt_or (qt_test (q_op r2_eq (SimQ.w q_var) (SimQ.w q_str))) (qt_test (q_op r2_ne (SimQ.w (q_cb cb_len (aw_cons (SimQ.w q_var) aw_nil))) (SimQ.w (q_op r2_add (SimQ.w (q_cb cb_len (aw_cons (SimQ.w q_var) aw_nil))) (SimQ.w q_int)))))))
 (s_ret (SimE.f (SimQ.e q_non)))
 s_next)
 (s_seq (s_asg (SimE.f (SimF.e (f_lc (i_rng1 (a_cons (SimQ.e (q_cb cb_len (aw_cons (SimQ.w q_var) aw_nil))) a_nil)) (gw_name (by decide)) (SimQT.t qt_yes) (SimF.e (f_call sp_id (a_cons (SimQ.e (q_op r2_ix (SimQ.w q_var) (SimQ.w (q_op r2_add (SimQ.w q_var) (SimQ.w q_int))))) (a_cons (SimQ.e (q_op r2_ixTA (SimQ.w q_var) (SimQ.w q_var))) a_nil))))))))
 (s_seq (s_if (t_test (e_op r2_ne (SimF.e (f_lc (i_any q_var) (gw_name (by decide)) (SimQT.t (qt_not (qt_tr (SimQ.w (q_op r2_ix (SimQ.w q_var) (SimQ.w q_int)))))) (SimQ.e q_var))) (SimQ.e (SimN.q (n_lst aq_nil)))))
 (s_ret (SimE.f (SimQ.e q_non)))
 s_next)
 (s_ret (SimE.f (e_cb cb_tup (a_cons (SimF.e (f_op r2n_add (SimQ.e (SimN.q (n_sl (SimQ.w q_var) o_no (o_pt q_int)))) (SimF.e (f_lc (i_any q_var) (gw_name (by decide)) (SimQT.t qt_yes) (SimQ.e (q_op r2_ix (SimQ.w q_var) (SimQ.w q_int))))))) a_nil)))))))))
theorem _root_.W.pure_deal_of (T : Tx w K mg) : PurT (S_deal_of K) (t_deal_of K) N_deal_of := pureM rfl fun E =>
 (s_seq (s_asg (SimE.f (SimF.e (f_split (SimQ.e q_var)))))
 (s_seq (s_asg (SimE.f (SimF.e (f_split (SimQ.e (q_op r2_ix (SimQ.w q_var) (SimQ.w q_int)))))))
 (s_seq (s_if (SimQT.t (qt_or (qt_test (q_op r2_ne (SimQ.w (q_cb cb_len (aw_cons (SimQ.w q_var) aw_nil))) (SimQ.w q_int))) (qt_test (q_op r2_ne (SimQ.w (q_cb cb_len (aw_cons (SimQ.w q_var) aw_nil))) (SimQ.w q_int)))))
 (s_ret (SimE.f (SimQ.e q_non)))
 s_next)
 (s_seq (s_asg (SimE.f (SimF.e (f_lc (i_any q_var) (gw_name (by decide)) (SimQT.t qt_yes) (SimF.e (f_call sp_id (a_cons (SimQ.e q_var) a_nil)))))))
 (s_seq (s_asg (SimE.f (SimF.e (f_lc (i_lst (SimF.e (f_split (SimQ.e (q_op r2_ix (SimQ.w q_var) (SimQ.w q_int)))))) (gw_name (by decide)) (SimQT.t qt_yes) (SimF.e (f_call sp_id (a_cons (SimQ.e q_var) a_nil)))))))
 (s_seq (s_if (SimQT.t (qt_or (qt_test (q_op r2_inD (SimQ.w q_non) (SimQ.w q_var))) (qt_test (q_op r2_inD (SimQ.w q_non) (SimQ.w q_var)))))
 (s_ret (SimE.f (SimQ.e q_non)))
 s_next)
 (s_ret (SimE.f (SimQ.e (q_tup (aq_cons (q_op r2_ix (SimQ.w q_var) (SimQ.w q_int)) (aq_cons (q_op r2_ix (SimQ.w q_var) (SimQ.w q_int)) (aq_cons (q_cb cb_tup (aw_cons (SimQ.w q_var) aw_nil)) aq_nil)))))))))))))
theorem _root_.W.pure_read_deals (T : Tx w K mg) : PurT (S_read_deals K) (t_read_deals K) N_read_deals := pureM rfl fun E =>
 (s_seq (s_asg (SimN.f (n_lst aq_nil)))
 (s_seq (s_for (i_enumA (a_cons (SimF.e (f_if (SimQT.t (qt_test (q_op r2_ne (SimQ.w q_var) (SimQ.w q_str)))) (f_split (SimQ.e q_var)) (SimN.f (n_lst aq_nil)))) a_nil)) (g_tup' (gs_cons g_name' (gs_cons g_name' gs_nil)))
 (s_seq (s_asg (SimE.f (SimF.e (f_call sp_id (a_cons (SimQ.e q_var) a_nil)))))
 (s_seq (s_if (SimQT.t (qt_test (q_op r2_isNo (SimQ.w q_var) (SimQ.w q_non))))
 (s_rx' (SimQ.e q_var))
 s_next)
 (s_mut l_app p_var (aq_cons q_var aq_nil)))))
 (s_seq (s_lockL (s_for (i_lp p_var) (g_tup' (gs_cons g_name' (gs_cons g_name' (gs_cons g_name' gs_nil))))
 (s_seq (s_drop (f_call sp_id (a_cons (SimQ.e q_var) a_nil)))
 (s_drop (f_call sp_id (a_cons (SimQ.e q_var) a_nil))))))
 s_retO)))
theorem _root_.W.pure_told_ (T : Tx w K mg) : PurT (S_told_ K) (t_told_ K) N_told_ := pureM rfl fun E =>
 (s_seq (s_asg (SimE.f (e_ref (l_call sp_id (a_cons (SimQ.e q_var) a_nil)))))
 (s_ret (f_if (SimQT.t (qt_test (q_op r2_isNo (SimQ.w q_var) (SimQ.w q_non)))) (f_call sp_id (a_cons (SimQ.e q_var) a_nil)) (SimE.f (SimQ.e q_var)))))
theorem _root_.W.pure_law (T : Tx w K mg) : PurT (S_law K) (t_law K) N_law := pureM rfl fun E =>
 (s_seq (s_asg (SimE.f (SimF.e (f_call sp_begun (a_cons (SimQ.e q_var) a_nil)))))
 (s_seq (s_asg (SimE.f (SimQ.e (SimN.q (n_lst (aq_cons q_str (aq_cons q_str (aq_cons q_str (aq_cons q_str (aq_cons q_str (aq_cons q_str (aq_cons q_str (aq_cons q_str (aq_cons q_str aq_nil))))))))))))))
 (s_seq (s_asg (SimE.f (SimQ.e (SimN.q (n_op r2n_add (SimQ.w q_var) (SimQ.w (SimN.q (n_lst (aq_cons q_str (aq_cons q_str (aq_cons q_str (aq_cons q_str (aq_cons q_str aq_nil)))))))))))))
 (s_seq (s_asg (SimE.f (SimQ.e (SimN.q (n_op r2n_add (SimQ.w q_var) (SimQ.w (SimN.q (n_lst (aq_cons (q_op r2_mulT (SimQ.w q_str) (SimQ.w q_int)) (aq_cons q_str aq_nil))))))))))
 (s_seq (s_for (i_rng1 (a_cons (SimQ.e q_int) a_nil)) g_name'
 (s_seq (s_asg (SimE.f (e_op r2_ix (SimF.e (f_lst (a_cons (SimF.e (f_call sp_id (a_cons (SimF.e (f_call sp_id (a_cons (SimQ.e q_var) a_nil))) a_nil))) (a_cons (e_op r2_ix (SimQ.e q_var) (SimF.e (f_call sp_take (a_cons (SimQ.e q_var) (a_cons (SimQ.e q_int) a_nil))))) a_nil)))) (e_op (r2_i (fun _ _ => c_div) fun _ _ _ _ => by rfl) (SimF.e (f_call sp_take (a_cons (SimQ.e q_var) (a_cons (SimQ.e q_int) a_nil)))) (SimQ.e q_int)))))
 (s_seq (s_for (i_rng1 (a_cons (SimF.e (f_call sp_take (a_cons (SimQ.e q_var) (a_cons (SimQ.e q_int) a_nil)))) a_nil)) g_name'
 (s_asg (SimE.f (SimF.e (f_call sp_id (a_cons (SimQ.e q_var) (a_cons (SimQ.e q_var) a_nil)))))))
 (s_seq (s_if (t_test (e_op r2_eq (SimF.e (f_call sp_take (a_cons (SimQ.e q_var) (a_cons (SimQ.e q_int) a_nil)))) (SimQ.e q_int)))
 (s_asg (SimE.f (SimF.e (f_call sp_id (a_cons (SimQ.e q_var) (a_cons (SimQ.e q_var) a_nil))))))
 s_next)
 (s_seq (s_asg (SimE.f (SimF.e (f_call sp_id (a_cons (SimQ.e q_var) a_nil)))))
 (s_if (t_or (t_not (t_tr (SimF.e (f_call sp_alike (a_cons (SimF.e (f_call sp_id (a_cons (SimQ.e q_var) a_nil))) (a_cons (SimQ.e q_var) a_nil)))))) (t_not (t_tr (SimF.e (f_call sp_alike (a_cons (SimF.e (f_call sp_id (a_cons (SimQ.e q_var) a_nil))) (a_cons (SimQ.e q_var) a_nil)))))))
 (s_ret (SimE.f (SimQ.e q_bl)))
 s_next))))))
 (s_ret (SimE.f (SimQ.e q_bl))))))))
end
end N
namespace W
open PySem PySem.Spec PyProof.Rows L2 Cm N
section
variable {w : World} {K : PySem.W.Frag} {mg : Str → Option Value}
theorem pure_BadText_init (T : Tx w K mg) (vs : List V) (H : Hp) (Q : VK) (E : XK) (h : S_BadText_init K vs H Q E) : t_BadText_init K E { nx := fun _ H' => Q .non H', rt := Q } (start N_BadText_init vs) H := by
 obtain ⟨_, y, rfl, a, rfl, ha, k⟩ := h
 unfold t_BadText_init
 walk_at "run"
 refine ⟨_, rfl, a, _, [.str "a bad row"], rfl, by show 1 ≤ 1000; decide, T.x_BadText.ox, ha, ?_⟩
 walk_at "run"
 refine ⟨_, rfl, _, rfl, a, _, rfl, T.x_BadText.ox, T.x_BadText.no, .inl ⟨ha, fun dx h1 h2 => k dx h1 h2⟩⟩
theorem pure_BadDeal_init (T : Tx w K mg) (vs : List V) (H : Hp) (Q : VK) (E : XK) (h : S_BadDeal_init K vs H Q E) : t_BadDeal_init K E { nx := fun _ H' => Q .non H', rt := Q } (start N_BadDeal_init vs) H := by
 obtain ⟨_, y, rfl, a, rfl, ha, k⟩ := h
 unfold t_BadDeal_init
 walk_at "run"
 refine ⟨_, rfl, a, _, [.str "no deal"], rfl, by show 1 ≤ 1000; decide, T.x_BadDeal.ox, ha, ?_⟩
 walk_at "run"
 refine ⟨_, rfl, _, rfl, a, _, rfl, T.x_BadDeal.ox, T.x_BadDeal.no, .inl ⟨ha, fun dx h1 h2 => k dx h1 h2⟩⟩
theorem pure_is_from (T : Tx w K mg) (vs : List V) (H : Hp) (Q : VK) (E : XK) (h : S_is_from K vs H Q E) : t_is_from K E { nx := fun _ H' => Q .non H', rt := Q } (L2.start N_is_from vs) H := pureQ (N := N_is_from) (t := t_is_from K) (te := fun E => (tChain (rI0 fun i j => .bl (decide (i ≤ j))) (rI0 fun i j => .bl (decide (i ≤ j))) (tVar 1) (tVar 0) (tVar 2))) (fun _ => rfl) (fun E => sim_is_from T E) (fun _ _ => rfl) vs H Q E h
end
end W
end
section
local macro_rules | `(tactic| walk_at "st") => `(tactic| first
 | (with_reducible refine Cm.s_seq ?_) | (with_reducible refine Cm.s_asg ?_) | (with_reducible refine Cm.s_drop ?_) | (with_reducible refine Cm.s_ret ?_) | (with_reducible refine Cm.s_if ?_) | (with_reducible refine Cm.s_next ?_) | (with_reducible refine Cm.s_retN ?_) | (with_reducible refine Cm.s_rs ?_) | (with_reducible refine Cm.s_fld0 ?_)
 | ((with_reducible refine' Cm.e_var ?hv ?_); (case hv => exact rfl))
 | (with_reducible refine Cm.e_c ?_) | (with_reducible refine Cm.e_op ?_) | (with_reducible refine Cm.e_un ?_) | (with_reducible refine Cm.e_nil ?_) | (with_reducible refine Cm.e_cons ?_) | (with_reducible refine Cm.e_tup ?_) | (with_reducible refine Cm.e_lst ?_) | (with_reducible refine Cm.e_cb ?_) | (with_reducible refine Cm.e_call ?_) | (with_reducible refine Cm.e_if ?_)
 | (with_reducible refine Cm.e_andV ?_) | (with_reducible refine Cm.e_orV ?_) | (with_reducible refine Cm.e_notV ?_) | (with_reducible refine Cm.e_fld0 ?_) | (with_reducible refine Cm.e_meth0 ?_) | (with_reducible refine Cm.e_bm0 ?_) | (with_reducible refine Cm.e_bm ?_) | (with_reducible refine Cm.e_sl ?_) | (with_reducible refine Cm.o_none ?_) | (with_reducible refine Cm.o_some ?_) | (with_reducible refine Cm.e_dnew ?_)
 | (with_reducible refine Cm.e_test ?_) | (with_reducible refine Cm.e_tr ?_) | (with_reducible refine Cm.e_and ?_) | (with_reducible refine Cm.e_or ?_) | (with_reducible refine Cm.e_not ?_) | (with_reducible refine Cm.e_yes ?_) | (with_reducible refine Cm.e_chain ?_)
 | (with_reducible refine Cm.r_i0 ?_) | (with_reducible refine Cm.r_u ?_) | (with_reducible refine Cm.r_isNo ?_) | (with_reducible refine Cm.r_notNo ?_) | (with_reducible refine Cm.r_addI ?_) | (with_reducible refine Cm.r_int1b ?_) | (with_reducible refine Cm.r_max2 ?_)
 | ((with_reducible refine Cm.r_i ?hc ?_); (case hc => walk_at "num"))
 | ((with_reducible refine Cm.r_mulI ?hc ?_); (case hc => walk_at "num"))
 | ((with_reducible refine Cm.r_eqS ?hc ?_); (case hc => exact rfl))
 | ((with_reducible refine Cm.r_neS ?hc ?_); (case hc => exact rfl))
 | ((with_reducible refine' Cm.r_ixl ?h1 ?h2 ?_); (case h1 => walk_at "look"); (case h2 => walk_at "at"))
 | ((with_reducible refine' Cm.r_ixt ?h1 ?h2 ?_); (case h1 => walk_at "look"); (case h2 => walk_at "at"))
 | ((with_reducible refine' Cm.r_ixT ?h1 ?h2 ?_); (case h1 => walk_at "lookT"); (case h2 => walk_at "at"))
 | ((with_reducible refine' Cm.r_ixds ?h1 ?h2 ?_); (case h1 => walk_at "look"); (case h2 => walk_at "key"))
 | ((with_reducible refine' Cm.r_eqe ?h1 ?h2 ?_); (case h1 => walk_at "look"); (case h2 => walk_at "look"))
 | ((with_reducible refine' Cm.r_nee ?h1 ?h2 ?_); (case h1 => walk_at "look"); (case h2 => walk_at "look"))
 | ((with_reducible refine' Cm.r_lenl ?h1 ?_); (case h1 => walk_at "look"))
 | ((with_reducible refine' Cm.r_lent ?h1 ?_); (case h1 => walk_at "look"))
 | ((with_reducible refine' Cm.r_lenT ?h1 ?_); (case h1 => walk_at "lookT"))
 | ((with_reducible refine' Cm.r_listl ?h1 ?_); (case h1 => walk_at "look"); (intro _ _))
 | ((with_reducible refine' Cm.r_tupl ?h1 ?_); (case h1 => walk_at "look"); (intro _ _))
 | ((with_reducible refine' Cm.r_addL ?h1 ?h2 ?h3 ?_); (case h1 => walk_at "look"); (case h2 => walk_at "look"); (case h3 => walk_at "size"); (intro _ _))
 | ((with_reducible refine' Cm.m_append ?h1 ?h2 ?_); (case h1 => walk_at "look"); (case h2 => walk_at "size"))
 | ((with_reducible refine' Cm.m_clear ?h1 ?_); (case h1 => walk_at "look"))
 | ((with_reducible refine' Cm.g_setL ?h1 ?h2 ?_); (case h1 => walk_at "look"); (case h2 => walk_at "ix"))
 | ((with_reducible refine' Cm.g_setDs ?h1 ?h2 ?h3 ?_); (case h1 => walk_at "look"); (case h2 => walk_at "size"); (case h3 => walk_at "put"))
 | ((with_reducible refine' Cm.fld_at ?h1 ?h2 ?h3 ?h4 ?_); (case h1 => walk_at "look"); (case h2 => assumption); (case h3 => assumption); (case h4 => walk_at "key"))
 | ((with_reducible refine' Cm.fldset_at ?h1 ?h2 ?h3 ?h4 ?h5 ?_); (case h1 => walk_at "look"); (case h2 => assumption); (case h3 => assumption); (case h4 => walk_at "size"); (case h5 => walk_at "put"))
 | (with_reducible refine Cm.s_fldaug0 ?_)
 | ((with_reducible refine' Cm.aug_at ?h1 ?h2 ?h3 ?h4 ?_); (case h1 => walk_at "look"); (case h2 => assumption); (case h3 => assumption); (case h4 => walk_at "key"))
 | ((with_reducible refine' Cm.augset_at ?h1 ?h4 ?h5 ?_); (case h1 => walk_at "look"); (case h4 => walk_at "size"); (case h5 => walk_at "put"))
 | (with_reducible refine Cm.in_sub_at ?_) | (with_reducible refine Cm.in_add_at ?_)
 | ((with_reducible refine' Cm.meth_at ?h1 ?h2 ?_); (case h1 => walk_at "look"); (case h2 => walk_at "key"))
 | ((with_reducible refine Cm.new_at ?h1 ?_); (case h1 => walk_at "size"); (intro _ _))
 | ((with_reducible refine Cm.and_at (A := L2.tyV _ "list" _ _) ?h1 ?_); (case h1 => exact Cm.ty_lst (by walk_at "look")))
 | ((with_reducible refine' Cm.g_tupt ?h1 ?h2 ?_); (case h1 => walk_at "look"); (case h2 => exact rfl))
 | ((with_reducible refine' Cm.g_tup ?h1 ?h2 ?_); (case h1 => walk_at "lookT"); (case h2 => exact rfl))
 | (with_reducible refine Cm.g_name ?_) | (with_reducible refine Cm.g_sub ?_) | (with_reducible refine Cm.g_cons ?_) | (with_reducible refine Cm.g_nil ?_)
 | (with_reducible refine Cm.int_at ?_) | (with_reducible refine Cm.bl_at ?_) | (with_reducible refine Cm.tr_bl ?_) | (with_reducible refine Cm.tr_non ?_)
 | ((with_reducible refine' Cm.m_pop0 ?h1 ?_); (case h1 => walk_at "look"))
 | ((with_reducible refine' Cm.r_slTo ?h1 ?h2 ?_); (case h1 => walk_at "look"); (case h2 => walk_at "num2"); (intro _ _))
 | ((with_reducible refine' Cm.r_slFrom ?h1 ?h2 ?_); (case h1 => walk_at "look"); (case h2 => walk_at "num2"); (intro _ _))
 | ((with_reducible refine' Cm.at_forL ?h1 ?_); (case h1 => walk_at "look"))
 | ((with_reducible refine' Cm.at_forT ?h1 ?_); (case h1 => walk_at "look"))
 | ((with_reducible refine' Cm.at_forR ?h1 ?h2 ?_); (case h1 => walk_at "num2"); (case h2 => walk_at "num2"))
 | ((with_reducible refine' Cm.at_forZ ?h1 ?h2 ?_); (case h1 => walk_at "look"); (case h2 => walk_at "look"))
 | (with_reducible refine Cm.s_forZ ?_) | (with_reducible refine Cm.s_forR ?_)
 | ((with_reducible refine Cm.and_at (A := _ = _) ?h1 ?_); (case h1 => exact rfl))
 | ((with_reducible show L2.rIsi _ _ _ _); walk_at "isi")
 | (with_reducible refine Cm.ite_nt ?_) | (with_reducible refine Cm.ite_nf ?_)
 | (with_reducible refine L2.iteT ?_) | (with_reducible refine L2.iteF ?_)
 | dsimp only
 | fail)
local macro_rules | `(tactic| walk_at "run") => `(tactic| repeat (walk_at "st"))
local macro_rules | `(tactic| walk_at "num") => `(tactic| first
 | exact Or.inr ⟨by decide, by decide⟩ | exact Or.inl ⟨by decide, by decide⟩
 | exact Cm.wdiv (by first | decide | omega) (by first | decide | omega)
 | (show (0 : Int) < _; first | decide | omega)
 | exact ⟨by decide, by decide, by decide⟩
 | fail)
local macro_rules | `(tactic| walk_at "put") => `(tactic| exact rfl)
local macro_rules | `(tactic| walk_at "fl") => `(tactic| first | exact Cm.fl0 | (refine' Cm.flS ?hz; (case hz => walk_at "fl")) | fail)
local macro_rules | `(tactic| walk_at "size") => `(tactic| first | exact Cm.sz_lit rfl | exact Cm.sz_lt rfl | exact Cm.fs_lt rfl | decide | (refine' Nat.lt_of_le_of_lt ?ha ?hb; (case ha => walk_at "fl"); (case hb => decide)) | (simp only [List.length_cons, List.length_nil, List.length_append, List.length_map, List.length_set, List.length_replicate, PySem.sizeLine_eq]; omega) | (simp only [List.length_cons, List.length_nil, List.length_append, List.length_map, List.length_set, List.length_replicate, PySem.sizeLine_eq] at *; omega) | fail)
local macro_rules | `(tactic| walk_at "at") => `(tactic| first | assumption | (with_reducible exact Cm.at0) | (with_reducible exact Cm.at1) | (with_reducible exact Cm.at2) | (with_reducible exact Cm.at3) | (with_reducible exact Cm.at4) | (with_reducible exact Cm.at5) | (with_reducible exact Cm.at6) | (with_reducible exact Cm.at7) | (with_reducible exact Cm.at8) | (with_reducible exact Cm.at0s) | (with_reducible exact Cm.at1s) | (with_reducible exact Cm.at01s) | (with_reducible exact Cm.at10s) | fail)
local macro_rules | `(tactic| walk_at "ix") => `(tactic| first | exact Cm.ix0 (by walk_at "size") | exact Cm.ix1 (by walk_at "size") | assumption | fail)
local macro_rules | `(tactic| walk_at "key") => `(tactic| first | assumption | fail)
local macro_rules | `(tactic| walk_at "ne") => `(tactic| first
 | assumption
 | (refine Ne.symm ?_; assumption)
 | (refine' L2.ne_of_none ?h1 ?h2; (case h2 => assumption); (case h1 => walk_at "look"))
 | (refine' Ne.symm (L2.ne_of_none ?h1 ?h2); (case h2 => assumption); (case h1 => walk_at "look"))
 | fail)
local macro_rules | `(tactic| walk_at "lookT") => `(tactic| first
 | assumption
 | exact L2.SqT.of (by walk_at "look")
 | fail)
local macro_rules | `(tactic| walk_at "look") => `(tactic| first
 | assumption
 | exact L2.upd_same
 | ((fail_if_success (with_reducible refine Eq.trans L2.upd_same ?_)); (refine' Eq.trans (L2.upd_ne ?h1) ?h2); (case h1 => walk_at "ne"); (case h2 => walk_at "look"))
 | (refine' Cm.kp_look ?h1 ?h2 ?h3 ?h4; (case h1 => assumption); (case h2 => walk_at "look"); (case h3 => intro _ z; cases z); (case h4 => first | exact Or.inl rfl | exact Or.inr (by walk_at "out")))
 | fail)
local macro_rules | `(tactic| walk_at "out") => `(tactic| first
 | assumption
 | exact fun z => z
 | exact fun z => z.elim (fun e => absurd e (by walk_at "ne")) (fun e => absurd e (by walk_at "ne"))
 | exact fun e => absurd e (by walk_at "ne")
 | fail)
local macro_rules | `(tactic| walk_at "dom") => `(tactic| first
 | exact Cm.dm_refl
 | (refine Cm.dm_upd ?_; walk_at "dom")
 | (refine' Cm.dm_kp ?h1 ?h2; (case h2 => assumption); (case h1 => walk_at "dom"))
 | fail)
local macro_rules | `(tactic| walk_at "free") => `(tactic| first
 | assumption
 | exact Cm.nw_of (by assumption)
 | (refine' Cm.dm_use ?h1 ?h2; (case h2 => assumption); (case h1 => walk_at "dom"))
 | (refine' Cm.dm_use2 ?h1 ?h2; (case h2 => assumption); (case h1 => walk_at "dom"))
 | fail)
local macro_rules | `(tactic| walk_at "in") => `(tactic| first
 | exact Or.inl rfl | exact Or.inl (Or.inl rfl) | exact Or.inl (Or.inr rfl) | exact Or.inl (Or.inr (Or.inl rfl)) | exact Or.inl (Or.inr (Or.inr rfl))
 | exact Or.inl (by assumption)
 | exact Or.inr (by walk_at "free")
 | fail)
local macro_rules | `(tactic| walk_at "kp") => `(tactic| first
 | assumption
 | exact Cm.Kp.refl
 | (refine' Cm.Kp.new' ?h1 ?h2; (case h2 => assumption); (case h1 => walk_at "kp"))
 | (refine' Cm.Kp.setX' ?h1 ?h2 ?h4 ?h5 ?h3; (case h2 => walk_at "look"); (case h4 => exact rfl); (case h5 => intro _ z; cases z); (case h3 => walk_at "in"); (case h1 => walk_at "kp"))
 | (refine' Cm.kp_step ?h1 ?h2 ?h3; (case h2 => assumption); (case h3 => walk_at "sub"); (case h1 => walk_at "kp"))
 | fail)
local macro_rules | `(tactic| walk_at "sub") => `(tactic| first
 | exact fun _ z => z.elim
 | exact fun _ z => Or.inl z
 | (intro a z; rcases z with rfl | rfl <;> walk_at "in")
 | (intro a z; subst z; walk_at "in")
 | fail)
local macro_rules | `(tactic| walk_at "num2") => `(tactic| first | decide | omega | fail)
local macro_rules | `(tactic| walk_at "isi") => `(tactic| first | (with_reducible refine Cm.isi_non_bool ?_) | (with_reducible refine Cm.isi_non_int ?_) | (with_reducible refine Cm.isi_non_str ?_) | (with_reducible refine Cm.isi_non_tuple ?_) | (with_reducible refine Cm.isi_non_list ?_) | (with_reducible refine Cm.isi_bl_bool ?_) | (with_reducible refine Cm.isi_bl_int ?_) | (with_reducible refine Cm.isi_bl_str ?_) | (with_reducible refine Cm.isi_bl_tuple ?_) | (with_reducible refine Cm.isi_bl_list ?_) | (with_reducible refine Cm.isi_int_bool ?_) | (with_reducible refine Cm.isi_int_int ?_) | (with_reducible refine Cm.isi_int_str ?_) | (with_reducible refine Cm.isi_int_tuple ?_) | (with_reducible refine Cm.isi_int_list ?_) | (with_reducible refine Cm.isi_str_bool ?_) | (with_reducible refine Cm.isi_str_int ?_) | (with_reducible refine Cm.isi_str_str ?_) | (with_reducible refine Cm.isi_str_tuple ?_) | (with_reducible refine Cm.isi_str_list ?_) | ((with_reducible refine' Cm.isi_tup_bool ?h1 ?_); (case h1 => walk_at "look")) | ((with_reducible refine' Cm.isi_tup_int ?h1 ?_); (case h1 => walk_at "look")) | ((with_reducible refine' Cm.isi_tup_str ?h1 ?_); (case h1 => walk_at "look")) | ((with_reducible refine' Cm.isi_tup_tuple ?h1 ?_); (case h1 => walk_at "look")) | ((with_reducible refine' Cm.isi_tup_list ?h1 ?_); (case h1 => walk_at "look")) | ((with_reducible refine' Cm.isi_lst_bool ?h1 ?_); (case h1 => walk_at "look")) | ((with_reducible refine' Cm.isi_lst_int ?h1 ?_); (case h1 => walk_at "look")) | ((with_reducible refine' Cm.isi_lst_str ?h1 ?_); (case h1 => walk_at "look")) | ((with_reducible refine' Cm.isi_lst_tuple ?h1 ?_); (case h1 => walk_at "look")) | ((with_reducible refine' Cm.isi_lst_list ?h1 ?_); (case h1 => walk_at "look")) | fail)
local macro_rules | `(tactic| walk_at "st") => `(tactic| first
 | ((with_reducible refine Cm.and_at (A := L2.tyV _ "dict" _ _) ?h1 ?_); (case h1 => exact Cm.ty_dic (by walk_at "look")))
 | (with_reducible refine Cm.e_dget2 ?_) | (with_reducible refine Cm.e_dpop2 ?_) | (with_reducible refine Cm.e_dpop1 ?_) | (with_reducible refine Cm.s_rx ?_)
 | ((with_reducible refine' Cm.isd_at ?h1 ?_); (case h1 => walk_at "look"))
 | ((with_reducible refine' Cm.get_at ?h1 ?_); (case h1 => walk_at "look"))
 | ((with_reducible refine' Cm.pop1_at ?h1 ?h2 ?_); (case h1 => walk_at "look"); (case h2 => assumption))
 | ((with_reducible refine' Cm.r_dictD ?h1 ?_); (case h1 => walk_at "look"); (intro _ _))
 | ((with_reducible refine' Cm.r_lenD ?h1 ?_); (case h1 => walk_at "look"))
 | ((with_reducible refine' Cm.r_ixdi ?h1 ?h2 ?_); (case h1 => walk_at "look"); (case h2 => assumption))
 | ((with_reducible refine' Cm.g_setdi ?h1 ?h2 ?_); (case h1 => walk_at "look"); (case h2 => first | assumption | omega))
 | (with_reducible refine Cm.r_min2 ?_)
 | (with_reducible refine W.r_eq_lv ?_) | (with_reducible refine W.r_ne_lv ?_) | (with_reducible refine W.r_isNo_lv ?_) | (with_reducible refine W.r_notNo_lv ?_)
 | fail)
namespace W
open PySem PySem.Spec PyProof.Rows L2 Cm
section
variable {w : World} {K : PySem.W.Frag} {mg : Str → Option Value}
theorem pure_take_ (vs : List V) (H : Hp) (Q : VK) (E : XK) (h : S_take_ K vs H Q E) : t_take_ K E { nx := fun _ H' => Q .non H', rt := Q } (start N_take_ vs) H := by
 obtain ⟨_, _, rfl, b, l, m, rfl, rfl, B, m0, m1, k⟩ := h
 obtain ⟨ns, z, hb, hl, hn⟩ := id B
 have nbl := B.ne
 unfold t_take_
 walk_at "run"
 refine if_b (fun hE => ?_) (fun hE => ?_)
 ·walk_at "run"
  exact k _ _ (Int.emod_nonneg _ (by omega)) (Int.emod_lt_of_pos _ m0) ⟨ns, _, by walk_at "look", by walk_at "look", hn⟩ (by walk_at "kp")
 ·cases ns with
  | nil => cases hE
  | cons n ns =>
   have hn' : ns.length ≤ 62 := by simpa using hn
   rw [List.map_cons] at hl
   walk_at "run"
   refine if_d (fun h => ?_) (fun h => ?_)
   ·walk_at "run"
    exact k _ _ (Int.emod_nonneg _ (by omega)) (Int.emod_lt_of_pos _ m0) ⟨ns, _, by walk_at "look", by walk_at "look", by omega⟩ (by walk_at "kp")
   ·walk_at "run"
    refine if_d (fun h => ?_) (fun h => ?_)
    ·walk_at "run"
     exact k _ _ (Int.emod_nonneg _ (by omega)) (Int.emod_lt_of_pos _ m0) ⟨ns, _, by walk_at "look", by walk_at "look", by omega⟩ (by walk_at "kp")
    ·walk_at "run"
     exact k _ _ (Int.emod_nonneg _ (by omega)) (Int.emod_lt_of_pos _ m0) ⟨(n / m) :: ns, _, by walk_at "look", by walk_at "look", by simp; omega⟩ (by walk_at "kp")
theorem pure_begun_ (vs : List V) (H : Hp) (Q : VK) (E : XK) (h : S_begun_ K vs H Q E) : t_begun_ K E { nx := fun _ H' => Q .non H', rt := Q } (start N_begun_ vs) H := by
 obtain ⟨_, rfl, a, ns, rfl, hS, hn, k⟩ := h
 unfold t_begun_
 walk_at "run"
 refine s_forL ?_
 walk_at "run"
 refine ⟨a, rfl, ⟨_, hS⟩, ?_⟩
 refine forLs (xs := ns.map V.int) (fun i σ' H' => ∃ (z : Int) (v : Option V), σ' = [some (.ref a), some (.int z), v] ∧ H' = H) ⟨0, none, rfl, rfl⟩ (fun i σ' H' z => by obtain ⟨_, _, _, rfl⟩ := z; exact hS) ?_ ?_
 ·rintro i x σ' H' hx ⟨z, v, rfl, rfl⟩
  obtain ⟨u, rfl⟩ : ∃ u, x = V.int u := by
   rw [List.getElem?_map] at hx
   cases e : ns[i]? with
   | none => rw [e] at hx; cases hx
   | some u => rw [e] at hx; exact ⟨u, (Option.some.inj hx).symm⟩
  walk_at "run"
  exact ⟨_, _, rfl, rfl⟩
 ·rintro σ' H' ⟨z, v, rfl, rfl⟩
  walk_at "run"
  refine r_listL hS (fun l hl => ?_)
  walk_at "run"
  refine r_lenL (xs := ns.map V.int) ?_ ?_
  ·rcases hS with (h | ⟨o, h⟩) | h
   ·exact SqL.of (by walk_at "look")
   ·exact .inl (.inr ⟨o, by walk_at "look"⟩)
   ·exact .inr h
  ·walk_at "run"
   refine r_mulI ?_ ?_
   ·refine .inr ?_
    split <;> exact ⟨by decide, by decide⟩
   walk_at "run"
   rename_i b hb
   exact k b l _ ⟨ns, _, by walk_at "look", by walk_at "look", hn⟩ (by walk_at "free") (.inl hl) (by walk_at "kp")
end
end W
end
section
local macro_rules | `(tactic| walk_at "st") => `(tactic| first
 | (with_reducible refine Cm.s_seq ?_) | (with_reducible refine Cm.s_asg ?_) | (with_reducible refine Cm.s_drop ?_) | (with_reducible refine Cm.s_ret ?_) | (with_reducible refine Cm.s_if ?_) | (with_reducible refine Cm.s_next ?_) | (with_reducible refine Cm.s_retN ?_) | (with_reducible refine Cm.s_rs ?_) | (with_reducible refine Cm.s_fld0 ?_)
 | ((with_reducible refine' Cm.e_var ?hv ?_); (case hv => exact rfl))
 | (with_reducible refine Cm.e_c ?_) | (with_reducible refine Cm.e_op ?_) | (with_reducible refine Cm.e_un ?_) | (with_reducible refine Cm.e_nil ?_) | (with_reducible refine Cm.e_cons ?_) | (with_reducible refine Cm.e_tup ?_) | (with_reducible refine Cm.e_lst ?_) | (with_reducible refine Cm.e_cb ?_) | (with_reducible refine Cm.e_call ?_) | (with_reducible refine Cm.e_if ?_)
 | (with_reducible refine Cm.e_andV ?_) | (with_reducible refine Cm.e_orV ?_) | (with_reducible refine Cm.e_notV ?_) | (with_reducible refine Cm.e_fld0 ?_) | (with_reducible refine Cm.e_meth0 ?_) | (with_reducible refine Cm.e_bm0 ?_) | (with_reducible refine Cm.e_bm ?_) | (with_reducible refine Cm.e_sl ?_) | (with_reducible refine Cm.o_none ?_) | (with_reducible refine Cm.o_some ?_) | (with_reducible refine Cm.e_dnew ?_)
 | (with_reducible refine Cm.e_test ?_) | (with_reducible refine Cm.e_tr ?_) | (with_reducible refine Cm.e_and ?_) | (with_reducible refine Cm.e_or ?_) | (with_reducible refine Cm.e_not ?_) | (with_reducible refine Cm.e_yes ?_) | (with_reducible refine Cm.e_chain ?_)
 | (with_reducible refine Cm.r_i0 ?_) | (with_reducible refine Cm.r_u ?_) | (with_reducible refine Cm.r_isNo ?_) | (with_reducible refine Cm.r_notNo ?_) | (with_reducible refine Cm.r_addI ?_) | (with_reducible refine Cm.r_int1b ?_) | (with_reducible refine Cm.r_max2 ?_)
 | ((with_reducible refine Cm.r_i ?hc ?_); (case hc => walk_at "num"))
 | ((with_reducible refine Cm.r_mulI ?hc ?_); (case hc => walk_at "num"))
 | ((with_reducible refine Cm.r_eqS ?hc ?_); (case hc => exact rfl))
 | ((with_reducible refine Cm.r_neS ?hc ?_); (case hc => exact rfl))
 | ((with_reducible refine' Cm.r_ixl ?h1 ?h2 ?_); (case h1 => walk_at "look"); (case h2 => walk_at "at"))
 | ((with_reducible refine' Cm.r_ixt ?h1 ?h2 ?_); (case h1 => walk_at "look"); (case h2 => walk_at "at"))
 | ((with_reducible refine' Cm.r_ixT ?h1 ?h2 ?_); (case h1 => walk_at "lookT"); (case h2 => walk_at "at"))
 | ((with_reducible refine' Cm.r_ixds ?h1 ?h2 ?_); (case h1 => walk_at "look"); (case h2 => walk_at "key"))
 | ((with_reducible refine' Cm.r_eqe ?h1 ?h2 ?_); (case h1 => walk_at "look"); (case h2 => walk_at "look"))
 | ((with_reducible refine' Cm.r_nee ?h1 ?h2 ?_); (case h1 => walk_at "look"); (case h2 => walk_at "look"))
 | ((with_reducible refine' Cm.r_lenl ?h1 ?_); (case h1 => walk_at "look"))
 | ((with_reducible refine' Cm.r_lent ?h1 ?_); (case h1 => walk_at "look"))
 | ((with_reducible refine' Cm.r_lenT ?h1 ?_); (case h1 => walk_at "lookT"))
 | ((with_reducible refine' Cm.r_listl ?h1 ?_); (case h1 => walk_at "look"); (intro _ _))
 | ((with_reducible refine' Cm.r_tupl ?h1 ?_); (case h1 => walk_at "look"); (intro _ _))
 | ((with_reducible refine' Cm.r_addL ?h1 ?h2 ?h3 ?_); (case h1 => walk_at "look"); (case h2 => walk_at "look"); (case h3 => walk_at "size"); (intro _ _))
 | ((with_reducible refine' Cm.m_append ?h1 ?h2 ?_); (case h1 => walk_at "look"); (case h2 => walk_at "size"))
 | ((with_reducible refine' Cm.m_clear ?h1 ?_); (case h1 => walk_at "look"))
 | ((with_reducible refine' Cm.g_setL ?h1 ?h2 ?_); (case h1 => walk_at "look"); (case h2 => walk_at "ix"))
 | ((with_reducible refine' Cm.g_setDs ?h1 ?h2 ?h3 ?_); (case h1 => walk_at "look"); (case h2 => walk_at "size"); (case h3 => walk_at "put"))
 | ((with_reducible refine' Cm.fld_at ?h1 ?h2 ?h3 ?h4 ?_); (case h1 => walk_at "look"); (case h2 => assumption); (case h3 => assumption); (case h4 => walk_at "key"))
 | ((with_reducible refine' Cm.fldset_at ?h1 ?h2 ?h3 ?h4 ?h5 ?_); (case h1 => walk_at "look"); (case h2 => assumption); (case h3 => assumption); (case h4 => walk_at "size"); (case h5 => walk_at "put"))
 | (with_reducible refine Cm.s_fldaug0 ?_)
 | ((with_reducible refine' Cm.aug_at ?h1 ?h2 ?h3 ?h4 ?_); (case h1 => walk_at "look"); (case h2 => assumption); (case h3 => assumption); (case h4 => walk_at "key"))
 | ((with_reducible refine' Cm.augset_at ?h1 ?h4 ?h5 ?_); (case h1 => walk_at "look"); (case h4 => walk_at "size"); (case h5 => walk_at "put"))
 | (with_reducible refine Cm.in_sub_at ?_) | (with_reducible refine Cm.in_add_at ?_)
 | ((with_reducible refine' Cm.meth_at ?h1 ?h2 ?_); (case h1 => walk_at "look"); (case h2 => walk_at "key"))
 | ((with_reducible refine Cm.new_at ?h1 ?_); (case h1 => walk_at "size"); (intro _ _))
 | ((with_reducible refine Cm.and_at (A := L2.tyV _ "list" _ _) ?h1 ?_); (case h1 => exact Cm.ty_lst (by walk_at "look")))
 | ((with_reducible refine' Cm.g_tupt ?h1 ?h2 ?_); (case h1 => walk_at "look"); (case h2 => exact rfl))
 | ((with_reducible refine' Cm.g_tup ?h1 ?h2 ?_); (case h1 => walk_at "lookT"); (case h2 => exact rfl))
 | (with_reducible refine Cm.g_name ?_) | (with_reducible refine Cm.g_sub ?_) | (with_reducible refine Cm.g_cons ?_) | (with_reducible refine Cm.g_nil ?_)
 | (with_reducible refine Cm.int_at ?_) | (with_reducible refine Cm.bl_at ?_) | (with_reducible refine Cm.tr_bl ?_) | (with_reducible refine Cm.tr_non ?_)
 | ((with_reducible refine' Cm.m_pop0 ?h1 ?_); (case h1 => walk_at "look"))
 | ((with_reducible refine' Cm.r_slTo ?h1 ?h2 ?_); (case h1 => walk_at "look"); (case h2 => walk_at "num2"); (intro _ _))
 | ((with_reducible refine' Cm.r_slFrom ?h1 ?h2 ?_); (case h1 => walk_at "look"); (case h2 => walk_at "num2"); (intro _ _))
 | ((with_reducible refine' Cm.at_forL ?h1 ?_); (case h1 => walk_at "look"))
 | ((with_reducible refine' Cm.at_forT ?h1 ?_); (case h1 => walk_at "look"))
 | ((with_reducible refine' Cm.at_forR ?h1 ?h2 ?_); (case h1 => walk_at "num2"); (case h2 => walk_at "num2"))
 | ((with_reducible refine' Cm.at_forZ ?h1 ?h2 ?_); (case h1 => walk_at "look"); (case h2 => walk_at "look"))
 | (with_reducible refine Cm.s_forZ ?_) | (with_reducible refine Cm.s_forR ?_)
 | ((with_reducible refine Cm.and_at (A := _ = _) ?h1 ?_); (case h1 => exact rfl))
 | ((with_reducible show L2.rIsi _ _ _ _); walk_at "isi")
 | (with_reducible refine Cm.ite_nt ?_) | (with_reducible refine Cm.ite_nf ?_)
 | (with_reducible refine L2.iteT ?_) | (with_reducible refine L2.iteF ?_)
 | dsimp only
 | fail)
local macro_rules | `(tactic| walk_at "run") => `(tactic| repeat (walk_at "st"))
local macro_rules | `(tactic| walk_at "num") => `(tactic| first
 | exact Or.inr ⟨by decide, by decide⟩ | exact Or.inl ⟨by decide, by decide⟩
 | exact Cm.wdiv (by first | decide | omega) (by first | decide | omega)
 | (show (0 : Int) < _; first | decide | omega)
 | exact ⟨by decide, by decide, by decide⟩
 | fail)
local macro_rules | `(tactic| walk_at "put") => `(tactic| exact rfl)
local macro_rules | `(tactic| walk_at "fl") => `(tactic| first | exact Cm.fl0 | (refine' Cm.flS ?hz; (case hz => walk_at "fl")) | fail)
local macro_rules | `(tactic| walk_at "size") => `(tactic| first | exact Cm.sz_lit rfl | exact Cm.sz_lt rfl | exact Cm.fs_lt rfl | decide | (refine' Nat.lt_of_le_of_lt ?ha ?hb; (case ha => walk_at "fl"); (case hb => decide)) | (simp only [List.length_cons, List.length_nil, List.length_append, List.length_map, List.length_set, List.length_replicate, PySem.sizeLine_eq]; omega) | (simp only [List.length_cons, List.length_nil, List.length_append, List.length_map, List.length_set, List.length_replicate, PySem.sizeLine_eq] at *; omega) | fail)
local macro_rules | `(tactic| walk_at "at") => `(tactic| first | assumption | (with_reducible exact Cm.at0) | (with_reducible exact Cm.at1) | (with_reducible exact Cm.at2) | (with_reducible exact Cm.at3) | (with_reducible exact Cm.at4) | (with_reducible exact Cm.at5) | (with_reducible exact Cm.at6) | (with_reducible exact Cm.at7) | (with_reducible exact Cm.at8) | (with_reducible exact Cm.at0s) | (with_reducible exact Cm.at1s) | (with_reducible exact Cm.at01s) | (with_reducible exact Cm.at10s) | fail)
local macro_rules | `(tactic| walk_at "ix") => `(tactic| first | exact Cm.ix0 (by walk_at "size") | exact Cm.ix1 (by walk_at "size") | assumption | fail)
local macro_rules | `(tactic| walk_at "key") => `(tactic| first | assumption | fail)
local macro_rules | `(tactic| walk_at "ne") => `(tactic| first
 | assumption
 | (refine Ne.symm ?_; assumption)
 | (refine' L2.ne_of_none ?h1 ?h2; (case h2 => assumption); (case h1 => walk_at "look"))
 | (refine' Ne.symm (L2.ne_of_none ?h1 ?h2); (case h2 => assumption); (case h1 => walk_at "look"))
 | fail)
local macro_rules | `(tactic| walk_at "lookT") => `(tactic| first
 | assumption
 | exact L2.SqT.of (by walk_at "look")
 | fail)
local macro_rules | `(tactic| walk_at "look") => `(tactic| first
 | assumption
 | exact L2.upd_same
 | ((fail_if_success (with_reducible refine Eq.trans L2.upd_same ?_)); (refine' Eq.trans (L2.upd_ne ?h1) ?h2); (case h1 => walk_at "ne"); (case h2 => walk_at "look"))
 | (refine' Cm.kp_look ?h1 ?h2 ?h3 ?h4; (case h1 => assumption); (case h2 => walk_at "look"); (case h3 => intro _ z; cases z); (case h4 => first | exact Or.inl rfl | exact Or.inr (by walk_at "out")))
 | fail)
local macro_rules | `(tactic| walk_at "out") => `(tactic| first
 | assumption
 | exact fun z => z
 | exact fun z => z.elim (fun e => absurd e (by walk_at "ne")) (fun e => absurd e (by walk_at "ne"))
 | exact fun e => absurd e (by walk_at "ne")
 | fail)
local macro_rules | `(tactic| walk_at "dom") => `(tactic| first
 | exact Cm.dm_refl
 | (refine Cm.dm_upd ?_; walk_at "dom")
 | (refine' Cm.dm_kp ?h1 ?h2; (case h2 => assumption); (case h1 => walk_at "dom"))
 | fail)
local macro_rules | `(tactic| walk_at "free") => `(tactic| first
 | assumption
 | exact Cm.nw_of (by assumption)
 | (refine' Cm.dm_use ?h1 ?h2; (case h2 => assumption); (case h1 => walk_at "dom"))
 | (refine' Cm.dm_use2 ?h1 ?h2; (case h2 => assumption); (case h1 => walk_at "dom"))
 | fail)
local macro_rules | `(tactic| walk_at "in") => `(tactic| first
 | exact Or.inl rfl | exact Or.inl (Or.inl rfl) | exact Or.inl (Or.inr rfl) | exact Or.inl (Or.inr (Or.inl rfl)) | exact Or.inl (Or.inr (Or.inr rfl))
 | exact Or.inl (by assumption)
 | exact Or.inr (by walk_at "free")
 | fail)
local macro_rules | `(tactic| walk_at "kp") => `(tactic| first
 | assumption
 | exact Cm.Kp.refl
 | (refine' Cm.Kp.new' ?h1 ?h2; (case h2 => assumption); (case h1 => walk_at "kp"))
 | (refine' Cm.Kp.setX' ?h1 ?h2 ?h4 ?h5 ?h3; (case h2 => walk_at "look"); (case h4 => exact rfl); (case h5 => intro _ z; cases z); (case h3 => walk_at "in"); (case h1 => walk_at "kp"))
 | (refine' Cm.kp_step ?h1 ?h2 ?h3; (case h2 => assumption); (case h3 => walk_at "sub"); (case h1 => walk_at "kp"))
 | fail)
local macro_rules | `(tactic| walk_at "sub") => `(tactic| first
 | exact fun _ z => z.elim
 | exact fun _ z => Or.inl z
 | (intro a z; rcases z with rfl | rfl <;> walk_at "in")
 | (intro a z; subst z; walk_at "in")
 | fail)
local macro_rules | `(tactic| walk_at "num2") => `(tactic| first | decide | omega | fail)
local macro_rules | `(tactic| walk_at "isi") => `(tactic| first | (with_reducible refine Cm.isi_non_bool ?_) | (with_reducible refine Cm.isi_non_int ?_) | (with_reducible refine Cm.isi_non_str ?_) | (with_reducible refine Cm.isi_non_tuple ?_) | (with_reducible refine Cm.isi_non_list ?_) | (with_reducible refine Cm.isi_bl_bool ?_) | (with_reducible refine Cm.isi_bl_int ?_) | (with_reducible refine Cm.isi_bl_str ?_) | (with_reducible refine Cm.isi_bl_tuple ?_) | (with_reducible refine Cm.isi_bl_list ?_) | (with_reducible refine Cm.isi_int_bool ?_) | (with_reducible refine Cm.isi_int_int ?_) | (with_reducible refine Cm.isi_int_str ?_) | (with_reducible refine Cm.isi_int_tuple ?_) | (with_reducible refine Cm.isi_int_list ?_) | (with_reducible refine Cm.isi_str_bool ?_) | (with_reducible refine Cm.isi_str_int ?_) | (with_reducible refine Cm.isi_str_str ?_) | (with_reducible refine Cm.isi_str_tuple ?_) | (with_reducible refine Cm.isi_str_list ?_) | ((with_reducible refine' Cm.isi_tup_bool ?h1 ?_); (case h1 => walk_at "look")) | ((with_reducible refine' Cm.isi_tup_int ?h1 ?_); (case h1 => walk_at "look")) | ((with_reducible refine' Cm.isi_tup_str ?h1 ?_); (case h1 => walk_at "look")) | ((with_reducible refine' Cm.isi_tup_tuple ?h1 ?_); (case h1 => walk_at "look")) | ((with_reducible refine' Cm.isi_tup_list ?h1 ?_); (case h1 => walk_at "look")) | ((with_reducible refine' Cm.isi_lst_bool ?h1 ?_); (case h1 => walk_at "look")) | ((with_reducible refine' Cm.isi_lst_int ?h1 ?_); (case h1 => walk_at "look")) | ((with_reducible refine' Cm.isi_lst_str ?h1 ?_); (case h1 => walk_at "look")) | ((with_reducible refine' Cm.isi_lst_tuple ?h1 ?_); (case h1 => walk_at "look")) | ((with_reducible refine' Cm.isi_lst_list ?h1 ?_); (case h1 => walk_at "look")) | fail)
local macro_rules | `(tactic| walk_at "st") => `(tactic| first
 | ((with_reducible refine Cm.and_at (A := L2.tyV _ "dict" _ _) ?h1 ?_); (case h1 => exact Cm.ty_dic (by walk_at "look")))
 | (with_reducible refine Cm.e_dget2 ?_) | (with_reducible refine Cm.e_dpop2 ?_) | (with_reducible refine Cm.e_dpop1 ?_) | (with_reducible refine Cm.s_rx ?_)
 | ((with_reducible refine' Cm.isd_at ?h1 ?_); (case h1 => walk_at "look"))
 | ((with_reducible refine' Cm.get_at ?h1 ?_); (case h1 => walk_at "look"))
 | ((with_reducible refine' Cm.pop1_at ?h1 ?h2 ?_); (case h1 => walk_at "look"); (case h2 => assumption))
 | ((with_reducible refine' Cm.r_dictD ?h1 ?_); (case h1 => walk_at "look"); (intro _ _))
 | ((with_reducible refine' Cm.r_lenD ?h1 ?_); (case h1 => walk_at "look"))
 | ((with_reducible refine' Cm.r_ixdi ?h1 ?h2 ?_); (case h1 => walk_at "look"); (case h2 => assumption))
 | ((with_reducible refine' Cm.g_setdi ?h1 ?h2 ?_); (case h1 => walk_at "look"); (case h2 => first | assumption | omega))
 | (with_reducible refine Cm.r_min2 ?_)
 | (with_reducible refine W.r_eq_lv ?_) | (with_reducible refine W.r_ne_lv ?_) | (with_reducible refine W.r_isNo_lv ?_) | (with_reducible refine W.r_notNo_lv ?_)
 | fail)
namespace W
open PySem PySem.Spec PyProof.Rows L2 Cm
section
variable {w : World} {K : PySem.W.Frag} {mg : Str → Option Value}
theorem pure_alike_ {n : Nat} (vs : List V) (H : Hp) (Q : VK) (E : XK) (h : S_alike_ K (n + 1) vs H Q E) : t_alike_ K n E { nx := fun _ H' => Q .non H', rt := Q } (start N_alike_ vs) H := by
 obtain ⟨x, y, rfl, d, hx, hy, hd, k⟩ := h
 have k0 := k H Kp.refl
 unfold t_alike_
 cases d with
 | none =>
  obtain rfl : x = .non := hx
  obtain rfl : y = .non := hy
  walk_at "run"
  refine if_dT rfl ?_
  walk_at "run"
  exact q_dec rfl k0
 | bool b =>
  obtain rfl : x = .bl b := hx
  obtain rfl : y = .bl b := hy
  walk_at "run"
  refine if_dF (fun z => nomatch z) ?_
  walk_at "run"
  exact q_dec rfl k0
 | int b =>
  obtain rfl : x = .int b := hx
  obtain rfl : y = .int b := hy
  walk_at "run"
  refine if_dF (fun z => nomatch z) ?_
  walk_at "run"
  exact q_dec rfl k0
 | str b =>
  obtain rfl : x = .str b := hx
  obtain rfl : y = .str b := hy
  walk_at "run"
  refine if_dF (fun z => nomatch z) ?_
  walk_at "run"
  exact q_dec rfl k0
 | tuple ds =>
  cases n with
  | zero => cases hd
  | succ n =>
  obtain ⟨hz, hdd⟩ := id hd
  obtain ⟨a, xs, rfl, ha, hA⟩ := id hx
  obtain ⟨b, ys, rfl, hb, hB⟩ := id hy
  walk_at "run"
  refine if_dF (fun z => nomatch z) ?_
  walk_at "run"
  refine if_ndF rfl ?_
  walk_at "run"
  refine if_ndF rfl ?_
  have e1 := hA.length
  have e2 := hB.length
  walk_at "run"
  refine if_ndF (by rw [e1, e2]) ?_
  walk_at "run"
  refine forR (fun i σ' H' => ∃ v, σ' = [some (.ref a), some (.ref b), v] ∧ Kp (tabs K) No H H') ⟨none, rfl, Kp.refl⟩ ?_ ?_
  ·rintro i σ' H' hi ⟨v, rfl, kp⟩
   obtain ⟨x1, hx1, hx2⟩ : ∃ x1, xs[i]? = some x1 ∧ True := ⟨_, List.getElem?_eq_getElem (by omega), trivial⟩
   obtain ⟨d, hd1, hd2⟩ := hA.get hx1
   obtain ⟨y1, hy1, hy2⟩ := hB.at hd1
   have at1 : atI xs (i : Int) = some x1 := atI_nat hx1
   have at2 : atI ys (i : Int) = some y1 := atI_nat hy1
   have hdn := hdd d (List.mem_of_getElem? hd1)
   walk_at "run"
   refine ⟨_, _, rfl, d, Dt.same kp hdn hd2, Dt.same kp hdn hy2, hdn, fun H2 k2 => ?_⟩
   walk_at "run"
   exact ⟨_, rfl, by walk_at "kp"⟩
  ·rintro σ' H' ⟨v, rfl, kp⟩
   walk_at "run"
   exact k H' kp
 | list ds =>
  cases n with
  | zero => cases hd
  | succ n =>
  obtain ⟨hz, hdd⟩ := id hd
  obtain ⟨a, xs, rfl, ha, hA⟩ := id hx
  obtain ⟨b, ys, rfl, hb, hB⟩ := id hy
  walk_at "run"
  refine if_dF (fun z => nomatch z) ?_
  walk_at "run"
  refine if_ndF rfl ?_
  walk_at "run"
  refine if_ndF rfl ?_
  have e1 := hA.length
  have e2 := hB.length
  walk_at "run"
  refine if_ndF (by rw [e1, e2]) ?_
  walk_at "run"
  refine forR (fun i σ' H' => ∃ v, σ' = [some (.ref a), some (.ref b), v] ∧ Kp (tabs K) No H H') ⟨none, rfl, Kp.refl⟩ ?_ ?_
  ·rintro i σ' H' hi ⟨v, rfl, kp⟩
   obtain ⟨x1, hx1, hx2⟩ : ∃ x1, xs[i]? = some x1 ∧ True := ⟨_, List.getElem?_eq_getElem (by omega), trivial⟩
   obtain ⟨d, hd1, hd2⟩ := hA.get hx1
   obtain ⟨y1, hy1, hy2⟩ := hB.at hd1
   have at1 : atI xs (i : Int) = some x1 := atI_nat hx1
   have at2 : atI ys (i : Int) = some y1 := atI_nat hy1
   have hdn := hdd d (List.mem_of_getElem? hd1)
   walk_at "run"
   refine ⟨_, _, rfl, d, Dt.same kp hdn hd2, Dt.same kp hdn hy2, hdn, fun H2 k2 => ?_⟩
   walk_at "run"
   exact ⟨_, rfl, by walk_at "kp"⟩
  ·rintro σ' H' ⟨v, rfl, kp⟩
   walk_at "run"
   exact k H' kp
 | dict ds => exact hx.elim
end
end W
end
section
namespace W
open PySem PySem.Spec PyProof.Rows L2 Cm
section
variable {P : Program} {w : World} {K : PySem.W.Frag} {mg : Str → Option Value} {base : Heap}
local macro_rules | `(tactic| walk_at "zm") => `(tactic| first | exact (fun _ _ _ _ _ _ us hl => match us, hl with | [], _ => rfl) | exact (fun _ _ _ _ _ _ us hl => match us, hl with | [_], _ => rfl) | exact (fun _ _ _ _ _ _ us hl => match us, hl with | [_, _], _ => rfl) | exact (fun _ _ _ _ _ _ us hl => match us, hl with | [_, _, _], _ => rfl) | exact (fun _ _ _ _ _ _ us hl => match us, hl with | [_, _, _, _], _ => rfl) | exact (fun _ _ _ _ _ _ us hl => match us, hl with | [_, _, _, _, _], _ => rfl) | exact (fun _ _ _ _ _ _ us hl => match us, hl with | [_, _, _, _, _, _], _ => rfl))
theorem ok_begun_ (T : Tx w K mg) : DOk P w K mg base 1 ("_law_begun", none) ["_law_script"] (S_begun_ K) := by
 refine dok_of (T.dfn 14 (d := d_begun_) rfl) sc_begun_ (by walk_at "zm") len1 (fun cdv A outer s H vs Q E hr h => ⟨t_begun_ K E, ?_, pure_begun_ vs H Q E h⟩)
 exact (pss_cons (psA 1 sc_begun_.nd pe_int)
   (pss_cons (ps_for (passes_of rfl) rfl (pi_seq (pv 0)) (pgA 2 sc_begun_.nd) (pss_one (psA 1 sc_begun_.nd (pe_op op_mod (pe_op op_addA (pe_op op_addA (pe_op op_mulA (pv 1) pe_int) (pe_op op_mulA (pv 2) pe_int)) pe_int) pe_int))))
   (pss_one (ps_ret (pe_lst (pa_cons (pe_callTy (call_listA rfl) (by rfl) T.n_list bt_list (pa_cons (pv 0) pa_nil)) (pa_cons (pe_op op_mulA (pv 1) (pe_callTy call_int1 (by rfl) T.n_int bt_int (pa_cons (pe_cmpR op_gt (pe_callB call_lenA (by rfl) T.n_len bt_len (pa_cons (pv 0) pa_nil)) pe_int (nomark _)) pa_nil))) pa_nil)))))))
theorem ok_take_ (T : Tx w K mg) : DOk P w K mg base 1 ("_law_take", none) ["_law_box", "_law_many"] (S_take_ K) := by
 refine dok_of (T.dfn 15 (d := d_take_) rfl) sc_take_ (by walk_at "zm") len2 (fun cdv A outer s H vs Q E hr h => ⟨t_take_ K E, ?_, pure_take_ vs H Q E h⟩)
 exact (pss_cons (ps_if (pt_cmpR (op_eqA hr.units) (pixA hr (pv 0) pe_int) (pe_lst pa_nil) (nomark _)) (pss_cons (ps_asg (pe_op op_mod (pe_op op_mulA (pixA hr (pv 0) pe_int) pe_int) pe_int) (pg_sub (pv 0) pe_int (set_any (hu_of hr))))
   (pss_one (ps_ret (pe_op op_mod (pe_op op_fdivW (pixA hr (pv 0) pe_int) pe_int) (pv 1))))) pss_nil)
   (pss_cons (psA 2 sc_take_.nd (pixA hr (pixA hr (pv 0) pe_int) pe_int))
   (pss_cons (ps_asg (pe_op op_fdivW (pv 2) (pv 1)) (pg_sub (pixA hr (pv 0) pe_int) pe_int (set_any (hu_of hr))))
   (pss_cons (ps_if (PW.pt (pw_or (pt_cmpR (op_eqA hr.units) (pixA hr (pixA hr (pv 0) pe_int) pe_int) pe_int (nomark _)) (pw_or1 (pt_cmpR (op_eqA hr.units) (pixA hr (pixA hr (pv 0) pe_int) pe_int) (pe_un un_neg pe_int) (nomark _))))) (pss_one (ps_expr (pe_bm PySem.F.plainAttrs_list PySem.F.slot_list_pop PySem.F.type_list_pop mt_popAt (pixA hr (pv 0) pe_int) (pa_cons pe_int pa_nil)))) pss_nil)
   (pss_one (ps_ret (pe_op op_mod (pv 2) (pv 1))))))))
theorem ok_alike_ (T : Tx w K mg) : ∀ n : Nat, DOk P w K mg base (1 + n) ("_law_alike", none) ["_law_found", "_law_due_here"] (S_alike_ K n)
 | 0 => dok_false (T.dfn 16 (d := d_alike_) rfl) sc_alike_ (by walk_at "zm")
 | n + 1 => by
  have ih : DOk P w K mg base (1 + n) ("_law_alike", none) ["_law_found", "_law_due_here"] (S_alike_ K n) := ok_alike_ T n
  rw [show 1 + (n + 1) = (1 + n) + 1 from rfl]
  obtain ⟨fd_alike_, b_alike_, k_alike_, G_alike_, _⟩ := ih
  refine dok_of (T.dfn 16 (d := d_alike_) rfl) sc_alike_ (by walk_at "zm") len2 (fun cdv A outer s H vs Q E hr h => ⟨t_alike_ K n E, ?_, pure_alike_ vs H Q E h⟩)
  exact (pss_cons (ps_if (pt_cmpR op_isNo (pv 1) pe_non (nomark _)) (pss_one (ps_ret (pe_cmpR op_isNo (pv 0) pe_non (nomark _)))) pss_nil)
   (pss_cons (ps_if (pt_truth (pe_callB call_isi (by rfl) T.n_isinstance bt_isinstance (pa_cons (pv 1) (pa_cons (pe_bltn (v := .ty "bool") (by rfl) T.n_bool bt_bool rfl) pa_nil))) (by intro _; rfl)) (pss_one (ps_ret (pe_and (pe_callB call_isi (by rfl) T.n_isinstance bt_isinstance (pa_cons (pv 0) (pa_cons (pe_bltn (v := .ty "bool") (by rfl) T.n_bool bt_bool rfl) pa_nil))) (pe_one (pe_cmpR (op_eqA hr.units) (pv 0) (pv 1) (nomark _)))))) pss_nil)
   (pss_cons (ps_if (pt_truth (pe_callB call_isi (by rfl) T.n_isinstance bt_isinstance (pa_cons (pv 1) (pa_cons (pe_bltn (v := .ty "int") (by rfl) T.n_int bt_int rfl) pa_nil))) (by intro _; rfl)) (pss_one (ps_ret (pe_and (pe_callB call_isi (by rfl) T.n_isinstance bt_isinstance (pa_cons (pv 0) (pa_cons (pe_bltn (v := .ty "int") (by rfl) T.n_int bt_int rfl) pa_nil))) (pe_and (pe_not (pe_callB call_isi (by rfl) T.n_isinstance bt_isinstance (pa_cons (pv 0) (pa_cons (pe_bltn (v := .ty "bool") (by rfl) T.n_bool bt_bool rfl) pa_nil)))) (pe_one (pe_cmpR (op_eqA hr.units) (pv 0) (pv 1) (nomark _))))))) pss_nil)
   (pss_cons (ps_if (pt_truth (pe_callB call_isi (by rfl) T.n_isinstance bt_isinstance (pa_cons (pv 1) (pa_cons (pe_bltn (v := .ty "str") (by rfl) T.n_str bt_str rfl) pa_nil))) (by intro _; rfl)) (pss_one (ps_ret (pe_and (pe_callB call_isi (by rfl) T.n_isinstance bt_isinstance (pa_cons (pv 0) (pa_cons (pe_bltn (v := .ty "str") (by rfl) T.n_str bt_str rfl) pa_nil))) (pe_one (pe_cmpR (op_eqA hr.units) (pv 0) (pv 1) (nomark _)))))) pss_nil)
   (pss_cons (ps_if (PW.pt (pw_or (pt_cmpR (op_neA hr.units) (pe_callB call_isi (by rfl) T.n_isinstance bt_isinstance (pa_cons (pv 1) (pa_cons (pe_bltn (v := .ty "tuple") (by rfl) T.n_tuple bt_tuple rfl) pa_nil))) (pe_callB call_isi (by rfl) T.n_isinstance bt_isinstance (pa_cons (pv 0) (pa_cons (pe_bltn (v := .ty "tuple") (by rfl) T.n_tuple bt_tuple rfl) pa_nil))) (nomark _)) (pw_or1 (pt_cmpR (op_neA hr.units) (pe_callB call_isi (by rfl) T.n_isinstance bt_isinstance (pa_cons (pv 1) (pa_cons (pe_bltn (v := .ty "list") (by rfl) T.n_list bt_list rfl) pa_nil))) (pe_callB call_isi (by rfl) T.n_isinstance bt_isinstance (pa_cons (pv 0) (pa_cons (pe_bltn (v := .ty "list") (by rfl) T.n_list bt_list rfl) pa_nil))) (nomark _))))) (pss_one (ps_ret pe_bl)) pss_nil)
   (pss_cons (ps_if (pt_cmpR (op_neA hr.units) (pe_callB call_lenA (by rfl) T.n_len bt_len (pa_cons (pv 0) pa_nil)) (pe_callB call_lenA (by rfl) T.n_len bt_len (pa_cons (pv 1) pa_nil)) (nomark _)) (pss_one (ps_ret pe_bl)) pss_nil)
   (pss_cons (ps_for (passes_of rfl) rfl (pi_range1 (by rfl) T.n_range (pa_cons (pe_callB call_lenA (by rfl) T.n_len bt_len (pa_cons (pv 1) pa_nil)) pa_nil)) (pgA 2 sc_alike_.nd) (pss_one (ps_if (pt_not (pt_truth (pcG G_alike_ hr T.g_alike_ k_alike_ b_alike_ (pa_cons (pixA hr (pv 0) (pv 2)) (pa_cons (pixA hr (pv 1) (pv 2)) pa_nil))) (by intro _; rfl))) (pss_one (ps_ret pe_bl)) pss_nil)))
   (pss_one (ps_ret pe_bl)))))))))
theorem ok_store_ (T : Tx w K mg) : DOk P w K mg base 1 ("_law_store", none) [] (S_store_ K) := by
 refine dok_of (T.dfn 20 (d := d_store_) rfl) sc_store_ (by walk_at "zm") N.spm_len (fun cdv A outer s H vs Q E hr h => ⟨t_store_ K E, ?_, pure_store_ T vs H Q E h⟩)
 exact (pss_one (ps_ret (pe_disp (pps_cons pe_str pe_dnewK (pps_cons pe_str pe_dnewK (pps_cons pe_str pe_int (pps_cons pe_str pe_int pps_nil)))) (by rfl) (by rfl) (fun z => by cases z) (by decide))))
theorem ok_seen_ (T : Tx w K mg) : DOk P w K mg base 1 ("_law_seen", none) ["_law_store_here", "_law_key"] (S_seen_ K) := by
 refine dok_of (T.dfn 22 (d := d_seen_) rfl) sc_seen_ (by walk_at "zm") N.spm_len (fun cdv A outer s H vs Q E hr h => ⟨t_seen_ K E, ?_, pure_seen_ T vs H Q E h⟩)
 exact (pss_cons (psA 2 sc_seen_.nd (pe_dget2 (hu_of hr) (pixA hr (pv 0) pe_str) (pv 1) (pe_tup (pa_cons pe_non (pa_cons pe_int pa_nil))) ⟨rfl, rfl, rfl, rfl⟩))
   (pss_one (ps_ret (pe_ifExp (PW.pt (pw_or (pt_cmpR (op_eqA hr.units) (pixA hr (pv 2) pe_int) pe_int (nomark _)) (pw_or1 (pt_cmpR op_gt (pixA hr (pv 2) pe_int) (pixA hr (pv 0) pe_str) (nomark _))))) (pixA hr (pv 2) pe_int) pe_non))))
theorem ok_deed_ (T : Tx w K mg) : DOk P w K mg base 2 ("_law_deed", none) ["_law_box", "_law_store_here"] (S_deed_ K) := by
 obtain ⟨_, b_seen_, k_seen_, G_seen_, _⟩ := @ok_seen_ P _ _ _ base T
 obtain ⟨_, b_take_, k_take_, G_take_, _⟩ := @ok_take_ P _ _ _ base T
 refine dok_of (T.dfn 26 (d := d_deed_) rfl) sc_deed_ (by walk_at "zm") N.spm_len (fun cdv A outer s H vs Q E hr h => ⟨t_deed_ K E, ?_, pure_deed_ T vs H Q E h⟩)
 exact (pss_cons (psA 2 sc_deed_.nd (pcG G_take_ hr T.g_take_ k_take_ b_take_ (pa_cons (pv 0) (pa_cons (pixA hr (pe_lst (pa_cons pe_int (pa_cons pe_int (pa_cons pe_int pa_nil)))) (pcG G_take_ hr T.g_take_ k_take_ b_take_ (pa_cons (pv 0) (pa_cons pe_int pa_nil)))) pa_nil))))
   (pss_cons (psA 3 sc_deed_.nd (pcG G_seen_ hr T.g_seen_ k_seen_ b_seen_ (pa_cons (pv 1) (pa_cons (pv 2) pa_nil))))
   (pss_cons (psA 4 sc_deed_.nd (pcG G_take_ hr T.g_take_ k_take_ b_take_ (pa_cons (pv 0) (pa_cons pe_int pa_nil))))
   (pss_cons (ps_if (pt_cmpR op_lt (pv 4) pe_int (nomark _)) (pss_cons (psA 5 sc_deed_.nd (pixA hr (pe_lst (pa_cons pe_int (pa_cons (pe_op op_addA pe_int (pcG G_take_ hr T.g_take_ k_take_ b_take_ (pa_cons (pv 0) (pa_cons pe_int pa_nil)))) (pa_cons (pe_op op_addA pe_int (pcG G_take_ hr T.g_take_ k_take_ b_take_ (pa_cons (pv 0) (pa_cons pe_int pa_nil)))) pa_nil)))) (pcG G_take_ hr T.g_take_ k_take_ b_take_ (pa_cons (pv 0) (pa_cons pe_int pa_nil)))))
   (pss_one (ps_ret (pe_tup (pa_cons pe_str (pa_cons (pv 2) (pa_cons (pixA hr (pe_lst (pa_cons (pcG G_take_ hr T.g_take_ k_take_ b_take_ (pa_cons (pv 0) (pa_cons pe_int pa_nil))) (pa_cons pe_int (pa_cons pe_int pa_nil)))) (pcG G_take_ hr T.g_take_ k_take_ b_take_ (pa_cons (pv 0) (pa_cons pe_int pa_nil)))) (pa_cons (pv 5) pa_nil)))))))) pss_nil)
   (pss_cons (ps_if (pt_cmpR (op_eqA hr.units) (pv 4) pe_int (nomark _)) (pss_one (ps_ret (pe_tup (pa_cons pe_str (pa_cons (pv 2) pa_nil))))) pss_nil)
   (pss_cons (ps_if (pt_cmpR op_lt (pv 4) pe_int (nomark _)) (pss_one (ps_ret (pe_tup (pa_cons pe_str (pa_cons (pv 2) (pa_cons (pixA hr (pe_lst (pa_cons (pe_op op_sub (pcG G_take_ hr T.g_take_ k_take_ b_take_ (pa_cons (pv 0) (pa_cons pe_int pa_nil))) pe_int) (pa_cons (pe_op op_sub (pcG G_take_ hr T.g_take_ k_take_ b_take_ (pa_cons (pv 0) (pa_cons pe_int pa_nil))) pe_int) pa_nil))) (pcG G_take_ hr T.g_take_ k_take_ b_take_ (pa_cons (pv 0) (pa_cons pe_int pa_nil)))) pa_nil)))))) pss_nil)
   (pss_one (ps_ret (pe_tup (pa_cons pe_str (pa_cons (pv 2) (pa_cons (pixA hr (pe_lst (pa_cons (pv 3) (pa_cons (pv 3) (pa_cons (pv 3) (pa_cons pe_non (pa_cons (pcG G_take_ hr T.g_take_ k_take_ b_take_ (pa_cons (pv 0) (pa_cons pe_int pa_nil))) pa_nil)))))) (pcG G_take_ hr T.g_take_ k_take_ b_take_ (pa_cons (pv 0) (pa_cons pe_int pa_nil)))) pa_nil))))))))))))
theorem ok_drawn_ (T : Tx w K mg) : DOk P w K mg base 3 ("_law_drawn", none) ["_law_box", "_law_store_here"] (S_drawn_ K) := by
 obtain ⟨_, b_deed_, k_deed_, G_deed_, _⟩ := @ok_deed_ P _ _ _ base T
 obtain ⟨_, b_take_, k_take_, G_take_, _⟩ := @ok_take_ P _ _ _ base T
 refine dok_of (T.dfn 27 (d := d_drawn_) rfl) sc_drawn_ (by walk_at "zm") N.spm_len (fun cdv A outer s H vs Q E hr h => ⟨t_drawn_ K E, ?_, pure_drawn_ T vs H Q E h⟩)
 exact (pss_one (ps_ret (pe_callTy call_tuple_of (by rfl) T.n_tuple bt_tuple (pa_cons (pe_lc (own := [("_law_turn", 2)]) (g := (gName 2)) (tt := tYes) (by rfl) sc_drawn_.nd (pi_range1 (by rfl) T.n_range (pa_cons (pe_op op_addA pe_int (pcG G_take_ hr T.g_take_ k_take_ b_take_ (pa_cons (pv 0) (pa_cons (pixA hr (pe_lst (pa_cons pe_int (pa_cons pe_int (pa_cons pe_int pa_nil)))) (pcG G_take_ hr T.g_take_ k_take_ b_take_ (pa_cons (pv 0) (pa_cons pe_int pa_nil)))) pa_nil)))) pa_nil)) (blkOk_by (own := [("_law_turn", 2)]) (N := N_drawn_) (sc := defScope s_drawn_) (by decide +kernel)) (fun _ _ _ _ _ => (pgA 2 sc_drawn_.nd)) (fun _ _ _ _ _ => pts_nil) (fun _ _ _ _ _ => (pcG G_deed_ hr T.g_deed_ k_deed_ b_deed_ (pa_cons (pv 0) (pa_cons (pv 1) pa_nil)) (hx := psN)))) pa_nil))))
theorem ok_deals_ (T : Tx w K mg) : DOk P w K mg base 4 ("_law_deals", none) ["_law_box"] (S_deals_ K) := by
 obtain ⟨_, b_drawn_, k_drawn_, G_drawn_, _⟩ := @ok_drawn_ P _ _ _ base T
 obtain ⟨_, b_store_, k_store_, G_store_, _⟩ := @ok_store_ P _ _ _ base T
 obtain ⟨_, b_take_, k_take_, G_take_, _⟩ := @ok_take_ P _ _ _ base T
 refine dok_of (T.dfn 28 (d := d_deals_) rfl) sc_deals_ (by walk_at "zm") N.spm_len (fun cdv A outer s H vs Q E hr h => ⟨t_deals_ K E, ?_, pure_deals_ T vs H Q E h⟩)
 exact (pss_cons (psA 1 sc_deals_.nd (pe_lst pa_nil))
   (pss_cons (ps_for (passes_of rfl) rfl (pi_range1 (by rfl) T.n_range (pa_cons (pcG G_take_ hr T.g_take_ k_take_ b_take_ (pa_cons (pv 0) (pa_cons pe_int pa_nil))) pa_nil)) (pgA 2 sc_deals_.nd) (pss_cons (psA 3 sc_deals_.nd (pixA hr (pe_lst (pa_cons (pe_op op_addA pe_int (pcG G_take_ hr T.g_take_ k_take_ b_take_ (pa_cons (pv 0) (pa_cons pe_int pa_nil)))) (pa_cons (pcG G_take_ hr T.g_take_ k_take_ b_take_ (pa_cons (pv 0) (pa_cons pe_int pa_nil))) pa_nil))) (pcG G_take_ hr T.g_take_ k_take_ b_take_ (pa_cons (pv 0) (pa_cons pe_int pa_nil)))))
   (pss_one (ps_expr (pe_bm PySem.F.plainAttrs_list PySem.F.slot_list_append PySem.F.type_list_append mt_append (pv 1) (pa_cons (pe_tup (pa_cons (pcG G_take_ hr T.g_take_ k_take_ b_take_ (pa_cons (pv 0) (pa_cons pe_int pa_nil))) (pa_cons (pv 3) (pa_cons (pcG G_drawn_ hr T.g_drawn_ k_drawn_ b_drawn_ (pa_cons (pv 0) (pa_cons (pc0G G_store_ hr T.g_store_ k_store_ b_store_) pa_nil))) pa_nil)))) pa_nil))))))
   (pss_one (ps_ret (pv 1)))))
theorem ok_text_ (T : Tx w K mg) : DOk P w K mg base 1 ("_law_text", none) ["_law_deals_here"] (S_text_ K) := by
 refine dok_of (T.dfn 29 (d := d_text_) rfl) sc_text_ (by walk_at "zm") N.spm_len (fun cdv A outer s H vs Q E hr h => ⟨t_text_ K E, ?_, pure_text_ T vs H Q E h⟩)
 exact (pss_cons (psA 1 sc_text_.nd (pe_lst pa_nil))
   (pss_cons (ps_for (passes_of rfl) rfl (pi_seq (pv 0)) (pg_tup (by rfl) (pgs_cons (pgA 2 sc_text_.nd) (pgs_cons (pgA 3 sc_text_.nd) (pgs_cons (pgA 4 sc_text_.nd) pgs_nil)))) (pss_cons (by first | exact (ps_setLc (i := 5) (own := [("_law_deed_here", 7)]) (g := (gName 7)) (tt := tYes) (by rfl) sc_text_.nd rfl rfl (sw_true rfl rfl rfl (by decide +kernel)) (pi_seq (pv 4)) (blkOk_by (own := [("_law_deed_here", 7)]) (N := N_text_) (sc := defScope s_text_) (by decide +kernel)) (fun _ _ _ _ _ => (pgA 7 sc_text_.nd)) (fun _ _ _ _ _ => pts_nil) (fun _ _ _ _ _ => (pe_m1 PySem.F.slot_str_join PySem.F.type_str_join mt_join pe_str (pe_lc (own := [("_law_part_here", 6)]) (g := (gName 6)) (tt := tYes) (by rfl) sc_text_.nd (pi_seq (pv 7)) (blkOk_any (own := [("_law_part_here", 6)]) (N := N_text_) (by decide +kernel)) (fun _ _ _ _ _ => (pgA 6 sc_text_.nd)) (fun _ _ _ _ _ => pts_nil) (fun _ _ _ _ _ => (pe_ifExp (pt_cmpR op_isNo (pv 6) pe_non (nomark _)) pe_str (pe_callTy N.cr_str1 (by rfl) T.n_str bt_str (pa_cons (pv 6) pa_nil)))))))) | exact (psA 5 sc_text_.nd (pe_lc (own := [("_law_deed_here", 7)]) (g := (gName 7)) (tt := tYes) (by rfl) sc_text_.nd (pi_seq (pv 4)) (blkOk_by (own := [("_law_deed_here", 7)]) (N := N_text_) (sc := defScope s_text_) (by decide +kernel)) (fun _ _ _ _ _ => (pgA 7 sc_text_.nd)) (fun _ _ _ _ _ => pts_nil) (fun _ _ _ _ _ => (pe_m1 PySem.F.slot_str_join PySem.F.type_str_join mt_join pe_str (pe_lc (own := [("_law_part_here", 6)]) (g := (gName 6)) (tt := tYes) (by rfl) sc_text_.nd (pi_seq (pv 7)) (blkOk_any (own := [("_law_part_here", 6)]) (N := N_text_) (by decide +kernel)) (fun _ _ _ _ _ => (pgA 6 sc_text_.nd)) (fun _ _ _ _ _ => pts_nil) (fun _ _ _ _ _ => (pe_ifExp (pt_cmpR op_isNo (pv 6) pe_non (nomark _)) pe_str (pe_callTy N.cr_str1 (by rfl) T.n_str bt_str (pa_cons (pv 6) pa_nil))))))))))
   (pss_one (ps_expr (pe_bm PySem.F.plainAttrs_list PySem.F.slot_list_append PySem.F.type_list_append mt_append (pv 1) (pa_cons (pe_op op_addA (pe_op op_addA (pe_op op_addA (pe_op op_addA (pe_callTy N.cr_str1 (by rfl) T.n_str bt_str (pa_cons (pv 2) pa_nil)) pe_str) (pe_callTy N.cr_str1 (by rfl) T.n_str bt_str (pa_cons (pv 3) pa_nil))) pe_str) (pe_m1 PySem.F.slot_str_join PySem.F.type_str_join mt_join pe_str (pv 5))) pa_nil))))))
   (pss_one (ps_ret (pe_m1 PySem.F.slot_str_join PySem.F.type_str_join mt_join pe_str (pv 1))))))
theorem ok_spoilt_ (T : Tx w K mg) : DOk P w K mg base 2 ("_law_spoilt", none) ["_law_box", "_law_text_here"] (S_spoilt_ K) := by
 obtain ⟨_, b_take_, k_take_, G_take_, _⟩ := @ok_take_ P _ _ _ base T
 refine dok_of (T.dfn 30 (d := d_spoilt_) rfl) sc_spoilt_ (by walk_at "zm") N.spm_len (fun cdv A outer s H vs Q E hr h => ⟨t_spoilt_ K E, ?_, pure_spoilt_ T vs H Q E h⟩)
 exact (pss_cons (psA 2 sc_spoilt_.nd (pcG G_take_ hr T.g_take_ k_take_ b_take_ (pa_cons (pv 0) (pa_cons pe_int pa_nil))))
   (pss_cons (psA 3 sc_spoilt_.nd (pcG G_take_ hr T.g_take_ k_take_ b_take_ (pa_cons (pv 0) (pa_cons (pe_op op_addA (pe_callB call_lenA (by rfl) T.n_len bt_len (pa_cons (pv 1) pa_nil)) pe_int) pa_nil))))
   (pss_cons (psA 4 sc_spoilt_.nd (pe_m1 PySem.F.slot_str_split PySem.F.type_str_split mt_split (pv 1) pe_str))
   (pss_cons (psA 5 sc_spoilt_.nd (pcG G_take_ hr T.g_take_ k_take_ b_take_ (pa_cons (pv 0) (pa_cons (pe_callB call_lenA (by rfl) T.n_len bt_len (pa_cons (pv 4) pa_nil)) pa_nil))))
   (pss_cons (ps_if (pt_cmpR op_lt (pv 2) pe_int (nomark _)) (pss_one (ps_ret (pe_m1 PySem.F.slot_str_join PySem.F.type_str_join mt_join pe_str (pe_op op_addA (pe_slice sl_any (pv 4) po_none (po_some (pe_op op_addA (pv 5) (pv 2)))) (pe_slice sl_any (pv 4) (po_some (pe_op op_sub (pe_op op_addA (pv 5) pe_int) (pv 2))) po_none))))) pss_nil)
   (pss_cons (ps_if (pt_cmpR (op_eqA hr.units) (pv 2) pe_int (nomark _)) (pss_cons (psA 6 sc_spoilt_.nd (pe_m1 PySem.F.slot_str_split PySem.F.type_str_split mt_split (pixA hr (pv 4) (pv 5)) pe_str))
   (pss_cons (psA 7 sc_spoilt_.nd (pe_lst (pa_cons pe_str (pa_cons pe_str (pa_cons pe_str (pa_cons pe_str (pa_cons pe_str (pa_cons pe_str (pa_cons pe_str (pa_cons pe_str (pa_cons pe_str (pa_cons pe_str (pa_cons pe_str (pa_cons pe_str (pa_cons pe_str (pa_cons pe_str (pa_cons pe_str (pa_cons pe_str pa_nil))))))))))))))))))
   (pss_cons (ps_asg (pixA hr (pe_op op_addA (pv 7) (pe_lst (pa_cons pe_str (pa_cons pe_str (pa_cons pe_str (pa_cons pe_str (pa_cons pe_str pa_nil))))))) (pcG G_take_ hr T.g_take_ k_take_ b_take_ (pa_cons (pv 0) (pa_cons pe_int pa_nil)))) (pg_sub (pv 6) (pcG G_take_ hr T.g_take_ k_take_ b_take_ (pa_cons (pv 0) (pa_cons (pe_callB call_lenA (by rfl) T.n_len bt_len (pa_cons (pv 6) pa_nil)) pa_nil))) (set_any (hu_of hr))))
   (pss_one (ps_ret (pe_m1 PySem.F.slot_str_join PySem.F.type_str_join mt_join pe_str (pe_op op_addA (pe_op op_addA (pe_slice sl_any (pv 4) po_none (po_some (pv 5))) (pe_lst (pa_cons (pe_m1 PySem.F.slot_str_join PySem.F.type_str_join mt_join pe_str (pv 6)) pa_nil))) (pe_slice sl_any (pv 4) (po_some (pe_op op_addA (pv 5) pe_int)) po_none)))))))) pss_nil)
   (pss_cons (ps_if (pt_cmpR (op_eqA hr.units) (pv 2) pe_int (nomark _)) (pss_cons (psA 8 sc_spoilt_.nd (pe_lst (pa_cons pe_str (pa_cons pe_str (pa_cons pe_str (pa_cons pe_str (pa_cons pe_str (pa_cons pe_str (pa_cons pe_str (pa_cons pe_str pa_nil))))))))))
   (pss_one (ps_ret (pe_m1 PySem.F.slot_str_join PySem.F.type_str_join mt_join pe_str (pe_op op_addA (pe_op op_addA (pe_slice sl_any (pv 4) po_none (po_some (pv 5))) (pe_lst (pa_cons (pe_op op_addA (pixA hr (pv 4) (pv 5)) (pixA hr (pv 8) (pcG G_take_ hr T.g_take_ k_take_ b_take_ (pa_cons (pv 0) (pa_cons pe_int pa_nil))))) pa_nil))) (pe_slice sl_any (pv 4) (po_some (pe_op op_addA (pv 5) pe_int)) po_none)))))) pss_nil)
   (pss_cons (psA 9 sc_spoilt_.nd pe_str)
   (pss_cons (psA 10 sc_spoilt_.nd (pixA hr (pe_lst (pa_cons (pixA hr (pv 9) (pcG G_take_ hr T.g_take_ k_take_ b_take_ (pa_cons (pv 0) (pa_cons (pe_callB call_lenA (by rfl) T.n_len bt_len (pa_cons (pv 9) pa_nil)) pa_nil)))) (pa_cons pe_str (pa_cons (pixA hr (pv 9) (pcG G_take_ hr T.g_take_ k_take_ b_take_ (pa_cons (pv 0) (pa_cons pe_int pa_nil)))) pa_nil)))) (pe_op op_sub (pv 2) pe_int)))
   (pss_one (ps_ret (pe_op op_addA (pe_op op_addA (pe_slice C8.sl_txt (pv 1) po_none (po_some (pv 3))) (pv 10)) (pe_slice C8.sl_txt (pv 1) (po_some (pe_op op_addA (pv 3) (pe_callTy call_int1 (by rfl) T.n_int bt_int (pa_cons (pe_cmpR op_gt (pv 2) pe_int (nomark _)) pa_nil)))) po_none)))))))))))))
theorem ok_wrong_ (T : Tx w K mg) : DOk P w K mg base 2 ("_law_wrong", none) ["_law_box", "_law_text_here"] (S_wrong_ K) := by
 obtain ⟨_, b_take_, k_take_, G_take_, _⟩ := @ok_take_ P _ _ _ base T
 refine dok_of (T.dfn 31 (d := d_wrong_) rfl) sc_wrong_ (by walk_at "zm") N.spm_len (fun cdv A outer s H vs Q E hr h => ⟨t_wrong_ K E, ?_, pure_wrong_ T vs H Q E h⟩)
 exact (pss_cons (psA 2 sc_wrong_.nd (pe_ifExp (pt_cmpR (op_neA hr.units) (pv 1) pe_str (nomark _)) (pe_m1 PySem.F.slot_str_split PySem.F.type_str_split mt_split (pv 1) pe_str) (pe_lst pa_nil)))
   (pss_cons (psA 3 sc_wrong_.nd (pe_lst (pa_cons pe_str (pa_cons pe_str (pa_cons pe_str (pa_cons pe_str (pa_cons pe_str (pa_cons pe_str pa_nil))))))))
   (pss_cons (psA 3 sc_wrong_.nd (pe_op op_addA (pv 3) (pe_lst (pa_cons pe_str (pa_cons pe_str (pa_cons pe_str pa_nil))))))
   (pss_cons (ps_for (passes_of rfl) rfl (pi_range1 (by rfl) T.n_range (pa_cons (pe_op op_addA pe_int (pcG G_take_ hr T.g_take_ k_take_ b_take_ (pa_cons (pv 0) (pa_cons pe_int pa_nil)))) pa_nil)) (pgA 4 sc_wrong_.nd) (pss_cons (psA 5 sc_wrong_.nd (pcG G_take_ hr T.g_take_ k_take_ b_take_ (pa_cons (pv 0) (pa_cons (pe_op op_addA (pe_callB call_lenA (by rfl) T.n_len bt_len (pa_cons (pv 2) pa_nil)) pe_int) pa_nil))))
   (pss_one (psA 2 sc_wrong_.nd (pe_op op_addA (pe_op op_addA (pe_slice sl_any (pv 2) po_none (po_some (pv 5))) (pe_lst (pa_cons (pixA hr (pv 3) (pcG G_take_ hr T.g_take_ k_take_ b_take_ (pa_cons (pv 0) (pa_cons pe_int pa_nil)))) pa_nil))) (pe_slice sl_any (pv 2) (po_some (pv 5)) po_none))))))
   (pss_one (ps_ret (pe_m1 PySem.F.slot_str_join PySem.F.type_str_join mt_join pe_str (pv 2))))))))
theorem ok_number_ (T : Tx w K mg) : DOk P w K mg base 1 ("_law_number", none) ["_law_word"] (S_number_ K) := by
 refine dok_of (T.dfn 32 (d := d_number_) rfl) sc_number_ (by walk_at "zm") N.spm_len (fun cdv A outer s H vs Q E hr h => ⟨t_number_ K E, ?_, pure_number_ T vs H Q E h⟩)
 exact (pss_cons (ps_if (PW.pt (pw_or (pt_cmpR (op_eqA hr.units) (pv 0) pe_str (nomark _)) (pw_or (pt_cmpR op_gt (pe_callB call_lenA (by rfl) T.n_len bt_len (pa_cons (pv 0) pa_nil)) pe_int (nomark _)) (pw_or1 (pt_cmpR (op_neA hr.units) (pe_lc (own := [("_law_sign", 1)]) (g := (gName 1)) (tt := (tTest (tOp N.rNotInT (tVar 1) (tC (.str "0123456789"))))) (by rfl) sc_number_.nd (pi_str (pv 0)) (blkOk_by (own := [("_law_sign", 1)]) (N := N_number_) (sc := defScope s_number_) (by decide +kernel)) (fun _ _ _ _ _ => (pgA 1 sc_number_.nd)) (fun _ _ _ _ _ => (pts_one (pt_cmpR op_notIn_sign (pv 1) pe_str (by rfl)))) (fun _ _ _ _ _ => (pv 1))) (pe_lst pa_nil) (nomark _)))))) (pss_one (ps_ret pe_non)) pss_nil)
   (pss_one (ps_ret (pe_ifExp (pt_cmpR (op_eqA hr.units) (pe_callTy N.cr_str1 (by rfl) T.n_str bt_str (pa_cons (pe_callTy call_int_str (by rfl) T.n_int bt_int (pa_cons (pv 0) pa_nil)) pa_nil)) (pv 0) (nomark _)) (pe_callTy call_int_str (by rfl) T.n_int bt_int (pa_cons (pv 0) pa_nil)) pe_non))))
theorem ok_part_ (T : Tx w K mg) : DOk P w K mg base 2 ("_law_part", none) ["_law_word", "_law_kind"] (S_part_ K) := by
 obtain ⟨_, b_number_, k_number_, G_number_, _⟩ := @ok_number_ P _ _ _ base T
 refine dok_of (T.dfn 33 (d := d_part_) rfl) sc_part_ (by walk_at "zm") N.spm_len (fun cdv A outer s H vs Q E hr h => ⟨t_part_ K E, ?_, pure_part_ T vs H Q E h⟩)
 exact (pss_cons (ps_if (PW.pt (pw_and (pt_cmpR (op_eqA hr.units) (pv 1) pe_str (nomark _)) (pw_and1 (pt_cmpR (op_eqA hr.units) (pv 0) pe_str (nomark _))))) (pss_one (ps_ret (pe_lst (pa_cons pe_non pa_nil)))) pss_nil)
   (pss_cons (ps_if (PW.pt (pw_and (pt_cmpR (op_eqA hr.units) (pv 1) pe_str (nomark _)) (pw_and1 (pt_cmpR (op_eqA hr.units) (pe_slice C8.sl_txt (pv 0) po_none (po_some pe_int)) pe_str (nomark _))))) (pss_cons (psA 2 sc_part_.nd (pcG G_number_ hr T.g_number_ k_number_ b_number_ (pa_cons (pe_slice C8.sl_txt (pv 0) (po_some pe_int) po_none) pa_nil)))
   (pss_one (ps_ret (pe_ifExp (PW.pt (pw_and (pt_cmpR op_notNo (pv 2) pe_non (nomark _)) (pw_and1 (pt_cmpR op_gt (pv 2) pe_int (nomark _))))) (pe_lst (pa_cons (pe_op op_sub pe_int (pv 2)) pa_nil)) (pe_lst pa_nil))))) pss_nil)
   (pss_cons (psA 2 sc_part_.nd (pcG G_number_ hr T.g_number_ k_number_ b_number_ (pa_cons (pv 0) pa_nil)))
   (pss_one (ps_ret (pe_ifExp (pt_cmpR op_notNo (pv 2) pe_non (nomark _)) (pe_lst (pa_cons (pv 2) pa_nil)) (pe_lst pa_nil)))))))
theorem ok_row_ (T : Tx w K mg) : DOk P w K mg base 3 ("_law_row", none) ["_law_row_here"] (S_row_ K) := by
 obtain ⟨_, b_number_, k_number_, G_number_, _⟩ := @ok_number_ P _ _ _ base T
 obtain ⟨_, b_part_, k_part_, G_part_, _⟩ := @ok_part_ P _ _ _ base T
 refine dok_of (T.dfn 34 (d := d_row_) rfl) sc_row_ (by walk_at "zm") N.spm_len (fun cdv A outer s H vs Q E hr h => ⟨t_row_ K E, ?_, pure_row_ T vs H Q E h⟩)
 exact (pss_cons (psA 1 sc_row_.nd (pe_m1 PySem.F.slot_str_split PySem.F.type_str_split mt_split (pv 0) pe_str))
   (pss_cons (psA 2 sc_row_.nd (pe_m1 PySem.F.slot_str_split PySem.F.type_str_split mt_split (pixA hr (pv 1) pe_int) pe_str))
   (pss_cons (ps_if (PW.pt (pw_or (pt_cmpR (op_neA hr.units) (pe_callB call_lenA (by rfl) T.n_len bt_len (pa_cons (pv 1) pa_nil)) pe_int (nomark _)) (pw_or (pt_cmpR (op_neA hr.units) (pe_callB call_lenA (by rfl) T.n_len bt_len (pa_cons (pv 2) pa_nil)) pe_int (nomark _)) (pw_or1 (pt_cmpR (op_inA hr.units) pe_non (pe_lc (own := [("_law_head", 3)]) (g := (gName 3)) (tt := tYes) (by rfl) sc_row_.nd (pi_seq (pv 2)) (blkOk_by (own := [("_law_head", 3)]) (N := N_row_) (sc := defScope s_row_) (by decide +kernel)) (fun _ _ _ _ _ => (pgA 3 sc_row_.nd)) (fun _ _ _ _ _ => pts_nil) (fun _ _ _ _ _ => (pcG G_number_ hr T.g_number_ k_number_ b_number_ (pa_cons (pv 3) pa_nil) (hx := psN)))) (by rfl)))))) (pss_one (ps_ret pe_non)) pss_nil)
   (pss_cons (psA 4 sc_row_.nd (pe_disp (pps_cons pe_str (pe_lst (pa_cons pe_str (pa_cons pe_str (pa_cons pe_str pa_nil)))) (pps_cons pe_str (pe_lst (pa_cons pe_str pa_nil)) (pps_cons pe_str (pe_lst (pa_cons pe_str (pa_cons pe_str pa_nil))) (pps_cons pe_str (pe_lst (pa_cons pe_str (pa_cons pe_str pa_nil))) pps_nil)))) (by rfl) (by rfl) (fun z => by cases z) (by decide)))
   (pss_cons (psA 5 sc_row_.nd (pe_lst pa_nil))
   (pss_cons (ps_for (passes_of rfl) rfl (pi_seq (pe_m1 PySem.F.slot_str_split PySem.F.type_str_split mt_split (pixA hr (pv 1) pe_int) pe_str)) (pgA 6 sc_row_.nd) (pss_cons (psA 7 sc_row_.nd (pe_m1 PySem.F.slot_str_split PySem.F.type_str_split mt_split (pv 6) pe_str))
   (pss_cons (ps_if (PW.pt (pw_or (pt_cmpR (op_notInA hr.units) (pixA hr (pv 7) pe_int) (pv 4) (by rfl)) (pw_or1 (pt_cmpR (op_neA hr.units) (pe_callB call_lenA (by rfl) T.n_len bt_len (pa_cons (pv 7) pa_nil)) (pe_op op_addA (pe_callB call_lenA (by rfl) T.n_len bt_len (pa_cons (pixA hr (pv 4) (pixA hr (pv 7) pe_int)) pa_nil)) pe_int) (nomark _))))) (pss_one (ps_ret pe_non)) pss_nil)
   (pss_cons (by first | exact (ps_setLc (i := 8) (own := [("_law_k", 9)]) (g := (gName 9)) (tt := tYes) (by rfl) sc_row_.nd rfl rfl (sw_true rfl rfl rfl (by decide +kernel)) (pi_range1 (by rfl) T.n_range (pa_cons (pe_op op_sub (pe_callB call_lenA (by rfl) T.n_len bt_len (pa_cons (pv 7) pa_nil)) pe_int) pa_nil)) (blkOk_by (own := [("_law_k", 9)]) (N := N_row_) (sc := defScope s_row_) (by decide +kernel)) (fun _ _ _ _ _ => (pgA 9 sc_row_.nd)) (fun _ _ _ _ _ => pts_nil) (fun _ _ _ _ _ => (pcG G_part_ hr T.g_part_ k_part_ b_part_ (pa_cons (pixA hr (pv 7) (pe_op op_addA (pv 9) pe_int)) (pa_cons (pixA hr (pixA hr (pv 4) (pixA hr (pv 7) pe_int)) (pv 9)) pa_nil)) (hx := psN)))) | exact (psA 8 sc_row_.nd (pe_lc (own := [("_law_k", 9)]) (g := (gName 9)) (tt := tYes) (by rfl) sc_row_.nd (pi_range1 (by rfl) T.n_range (pa_cons (pe_op op_sub (pe_callB call_lenA (by rfl) T.n_len bt_len (pa_cons (pv 7) pa_nil)) pe_int) pa_nil)) (blkOk_by (own := [("_law_k", 9)]) (N := N_row_) (sc := defScope s_row_) (by decide +kernel)) (fun _ _ _ _ _ => (pgA 9 sc_row_.nd)) (fun _ _ _ _ _ => pts_nil) (fun _ _ _ _ _ => (pcG G_part_ hr T.g_part_ k_part_ b_part_ (pa_cons (pixA hr (pv 7) (pe_op op_addA (pv 9) pe_int)) (pa_cons (pixA hr (pixA hr (pv 4) (pixA hr (pv 7) pe_int)) (pv 9)) pa_nil)) (hx := psN))))))
   (pss_cons (ps_if (pt_cmpR (op_inD (hu65 hr)) (pe_lst pa_nil) (pv 8) (by rfl)) (pss_one (ps_ret pe_non)) pss_nil)
   (pss_one (ps_expr (pe_bm PySem.F.plainAttrs_list PySem.F.slot_list_append PySem.F.type_list_append mt_append (pv 5) (pa_cons (pe_callTy call_tuple_of (by rfl) T.n_tuple bt_tuple (pa_cons (pe_op op_addA (pe_lst (pa_cons (pixA hr (pv 7) pe_int) pa_nil)) (pe_lc (own := [("_law_one", 10)]) (g := (gName 10)) (tt := tYes) (by rfl) sc_row_.nd (pi_seq (pv 8)) (blkOk_by (own := [("_law_one", 10)]) (N := N_row_) (sc := defScope s_row_) (by decide +kernel)) (fun _ _ _ _ _ => (pgA 10 sc_row_.nd)) (fun _ _ _ _ _ => pts_nil) (fun _ _ _ _ _ => (pixA hr (pv 10) pe_int)))) pa_nil)) pa_nil)))))))))
   (pss_one (ps_ret (pe_tup (pa_cons (pe_callTy call_int_str (by rfl) T.n_int bt_int (pa_cons (pixA hr (pv 2) pe_int) pa_nil)) (pa_cons (pe_callTy call_int_str (by rfl) T.n_int bt_int (pa_cons (pixA hr (pv 2) pe_int) pa_nil)) (pa_cons (pe_callTy call_tuple_of (by rfl) T.n_tuple bt_tuple (pa_cons (pv 5) pa_nil)) pa_nil))))))))))))
theorem ok_fault_ (T : Tx w K mg) : DOk P w K mg base 1 ("_law_fault", none) ["_law_deal_here"] (S_fault_ K) := by
 refine dok_of (T.dfn 35 (d := d_fault_) rfl) sc_fault_ (by walk_at "zm") N.spm_len (fun cdv A outer s H vs Q E hr h => ⟨t_fault_ K E, ?_, pure_fault_ T vs H Q E h⟩)
 exact (pss_cons (ps_if (pt_cmpR op_gt (pixA hr (pv 0) pe_int) pe_int (nomark _)) (pss_one (ps_ret (pe_tup (pa_cons pe_str (pa_cons pe_int pa_nil))))) pss_nil)
   (pss_cons (ps_for (passes_of rfl) rfl (pi_range1 (by rfl) T.n_range (pa_cons (pe_callB call_lenA (by rfl) T.n_len bt_len (pa_cons (pixA hr (pv 0) pe_int) pa_nil)) pa_nil)) (pgA 1 sc_fault_.nd) (pss_cons (psA 2 sc_fault_.nd (pixA hr (pixA hr (pv 0) pe_int) (pv 1)))
   (pss_cons (psA 3 sc_fault_.nd (pixA hr (pe_disp (pps_cons pe_str (pe_tup (pa_cons pe_int (pa_cons pe_int (pa_cons pe_int pa_nil)))) (pps_cons pe_str (pe_tup (pa_cons pe_int pa_nil)) (pps_cons pe_str (pe_tup (pa_cons pe_int (pa_cons pe_int pa_nil))) (pps_cons pe_str (pe_tup (pa_cons pe_int (pa_cons pe_int pa_nil))) pps_nil)))) (by rfl) (by rfl) (fun z => by cases z) (by decide)) (pixA hr (pv 2) pe_int)))
   (pss_cons (by first | exact (ps_setLc (i := 4) (own := [("_law_k", 5)]) (g := (gName 5)) (tt := (tAnd (tTest (tOp rNotNo (tOp (rIxA K) (tVar 2) (tOp (rAddA K) (tVar 5) (tC (.int 1)))) (tC .non))) (tTest (tOp (rI0 fun i j => .bl (decide (j < i))) (tCB rAbs (tCons (tOp (rIxA K) (tVar 2) (tOp (rAddA K) (tVar 5) (tC (.int 1)))) tNil)) (tOp (rIxA K) (tVar 3) (tVar 5)))))) (by rfl) sc_fault_.nd rfl rfl (sw_true rfl rfl rfl (by decide +kernel)) (pi_range1 (by rfl) T.n_range (pa_cons (pe_callB call_lenA (by rfl) T.n_len bt_len (pa_cons (pv 3) pa_nil)) pa_nil)) (blkOk_by (own := [("_law_k", 5)]) (N := N_fault_) (sc := defScope s_fault_) (by decide +kernel)) (fun _ _ _ _ _ => (pgA 5 sc_fault_.nd)) (fun _ _ _ _ _ => (pts_one (PW.pt (pw_and (pt_cmpR op_notNo (pixA hr (pv 2) (pe_op op_addA (pv 5) pe_int)) pe_non (nomark _)) (pw_and1 (pt_cmpR op_gt (pe_callB call_abs (by rfl) T.n_abs bt_abs (pa_cons (pixA hr (pv 2) (pe_op op_addA (pv 5) pe_int)) pa_nil)) (pixA hr (pv 3) (pv 5)) (nomark _))))))) (fun _ _ _ _ _ => (pv 5))) | exact (psA 4 sc_fault_.nd (pe_lc (own := [("_law_k", 5)]) (g := (gName 5)) (tt := (tAnd (tTest (tOp rNotNo (tOp (rIxA K) (tVar 2) (tOp (rAddA K) (tVar 5) (tC (.int 1)))) (tC .non))) (tTest (tOp (rI0 fun i j => .bl (decide (j < i))) (tCB rAbs (tCons (tOp (rIxA K) (tVar 2) (tOp (rAddA K) (tVar 5) (tC (.int 1)))) tNil)) (tOp (rIxA K) (tVar 3) (tVar 5)))))) (by rfl) sc_fault_.nd (pi_range1 (by rfl) T.n_range (pa_cons (pe_callB call_lenA (by rfl) T.n_len bt_len (pa_cons (pv 3) pa_nil)) pa_nil)) (blkOk_by (own := [("_law_k", 5)]) (N := N_fault_) (sc := defScope s_fault_) (by decide +kernel)) (fun _ _ _ _ _ => (pgA 5 sc_fault_.nd)) (fun _ _ _ _ _ => (pts_one (PW.pt (pw_and (pt_cmpR op_notNo (pixA hr (pv 2) (pe_op op_addA (pv 5) pe_int)) pe_non (nomark _)) (pw_and1 (pt_cmpR op_gt (pe_callB call_abs (by rfl) T.n_abs bt_abs (pa_cons (pixA hr (pv 2) (pe_op op_addA (pv 5) pe_int)) pa_nil)) (pixA hr (pv 3) (pv 5)) (nomark _))))))) (fun _ _ _ _ _ => (pv 5)))))
   (pss_one (ps_if (PW.pt (pw_or (pt_cmpR op_gt (pv 1) pe_int (nomark _)) (pw_or1 (pt_cmpR (op_neA hr.units) (pv 4) (pe_lst pa_nil) (nomark _))))) (pss_one (ps_ret (pe_tup (pa_cons pe_str (pa_cons (pv 1) pa_nil))))) pss_nil))))))
   (pss_one (ps_ret pe_non))))
theorem ok_due_ (T : Tx w K mg) : DOk P w K mg base 4 ("_law_due", none) ["_law_text_here"] (S_due_ K) := by
 obtain ⟨_, b_fault_, k_fault_, G_fault_, _⟩ := @ok_fault_ P _ _ _ base T
 obtain ⟨_, b_row_, k_row_, G_row_, _⟩ := @ok_row_ P _ _ _ base T
 refine dok_of (T.dfn 36 (d := d_due_) rfl) sc_due_ (by walk_at "zm") N.spm_len (fun cdv A outer s H vs Q E hr h => ⟨t_due_ K E, ?_, pure_due_ T vs H Q E h⟩)
 exact (pss_cons (psA 1 sc_due_.nd (pe_ifExp (pt_cmpR (op_neA hr.units) (pv 0) pe_str (nomark _)) (pe_lc (own := [("_law_row_here", 2)]) (g := (gName 2)) (tt := tYes) (by rfl) sc_due_.nd (pi_seq (pe_m1 PySem.F.slot_str_split PySem.F.type_str_split mt_split (pv 0) pe_str)) (blkOk_by (own := [("_law_row_here", 2)]) (N := N_due_) (sc := defScope s_due_) (by decide +kernel)) (fun _ _ _ _ _ => (pgA 2 sc_due_.nd)) (fun _ _ _ _ _ => pts_nil) (fun _ _ _ _ _ => (pcG G_row_ hr T.g_row_ k_row_ b_row_ (pa_cons (pv 2) pa_nil) (hx := psN)))) (pe_lst pa_nil)))
   (pss_cons (ps_if (pt_cmpR (op_inD (hu65 hr)) pe_non (pv 1) (by rfl)) (pss_one (ps_ret (pe_tup (pa_cons pe_str (pa_cons (pe_bm PySem.F.plainAttrs_list PySem.F.slot_list_index PySem.F.type_list_index (mt_indexD (hu65 hr)) (pv 1) (pa_cons pe_non pa_nil)) pa_nil))))) pss_nil)
   (pss_cons (by first | exact (ps_setLc (i := 3) (own := [("_law_deal_here", 4)]) (g := (gName 4)) (tt := (tTest (tOp rNotNo (tCall (S_fault_ K) [] E0 (tCons (tVar 4) tNil)) (tC .non)))) (by rfl) sc_due_.nd rfl rfl (sw_true rfl rfl rfl (by decide +kernel)) (pi_seq (pv 1)) (blkOk_by (own := [("_law_deal_here", 4)]) (N := N_due_) (sc := defScope s_due_) (by decide +kernel)) (fun _ _ _ _ _ => (pgA 4 sc_due_.nd)) (fun _ _ _ _ _ => (pts_one (pt_cmpR op_notNo (pcG G_fault_ hr T.g_fault_ k_fault_ b_fault_ (pa_cons (pv 4) pa_nil) (hx := psN)) pe_non (nomark _)))) (fun _ _ _ _ _ => (pcG G_fault_ hr T.g_fault_ k_fault_ b_fault_ (pa_cons (pv 4) pa_nil) (hx := psN)))) | exact (psA 3 sc_due_.nd (pe_lc (own := [("_law_deal_here", 4)]) (g := (gName 4)) (tt := (tTest (tOp rNotNo (tCall (S_fault_ K) [] E0 (tCons (tVar 4) tNil)) (tC .non)))) (by rfl) sc_due_.nd (pi_seq (pv 1)) (blkOk_by (own := [("_law_deal_here", 4)]) (N := N_due_) (sc := defScope s_due_) (by decide +kernel)) (fun _ _ _ _ _ => (pgA 4 sc_due_.nd)) (fun _ _ _ _ _ => (pts_one (pt_cmpR op_notNo (pcG G_fault_ hr T.g_fault_ k_fault_ b_fault_ (pa_cons (pv 4) pa_nil) (hx := psN)) pe_non (nomark _)))) (fun _ _ _ _ _ => (pcG G_fault_ hr T.g_fault_ k_fault_ b_fault_ (pa_cons (pv 4) pa_nil) (hx := psN))))))
   (pss_one (ps_ret (pe_ifExp (pt_cmpR (op_neA hr.units) (pv 3) (pe_lst pa_nil) (nomark _)) (pixA hr (pv 3) pe_int) (pv 1)))))))
theorem ok_BadText_init (T : Tx w K mg) : DOk P w K mg base 1 ("BadText", some "__init__") ["self", "row"] (S_BadText_init K) := by
 refine dok_of (T.dfn 2 (d := d_BadText_init) rfl) sc_BadText_init (by walk_at "zm") len2 (fun cdv A outer s H vs Q E hr h => ⟨t_BadText_init K E, ?_, pure_BadText_init T vs H Q E h⟩)
 exact (pss_cons (ps_expr (pe_seinit (by rfl) T.g_StillError T.ini (pa_cons (pv 0) (pa_cons pe_str pa_nil))))
   (pss_one (ps_ost (pv 0) (pv 1))))
theorem ok_BadDeal_init (T : Tx w K mg) : DOk P w K mg base 1 ("BadDeal", some "__init__") ["self", "place"] (S_BadDeal_init K) := by
 refine dok_of (T.dfn 0 (d := d_BadDeal_init) rfl) sc_BadDeal_init (by walk_at "zm") len2 (fun cdv A outer s H vs Q E hr h => ⟨t_BadDeal_init K E, ?_, pure_BadDeal_init T vs H Q E h⟩)
 exact (pss_cons (ps_expr (pe_seinit (by rfl) T.g_StillError T.ini (pa_cons (pv 0) (pa_cons pe_str pa_nil))))
   (pss_one (ps_ost (pv 0) (pv 1))))
theorem ok_is_from (T : Tx w K mg) : DOk P w K mg base 1 ("is_from", none) ["number", "least", "most"] (S_is_from K) := by
 refine dok_of (T.dfn 3 (d := d_is_from) rfl) sc_is_from (by walk_at "zm") N.spq_len (fun cdv A outer s H vs Q E hr h => ⟨t_is_from K E, ?_, pure_is_from T vs H Q E h⟩)
 exact (pss_one (ps_ret (pe_chain op_le op_le (pv 1) (pv 0) (pv 2))))
theorem ok_is_put (T : Tx w K mg) : DOk P w K mg base 2 ("is_put", none) ["deed"] (S_is_put K) := by
 obtain ⟨_, b_is_from, k_is_from, G_is_from, _⟩ := @ok_is_from P _ _ _ base T
 obtain ⟨t_MOST_LIFE_, g_MOST_LIFE⟩ := T.i_MOST_LIFE
 obtain ⟨t_MOST_WORTH_, g_MOST_WORTH⟩ := T.i_MOST_WORTH
 refine dok_of (T.dfn 4 (d := d_is_put) rfl) sc_is_put (by walk_at "zm") N.spm_len (fun cdv A outer s H vs Q E hr h => ⟨t_is_put K E, ?_, pure_is_put T vs H Q E h⟩)
 exact (pss_one (ps_ret (pe_and (pe_cmpR (op_eqA hr.units) (pe_callB call_lenA (by rfl) T.n_len bt_len (pa_cons (pv 0) pa_nil)) pe_int (nomark _)) (pe_and (pcG G_is_from hr T.g_is_from k_is_from b_is_from (pa_cons (pixA hr (pv 0) pe_int) (pa_cons pe_int (pa_cons (pe_glob (by rfl) g_MOST_WORTH ⟨_, rfl⟩) pa_nil)))) (pe_one (pcG G_is_from hr T.g_is_from k_is_from b_is_from (pa_cons (pixA hr (pv 0) pe_int) (pa_cons pe_int (pa_cons (pe_glob (by rfl) g_MOST_LIFE ⟨_, rfl⟩) pa_nil)))))))))
theorem ok_is_if (T : Tx w K mg) : DOk P w K mg base 2 ("is_if", none) ["deed"] (S_is_if K) := by
 obtain ⟨_, b_is_from, k_is_from, G_is_from, _⟩ := @ok_is_from P _ _ _ base T
 obtain ⟨t_MOST_WORTH_, g_MOST_WORTH⟩ := T.i_MOST_WORTH
 refine dok_of (T.dfn 5 (d := d_is_if) rfl) sc_is_if (by walk_at "zm") N.spm_len (fun cdv A outer s H vs Q E hr h => ⟨t_is_if K E, ?_, pure_is_if T vs H Q E h⟩)
 exact (pss_one (ps_ret (pe_and (pe_cmpR (op_eqA hr.units) (pe_callB call_lenA (by rfl) T.n_len bt_len (pa_cons (pv 0) pa_nil)) pe_int (nomark _)) (pe_one (pe_or (pe_cmpR op_isNo (pixA hr (pv 0) pe_int) pe_non (nomark _)) (pe_one (pcG G_is_from hr T.g_is_from k_is_from b_is_from (pa_cons (pixA hr (pv 0) pe_int) (pa_cons pe_int (pa_cons (pe_glob (by rfl) g_MOST_WORTH ⟨_, rfl⟩) pa_nil))))))))))
theorem ok_is_deed (T : Tx w K mg) : DOk P w K mg base 3 ("is_deed", none) ["deed"] (S_is_deed K) := by
 obtain ⟨_, b_is_from, k_is_from, G_is_from, _⟩ := @ok_is_from P _ _ _ base T
 obtain ⟨_, b_is_if, k_is_if, G_is_if, _⟩ := @ok_is_if P _ _ _ base T
 obtain ⟨_, b_is_put, k_is_put, G_is_put, _⟩ := @ok_is_put P _ _ _ base T
 obtain ⟨t_KEYS_, g_KEYS⟩ := T.i_KEYS
 obtain ⟨t_MOST_WORTH_, g_MOST_WORTH⟩ := T.i_MOST_WORTH
 refine dok_of (T.dfn 6 (d := d_is_deed) rfl) sc_is_deed (by walk_at "zm") N.spm_len (fun cdv A outer s H vs Q E hr h => ⟨t_is_deed K E, ?_, pure_is_deed T vs H Q E h⟩)
 exact (pss_cons (ps_if (PW.pt (pw_or (pt_cmpR op_lt (pe_callB call_lenA (by rfl) T.n_len bt_len (pa_cons (pv 0) pa_nil)) pe_int (nomark _)) (pw_or (pt_cmpR (op_notInA hr.units) (pixA hr (pv 0) pe_int) (pe_tup (pa_cons pe_str (pa_cons pe_str (pa_cons pe_str (pa_cons pe_str pa_nil))))) (by rfl)) (pw_or1 (pt_not (pt_truth (pcG G_is_from hr T.g_is_from k_is_from b_is_from (pa_cons (pixA hr (pv 0) pe_int) (pa_cons pe_int (pa_cons (pe_op op_sub (pe_glob (by rfl) g_KEYS ⟨_, rfl⟩) pe_int) pa_nil)))) (by intro _; rfl))))))) (pss_one (ps_ret pe_bl)) pss_nil)
   (pss_cons (ps_if (pt_cmpR (op_eqA hr.units) (pixA hr (pv 0) pe_int) pe_str (nomark _)) (pss_one (ps_ret (pcG G_is_put hr T.g_is_put k_is_put b_is_put (pa_cons (pv 0) pa_nil)))) pss_nil)
   (pss_cons (ps_if (pt_cmpR (op_eqA hr.units) (pixA hr (pv 0) pe_int) pe_str (nomark _)) (pss_one (ps_ret (pcG G_is_if hr T.g_is_if k_is_if b_is_if (pa_cons (pv 0) pa_nil)))) pss_nil)
   (pss_cons (ps_if (pt_cmpR (op_eqA hr.units) (pixA hr (pv 0) pe_int) pe_str (nomark _)) (pss_one (ps_ret (pe_cmpR (op_eqA hr.units) (pe_callB call_lenA (by rfl) T.n_len bt_len (pa_cons (pv 0) pa_nil)) pe_int (nomark _)))) pss_nil)
   (pss_one (ps_ret (pe_and (pe_cmpR (op_eqA hr.units) (pe_callB call_lenA (by rfl) T.n_len bt_len (pa_cons (pv 0) pa_nil)) pe_int (nomark _)) (pe_one (pcG G_is_from hr T.g_is_from k_is_from b_is_from (pa_cons (pixA hr (pv 0) pe_int) (pa_cons (pe_op op_sub pe_int (pe_glob (by rfl) g_MOST_WORTH ⟨_, rfl⟩)) (pa_cons (pe_glob (by rfl) g_MOST_WORTH ⟨_, rfl⟩) pa_nil))))))))))))
theorem ok_need_deal (T : Tx w K mg) : DOk P w K mg base 4 ("need_deal", none) ["deeds"] (S_need_deal K) := by
 obtain ⟨_, b_BadDeal_init, k_BadDeal_init, G_BadDeal_init, _⟩ := @ok_BadDeal_init P _ _ _ base T
 obtain ⟨_, b_is_deed, k_is_deed, G_is_deed, _⟩ := @ok_is_deed P _ _ _ base T
 obtain ⟨t_MOST_DEEDS_, g_MOST_DEEDS⟩ := T.i_MOST_DEEDS
 refine dok_of (T.dfn 7 (d := d_need_deal) rfl) sc_need_deal (by walk_at "zm") N.spm_len (fun cdv A outer s H vs Q E hr h => ⟨t_need_deal K E, ?_, pure_need_deal T vs H Q E h⟩)
 exact (pss_cons (ps_for (passes_of rfl) rfl (pi_enumA (by rfl) T.n_enumerate (pa_cons (pv 0) pa_nil)) (pg_tup (by rfl) (pgs_cons (pgA 1 sc_need_deal.nd) (pgs_cons (pgA 2 sc_need_deal.nd) pgs_nil))) (pss_one (ps_if (PW.pt (pw_or (pt_cmpR op_ge (pv 1) (pe_glob (by rfl) g_MOST_DEEDS ⟨_, rfl⟩) (nomark _)) (pw_or1 (pt_not (pt_truth (pcG G_is_deed hr T.g_is_deed k_is_deed b_is_deed (pa_cons (pv 2) pa_nil)) (by intro _; rfl)))))) (pss_one (L2N.ps_raise rfl (L2N.takes_of rfl rfl rfl rfl) (pmkN_oex T.x_BadDeal.ox T.x_BadDeal.iC T.x_BadDeal.tI G_BadDeal_init (hr.mono (by omega)) b_BadDeal_init psN (by rfl) T.g_BadDeal (pa_cons (pv 1) pa_nil)))) pss_nil)))
   (pss_one (ps_if (pt_cmpR (op_eqA hr.units) (pe_callB call_lenA (by rfl) T.n_len bt_len (pa_cons (pv 0) pa_nil)) pe_int (nomark _)) (pss_one (L2N.ps_raise rfl (L2N.takes_of rfl rfl rfl rfl) (pmkN_oex T.x_BadDeal.ox T.x_BadDeal.iC T.x_BadDeal.tI G_BadDeal_init (hr.mono (by omega)) b_BadDeal_init psN (by rfl) T.g_BadDeal (pa_cons pe_int pa_nil)))) pss_nil)))
theorem ok_need_hand (T : Tx w K mg) : DOk P w K mg base 2 ("need_hand", none) ["hand"] (S_need_hand K) := by
 obtain ⟨_, b_is_from, k_is_from, G_is_from, _⟩ := @ok_is_from P _ _ _ base T
 obtain ⟨t_HANDS_, g_HANDS⟩ := T.i_HANDS
 refine dok_of (T.dfn 8 (d := d_need_hand) rfl) sc_need_hand (by walk_at "zm") N.spm_len (fun cdv A outer s H vs Q E hr h => ⟨t_need_hand K E, ?_, pure_need_hand T vs H Q E h⟩)
 exact (pss_one (ps_if (pt_not (pt_truth (pcG G_is_from hr T.g_is_from k_is_from b_is_from (pa_cons (pv 0) (pa_cons pe_int (pa_cons (pe_op op_sub (pe_glob (by rfl) g_HANDS ⟨_, rfl⟩) pe_int) pa_nil)))) (by intro _; rfl))) (pss_one (L2N.ps_raise rfl (L2N.takes_of rfl rfl rfl rfl) (L2N.pmk_own PySem.F.excBase_ValueError T.x_BadHand T.g_BadHand T.k_BadHand (raises_own T.xb_BadHand T.xt_BadHand) (by rfl)))) pss_nil))
theorem ok_number_of (T : Tx w K mg) : DOk P w K mg base 1 ("number_of", none) ["word"] (S_number_of K) := by
 obtain ⟨t_FIGURES_, g_FIGURES⟩ := T.i_FIGURES
 obtain ⟨t_MOST_FIGURES_, g_MOST_FIGURES⟩ := T.i_MOST_FIGURES
 refine dok_of (T.dfn 9 (d := d_number_of) rfl) sc_number_of (by walk_at "zm") N.spm_len (fun cdv A outer s H vs Q E hr h => ⟨t_number_of K E, ?_, pure_number_of T vs H Q E h⟩)
 exact (pss_cons (ps_if (PW.pt (pw_or (pt_not (pt_chain op_le op_le pe_int (pe_callB call_lenA (by rfl) T.n_len bt_len (pa_cons (pv 0) pa_nil)) (pe_glob (by rfl) g_MOST_FIGURES ⟨_, rfl⟩))) (pw_or1 (pt_cmpR (op_neA hr.units) (pe_lc (own := [("sign", 1)]) (g := (gName 1)) (tt := (tTest (tOp N.rNotInT (tVar 1) (tC (.str "0123456789"))))) (by rfl) sc_number_of.nd (pi_str (pv 0)) (blkOk_by (own := [("sign", 1)]) (N := N_number_of) (sc := defScope s_number_of) (by decide +kernel)) (fun _ _ _ _ _ => (pgA 1 sc_number_of.nd)) (fun _ _ _ _ _ => (pts_one (pt_cmpR op_notIn_sign (pv 1) (pe_glob (by rfl) g_FIGURES ⟨_, rfl⟩) (by rfl)))) (fun _ _ _ _ _ => (pv 1))) (pe_lst pa_nil) (nomark _))))) (pss_one (ps_ret pe_non)) pss_nil)
   (pss_one (ps_ret (pe_ifExp (PW.pt (pw_and (pt_cmpR (op_eqA hr.units) (pixA hr (pv 0) pe_int) pe_str (nomark _)) (pw_and1 (pt_cmpR (op_neA hr.units) (pv 0) pe_str (nomark _))))) pe_non (pe_callTy call_int_str (by rfl) T.n_int bt_int (pa_cons (pv 0) pa_nil))))))
theorem ok_part_of (T : Tx w K mg) : DOk P w K mg base 2 ("part_of", none) ["word", "kind"] (S_part_of K) := by
 obtain ⟨_, b_number_of, k_number_of, G_number_of, _⟩ := @ok_number_of P _ _ _ base T
 obtain ⟨t_NONE_, g_NONE⟩ := T.i_NONE
 refine dok_of (T.dfn 10 (d := d_part_of) rfl) sc_part_of (by walk_at "zm") N.spm_len (fun cdv A outer s H vs Q E hr h => ⟨t_part_of K E, ?_, pure_part_of T vs H Q E h⟩)
 exact (pss_cons (ps_if (PW.pt (pw_and (pt_cmpR (op_eqA hr.units) (pv 1) pe_str (nomark _)) (pw_and1 (pt_cmpR (op_eqA hr.units) (pv 0) (pe_glob (by rfl) g_NONE ⟨_, rfl⟩) (nomark _))))) (pss_one (ps_ret (pe_tup (pa_cons pe_bl (pa_cons pe_non pa_nil))))) pss_nil)
   (pss_cons (psA 2 sc_part_of.nd (pe_and (pe_cmpR (op_eqA hr.units) (pv 1) pe_str (nomark _)) (pe_one (pe_cmpR (op_eqA hr.units) (pe_slice C8.sl_txt (pv 0) po_none (po_some pe_int)) (pe_glob (by rfl) g_NONE ⟨_, rfl⟩) (nomark _)))))
   (pss_cons (psA 3 sc_part_of.nd (pcG G_number_of hr T.g_number_of k_number_of b_number_of (pa_cons (pe_ifExp (pt_truth (pv 2) (by intro _; rfl)) (pe_slice C8.sl_txt (pv 0) (po_some pe_int) po_none) (pv 0)) pa_nil)))
   (pss_cons (ps_if (PW.pt (pw_or (pt_cmpR op_isNo (pv 3) pe_non (nomark _)) (pw_or1 (PW.pt (pw_and (pt_truth (pv 2) (by intro _; rfl)) (pw_and1 (pt_cmpR (op_eqA hr.units) (pv 3) pe_int (nomark _)))))))) (pss_one (ps_ret (pe_tup (pa_cons pe_bl (pa_cons pe_non pa_nil))))) pss_nil)
   (pss_one (ps_ret (pe_tup (pa_cons pe_bl (pa_cons (pe_ifExp (pt_truth (pv 2) (by intro _; rfl)) (pe_op op_sub pe_int (pv 3)) (pv 3)) pa_nil)))))))))
theorem ok_deed_of (T : Tx w K mg) : DOk P w K mg base 3 ("deed_of", none) ["text"] (S_deed_of K) := by
 obtain ⟨_, b_part_of, k_part_of, G_part_of, _⟩ := @ok_part_of P _ _ _ base T
 refine dok_of (T.dfn 11 (d := d_deed_of) rfl) sc_deed_of (by walk_at "zm") N.spm_len (fun cdv A outer s H vs Q E hr h => ⟨t_deed_of K E, ?_, pure_deed_of T vs H Q E h⟩)
 exact (pss_cons (psA 1 sc_deed_of.nd (pe_m1 PySem.F.slot_str_split PySem.F.type_str_split mt_split (pv 0) pe_str))
   (pss_cons (psA 2 sc_deed_of.nd (pe_kget T.kt_KINDS (pe_glob (by rfl) T.g_KINDS rfl) (pixA hr (pv 1) pe_int) pe_str ⟨rfl, rfl, rfl, rfl⟩))
   (pss_cons (ps_if (PW.pt (pw_or (pt_cmpR (op_eqA hr.units) (pv 2) pe_str (nomark _)) (pw_or1 (pt_cmpR (op_neA hr.units) (pe_callB call_lenA (by rfl) T.n_len bt_len (pa_cons (pv 1) pa_nil)) (pe_op op_addA (pe_callB call_lenA (by rfl) T.n_len bt_len (pa_cons (pv 2) pa_nil)) pe_int) (nomark _))))) (pss_one (ps_ret pe_non)) pss_nil)
   (pss_cons (by first | exact (ps_setLc (i := 3) (own := [("k", 4)]) (g := (gName 4)) (tt := tYes) (by rfl) sc_deed_of.nd rfl rfl (sw_true rfl rfl rfl (by decide +kernel)) (pi_range1 (by rfl) T.n_range (pa_cons (pe_callB call_lenA (by rfl) T.n_len bt_len (pa_cons (pv 2) pa_nil)) pa_nil)) (blkOk_by (own := [("k", 4)]) (N := N_deed_of) (sc := defScope s_deed_of) (by decide +kernel)) (fun _ _ _ _ _ => (pgA 4 sc_deed_of.nd)) (fun _ _ _ _ _ => pts_nil) (fun _ _ _ _ _ => (pcG G_part_of hr T.g_part_of k_part_of b_part_of (pa_cons (pixA hr (pv 1) (pe_op op_addA (pv 4) pe_int)) (pa_cons (pixA hr (pv 2) (pv 4)) pa_nil)) (hx := psN)))) | exact (psA 3 sc_deed_of.nd (pe_lc (own := [("k", 4)]) (g := (gName 4)) (tt := tYes) (by rfl) sc_deed_of.nd (pi_range1 (by rfl) T.n_range (pa_cons (pe_callB call_lenA (by rfl) T.n_len bt_len (pa_cons (pv 2) pa_nil)) pa_nil)) (blkOk_by (own := [("k", 4)]) (N := N_deed_of) (sc := defScope s_deed_of) (by decide +kernel)) (fun _ _ _ _ _ => (pgA 4 sc_deed_of.nd)) (fun _ _ _ _ _ => pts_nil) (fun _ _ _ _ _ => (pcG G_part_of hr T.g_part_of k_part_of b_part_of (pa_cons (pixA hr (pv 1) (pe_op op_addA (pv 4) pe_int)) (pa_cons (pixA hr (pv 2) (pv 4)) pa_nil)) (hx := psN))))))
   (pss_cons (ps_if (pt_cmpR (op_neA hr.units) (pe_lc (own := [("part", 5)]) (g := (gName 5)) (tt := (tNot (tTr K (tOp (rIxA K) (tVar 5) (tC (.int 0)))))) (by rfl) sc_deed_of.nd (pi_seq (pv 3)) (blkOk_by (own := [("part", 5)]) (N := N_deed_of) (sc := defScope s_deed_of) (by decide +kernel)) (fun _ _ _ _ _ => (pgA 5 sc_deed_of.nd)) (fun _ _ _ _ _ => (pts_one (pt_not (pt_truth (pixA hr (pv 5) pe_int) (by intro _; rfl))))) (fun _ _ _ _ _ => (pv 5))) (pe_lst pa_nil) (nomark _)) (pss_one (ps_ret pe_non)) pss_nil)
   (pss_one (ps_ret (pe_callTy call_tuple_of (by rfl) T.n_tuple bt_tuple (pa_cons (pe_op op_addA (pe_slice sl_any (pv 1) po_none (po_some pe_int)) (pe_lc (own := [("part", 5)]) (g := (gName 5)) (tt := tYes) (by rfl) sc_deed_of.nd (pi_seq (pv 3)) (blkOk_by (own := [("part", 5)]) (N := N_deed_of) (sc := defScope s_deed_of) (by decide +kernel)) (fun _ _ _ _ _ => (pgA 5 sc_deed_of.nd)) (fun _ _ _ _ _ => pts_nil) (fun _ _ _ _ _ => (pixA hr (pv 5) pe_int)))) pa_nil)))))))))
theorem ok_deal_of (T : Tx w K mg) : DOk P w K mg base 4 ("deal_of", none) ["row"] (S_deal_of K) := by
 obtain ⟨_, b_deed_of, k_deed_of, G_deed_of, _⟩ := @ok_deed_of P _ _ _ base T
 obtain ⟨_, b_number_of, k_number_of, G_number_of, _⟩ := @ok_number_of P _ _ _ base T
 refine dok_of (T.dfn 12 (d := d_deal_of) rfl) sc_deal_of (by walk_at "zm") N.spm_len (fun cdv A outer s H vs Q E hr h => ⟨t_deal_of K E, ?_, pure_deal_of T vs H Q E h⟩)
 exact (pss_cons (psA 1 sc_deal_of.nd (pe_m1 PySem.F.slot_str_split PySem.F.type_str_split mt_split (pv 0) pe_str))
   (pss_cons (psA 2 sc_deal_of.nd (pe_m1 PySem.F.slot_str_split PySem.F.type_str_split mt_split (pixA hr (pv 1) pe_int) pe_str))
   (pss_cons (ps_if (PW.pt (pw_or (pt_cmpR (op_neA hr.units) (pe_callB call_lenA (by rfl) T.n_len bt_len (pa_cons (pv 1) pa_nil)) pe_int (nomark _)) (pw_or1 (pt_cmpR (op_neA hr.units) (pe_callB call_lenA (by rfl) T.n_len bt_len (pa_cons (pv 2) pa_nil)) pe_int (nomark _))))) (pss_one (ps_ret pe_non)) pss_nil)
   (pss_cons (by first | exact (ps_setLc (i := 3) (own := [("head", 4)]) (g := (gName 4)) (tt := tYes) (by rfl) sc_deal_of.nd rfl rfl (sw_true rfl rfl rfl (by decide +kernel)) (pi_seq (pv 2)) (blkOk_by (own := [("head", 4)]) (N := N_deal_of) (sc := defScope s_deal_of) (by decide +kernel)) (fun _ _ _ _ _ => (pgA 4 sc_deal_of.nd)) (fun _ _ _ _ _ => pts_nil) (fun _ _ _ _ _ => (pcG G_number_of hr T.g_number_of k_number_of b_number_of (pa_cons (pv 4) pa_nil) (hx := psN)))) | exact (psA 3 sc_deal_of.nd (pe_lc (own := [("head", 4)]) (g := (gName 4)) (tt := tYes) (by rfl) sc_deal_of.nd (pi_seq (pv 2)) (blkOk_by (own := [("head", 4)]) (N := N_deal_of) (sc := defScope s_deal_of) (by decide +kernel)) (fun _ _ _ _ _ => (pgA 4 sc_deal_of.nd)) (fun _ _ _ _ _ => pts_nil) (fun _ _ _ _ _ => (pcG G_number_of hr T.g_number_of k_number_of b_number_of (pa_cons (pv 4) pa_nil) (hx := psN))))))
   (pss_cons (by first | exact (ps_setLc (i := 5) (own := [("text", 6)]) (g := (gName 6)) (tt := tYes) (by rfl) sc_deal_of.nd rfl rfl (sw_true rfl rfl rfl (by decide +kernel)) (pi_seq (pe_m1 PySem.F.slot_str_split PySem.F.type_str_split mt_split (pixA hr (pv 1) pe_int) pe_str)) (blkOk_by (own := [("text", 6)]) (N := N_deal_of) (sc := defScope s_deal_of) (by decide +kernel)) (fun _ _ _ _ _ => (pgA 6 sc_deal_of.nd)) (fun _ _ _ _ _ => pts_nil) (fun _ _ _ _ _ => (pcG G_deed_of hr T.g_deed_of k_deed_of b_deed_of (pa_cons (pv 6) pa_nil) (hx := psN)))) | exact (psA 5 sc_deal_of.nd (pe_lc (own := [("text", 6)]) (g := (gName 6)) (tt := tYes) (by rfl) sc_deal_of.nd (pi_seq (pe_m1 PySem.F.slot_str_split PySem.F.type_str_split mt_split (pixA hr (pv 1) pe_int) pe_str)) (blkOk_by (own := [("text", 6)]) (N := N_deal_of) (sc := defScope s_deal_of) (by decide +kernel)) (fun _ _ _ _ _ => (pgA 6 sc_deal_of.nd)) (fun _ _ _ _ _ => pts_nil) (fun _ _ _ _ _ => (pcG G_deed_of hr T.g_deed_of k_deed_of b_deed_of (pa_cons (pv 6) pa_nil) (hx := psN))))))
   (pss_cons (ps_if (PW.pt (pw_or (pt_cmpR (op_inD (hu65 hr)) pe_non (pv 3) (by rfl)) (pw_or1 (pt_cmpR (op_inD (hu65 hr)) pe_non (pv 5) (by rfl))))) (pss_one (ps_ret pe_non)) pss_nil)
   (pss_one (ps_ret (pe_tup (pa_cons (pixA hr (pv 3) pe_int) (pa_cons (pixA hr (pv 3) pe_int) (pa_cons (pe_callTy call_tuple_of (by rfl) T.n_tuple bt_tuple (pa_cons (pv 5) pa_nil)) pa_nil))))))))))))
theorem ok_read_deals (T : Tx w K mg) : DOk P w K mg base 5 ("read_deals", none) ["text"] (S_read_deals K) := by
 obtain ⟨_, b_BadText_init, k_BadText_init, G_BadText_init, _⟩ := @ok_BadText_init P _ _ _ base T
 obtain ⟨_, b_deal_of, k_deal_of, G_deal_of, _⟩ := @ok_deal_of P _ _ _ base T
 obtain ⟨_, b_need_deal, k_need_deal, G_need_deal, _⟩ := @ok_need_deal P _ _ _ base T
 obtain ⟨_, b_need_hand, k_need_hand, G_need_hand, _⟩ := @ok_need_hand P _ _ _ base T
 refine dok_of (T.dfn 13 (d := d_read_deals) rfl) sc_read_deals (by walk_at "zm") N.spm_len (fun cdv A outer s H vs Q E hr h => ⟨t_read_deals K E, ?_, pure_read_deals T vs H Q E h⟩)
 exact (pss_cons (psA 1 sc_read_deals.nd (pe_lst pa_nil))
   (pss_cons (ps_for (passes_of rfl) rfl (pi_enumA (by rfl) T.n_enumerate (pa_cons (pe_ifExp (pt_cmpR (op_neA hr.units) (pv 0) pe_str (nomark _)) (pe_m1 PySem.F.slot_str_split PySem.F.type_str_split mt_split (pv 0) pe_str) (pe_lst pa_nil)) pa_nil)) (pg_tup (by rfl) (pgs_cons (pgA 2 sc_read_deals.nd) (pgs_cons (pgA 3 sc_read_deals.nd) pgs_nil))) (pss_cons (psA 4 sc_read_deals.nd (pcG G_deal_of hr T.g_deal_of k_deal_of b_deal_of (pa_cons (pv 3) pa_nil)))
   (pss_cons (ps_if (pt_cmpR op_isNo (pv 4) pe_non (nomark _)) (pss_one (L2N.ps_raise rfl (L2N.takes_of rfl rfl rfl rfl) (pmkN_oex T.x_BadText.ox T.x_BadText.iC T.x_BadText.tI G_BadText_init (hr.mono (by omega)) b_BadText_init psN (by rfl) T.g_BadText (pa_cons (pv 2) pa_nil)))) pss_nil)
   (pss_one (ps_expr (pe_bm PySem.F.plainAttrs_list PySem.F.slot_list_append PySem.F.type_list_append mt_append (pv 1) (pa_cons (pv 4) pa_nil)))))))
   (pss_cons (ps_for (passes_of rfl) rfl (pi_seq (pv 1)) (pg_tup (by rfl) (pgs_cons (pgA 5 sc_read_deals.nd) (pgs_cons (pgA 6 sc_read_deals.nd) (pgs_cons (pgA 7 sc_read_deals.nd) pgs_nil)))) (pss_cons (ps_expr (pcG G_need_hand hr T.g_need_hand k_need_hand b_need_hand (pa_cons (pv 5) pa_nil)))
   (pss_one (ps_expr (pcG G_need_deal hr T.g_need_deal k_need_deal b_need_deal (pa_cons (pv 7) pa_nil))))))
   (pss_one (ps_ret (pv 1))))))
theorem ok_told_ (T : Tx w K mg) (TB : ∀ p ∈ tf, LamX.TabB base mg (He.cT K p).1 (He.cT K p).2) : DOk P w K mg base 9 ("_law_told", none) ["_law_text_here"] (S_told_ K) := by
 obtain ⟨_, b_read_deals, k_read_deals, G_read_deals, _⟩ := @ok_read_deals P _ _ _ base T
 refine dok_ofC (T.dfn 37 (d := d_told_) rfl) sc_told_ (by walk_at "zm") N.spm_len (fun cdv A outer s H vs Q E hcd hr h => ⟨t_told_ K E, ?_, pure_told_ T vs H Q E h⟩)
 subst hcd
 exact (pss_cons (psA 1 sc_told_.nd (lam_refused_ T TB (at_ := ("_law_told", none)) (by decide) (by rfl) (by rfl) hr (by show LamX.lamSB (defScope s_told_) _ = true; decide +kernel) (by rfl) (by rfl) (fun _ _ _ _ _ => rfl) (fun A outer s H E f c' hr => (pcG G_read_deals hr T.g_read_deals k_read_deals b_read_deals (pa_cons (pv 0) pa_nil)))))
   (pss_one (ps_ret (pe_ifExp (pt_cmpR op_isNo (pv 1) pe_non (nomark _)) (pcG G_read_deals hr T.g_read_deals k_read_deals b_read_deals (pa_cons (pv 0) pa_nil)) (pv 1)))))
theorem ok_law (T : Tx w K mg) (TB : ∀ p ∈ tf, LamX.TabB base mg (He.cT K p).1 (He.cT K p).2) : DOk P w K mg base 11 ("law", none) ["_law_script"] (S_law K) := by
 obtain ⟨_, b_alike_, k_alike_, G_alike_, _⟩ := @ok_alike_ P _ _ _ base T 9
 obtain ⟨_, b_begun_, k_begun_, G_begun_, _⟩ := @ok_begun_ P _ _ _ base T
 obtain ⟨_, b_deals_, k_deals_, G_deals_, _⟩ := @ok_deals_ P _ _ _ base T
 obtain ⟨_, b_due_, k_due_, G_due_, _⟩ := @ok_due_ P _ _ _ base T
 obtain ⟨_, b_spoilt_, k_spoilt_, G_spoilt_, _⟩ := @ok_spoilt_ P _ _ _ base T
 obtain ⟨_, b_take_, k_take_, G_take_, _⟩ := @ok_take_ P _ _ _ base T
 obtain ⟨_, b_text_, k_text_, G_text_, _⟩ := @ok_text_ P _ _ _ base T
 obtain ⟨_, b_told_, k_told_, G_told_, _⟩ := @ok_told_ P _ _ _ base T TB
 obtain ⟨_, b_wrong_, k_wrong_, G_wrong_, _⟩ := @ok_wrong_ P _ _ _ base T
 refine dok_of (T.dfn 38 (d := d_law) rfl) sc_law (by walk_at "zm") N.spm_len (fun cdv A outer s H vs Q E hr h => ⟨t_law K E, ?_, pure_law T vs H Q E h⟩)
 exact (pss_cons (psA 1 sc_law.nd (pcG G_begun_ hr T.g_begun_ k_begun_ b_begun_ (pa_cons (pv 0) pa_nil)))
   (pss_cons (psA 2 sc_law.nd (pe_lst (pa_cons pe_str (pa_cons pe_str (pa_cons pe_str (pa_cons pe_str (pa_cons pe_str (pa_cons pe_str (pa_cons pe_str (pa_cons pe_str (pa_cons pe_str pa_nil)))))))))))
   (pss_cons (psA 2 sc_law.nd (pe_op op_addA (pv 2) (pe_lst (pa_cons pe_str (pa_cons pe_str (pa_cons pe_str (pa_cons pe_str (pa_cons pe_str pa_nil))))))))
   (pss_cons (psA 2 sc_law.nd (pe_op op_addA (pv 2) (pe_lst (pa_cons (pe_op op_mulT pe_str pe_int) (pa_cons pe_str pa_nil)))))
   (pss_cons (ps_for (passes_of rfl) rfl (pi_range1 (by rfl) T.n_range (pa_cons pe_int pa_nil)) (pgA 3 sc_law.nd) (pss_cons (psA 4 sc_law.nd (pixA hr (pe_lst (pa_cons (pcG G_text_ hr T.g_text_ k_text_ b_text_ (pa_cons (pcG G_deals_ hr T.g_deals_ k_deals_ b_deals_ (pa_cons (pv 1) pa_nil)) pa_nil)) (pa_cons (pixA hr (pv 2) (pcG G_take_ hr T.g_take_ k_take_ b_take_ (pa_cons (pv 1) (pa_cons pe_int pa_nil)))) pa_nil))) (pe_op op_fdivW (pcG G_take_ hr T.g_take_ k_take_ b_take_ (pa_cons (pv 1) (pa_cons pe_int pa_nil))) pe_int)))
   (pss_cons (ps_for (passes_of rfl) rfl (pi_range1 (by rfl) T.n_range (pa_cons (pcG G_take_ hr T.g_take_ k_take_ b_take_ (pa_cons (pv 1) (pa_cons pe_int pa_nil))) pa_nil)) (pgA 5 sc_law.nd) (pss_one (psA 4 sc_law.nd (pcG G_spoilt_ hr T.g_spoilt_ k_spoilt_ b_spoilt_ (pa_cons (pv 1) (pa_cons (pv 4) pa_nil))))))
   (pss_cons (ps_if (pt_cmpR (op_eqA hr.units) (pcG G_take_ hr T.g_take_ k_take_ b_take_ (pa_cons (pv 1) (pa_cons pe_int pa_nil))) pe_int (nomark _)) (pss_one (psA 4 sc_law.nd (pcG G_wrong_ hr T.g_wrong_ k_wrong_ b_wrong_ (pa_cons (pv 1) (pa_cons (pv 4) pa_nil))))) pss_nil)
   (pss_cons (psA 6 sc_law.nd (pcG G_due_ hr T.g_due_ k_due_ b_due_ (pa_cons (pv 4) pa_nil)))
   (pss_one (ps_if (PW.pt (pw_or (pt_not (pt_truth (pcG G_alike_ hr T.g_alike_ k_alike_ b_alike_ (pa_cons (pcG G_told_ hr T.g_told_ k_told_ b_told_ (pa_cons (pv 4) pa_nil)) (pa_cons (pv 6) pa_nil))) (by intro _; rfl))) (pw_or1 (pt_not (pt_truth (pcG G_alike_ hr T.g_alike_ k_alike_ b_alike_ (pa_cons (pcG G_told_ hr T.g_told_ k_told_ b_told_ (pa_cons (pv 4) pa_nil)) (pa_cons (pv 6) pa_nil))) (by intro _; rfl)))))) (pss_one (ps_ret pe_bl)) pss_nil)))))))
   (pss_one (ps_ret pe_bl)))))))
end
end W
end
section
namespace N
open PySem PySem.Spec PyProof.Rows L2 Cm W
def LawHolds (f : List A → G → R Fv) (ns : List Int) : Prop := (f [.scr ns] g0).sat (fun fv _ => fv = .val (.bl true)) (fun _ _ => False)
theorem law_sp {K : PySem.W.Frag} {f : List A → G → R Fv} {H : Hp} {a : Addr} {ns : List Int} (_ : ns.length ≤ 63) (hT : ∀ p ∈ tf.map (He.cT K), H p.2 = some (.tbl #[])) (hS : SqL K H a (ns.map V.int)) (h : LawHolds f ns) : SpM K 1 f [.ref a] H (fun v _ => v = .bl true) fun _ _ _ => False := by
 refine ⟨0, env0, [], [], g0, [.scr ns], rfl, mt0 (fun p hp => by obtain ⟨d, hd, rfl⟩ := List.mem_map.mp hp; exact LamX.TabS.nil (hT _ (List.mem_map.mpr ⟨d, hd, rfl⟩))), ⟨_, _, rfl, ⟨a, rfl, ?_⟩, rfl⟩, sat_mono (fun fv g' h m' H' v M X r => by subst h; exact r) (fun e g' h => h.elim) h⟩
 rcases hS with h | h
 ·exact .inl ⟨h, rfl⟩
 ·exact .inr h
end N
end
section
namespace N
open PySem PySem.Spec PyProof.Rows L2 Cm W
theorem nrfl {α : Sort u} {a b : α} (h : a = b) : a = b := h
@[simp] theorem bind_ok {α β : Type} (a : α) (g : G) (f : α → G → R β) : (R.ok a g).bind f = f a g := nrfl rfl
@[simp] theorem bind_err {α β : Type} (e : Ex) (g : G) (f : α → G → R β) : (R.err e g).bind f = .err e g := nrfl rfl
@[simp] theorem fin_ok {α β : Type} (a : α) (g : G) (f : α → G → R β) (u : G → Option G) : (R.ok a g).fin f u = f a g := nrfl rfl
@[simp] theorem cut_ok {α : Type} (a : α) (g : G) : (R.ok a g).cut = .ok a g := nrfl rfl
@[simp] theorem ofO_some {α : Type} (a : α) (g : G) : ofO (some a) g = .ok a g := nrfl rfl
@[simp] theorem sat_ok {α : Type} (a : α) (g : G) (Q : α → G → Prop) (E : Ex → G → Prop) : (R.ok a g).sat Q E = Q a g := nrfl rfl
def vS : Option (Option Fv) → Option A
 | some (some (.val a)) => some a
 | _ => none
def wS : Option (Option Fv) → Option A
 | some (some x) => some (toA x)
 | _ => none
@[simp] theorem vS_val (a : A) : vS (some (some (.val a))) = some a := nrfl rfl
@[simp] theorem wS_some (x : Fv) : wS (some (some x)) = some (toA x) := nrfl rfl
@[simp] theorem toA_val (a : A) : toA (.val a) = a := nrfl rfl
@[simp] theorem toA_lst (b : Bool) (xs : List A) : toA (.own b (.lst xs)) = .lst xs := nrfl rfl
@[simp] theorem toA_dic (b : Bool) (xs : List (Key × A)) : toA (.own b (.dic xs)) = .dic xs := nrfl rfl
@[simp] theorem cA_lst (xs : List A) : cA (.lst xs) = .lst xs := nrfl rfl
@[simp] theorem cA_dic (xs : List (Key × A)) : cA (.dic xs) = .dic xs := nrfl rfl
def okS : Option (Option Fv) → Option Unit
 | none => none
 | some (some (.own true _)) => none
 | _ => some ()
@[simp] theorem okS_no : okS (some none) = some () := nrfl rfl
@[simp] theorem okS_val (a : A) : okS (some (some (.val a))) = some () := nrfl rfl
def rfO : A → Option Nat
 | .ref l => some l
 | _ => none
def rtS (g : G) : Option (Option Fv) → R O
 | some (some (.own false c)) => .ok (.rt (.own false c)) g
 | some (some (.val a)) => .ok (.rt (.val a)) g
 | _ => .no
@[simp] theorem rtS_own (g : G) (c : C) : rtS g (some (some (.own false c))) = .ok (.rt (.own false c)) g := nrfl rfl
def kSeq (b : MS) : O → G → R O
 | .nx σ1, g1 => b σ1 g1
 | o, g1 => .ok o g1
@[simp] theorem kSeq_nx (b : MS) (σ : Sl) (g : G) : kSeq b (.nx σ) g = b σ g := nrfl rfl
@[simp] theorem kSeq_rt (b : MS) (v : Fv) (g : G) : kSeq b (.rt v) g = .ok (.rt v) g := nrfl rfl
def kFun : O → G → R Fv
 | .nx _, g' => .ok (.val .non) g'
 | .rt v, g' => .ok v g'
 | _, _ => .no
@[simp] theorem kFun_nx (σ : Sl) (g : G) : kFun (.nx σ) g = .ok (.val .non) g := nrfl rfl
@[simp] theorem kFun_rt (v : Fv) (g : G) : kFun (.rt v) g = .ok v g := nrfl rfl
def kLoop (f : Sl → G → R O) : O → G → R O
 | .nx σ2, g2 => f σ2 g2
 | .ct σ2, g2 => f σ2 g2
 | .bk σ2, g2 => .ok (.nx σ2) g2
 | .rt v, g2 => .ok (.rt v) g2
@[simp] theorem kLoop_nx (f : Sl → G → R O) (σ : Sl) (g : G) : kLoop f (.nx σ) g = f σ g := nrfl rfl
@[simp] theorem kLoop_rt (f : Sl → G → R O) (v : Fv) (g : G) : kLoop f (.rt v) g = .ok (.rt v) g := nrfl rfl
theorem eta_b {α β : Type} {r : R α} {f f' : α → G → R β} (h : ∀ a g, f a g = f' a g) : r.bind f = r.bind f' := by
 have : f = f' := by funext a g; exact h a g
 rw [this]
def kMk (l : Nat) : Fv → G → R Fv
 | .val .non, g2 => .ok (.val (.ref l)) g2
 | _, _ => .no
def kVal  : A → G → R Fv := fun a g => .ok (.val a) g
@[simp] theorem kVal_ap  (a : A) (g : G) : kVal  a g = .ok (.val a) g := nrfl rfl
def kToA  : Fv → G → R A := fun a g => .ok (toA a) g
@[simp] theorem kToA_ap  (a : Fv) (g : G) : kToA  a g = .ok (toA a) g := nrfl rfl
def kO {α β : Type} (f : α → Option β) : α → G → R β := fun x g => ofO (f x) g
@[simp] theorem kO_ap {α β : Type} (f : α → Option β) (x : α) (g : G) : kO f x g = ofO (f x) g := nrfl rfl
def k2 {α : Type} (f : A → A → Option α) (b : ME) (σ : Sl) : A → G → R α := fun x g => (b σ g).bind (kO (f x))
@[simp] theorem k2_ap {α : Type} (f : A → A → Option α) (b : ME) (σ : Sl) (x : A) (g : G) : k2 f b σ x g = (b σ g).bind (kO (f x)) := nrfl rfl
def kW {α : Type} (f : A → A → Option α) (b : QE) (σ : Sl) : A → G → R α := fun x g => ofO ((b σ g).bind (f x)) g
def kC2 (x : A) : List A → G → R (List A) := fun xs g => .ok (x :: xs) g
@[simp] theorem kC2_ap (x : A) (xs : List A) (g : G) : kC2 x xs g = .ok (x :: xs) g := nrfl rfl
def kC1 (r : MA) (σ : Sl) : A → G → R (List A) := fun x g => (r σ g).bind (kC2 x)
@[simp] theorem kC1_ap (r : MA) (σ : Sl) (x : A) (g : G) : kC1 r σ x g = (r σ g).bind (kC2 x) := nrfl rfl
def kNot  : Bool → G → R Bool := fun b g => .ok (!b) g
@[simp] theorem kNot_ap  (b : Bool) (g : G) : kNot  b g = .ok (!b) g := nrfl rfl
def kAnd (u : MT) (σ : Sl) : Bool → G → R Bool := fun b g => if b then u σ g else .ok false g
def kOr (u : MT) (σ : Sl) : Bool → G → R Bool := fun b g => if b then .ok true g else u σ g
@[simp] theorem kOr_ap (u : MT) (σ : Sl) (b : Bool) (g : G) : kOr u σ b g = if b then .ok true g else u σ g := nrfl rfl
def kIf {α : Type} (a b : Sl → G → R α) (σ : Sl) : Bool → G → R α := fun c g => if c then a σ g else b σ g
@[simp] theorem kIf_ap {α : Type} (a b : Sl → G → R α) (σ : Sl) (c : Bool) (g : G) : kIf a b σ c g = if c then a σ g else b σ g := nrfl rfl
def kAV2 (b : ME) (σ : Sl) : Bool → G → R A := fun c g => if c then b σ g else .ok (.bl false) g
def kAV (b : ME) (σ : Sl) : A → G → R A := fun x g => (ofO (tB x) g).bind (kAV2 b σ)
def kOV2 (b : ME) (σ : Sl) : Bool → G → R A := fun c g => if c then .ok (.bl true) g else b σ g
def kOV (b : ME) (σ : Sl) : A → G → R A := fun x g => (ofO (tB x) g).bind (kOV2 b σ)
def kDrop (σ : Sl) : Fv → G → R O := fun x g => .ok (.nx σ) g
@[simp] theorem kDrop_ap (σ : Sl) (x : Fv) (g : G) : kDrop σ x g = .ok (.nx σ) g := nrfl rfl
def kRet  : Fv → G → R O := fun v g => .ok (.rt v) g
@[simp] theorem kRet_ap  (v : Fv) (g : G) : kRet  v g = .ok (.rt v) g := nrfl rfl
def kSet (σ : Sl) (i : Nat) (v : Fv) : Unit → Option Sl := fun u => some (σ.set i (some v))
@[simp] theorem kSet_ap (σ : Sl) (i : Nat) (v : Fv) (u : Unit) : kSet σ i v u = some (σ.set i (some v)) := nrfl rfl
def kAsg (i : Nat) (σ : Sl) : Fv → G → R O := fun v g => ofO ((setSl σ i v).map .nx) g
@[simp] theorem kAsg_ap (i : Nat) (σ : Sl) (v : Fv) (g : G) : kAsg i σ v g = ofO ((setSl σ i v).map .nx) g := nrfl rfl
def kG (σ : Sl) : G → G → R O := fun h g => .ok (.nx σ) h
def kFl (cs : List Str) (g : G) (f : Str) (v : Fv) : Nat → Option G := fun l => setFl cs g l f v
def kFld (cs : List Str) (qo : QE) (f : Str) (σ : Sl) : Fv → G → R O := fun v g => (ofO ((refO (qo σ g)).bind (kFl cs g f v)) g).bind (kG σ)
def kf (cs : List Str) (f : Str) (g : G) : Nat → Option A := fun l => vF (fA cs f (g.o l))
def kfw (cs : List Str) (f : Str) (g : G) : Nat → Option A := fun l => (fA cs f (g.o l)).map toA
def kq2 {α : Type} (f : A → A → Option α) (q : QE) (σ : Sl) (g : G) : A → Option α := fun a => (q σ g).bind (f a)
@[simp] theorem kq2_ap {α : Type} (f : A → A → Option α) (q : QE) (σ : Sl) (g : G) (a : A) : kq2 f q σ g a = (q σ g).bind (f a) := nrfl rfl
def ka2 (a : A) : List A → Option (List A) := fun as => some (a :: as)
@[simp] theorem ka2_ap (a : A) (as : List A) : ka2 a as = some (a :: as) := nrfl rfl
def ka (r : Sl → G → Option (List A)) (σ : Sl) (g : G) : A → Option (List A) := fun a => (r σ g).bind (ka2 a)
@[simp] theorem ka_ap (r : Sl → G → Option (List A)) (σ : Sl) (g : G) (a : A) : ka r σ g a = (r σ g).bind (ka2 a) := nrfl rfl
def kqIf {α : Type} (a b : Sl → G → Option α) (σ : Sl) (g : G) : Bool → Option α := fun c => if c then a σ g else b σ g
@[simp] theorem kqIf_ap {α : Type} (a b : Sl → G → Option α) (σ : Sl) (g : G) (c : Bool) : kqIf a b σ g c = if c then a σ g else b σ g := nrfl rfl
def kqT {α : Type} (x : α) : Sl → G → Option α := fun σ g => some x
@[simp] theorem kqT_ap {α : Type} (x : α) (σ : Sl) (g : G) : kqT x σ g = some x := nrfl rfl
def kch3 (f : A → A → Option A) (q : QE) (σ : Sl) (g : G) (b : A) : Bool → Option A := fun z => if z then (q σ g).bind (f b) else some (.bl false)
@[simp] theorem kch3_ap (f : A → A → Option A) (q : QE) (σ : Sl) (g : G) (b : A) (z : Bool) : kch3 f q σ g b z = if z then (q σ g).bind (f b) else some (.bl false) := nrfl rfl
def kch2 (f f' : A → A → Option A) (q : QE) (σ : Sl) (g : G) (a : A) : A → Option A := fun b => ((f a b).bind tB).bind (kch3 f' q σ g b)
@[simp] theorem kch2_ap (f f' : A → A → Option A) (q : QE) (σ : Sl) (g : G) (a : A) (b : A) : kch2 f f' q σ g a b = ((f a b).bind tB).bind (kch3 f' q σ g b) := nrfl rfl
def kch1 (f f' : A → A → Option A) (q r : QE) (σ : Sl) (g : G) : A → Option A := fun a => (q σ g).bind (kch2 f f' r σ g a)
@[simp] theorem kch1_ap (f f' : A → A → Option A) (q r : QE) (σ : Sl) (g : G) (a : A) : kch1 f f' q r σ g a = (q σ g).bind (kch2 f f' r σ g a) := nrfl rfl
def kq3 (f : A → A → A → Option A) (q r : QE) (σ : Sl) (g : G) : A → Option A := fun a => (q σ g).bind (kq2 (f a) r σ g)
@[simp] theorem kq3_ap (f : A → A → A → Option A) (q r : QE) (σ : Sl) (g : G) (a : A) : kq3 f q r σ g a = (q σ g).bind (kq2 (f a) r σ g) := nrfl rfl
def ksl2 {α : Type} (f : A → Option Int → Option Int → Option α) (h : QO) (σ : Sl) (g : G) (a : A) : Option Int → Option α := fun lo => (h σ g).bind (f a lo)
@[simp] theorem ksl2_ap {α : Type} (f : A → Option Int → Option Int → Option α) (h : QO) (σ : Sl) (g : G) (a : A) (lo : Option Int) : ksl2 f h σ g a lo = (h σ g).bind (f a lo) := nrfl rfl
def ksl1 {α : Type} (f : A → Option Int → Option Int → Option α) (l h : QO) (σ : Sl) (g : G) : A → Option α := fun a => (l σ g).bind (ksl2 f h σ g a)
@[simp] theorem ksl1_ap {α : Type} (f : A → Option Int → Option Int → Option α) (l h : QO) (σ : Sl) (g : G) (a : A) : ksl1 f l h σ g a = (l σ g).bind (ksl2 f h σ g a) := nrfl rfl
def kmSl {α : Type} (f : A → Option Int → Option Int → Option α) (l h : QO) (σ : Sl) : A → G → R α := fun a g => ofO (ksl1 f l h σ g a) g
def kpF (cs : List Str) (f : Str) (g : G) : Nat → Option P0 := fun l => pFv l f (fA cs f (g.o l))
def kmu3 (f : List A → List A → Option (List A)) (p : P0) (xs : List A) : List A → Option (P0 × List A) := fun as => (f xs as).map fun xs' => (p, xs')
@[simp] theorem kmu3_ap (f : List A → List A → Option (List A)) (p : P0) (xs : List A) (as : List A) : kmu3 f p xs as = (f xs as).map fun xs' => (p, xs') := nrfl rfl
def kmu2 (f : List A → List A → Option (List A)) (q : Sl → G → Option (List A)) (σ : Sl) (g : G) (p : P0) : List A → Option (P0 × List A) := fun xs => (q σ g).bind (kmu3 f p xs)
@[simp] theorem kmu2_ap (f : List A → List A → Option (List A)) (q : Sl → G → Option (List A)) (σ : Sl) (g : G) (p : P0) (xs : List A) : kmu2 f q σ g p xs = (q σ g).bind (kmu3 f p xs) := nrfl rfl
def kmu1 (f : List A → List A → Option (List A)) (q : Sl → G → Option (List A)) (σ : Sl) (g : G) : P0 → Option (P0 × List A) := fun p => (lstP (getP σ g p)).bind (kmu2 f q σ g p)
@[simp] theorem kmu1_ap (f : List A → List A → Option (List A)) (q : Sl → G → Option (List A)) (σ : Sl) (g : G) (p : P0) : kmu1 f q σ g p = (lstP (getP σ g p)).bind (kmu2 f q σ g p) := nrfl rfl
def kpL (σ : Sl) : P0 × List A → G → R O := fun q g => .ok (.nx (putS (.lst q.2) σ q.1)) (putG (.lst q.2) g q.1)
@[simp] theorem kpL_ap (σ : Sl) (q : P0 × List A) (g : G) : kpL σ q g = .ok (.nx (putS (.lst q.2) σ q.1)) (putG (.lst q.2) g q.1) := nrfl rfl
def kpC (σ : Sl) : P0 × C → G → R O := fun q g => .ok (.nx (putS q.2 σ q.1)) (putG q.2 g q.1)
def kpD (σ : Sl) : P0 × List (Key × A) → G → R O := fun q g => .ok (.nx (putS (.dic q.2) σ q.1)) (putG (.dic q.2) g q.1)
def kme4 (σ : Sl) (p : P0) : List A → G → R O := fun xs g => .ok (.nx (putS (.lst xs) σ p)) (putG (.lst xs) g p)
@[simp] theorem kme4_ap (σ : Sl) (p : P0) (xs : List A) (g : G) : kme4 σ p xs g = .ok (.nx (putS (.lst xs) σ p)) (putG (.lst xs) g p) := nrfl rfl
def kme3 (f : List A → List A → Option (List A)) (as : List A) : List A → Option (List A) := fun xs => f xs as
@[simp] theorem kme3_ap (f : List A → List A → Option (List A)) (as : List A) (xs : List A) : kme3 f as xs = f xs as := nrfl rfl
def kme2 (f : List A → List A → Option (List A)) (σ : Sl) (p : P0) : List A → G → R O := fun as g => (ofO ((lstP (getP σ g p)).bind (kme3 f as)) g).bind (kme4 σ p)
@[simp] theorem kme2_ap (f : List A → List A → Option (List A)) (σ : Sl) (p : P0) (as : List A) (g : G) : kme2 f σ p as g = (ofO ((lstP (getP σ g p)).bind (kme3 f as)) g).bind (kme4 σ p) := nrfl rfl
def kme1 (f : List A → List A → Option (List A)) (ma : MA) (σ : Sl) : P0 → G → R O := fun p g => (ma σ g).bind (kme2 f σ p)
@[simp] theorem kme1_ap (f : List A → List A → Option (List A)) (ma : MA) (σ : Sl) (p : P0) (g : G) : kme1 f ma σ p g = (ma σ g).bind (kme2 f σ p) := nrfl rfl
def kme0 (σ : Sl) (g : G) : P0 → Option P0 := fun p => (lstP (getP σ g p)).map fun _ => p
@[simp] theorem kme0_ap (σ : Sl) (g : G) (p : P0) : kme0 σ g p = (lstP (getP σ g p)).map fun _ => p := nrfl rfl
def ksu3 (v : A) (p : P0) (c : C) : A → Option (P0 × C) := fun i => (setI c i v).map fun c' => (p, c')
def ksu2 (q : QE) (σ : Sl) (g : G) (v : A) (p : P0) : C → Option (P0 × C) := fun c => (q σ g).bind (ksu3 v p c)
def ksu1 (q : QE) (σ : Sl) (g : G) (v : A) : P0 → Option (P0 × C) := fun p => (unlk (getP σ g p)).bind (ksu2 q σ g v p)
def ksub (pl : Sl → G → Option P0) (q : QE) (σ : Sl) : A → G → R O := fun v g => (ofO ((pl σ g).bind (ksu1 q σ g v)) g).bind (kpC σ)
def kp13 (p : P0) (kvs : List (Key × A)) (k : Key) : A → Option (P0 × A × List (Key × A)) := fun v => if isSlot p then none else some (p, v, delK kvs k)
def kp12 (p : P0) (kvs : List (Key × A)) : Key → Option (P0 × A × List (Key × A)) := fun k => (getK kvs k).bind (kp13 p kvs k)
def kp11 (q : QE) (σ : Sl) (g : G) (p : P0) : List (Key × A) → Option (P0 × A × List (Key × A)) := fun kvs => ((q σ g).bind keyA).bind (kp12 p kvs)
def kp10 (q : QE) (σ : Sl) (g : G) : P0 → Option (P0 × A × List (Key × A)) := fun p => (dicP (getP σ g p)).bind (kp11 q σ g p)
def kp2  : P0 × A × List (Key × A) → G → R A := fun q g => .ok q.2.1 (putG (.dic q.2.2) g q.1)
def kp23 (p : P0) (kvs : List (Key × A)) (k : Key) : A → Option (P0 × A × List (Key × A)) := fun x => if isSlot p then none else some (p, (getK kvs k).getD x, if (getK kvs k).isSome then delK kvs k else kvs)
def kp22 (r : QE) (σ : Sl) (g : G) (p : P0) (kvs : List (Key × A)) : Key → Option (P0 × A × List (Key × A)) := fun k => (r σ g).bind (kp23 p kvs k)
def kp21 (q r : QE) (σ : Sl) (g : G) (p : P0) : List (Key × A) → Option (P0 × A × List (Key × A)) := fun kvs => ((q σ g).bind keyA).bind (kp22 r σ g p kvs)
def kp20 (q r : QE) (σ : Sl) (g : G) : P0 → Option (P0 × A × List (Key × A)) := fun p => (dicP (getP σ g p)).bind (kp21 q r σ g p)
def kCall (k : Nat) (cf : List A → G → R Fv) : List A → G → R Fv := fun as g => if as.length = k then cf as g else .no
@[simp] theorem kCall_ap (k : Nat) (cf : List A → G → R Fv) (as : List A) (g : G) : kCall k cf as g = if as.length = k then cf as g else .no := nrfl rfl
def kMe2 (k : Nat) (cf : List A → G → R Fv) (l : Nat) : List A → G → R Fv := fun as g => if as.length + 1 = k then cf (.ref l :: as) g else .no
def kMe (k : Nat) (cf : List A → G → R Fv) (mr : MA) (σ : Sl) : Nat → G → R Fv := fun l g => (mr σ g).bind (kMe2 k cf l)
def kMe0 (c mn : Str) (g : G) : Nat → Option Nat := fun l => if okM c mn (g.o l) then some l else none
def kMake (c : Str) (k : Nat) (cf : List A → G → R Fv) : List A → G → R Fv := fun as g => if as.length + 1 = k then (cf (.ref g.n :: as) (g.add (.ins c []))).bind (kMk g.n) else .no
@[simp] theorem kMake_ap (c : Str) (k : Nat) (cf : List A → G → R Fv) (as : List A) (g : G) : kMake c k cf as g = if as.length + 1 = k then (cf (.ref g.n :: as) (g.add (.ins c []))).bind (kMk g.n) else .no := nrfl rfl
def kOwn  : C → G → R Fv := fun c g => .ok (.own false c) g
@[simp] theorem kOwn_ap  (c : C) (g : G) : kOwn  c g = .ok (.own false c) g := nrfl rfl
def kSig (ms : MS) : Sl → G → R O := fun σ g => ms σ g
def kag3 (cs : List Str) (f : Str) (g : G) (l : Nat) : A → Option G := fun z => setFl cs g l f (.val z)
def kag2 (cs : List Str) (f : Str) (op : Int → Int → Int) (g : G) (l : Nat) (x : A) : A → Option G := fun y => (fI (fun a b => .int (op a b)) x y).bind (kag3 cs f g l)
def kag1 (cs : List Str) (f : Str) (op : Int → Int → Int) (q : QE) (σ : Sl) (g : G) (l : Nat) : A → Option G := fun x => (q σ g).bind (kag2 cs f op g l x)
def kag0 (cs : List Str) (f : Str) (op : Int → Int → Int) (q : QE) (σ : Sl) (g : G) : Nat → Option G := fun l => (vF (fA cs f (g.o l))).bind (kag1 cs f op q σ g l)
def kau2 (i : Nat) (σ : Sl) : A → Option O := fun z => (setSl σ i (.val z)).map .nx
def kau1 (i : Nat) (f : Int → Int → Int) (σ : Sl) (x : A) : A → G → R O := fun y g => ofO ((fI (fun a b => .int (f a b)) x y).bind (kau2 i σ)) g
def kau0 (i : Nat) (f : Int → Int → Int) (me : ME) (σ : Sl) : A → G → R O := fun x g => (me σ g).bind (kau1 i f σ x)
def kLD (σ : Sl) (g : G) : P0 → Option A := fun p => (dicP (getP σ g p)).map fun kvs => .int kvs.length
def kAG (mg : A → Sl → Option Sl) (σ : Sl) : A → G → R O := fun a g => ofO ((mg a σ).map .nx) g
def kSS  : A → G → R Fv := fun a g => ofO ((fSS a).map (Fv.own false)) g
def kup2 (p : P0) (kvs : List (Key × A)) (xs : List A) : List (Key × A) → Option (P0 × List (Key × A)) := fun ps => if kvs.length + xs.length ≤ 100000 then some (p, mrgK kvs ps) else none
def kup1 (p : P0) (kvs : List (Key × A)) : List A → Option (P0 × List (Key × A)) := fun xs => (pairsA xs).bind (kup2 p kvs xs)
def kup0 (q : QE) (σ : Sl) (g : G) (p : P0) : List (Key × A) → Option (P0 × List (Key × A)) := fun kvs => ((q σ g).bind lstA).bind (kup1 p kvs)
def kup (q : QE) (σ : Sl) (g : G) : P0 → Option (P0 × List (Key × A)) := fun p => (dicP (getP σ g p)).bind (kup0 q σ g p)
def kDi  : List (Key × A) → G → R Fv := fun kvs g => if kvs.length ≤ 15 then .ok (.own false (.dic (mrgK [] kvs))) g else .no
@[simp] theorem kDi_ap  (kvs : List (Key × A)) (g : G) : kDi  kvs g = if kvs.length ≤ 15 then .ok (.own false (.dic (mrgK [] kvs))) g else .no := nrfl rfl
def kDs2 (k : Str) (a : A) : List (Key × A) → G → R (List (Key × A)) := fun kvs g => .ok ((.inr k, a) :: kvs) g
@[simp] theorem kDs2_ap (k : Str) (a : A) (kvs : List (Key × A)) (g : G) : kDs2 k a kvs g = .ok ((.inr k, a) :: kvs) g := nrfl rfl
def kDs1 (k : Str) (r : List (Str × ME)) (σ : Sl) : A → G → R (List (Key × A)) := fun a g => (mDs r σ g).bind (kDs2 k a)
@[simp] theorem kDs1_ap (k : Str) (r : List (Str × ME)) (σ : Sl) (a : A) (g : G) : kDs1 k r σ a g = (mDs r σ g).bind (kDs2 k a) := nrfl rfl
def kLp (σ : Sl) (g : G) : P0 → Option (List A) := fun p => lstT (getP σ g p)
def kKy (σ : Sl) (g : G) : P0 → Option (List A) := fun p => (dicT (getP σ g p)).map fun kvs => kvs.map fun kv => kA kv.1
def kFor (mg : A → Sl → Option Sl) (ms : MS) (σ : Sl) : List A → G → R O := fun xs g => mForL mg ms xs σ g
@[simp] theorem kFor_ap (mg : A → Sl → Option Sl) (ms : MS) (σ : Sl) (xs : List A) (g : G) : kFor mg ms σ xs g = mForL mg ms xs σ g := nrfl rfl
def kLstF  : List A → G → R Fv := fun ys g => .ok (.own false (.lst ys)) g
@[simp] theorem kLstF_ap  (ys : List A) (g : G) : kLstF  ys g = .ok (.own false (.lst ys)) g := nrfl rfl
def kLc (mg : A → Sl → Option Sl) (mt : MT) (me : ME) (vs : List Nat) (σ : Sl) : List A → G → R Fv := fun xs g => if vsOk σ vs then (mLcL mg mt me (wipeA σ vs) xs [] g).bind kLstF else .no
@[simp] theorem kLc_ap (mg : A → Sl → Option Sl) (mt : MT) (me : ME) (vs : List Nat) (σ : Sl) (xs : List A) (g : G) : kLc mg mt me vs σ xs g = if vsOk σ vs then (mLcL mg mt me (wipeA σ vs) xs [] g).bind kLstF else .no := nrfl rfl
def kgs (gs : List A → Sl → Option Sl) (xs : List A) : Sl → Option Sl := fun σ => gs xs σ
@[simp] theorem kgs_ap (gs : List A → Sl → Option Sl) (xs : List A) (σ : Sl) : kgs gs xs σ = gs xs σ := nrfl rfl
def kBody (ms : MS) (f : Sl → G → R O) : Sl → G → R O := fun σ g => (ms σ g).bind (kLoop f)
@[simp] theorem kBody_ap (ms : MS) (f : Sl → G → R O) (σ : Sl) (g : G) : kBody ms f σ g = (ms σ g).bind (kLoop f) := nrfl rfl
def kWh (ms : MS) (f : Sl → G → R O) (σ : Sl) : Bool → G → R O := fun b g => if b then (ms σ g).bind (kLoop f) else .ok (.nx σ) g
section
variable (σ : Sl) (g : G)
@[simp] theorem ap_mQ (q : QE) : mQ q σ g = ofO (q σ g) g := by unfold mQ ofO; cases q σ g <;> rfl
@[simp] theorem ap_mQT (q : QT) : mQT q σ g = ofO (q σ g) g := by unfold mQT ofO; cases q σ g <;> rfl
@[simp] theorem ap_mVal (me : ME) : mVal me σ g = (me σ g).bind kVal := nrfl rfl
@[simp] theorem ap_mFrz (mf : MF) : mFrz mf σ g = (mf σ g).bind kToA := nrfl rfl
@[simp] theorem ap_qC (a : A) : qC a σ g = some a := nrfl rfl
@[simp] theorem ap_qVar (i : Nat) : qVar i σ g = vS σ[i]? := nrfl rfl
@[simp] theorem ap_wVar (i : Nat) : wVar i σ g = wS σ[i]? := nrfl rfl
@[simp] theorem ap_qFld (cs : List Str) (q : QE) (f : Str) : qFld cs q f σ g = ((q σ g).bind rfO).bind (kf cs f g) := by
 unfold qFld; cases q σ g with
 | none => rfl
 | some a => cases a <;> rfl
@[simp] theorem ap_wFld (cs : List Str) (q : QE) (f : Str) : wFld cs q f σ g = ((q σ g).bind rfO).bind (kfw cs f g) := by
 unfold wFld; cases q σ g with
 | none => rfl
 | some a => cases a <;> rfl
@[simp] theorem ap_o2 {α : Type} (f : A → A → Option α) (qa qb : QE) : o2 f qa qb σ g = (qa σ g).bind (kq2 f qb σ g) := by
 unfold o2; cases qa σ g with
 | none => rfl
 | some a => rw [Option.bind_some, kq2_ap]; cases qb σ g <;> rfl
@[simp] theorem ap_o1 {α : Type} (f : A → Option α) (qa : QE) : o1 f qa σ g = (qa σ g).bind f := by unfold o1; cases qa σ g <;> rfl
@[simp] theorem ap_oL {α : Type} (f : List A → Option α) (qa : Sl → G → Option (List A)) : oL f qa σ g = (qa σ g).bind f := by unfold oL; cases qa σ g <;> rfl
@[simp] theorem ap_aNil : aNil σ g = some [] := nrfl rfl
@[simp] theorem ap_aCons (q : QE) (r : Sl → G → Option (List A)) : aCons q r σ g = (q σ g).bind (ka r σ g) := by
 unfold aCons; cases q σ g with
 | none => rfl
 | some a => rw [Option.bind_some, ka_ap]; cases r σ g <;> rfl
@[simp] theorem ap_qNew (q : Sl → G → Option C) : qNew q σ g = (q σ g).map cA := nrfl rfl
@[simp] theorem ap_mNew (q : Sl → G → Option C) : mNew q σ g = (ofO (q σ g) g).bind kOwn := by unfold mNew; cases q σ g <;> rfl
@[simp] theorem ap_nDic : nDic σ g = some (.dic []) := nrfl rfl
@[simp] theorem ap_qNot (t : QT) : qNot t σ g = (t σ g).map (!·) := nrfl rfl
@[simp] theorem ap_qAnd (t u : QT) : qAnd t u σ g = (t σ g).bind (kqIf u (kqT false) σ g) := by
 unfold qAnd; cases t σ g with
 | none => rfl
 | some b => cases b <;> rfl
@[simp] theorem ap_qOr (t u : QT) : qOr t u σ g = (t σ g).bind (kqIf (kqT true) u σ g) := by
 unfold qOr; cases t σ g with
 | none => rfl
 | some b => cases b <;> rfl
@[simp] theorem ap_qIf {α : Type} (t : QT) (a b : Sl → G → Option α) : qIf t a b σ g = (t σ g).bind (kqIf a b σ g) := by
 unfold qIf; cases t σ g with
 | none => rfl
 | some b => cases b <;> rfl
@[simp] theorem ap_qAndV (a b : QE) : qAndV a b σ g = ((a σ g).bind tB).bind (kqIf b (kqT (.bl false)) σ g) := by
 unfold qAndV; cases a σ g with
 | none => rfl
 | some x => cases x <;> first | rfl | (rename_i b; cases b <;> rfl)
@[simp] theorem ap_qOrV (a b : QE) : qOrV a b σ g = ((a σ g).bind tB).bind (kqIf (kqT (.bl true)) b σ g) := by
 unfold qOrV; cases a σ g with
 | none => rfl
 | some x => cases x <;> first | rfl | (rename_i b; cases b <;> rfl)
@[simp] theorem ap_qCh (f f' : A → A → Option A) (qa qb qc : QE) : qCh f f' qa qb qc σ g = (qa σ g).bind (kch1 f f' qb qc σ g) := by
 unfold qCh; cases qa σ g with
 | none => rfl
 | some x =>
  rw [Option.bind_some, Option.bind_some, kch1_ap]; cases qb σ g with
  | none => rfl
  | some y =>
   rw [Option.bind_some, Option.bind_some, kch2_ap]; cases f x y with
   | none => rfl
   | some z =>
    cases z with
    | bl b => cases b <;> rfl
    | _ => rfl
@[simp] theorem ap_q3 (f : A → A → A → Option A) (qa qb qc : QE) : q3 f qa qb qc σ g = (qa σ g).bind (kq3 f qb qc σ g) := nrfl rfl
@[simp] theorem ap_wDe (q : QE) : wDe q σ g = (q σ g).bind (deA g) := nrfl rfl
@[simp] theorem ap_qSl {α : Type} (f : A → Option Int → Option Int → Option α) (q : QE) (l h : QO) : qSl f q l h σ g = (q σ g).bind (ksl1 f l h σ g) := nrfl rfl
def inO : A → Option (Option Int)
 | .int i => some (some i)
 | _ => none
@[simp] theorem inO_int (i : Int) : inO (.int i) = some (some i) := nrfl rfl
@[simp] theorem ap_oNo : oNo σ g = some none := nrfl rfl
@[simp] theorem ap_oPt (q : QE) : oPt q σ g = (q σ g).bind inO := by unfold oPt; cases q σ g with
 | none => rfl
 | some a => cases a <;> rfl
@[simp] theorem ap_m2 {α : Type} (f : A → A → Option α) (a b : ME) : m2 f a b σ g = (a σ g).bind (k2 f b σ) := nrfl rfl
@[simp] theorem ap_maNil : maNil σ g = .ok [] g := nrfl rfl
@[simp] theorem ap_maCons (a : ME) (r : MA) : maCons a r σ g = (a σ g).bind (kC1 r σ) := nrfl rfl
@[simp] theorem ap_mL {α : Type} (f : List A → Option α) (a : MA) : mL f a σ g = (a σ g).bind (kO f) := nrfl rfl
@[simp] theorem ap_mTest (a : ME) : mTest a σ g = (a σ g).bind (kO tB) := nrfl rfl
@[simp] theorem ap_mTr (a : ME) : mTr a σ g = (a σ g).bind (kO trA) := nrfl rfl
@[simp] theorem ap_mNot (t : MT) : mNot t σ g = (t σ g).bind kNot := nrfl rfl
@[simp] theorem ap_mOr (t u : MT) : mOr t u σ g = (t σ g).bind (kOr u σ) := nrfl rfl
@[simp] theorem ap_mIf {α : Type} (t : MT) (a b : Sl → G → R α) : mIf t a b σ g = (t σ g).bind (kIf a b σ) := nrfl rfl
@[simp] theorem ap_mAndV (a b : ME) : mAndV a b σ g = (a σ g).bind (kAV b σ) := by
 unfold mAndV; refine eta_b fun x g => ?_
 cases x <;> first | rfl | (rename_i b; cases b <;> rfl)
@[simp] theorem ap_mOrV (a b : ME) : mOrV a b σ g = (a σ g).bind (kOV b σ) := by
 unfold mOrV; refine eta_b fun x g => ?_
 cases x <;> first | rfl | (rename_i b; cases b <;> rfl)
@[simp] theorem ap_mNext : mNext σ g = .ok (.nx σ) g := nrfl rfl
@[simp] theorem ap_mSeq (a b : MS) : mSeq a b σ g = (a σ g).bind (kSeq b) := by
 unfold mSeq; refine eta_b fun x g => ?_
 cases x <;> rfl
@[simp] theorem ap_mDrop (f : MF) : mDrop f σ g = (f σ g).bind (kDrop σ) := nrfl rfl
@[simp] theorem ap_mRet (f : MF) : mRet f σ g = (f σ g).bind kRet := nrfl rfl
@[simp] theorem ap_mRetO (i : Nat) : mRetO i σ g = rtS g σ[i]? := nrfl rfl
@[simp] theorem ap_mIfS (t : MT) (a b : MS) : mIfS t a b σ g = (t σ g).bind (kIf a b σ) := nrfl rfl
@[simp] theorem ap_mRs (c : Str) : mRs c σ g = .err ⟨c, none⟩ g := nrfl rfl
def xI (c f : Str) (g : G) : A → R O
 | .int i => .err ⟨c, some (f, i)⟩ g
 | _ => .no
@[simp] theorem xI_int (c f : Str) (g : G) (i : Int) : xI c f g (.int i) = .err ⟨c, some (f, i)⟩ g := nrfl rfl
def kXI (c f : Str) : A → G → R O := fun a g => xI c f g a
@[simp] theorem kXI_ap (c f : Str) (a : A) (g : G) : kXI c f a g = xI c f g a := nrfl rfl
@[simp] theorem ap_mRx (c f : Str) (me : ME) : mRx c f me σ g = (me σ g).bind (kXI c f) := by
 unfold mRx; refine eta_b fun x g => ?_
 cases x <;> rfl
@[simp] theorem ap_setSl (i : Nat) (v : Fv) : setSl σ i v = (okS σ[i]?).bind (kSet σ i v) := by
 unfold setSl
 cases σ[i]? with
 | none => rfl
 | some x => cases x with
  | none => rfl
  | some x => cases x with
   | val => rfl
   | own b c => cases b <;> rfl
@[simp] theorem ap_mAsg (i : Nat) (f : MF) : mAsg i f σ g = (f σ g).bind (kAsg i σ) := nrfl rfl
@[simp] theorem ap_refO (o : Option A) : refO o = o.bind rfO := by
 cases o with
 | none => rfl
 | some a => cases a <;> rfl
def pvS (i : Nat) : Option (Option Fv) → Option P0
 | some (some (.own _ _)) => some (.slot i)
 | some (some (.val (.ref l))) => some (.lab l)
 | _ => none
@[simp] theorem pvS_own (i : Nat) (b : Bool) (c : C) : pvS i (some (some (.own b c))) = some (.slot i) := nrfl rfl
@[simp] theorem ap_pVar (i : Nat) : pVar i σ g = pvS i σ[i]? := nrfl rfl
@[simp] theorem ap_mMut (f : List A → List A → Option (List A)) (pl : Sl → G → Option P0) (qr : Sl → G → Option (List A)) : mMut f pl qr σ g = (ofO ((pl σ g).bind (kmu1 f qr σ g)) g).bind (kpL σ) := nrfl rfl
@[simp] theorem ap_mMutE (f : List A → List A → Option (List A)) (i : Nat) (ma : MA) : mMutE f i ma σ g = (ofO ((pVar i σ g).bind (kme0 σ g)) g).bind (kme1 f ma σ) := nrfl rfl
theorem ap_mFun (n : Nat) (b : MS) (as : List A) : mFun n b as g = (b (startA n as) g).bind kFun := by
 unfold mFun; refine eta_b fun x g => ?_
 cases x <;> rfl
@[simp] theorem ap_mCall (k : Nat) (cf : List A → G → R Fv) (mr : MA) : mCall k cf mr σ g = (mr σ g).bind (kCall k cf) := nrfl rfl
@[simp] theorem ap_mMake (c : Str) (k : Nat) (cf : List A → G → R Fv) (mr : MA) : mMake c k cf mr σ g = (mr σ g).bind (kMake c k cf) := by
 unfold mMake; refine eta_b fun x g => ?_
 rw [kMake_ap]
 split
 ·refine eta_b fun v g2 => ?_
  cases v with
  | val a => cases a <;> rfl
  | own => rfl
 ·rfl
def kLab : Fv → G → R A
 | .own false c, g1 => .ok (.ref g1.n) (g1.add (.con false c))
 | .val a, g1 => .ok a g1
 | _, _ => .no
@[simp] theorem kLab_own (c : C) (g : G) : kLab (.own false c) g = .ok (.ref g.n) (g.add (.con false c)) := nrfl rfl
@[simp] theorem ap_mLabV (mf : MF) : mLabV mf σ g = (mf σ g).bind kLab := by
 unfold mLabV; refine eta_b fun x g => ?_
 cases x with
 | val => rfl
 | own b c => cases b <;> rfl
def fzO (σ : Sl) (i : Nat) : Option (Option Fv) → Option Sl
 | some (some (.own false c)) => some (σ.set i (some (.val (cA c))))
 | some (some (.val _)) => some σ
 | _ => none
@[simp] theorem ap_mFzV (i : Nat) (ms : MS) : mFzV i ms σ g = (ofO (fzO σ i σ[i]?) g).bind (kSig ms) := by
 unfold mFzV
 have : fzV σ i = fzO σ i σ[i]? := by
  unfold fzV
  cases σ[i]? with
  | none => rfl
  | some x => cases x with
   | none => rfl
   | some x => cases x with
    | val => rfl
    | own b c => cases b <;> rfl
 rw [this]; rfl
@[simp] theorem ap_mDisp (r : List (Str × ME)) : mDisp r σ g = (mDs r σ g).bind kDi := nrfl rfl
@[simp] theorem ap_mDs0 : mDs [] σ g = .ok [] g := nrfl rfl
@[simp] theorem ap_mDs1 (k : Str) (me : ME) (r : List (Str × ME)) : mDs ((k, me) :: r) σ g = (me σ g).bind (kDs1 k r σ) := nrfl rfl
@[simp] theorem ap_iSq (q : QE) : iSq q σ g = ofO ((q σ g).bind seqA) g := nrfl rfl
@[simp] theorem ap_iL (me : ME) : iL me σ g = (me σ g).bind (kO lstA) := nrfl rfl
@[simp] theorem ap_mFor (mi : MA) (mg : A → Sl → Option Sl) (ms : MS) : mFor mi mg ms σ g = (mi σ g).bind (kFor mg ms σ) := nrfl rfl
theorem ap_forC (mg : A → Sl → Option Sl) (ms : MS) (x : A) (xs : List A) : mForL mg ms (x :: xs) σ g = (ofO (mg x σ) g).bind (kBody ms (mForL mg ms xs)) := by
 rw [mForL]; refine eta_b fun y g => eta_b fun z g => ?_
 cases z <;> rfl
@[simp] theorem ap_forN (mg : A → Sl → Option Sl) (ms : MS) : mForL mg ms [] σ g = .ok (.nx σ) g := nrfl rfl
@[simp] theorem ap_mLc (mi : MA) (mg : A → Sl → Option Sl) (mt : MT) (me : ME) (vs : List Nat) : mLc mi mg mt me vs σ g = (mi σ g).bind (kLc mg mt me vs σ) := nrfl rfl
def kR1 : List A → G → R (List A)
 | [.int j], g1 => if -(2 ^ 62) ≤ j ∧ j < 2 ^ 62 then .ok (rngA 0 j.toNat) g1 else .no
 | _, _ => .no
@[simp] theorem kR1_int (j : Int) : kR1 [.int j] g = if -(2 ^ 62) ≤ j ∧ j < 2 ^ 62 then .ok (rngA 0 j.toNat) g else .no := nrfl rfl
@[simp] theorem ap_iR1 (mr : MA) : iR1 mr σ g = (mr σ g).bind kR1 := by
 unfold iR1; refine eta_b fun as g => ?_
 match as with
 | [] => rfl
 | [a] => cases a <;> rfl
 | a :: b :: c => cases a <;> rfl
def kE (f : A → Option (List A)) : List A → G → R (List A)
 | [a], g1 => ofO ((f a).map enumA) g1
 | _, _ => .no
@[simp] theorem kE_one (f : A → Option (List A)) (a : A) : kE f [a] g = ofO ((f a).map enumA) g := nrfl rfl
@[simp] theorem ap_iE (f : A → Option (List A)) (mr : MA) : iE f mr σ g = (mr σ g).bind (kE f) := by
 unfold iE; refine eta_b fun as g => ?_
 match as with
 | [] => rfl
 | [a] => rfl
 | a :: b :: c => rfl
@[simp] theorem ap_gN (i : Nat) (a : A) : gN i a σ = setSl σ i (.val a) := nrfl rfl
@[simp] theorem ap_gT (n : Nat) (gs : List A → Sl → Option Sl) (xs : List A) : gT n gs (.tup xs) σ = if xs.length = n then gs xs σ else none := nrfl rfl
@[simp] theorem ap_gs0 : gs0 [] σ = some σ := nrfl rfl
@[simp] theorem ap_gsC (h : A → Sl → Option Sl) (gs : List A → Sl → Option Sl) (x : A) (xs : List A) : gsC h gs (x :: xs) σ = (h x σ).bind (kgs gs xs) := nrfl rfl
end
@[simp] theorem one_1 {α : Type} (f : A → Option α) (a : A) : one f [a] = f a := nrfl rfl
@[simp] theorem seqA_l (xs : List A) : seqA (.lst xs) = some xs := nrfl rfl
@[simp] theorem seqA_t (xs : List A) : seqA (.tup xs) = some xs := nrfl rfl
@[simp] theorem lstA_l (xs : List A) : lstA (.lst xs) = some xs := nrfl rfl
@[simp] theorem tB_bl (b : Bool) : tB (.bl b) = some b := nrfl rfl
@[simp] theorem trA_bl (b : Bool) : trA (.bl b) = some b := nrfl rfl
@[simp] theorem fI_int (f : Int → Int → A) (i j : Int) : fI f (.int i) (.int j) = some (f i j) := nrfl rfl
@[simp] theorem fIc_int (c : Int → Int → Bool) (f : Int → Int → A) (i j : Int) : fIc c f (.int i) (.int j) = if c i j then some (f i j) else none := nrfl rfl
@[simp] theorem fAdd_int (i j : Int) : fAdd (.int i) (.int j) = some (.int (i + j)) := nrfl rfl
@[simp] theorem nAdd_lst (xs ys : List A) : nAdd (.lst xs) (.lst ys) = if xs.length + ys.length ≤ 100000 then some (.lst (xs ++ ys)) else none := nrfl rfl
@[simp] theorem fIsNo_non (a : A) : fIsNo a .non = some (.bl (isNon a)) := by cases a <;> rfl
@[simp] theorem fNotNo_non (a : A) : fNotNo a .non = some (.bl (!isNon a)) := by cases a <;> rfl
@[simp] theorem keyA_int (i : Int) : keyA (.int i) = some (.inl i) := nrfl rfl
@[simp] theorem fIx_lst (xs : List A) (i : Int) : fIx (.lst xs) (.int i) = atI xs i := nrfl rfl
@[simp] theorem fIx_tup (xs : List A) (i : Int) : fIx (.tup xs) (.int i) = atI xs i := nrfl rfl
@[simp] theorem fIx_dicS (kvs : List (Key × A)) (i : Str) : fIx (.dic kvs) (.str i) = getK kvs (.inr i) := nrfl rfl
@[simp] theorem fGet_dic (kvs : List (Key × A)) (k x : A) : fGet (.dic kvs) k x = (keyA k).map fun k => (getK kvs k).getD x := nrfl rfl
@[simp] theorem fLen_lst (xs : List A) : fLen (.lst xs) = some (.int xs.length) := nrfl rfl
@[simp] theorem fLen_tup (xs : List A) : fLen (.tup xs) = some (.int xs.length) := nrfl rfl
@[simp] theorem fTupOf_lst (xs : List A) : fTupOf (.lst xs) = some (.tup xs) := nrfl rfl
@[simp] theorem nSl_lst (xs : List A) (lo hi : Option Int) : nSl (.lst xs) lo hi = some (.lst (cutL xs lo hi)) := nrfl rfl
@[simp] theorem lApp_1 (xs : List A) (y : A) : lApp xs [y] = if xs.length < 100000 then some (xs ++ [y]) else none := nrfl rfl
@[simp] theorem setI_lst (xs : List A) (k : Int) (v : A) : setI (.lst xs) (.int k) v = (ixN xs.length k).map fun j => .lst (xs.set j v) := nrfl rfl
@[simp] theorem fTup_eq (as : List A) : fTup as = if as.length ≤ 1000 then some (.tup as) else none := nrfl rfl
@[simp] theorem fLst_eq (as : List A) : fLst as = if as.length ≤ 1000 then some (.lst as) else none := nrfl rfl
@[simp] theorem lstP_f (xs : List A) : lstP (some (false, .lst xs)) = some xs := nrfl rfl
theorem atI_nat {α : Type} (xs : List α) (i : Nat) : atI xs (i : Int) = xs[i]? := by
 unfold atI ixN
 rw [if_pos (by omega)]
 by_cases h : (i : Int) < (xs.length : Nat)
 ·rw [if_pos h]; simp
 ·rw [if_neg h, List.getElem?_eq_none (by omega)]; rfl
theorem at0 {α : Type} (a : α) (l : List α) : atI (a :: l) 0 = some a := atI_nat (a :: l) 0
theorem at1 {α : Type} (a b : α) (l : List α) : atI (a :: b :: l) 1 = some b := atI_nat (a :: b :: l) 1
theorem at2 {α : Type} (a b c : α) (l : List α) : atI (a :: b :: c :: l) 2 = some c := atI_nat (a :: b :: c :: l) 2
theorem at3 {α : Type} (a b c d : α) (l : List α) : atI (a :: b :: c :: d :: l) 3 = some d := atI_nat (a :: b :: c :: d :: l) 3
theorem at4 {α : Type} (a b c d e : α) (l : List α) : atI (a :: b :: c :: d :: e :: l) 4 = some e := atI_nat (a :: b :: c :: d :: e :: l) 4
theorem at5 {α : Type} (a b c d e f : α) (l : List α) : atI (a :: b :: c :: d :: e :: f :: l) 5 = some f := atI_nat (a :: b :: c :: d :: e :: f :: l) 5
@[simp] theorem at0' {α : Type} (a : α) (l : List α) : atI (a :: l) 0 = some a := at0 a l
@[simp] theorem at1' {α : Type} (a b : α) (l : List α) : atI (a :: b :: l) 1 = some b := at1 a b l
@[simp] theorem at2' {α : Type} (a b c : α) (l : List α) : atI (a :: b :: c :: l) 2 = some c := at2 a b c l
@[simp] theorem at3' {α : Type} (a b c d : α) (l : List α) : atI (a :: b :: c :: d :: l) 3 = some d := at3 a b c d l
@[simp] theorem at4' {α : Type} (a b c d e : α) (l : List α) : atI (a :: b :: c :: d :: e :: l) 4 = some e := at4 a b c d e l
@[simp] theorem at5' {α : Type} (a b c d e f : α) (l : List α) : atI (a :: b :: c :: d :: e :: f :: l) 5 = some f := at5 a b c d e f l
@[simp] theorem fEq_int (i j : Int) : fEq (.int i) (.int j) = some (.bl (decide (i = j))) := by
 simp [fEq, eqB, scA, toV, scal]
@[simp] theorem fNe_int (i j : Int) : fNe (.int i) (.int j) = some (.bl (!decide (i = j))) := by
 simp [fNe, eqB, scA, toV, scal]
@[simp] theorem fEq_str (i j : Str) : fEq (.str i) (.str j) = some (.bl (decide (i = j))) := by
 simp [fEq, eqB, scA, toV, scal]
@[simp] theorem fNe_str (i j : Str) : fNe (.str i) (.str j) = some (.bl (!decide (i = j))) := by
 simp [fNe, eqB, scA, toV, scal]
def eO : Option Int → A
 | none => .non
 | some i => .int i
@[simp] theorem eO_none : eO none = .non := rfl
@[simp] theorem eO_some (i : Int) : eO (some i) = .int i := rfl
@[simp] theorem fEq_eO (i j : Option Int) : fEq (eO i) (eO j) = some (.bl (decide (i = j))) := by
 cases i <;> cases j <;> simp [fEq, eqB, scA, toV, scal]
@[simp] theorem fNe_eO (i j : Option Int) : fNe (eO i) (eO j) = some (.bl (!decide (i = j))) := by
 cases i <;> cases j <;> simp [fNe, eqB, scA, toV, scal]
@[simp] theorem isNon_eO (i : Option Int) : isNon (eO i) = i.isNone := by cases i <;> rfl
def eRow (r : Int × Int) : A := .tup [.int r.1, .int r.2]
def ePR (r : PRow) : A := .tup [eO r.1, .int r.2]
def eOR : Option PRow → A
 | none => .non
 | some r => ePR r
def eHand (h : Int × Int × Bool) : A := .tup [.int h.1, .int h.2.1, .bl h.2.2]
def eDeed : Deed → A
 | .put k w l => .tup [.str "put", .int k, .int w, .int l]
 | .drop k => .tup [.str "drop", .int k]
 | .add k m => .tup [.str "add", .int k, .int m]
 | .iff k w => .tup [.str "if", .int k, eO w]
def eDeal (ds : List Deed) : A := .tup (ds.map eDeed)
def eEff (q : Eff) : A := .tup [.int q.1, eO q.2.1, .int q.2.2]
def eEnt : Ent → A
 | .tick n m => .tup [.str "tick", .int n, .int m]
 | .deal n h l dn es => .tup [.str "deal", .int n, .int h, .int l, .bl dn, .tup (es.map eEff)]
@[simp] theorem ePR_toP (r : Int × Int) : ePR (toP r) = eRow r := rfl
@[simp] theorem s_put_drop : ((("put" : Str) = "drop") : Prop) = False := by simp only [eq_iff_iff, iff_false]; decide
@[simp] theorem s_put_add : ((("put" : Str) = "add") : Prop) = False := by simp only [eq_iff_iff, iff_false]; decide
@[simp] theorem s_put_if : ((("put" : Str) = "if") : Prop) = False := by simp only [eq_iff_iff, iff_false]; decide
@[simp] theorem s_drop_put : ((("drop" : Str) = "put") : Prop) = False := by simp only [eq_iff_iff, iff_false]; decide
@[simp] theorem s_drop_add : ((("drop" : Str) = "add") : Prop) = False := by simp only [eq_iff_iff, iff_false]; decide
@[simp] theorem s_drop_if : ((("drop" : Str) = "if") : Prop) = False := by simp only [eq_iff_iff, iff_false]; decide
@[simp] theorem s_add_put : ((("add" : Str) = "put") : Prop) = False := by simp only [eq_iff_iff, iff_false]; decide
@[simp] theorem s_add_drop : ((("add" : Str) = "drop") : Prop) = False := by simp only [eq_iff_iff, iff_false]; decide
@[simp] theorem s_add_if : ((("add" : Str) = "if") : Prop) = False := by simp only [eq_iff_iff, iff_false]; decide
@[simp] theorem s_if_put : ((("if" : Str) = "put") : Prop) = False := by simp only [eq_iff_iff, iff_false]; decide
@[simp] theorem s_if_drop : ((("if" : Str) = "drop") : Prop) = False := by simp only [eq_iff_iff, iff_false]; decide
@[simp] theorem s_if_add : ((("if" : Str) = "add") : Prop) = False := by simp only [eq_iff_iff, iff_false]; decide
@[simp] theorem s_tick_deal : ((("tick" : Str) = "deal") : Prop) = False := by simp only [eq_iff_iff, iff_false]; decide
@[simp] theorem s_tick_deals : ((("tick" : Str) = "deals") : Prop) = False := by simp only [eq_iff_iff, iff_false]; decide
@[simp] theorem s_tick_tidy : ((("tick" : Str) = "tidy") : Prop) = False := by simp only [eq_iff_iff, iff_false]; decide
@[simp] theorem s_deal_tick : ((("deal" : Str) = "tick") : Prop) = False := by simp only [eq_iff_iff, iff_false]; decide
@[simp] theorem s_deal_deals : ((("deal" : Str) = "deals") : Prop) = False := by simp only [eq_iff_iff, iff_false]; decide
@[simp] theorem s_deal_tidy : ((("deal" : Str) = "tidy") : Prop) = False := by simp only [eq_iff_iff, iff_false]; decide
@[simp] theorem s_deals_tick : ((("deals" : Str) = "tick") : Prop) = False := by simp only [eq_iff_iff, iff_false]; decide
@[simp] theorem s_deals_deal : ((("deals" : Str) = "deal") : Prop) = False := by simp only [eq_iff_iff, iff_false]; decide
@[simp] theorem s_deals_tidy : ((("deals" : Str) = "tidy") : Prop) = False := by simp only [eq_iff_iff, iff_false]; decide
@[simp] theorem s_tidy_tick : ((("tidy" : Str) = "tick") : Prop) = False := by simp only [eq_iff_iff, iff_false]; decide
@[simp] theorem s_tidy_deal : ((("tidy" : Str) = "deal") : Prop) = False := by simp only [eq_iff_iff, iff_false]; decide
@[simp] theorem s_tidy_deals : ((("tidy" : Str) = "deals") : Prop) = False := by simp only [eq_iff_iff, iff_false]; decide
@[simp] theorem s_entry_page : ((("entry" : Str) = "page") : Prop) = False := by simp only [eq_iff_iff, iff_false]; decide
@[simp] theorem s_entry_whole : ((("entry" : Str) = "whole") : Prop) = False := by simp only [eq_iff_iff, iff_false]; decide
@[simp] theorem s_entry_head : ((("entry" : Str) = "head") : Prop) = False := by simp only [eq_iff_iff, iff_false]; decide
@[simp] theorem s_page_entry : ((("page" : Str) = "entry") : Prop) = False := by simp only [eq_iff_iff, iff_false]; decide
@[simp] theorem s_page_whole : ((("page" : Str) = "whole") : Prop) = False := by simp only [eq_iff_iff, iff_false]; decide
@[simp] theorem s_page_head : ((("page" : Str) = "head") : Prop) = False := by simp only [eq_iff_iff, iff_false]; decide
@[simp] theorem s_whole_entry : ((("whole" : Str) = "entry") : Prop) = False := by simp only [eq_iff_iff, iff_false]; decide
@[simp] theorem s_whole_page : ((("whole" : Str) = "page") : Prop) = False := by simp only [eq_iff_iff, iff_false]; decide
@[simp] theorem s_whole_head : ((("whole" : Str) = "head") : Prop) = False := by simp only [eq_iff_iff, iff_false]; decide
@[simp] theorem s_head_entry : ((("head" : Str) = "entry") : Prop) = False := by simp only [eq_iff_iff, iff_false]; decide
@[simp] theorem s_head_page : ((("head" : Str) = "page") : Prop) = False := by simp only [eq_iff_iff, iff_false]; decide
@[simp] theorem s_head_whole : ((("head" : Str) = "whole") : Prop) = False := by simp only [eq_iff_iff, iff_false]; decide
@[simp] theorem s_rows_hands : ((("rows" : Str) = "hands") : Prop) = False := by simp only [eq_iff_iff, iff_false]; decide
@[simp] theorem s_rows_moment : ((("rows" : Str) = "moment") : Prop) = False := by simp only [eq_iff_iff, iff_false]; decide
@[simp] theorem s_rows_number : ((("rows" : Str) = "number") : Prop) = False := by simp only [eq_iff_iff, iff_false]; decide
@[simp] theorem s_hands_rows : ((("hands" : Str) = "rows") : Prop) = False := by simp only [eq_iff_iff, iff_false]; decide
@[simp] theorem s_hands_moment : ((("hands" : Str) = "moment") : Prop) = False := by simp only [eq_iff_iff, iff_false]; decide
@[simp] theorem s_hands_number : ((("hands" : Str) = "number") : Prop) = False := by simp only [eq_iff_iff, iff_false]; decide
@[simp] theorem s_moment_rows : ((("moment" : Str) = "rows") : Prop) = False := by simp only [eq_iff_iff, iff_false]; decide
@[simp] theorem s_moment_hands : ((("moment" : Str) = "hands") : Prop) = False := by simp only [eq_iff_iff, iff_false]; decide
@[simp] theorem s_moment_number : ((("moment" : Str) = "number") : Prop) = False := by simp only [eq_iff_iff, iff_false]; decide
@[simp] theorem s_number_rows : ((("number" : Str) = "rows") : Prop) = False := by simp only [eq_iff_iff, iff_false]; decide
@[simp] theorem s_number_hands : ((("number" : Str) = "hands") : Prop) = False := by simp only [eq_iff_iff, iff_false]; decide
@[simp] theorem s_number_moment : ((("number" : Str) = "moment") : Prop) = False := by simp only [eq_iff_iff, iff_false]; decide
@[simp] theorem q_is_from_eq (i j k : Int) : q_is_from [.int i, .int j, .int k] = some (.bl (decide (j ≤ i ∧ i ≤ k))) := by
 unfold q_is_from
 by_cases h : j ≤ i <;> simp [startA, h]
@[simp] theorem isNon_eOR (r : Option PRow) : isNon (eOR r) = r.isNone := by cases r <;> rfl
theorem words_in (s : Str) : fNotIn (.str s) (.tup [.str "put", .str "drop", .str "add", .str "if"]) = some (.bl (!(decide (s = "put" ∨ s = "drop" ∨ s = "add" ∨ s = "if")))) := by
 simp only [fNotIn, inB, flA, toV, eqF, eqV, Option.isSome_some, List.all_cons, List.all_nil, Bool.and_true, Bool.true_and, if_true, List.any_cons, List.any_nil, Bool.or_false, Option.map_some]
 have hb : ∀ a b : Str, (a == b) = decide (a = b) := fun a b => by rw [Bool.eq_iff_iff]; simp
 simp only [hb, Bool.decide_or, eq_comm (a := s)]
theorem bind_assoc {α β γ : Type} (f : α → G → R β) (h : β → G → R γ) : ∀ r : R α, (r.bind f).bind h = r.bind fun a g => (f a g).bind h
 | .ok _ _ => rfl
 | .err _ _ => rfl
 | .no => rfl
 | .all T k => by
  show R.all T _ = R.all T _
  congr 1
  funext t
  exact bind_assoc f h (k t)
theorem rng_len (n : Nat) : (rng n).length = n := by unfold rng; simp
theorem rngA_eq (n : Nat) : rngA 0 n = (rng n).map A.int := by
 unfold rngA rng
 rw [List.map_map]
 refine List.map_congr_left fun i _ => ?_
 show A.int (0 + (i : Int)) = A.int (i : Int)
 rw [Int.zero_add]
@[simp] theorem filter_tt {α : Type} (l : List α) : l.filter (fun _ => true) = l := List.filter_eq_self.mpr fun _ _ => rfl
theorem ofO_sat {α β : Type} {o : Option α} {f : α → G → R β} {g : G} {Q : β → G → Prop} {E : Ex → G → Prop} (h : ((ofO o g).bind f).sat Q E) : ∃ x, o = some x ∧ (f x g).sat Q E := by
 cases o with
 | none => exact h.elim
 | some x => exact ⟨x, rfl, h⟩
theorem ofO_ok {α β : Type} {o : Option α} {f : α → G → R β} {g g' : G} {b : β} (h : (ofO o g).bind f = .ok b g') : ∃ x, o = some x ∧ f x g = .ok b g' := by
 cases o with
 | none => cases h
 | some x => exact ⟨x, rfl, h⟩
def Rnd (Q : O → G → Prop) (P : Sl → G → Prop) : O → G → Prop
 | .nx σ', g' => P σ' g'
 | .ct σ', g' => P σ' g'
 | .bk σ', g' => Q (.nx σ') g'
 | .rt v, g' => Q (.rt v) g'
@[simp] theorem Rnd_nx (Q : O → G → Prop) (P : Sl → G → Prop) (σ : Sl) (g : G) : Rnd Q P (.nx σ) g = P σ g := rfl
@[simp] theorem Rnd_rt (Q : O → G → Prop) (P : Sl → G → Prop) (v : Fv) (g : G) : Rnd Q P (.rt v) g = Q (.rt v) g := rfl
theorem sat_for {mg : A → Sl → Option Sl} {ms : MS} {Q : O → G → Prop} {E : Ex → G → Prop} (P : Nat → Sl → G → Prop) : ∀ {xs : List A} {n : Nat} {σ : Sl} {g : G}, P n σ g →
  (∀ i x σ g, xs[i]? = some x → P (n + i) σ g → ∀ Q', (∀ o g', Rnd Q (P (n + i + 1)) o g' → Q' o g') → ((ofO (mg x σ) g).bind ms).sat Q' E) →
  (∀ σ g, P (n + xs.length) σ g → Q (.nx σ) g) → (mForL mg ms xs σ g).sat Q E
 | [], n, σ, g, h0, _, he => he σ g h0
 | x :: xs, n, σ, g, h0, hs, he => by
  obtain ⟨σ1, e1, h1⟩ := ofO_sat (hs 0 x σ g rfl h0 _ fun _ _ h => h)
  rw [ap_forC, e1, ofO_some, bind_ok, kBody_ap, sat_bind]
  refine sat_mono (fun o g' h => ?_) (fun _ _ h => h) h1
  have rest : ∀ σ' g', P (n + 0 + 1) σ' g' → (mForL mg ms xs σ' g').sat Q E := fun σ' g' h => sat_for P (n := n + 0 + 1) h (fun i y σ g hy hP => by
   have := hs (i + 1) y σ g (by simpa using hy) (by rw [show n + (i + 1) = n + 0 + 1 + i by omega]; exact hP)
   rw [show n + (i + 1) + 1 = n + 0 + 1 + i + 1 by omega] at this
   exact this) (fun σ g hP => he σ g (by rw [show n + (x :: xs).length = n + 0 + 1 + xs.length by simp only [List.length_cons]; omega]; exact hP))
  cases o with
  | nx σ' => exact rest σ' g' h
  | ct σ' => exact rest σ' g' h
  | bk σ' => exact h
  | rt v => exact h
theorem lc_eq {ι : Type} {mg : A → Sl → Option Sl} {mt : MT} {me : ME} {σ : Sl} {g : G} {enc : ι → A} {tt : ι → Bool} {ee : ι → A} : ∀ (l : List ι) (acc : List A), (∀ y ∈ l, (ofO (mg (enc y) σ) g).bind mt = .ok (tt y) g ∧ (tt y = true → (ofO (mg (enc y) σ) g).bind me = .ok (ee y) g)) → acc.length + l.length ≤ 100000 → mLcL mg mt me σ (l.map enc) acc g = .ok (acc ++ (l.filter tt).map ee) g
 | [], acc, _, _ => by simp [mLcL]
 | y :: l, acc, h, hl => by
  obtain ⟨e0, e3⟩ := h y List.mem_cons_self
  obtain ⟨σ1, e1, e2⟩ := ofO_ok e0
  rw [List.map_cons, mLcL, e1, ofO_some, bind_ok, e2, cut_ok, bind_ok]
  simp only [List.length_cons] at hl
  cases ht : tt y with
  | true =>
   have e4 := e3 ht
   rw [e1, ofO_some, bind_ok] at e4
   rw [if_pos rfl, e4, cut_ok, bind_ok, if_pos (by omega), lc_eq l _ (fun y hy => h y (List.mem_cons_of_mem _ hy)) (by simp; omega)]
   simp [List.filter_cons, ht]
  | false =>
   rw [if_neg (by decide), lc_eq l _ (fun y hy => h y (List.mem_cons_of_mem _ hy)) (by omega)]
   simp [List.filter_cons, ht]
theorem sat_lc {mg : A → Sl → Option Sl} {mt : MT} {me : ME} {σ : Sl} {Q : List A → G → Prop} {E : Ex → G → Prop} (P : Nat → List A → G → Prop) : ∀ {xs : List A} {n : Nat} {acc : List A} {g : G}, P n acc g → acc.length + xs.length ≤ 100000 →
  (∀ i x acc g, xs[i]? = some x → P (n + i) acc g → ∀ Q' : List A → G → Prop, (∀ acc' g', P (n + i + 1) acc' g' → Q' acc' g') → ((ofO (mg x σ) g).bind mt).sat (fun b g' => if b then ((ofO (mg x σ) g').bind me).sat (fun y g'' => Q' (acc ++ [y]) g'') (fun _ _ => False) else Q' acc g') (fun _ _ => False)) →
  (∀ acc g, P (n + xs.length) acc g → Q acc g) → (mLcL mg mt me σ xs acc g).sat Q E
 | [], n, acc, g, h0, _, _, he => he acc g h0
 | x :: xs, n, acc, g, h0, hl, hs, he => by
  obtain ⟨σ1, e1, h1⟩ := ofO_sat (hs 0 x acc g rfl h0 _ fun _ _ h => h)
  rw [e1] at h1
  have cut : ∀ {α : Type} {r : R α} {Q : α → G → Prop} {E : Ex → G → Prop}, r.sat Q (fun _ _ => False) → r.cut.sat Q E := by
   intro α r
   induction r with
   | ok => intro Q E h; exact h
   | err => intro Q E h; exact h.elim
   | no => intro Q E h; exact h
   | all T k ih => intro Q E h t; exact ih t (h t)
  rw [mLcL, e1, ofO_some, bind_ok, sat_bind]
  refine sat_mono (fun b g' h => ?_) (fun _ _ h => h) (cut h1)
  simp only [List.length_cons] at hl
  have rest : ∀ acc' g', acc'.length ≤ acc.length + 1 → P (n + 0 + 1) acc' g' → (mLcL mg mt me σ xs acc' g').sat Q E := fun acc' g' hl' h => sat_lc P (n := n + 0 + 1) h (by omega) (fun i y acc g hy hP => by
   have := hs (i + 1) y acc g (by simpa using hy) (by rw [show n + (i + 1) = n + 0 + 1 + i by omega]; exact hP)
   rw [show n + (i + 1) + 1 = n + 0 + 1 + i + 1 by omega] at this
   exact this) (fun acc g hP => he acc g (by rw [show n + (x :: xs).length = n + 0 + 1 + xs.length by simp only [List.length_cons]; omega]; exact hP))
  cases b with
  | true =>
   rw [if_pos rfl] at h ⊢
   rw [ofO_some, bind_ok] at h
   rw [sat_bind]
   refine sat_mono (fun y g'' h2 => ?_) (fun _ _ h => h) (cut h)
   rw [if_pos (by omega)]
   exact rest _ _ (by simp) h2
  | false =>
   rw [if_neg (by decide)] at h ⊢
   exact rest _ _ (by omega) h
structure Dm (kvs : List (Key × A)) (f : Int → Option A) : Prop where
 nd : (kvs.map (·.1)).Nodup
 ik : ∀ kv ∈ kvs, ∃ i : Int, kv.1 = .inl i
 gt : ∀ i, getK kvs (.inl i) = f i
theorem getK_mem {kvs : List (Key × A)} {k : Key} : (getK kvs k).isSome = true ↔ k ∈ kvs.map (·.1) := by
 unfold getK
 rw [Option.isSome_map, List.find?_isSome]
 constructor
 ·rintro ⟨kv, h1, h2⟩
  exact List.mem_map.mpr ⟨kv, h1, of_decide_eq_true h2⟩
 ·intro h
  obtain ⟨kv, h1, h2⟩ := List.mem_map.mp h
  exact ⟨kv, h1, decide_eq_true h2⟩
theorem Dm.mem {kvs : List (Key × A)} {f : Int → Option A} (h : Dm kvs f) {i : Int} : (.inl i : Key) ∈ kvs.map (·.1) ↔ (f i).isSome = true := by
 rw [← h.gt i, getK_mem]
theorem dm_nil : Dm [] (fun _ => none) := ⟨.nil, nofun, fun _ => rfl⟩
theorem getK_map {k j : Key} {v : A} : ∀ {l : List (Key × A)}, getK (l.map fun kv => if kv.1 = k then (kv.1, v) else kv) j = if j = k then (getK l k).map fun _ => v else getK l j
 | [] => by simp [getK]
 | q :: l => by
  have ih := getK_map (k := k) (j := j) (v := v) (l := l)
  unfold getK at ih ⊢
  rw [List.map_cons, List.find?_cons, List.find?_cons, List.find?_cons]
  by_cases h1 : q.1 = k
  ·rw [if_pos h1, decide_eq_true h1]
   by_cases h2 : j = k
   ·rw [if_pos h2, decide_eq_true (h1.trans h2.symm)]; rfl
   ·rw [if_neg h2, decide_eq_false (fun z => h2 (z.symm.trans h1))]
    dsimp only
    rw [ih, if_neg h2]
  ·rw [if_neg h1, decide_eq_false h1]
   by_cases h2 : q.1 = j
   ·rw [decide_eq_true h2]
    dsimp only
    rw [if_neg (fun z => h1 (h2.trans z))]
   ·rw [decide_eq_false h2]
    dsimp only
    exact ih
theorem getK_set {kvs : List (Key × A)} {k j : Key} {v : A} : getK (setK kvs k v) j = if j = k then some v else getK kvs j := by
 unfold setK
 by_cases h : kvs.any (fun kv => decide (kv.1 = k)) = true
 ·rw [if_pos h, getK_map]
  have hk : (getK kvs k).isSome = true := getK_mem.mpr (by
   rw [List.any_eq_true] at h
   obtain ⟨kv, h1, h2⟩ := h
   exact List.mem_map.mpr ⟨kv, h1, of_decide_eq_true h2⟩)
  obtain ⟨x, e⟩ := Option.isSome_iff_exists.mp hk
  rw [e]; rfl
 ·rw [if_neg h]
  unfold getK
  rw [List.find?_append]
  have hk : ∀ kv ∈ kvs, kv.1 ≠ k := fun kv h1 h2 => h (List.any_eq_true.mpr ⟨kv, h1, decide_eq_true h2⟩)
  by_cases h2 : j = k
  ·rw [if_pos h2, List.find?_eq_none.mpr (fun kv h1 => by rw [decide_eq_true_eq, h2]; exact hk kv h1)]
   simp [h2]
  ·rw [if_neg h2]
   cases e : kvs.find? fun kv => decide (kv.1 = j) with
   | some x => rfl
   | none => simp [Ne.symm h2]
theorem setK_in {kvs : List (Key × A)} {k : Key} {v : A} (h : k ∈ kvs.map (·.1)) : (setK kvs k v).map (·.1) = kvs.map (·.1) := by
 unfold setK
 rw [if_pos (by
  obtain ⟨kv, h1, h2⟩ := List.mem_map.mp h
  exact List.any_eq_true.mpr ⟨kv, h1, decide_eq_true h2⟩), List.map_map]
 refine List.map_congr_left fun kv _ => ?_
 show (if kv.1 = k then (kv.1, v) else kv).1 = _
 split <;> rfl
theorem setK_out {kvs : List (Key × A)} {k : Key} {v : A} (h : k ∉ kvs.map (·.1)) : setK kvs k v = kvs ++ [(k, v)] := by
 unfold setK
 rw [if_neg (fun z => h (by
  obtain ⟨kv, h1, h2⟩ := List.any_eq_true.mp z
  exact List.mem_map.mpr ⟨kv, h1, of_decide_eq_true h2⟩))]
theorem Dm.set {kvs : List (Key × A)} {f : Int → Option A} (h : Dm kvs f) (i : Int) (v : A) : Dm (setK kvs (.inl i) v) (upf f i (some v)) := by
 by_cases hi : (.inl i : Key) ∈ kvs.map (·.1)
 ·have e := setK_in (v := v) hi
  refine ⟨by rw [e]; exact h.nd, fun kv hm => ?_, fun j => ?_⟩
  ·have : kv.1 ∈ (setK kvs (.inl i) v).map (·.1) := List.mem_map.mpr ⟨kv, hm, rfl⟩
   rw [e] at this
   obtain ⟨q, h1, h2⟩ := List.mem_map.mp this
   rw [← h2]; exact h.ik q h1
  ·rw [getK_set, h.gt j]
   unfold upf
   by_cases e : j = i
   ·rw [if_pos (by rw [e]), if_pos e]
   ·rw [if_neg (fun z => e (Sum.inl.inj z)), if_neg e]
 ·refine ⟨?_, fun kv hm => ?_, fun j => ?_⟩
  ·rw [setK_out hi, List.map_append, List.nodup_append]
   exact ⟨h.nd, by simp, fun a ha b hb => by
    rw [List.map_singleton, List.mem_singleton] at hb
    subst hb
    exact fun z => hi (by rw [← show a = Sum.inl i from z]; exact ha)⟩
  ·rw [setK_out hi, List.mem_append, List.mem_singleton] at hm
   rcases hm with hm | hm
   ·exact h.ik kv hm
   ·exact ⟨i, by rw [hm]⟩
  ·rw [getK_set, h.gt j]
   unfold upf
   by_cases e : j = i
   ·rw [if_pos (by rw [e]), if_pos e]
   ·rw [if_neg (fun z => e (Sum.inl.inj z)), if_neg e]
theorem getK_del {kvs : List (Key × A)} {k j : Key} : getK (delK kvs k) j = if j = k then none else getK kvs j := by
 unfold getK delK
 induction kvs with
 | nil => simp
 | cons q l ih =>
  rw [List.filter_cons]
  by_cases h1 : q.1 = k
  ·rw [if_neg (by simp [h1]), ih]
   by_cases h2 : j = k
   ·rw [if_pos h2, if_pos h2]
   ·rw [if_neg h2, if_neg h2, List.find?_cons, decide_eq_false (fun z => h2 (z.symm.trans h1))]
  ·rw [if_pos (by simp [h1]), List.find?_cons, List.find?_cons]
   by_cases h2 : q.1 = j
   ·rw [decide_eq_true h2]
    dsimp only
    rw [if_neg (fun z => h1 (h2.trans z))]
   ·rw [decide_eq_false h2]
    exact ih
theorem Dm.del {kvs : List (Key × A)} {f : Int → Option A} (h : Dm kvs f) (i : Int) : Dm (delK kvs (.inl i)) (upf f i none) := by
 refine ⟨?_, fun kv hm => h.ik kv (List.mem_filter.mp hm).1, fun j => ?_⟩
 ·exact (List.filter_sublist.map _).nodup h.nd
 ·rw [getK_del, h.gt j]
  unfold upf
  by_cases e : j = i
  ·rw [if_pos (by rw [e]), if_pos e]
  ·rw [if_neg (fun z => e (Sum.inl.inj z)), if_neg e]
theorem Dm.ext {kvs : List (Key × A)} {f f' : Int → Option A} (h : Dm kvs f) (e : ∀ i, f i = f' i) : Dm kvs f' := ⟨h.nd, h.ik, fun i => (h.gt i).trans (e i)⟩
theorem Dm.keys {kvs : List (Key × A)} {f : Int → Option A} (h : Dm kvs f) : ∃ ks : List Int, intK kvs = some ks ∧ kvs.map (·.1) = ks.map Sum.inl ∧ ks.Nodup ∧ ∀ k, k ∈ ks ↔ (f k).isSome = true := by
 have : ∀ {l : List (Key × A)}, (∀ kv ∈ l, ∃ i : Int, kv.1 = .inl i) → ∃ ks, intK l = some ks := by
  intro l
  induction l with
  | nil => intro _; exact ⟨[], rfl⟩
  | cons q l ih =>
   intro hl
   obtain ⟨i, e⟩ := hl q List.mem_cons_self
   obtain ⟨ks, e2⟩ := ih fun kv hm => hl kv (List.mem_cons_of_mem _ hm)
   obtain ⟨k, v⟩ := q
   have e : k = .inl i := e
   subst e
   exact ⟨i :: ks, by unfold intK; rw [e2]; rfl⟩
 obtain ⟨ks, e⟩ := this h.ik
 have e2 := intK_some e
 refine ⟨ks, e, e2, ?_, fun k => ?_⟩
 ·have := h.nd
  rw [e2] at this
  exact this.of_map _ (fun a b hab z => hab (by rw [z]))
 ·rw [← h.mem, e2]
  exact ⟨fun z => List.mem_map.mpr ⟨k, z, rfl⟩, fun z => by obtain ⟨j, h1, h2⟩ := List.mem_map.mp z; cases h2; exact h1⟩
theorem Dm.len {kvs : List (Key × A)} {f : Int → Option A} (h : Dm kvs f) {n : Nat} (hb : ∀ k, (f k).isSome = true → 0 ≤ k ∧ k < n) : kvs.length ≤ n := by
 obtain ⟨ks, _, e2, nd, hm⟩ := h.keys
 have e3 : kvs.length = ks.length := by simpa using congrArg List.length e2
 have : (ks.map Int.toNat).Nodup := by
  refine List.pairwise_map.mpr (List.Pairwise.imp_of_mem (fun {a b} ha hb' hab z => hab ?_) nd)
  have h1 := hb a ((hm a).mp ha)
  have h2 := hb b ((hm b).mp hb')
  omega
 have h4 : (ks.map Int.toNat).length ≤ (List.range n).length := List.Nodup.length_le_of_subset this fun a ha => by
  obtain ⟨b, h1, h2⟩ := List.mem_map.mp ha
  have h3 := hb b ((hm b).mp h1)
  exact List.mem_range.mpr (by omega)
 simpa [e3] using h4
def sF (cs : List Str) (f : Str) (v : Fv) : Option AO → Option AO
 | some (.ins cn fs) => if cs.contains cn && decide (fs.length < 900) then (match fs.lookup f with
  | some (.own true _) => none
  | _ => some (.ins cn (pF f v fs))) else none
 | _ => none
@[simp] theorem setFl_eq (cs : List Str) (g : G) (l : Nat) (f : Str) (v : Fv) : setFl cs g l f v = (sF cs f v (g.o l)).map (g.set l) := by
 unfold setFl sF
 cases g.o l with
 | none => rfl
 | some o => cases o with
  | ins cn fs =>
   dsimp only
   split
   ·cases fs.lookup f with
    | none => rfl
    | some x => cases x with
     | val => rfl
     | own b c => cases b <;> rfl
   ·rfl
  | _ => rfl
def gE (f : Str) (o : Option AO) : Option (Bool × C) := cF (fO f o)
def pE (lk : Bool) (f : Str) (c : C) : Option AO → Option AO
 | some (.ins cn fs) => some (.ins cn (pF f (.own lk c) fs))
 | _ => none
@[simp] theorem getP_slot (σ : Sl) (g : G) (i : Nat) : getP σ g (.slot i) = cF (σ[i]?.join) := nrfl rfl
@[simp] theorem cO_con (b : Bool) (c : C) : cO (some (.con b c)) = some (b, c) := nrfl rfl
@[simp] theorem cF_own (b : Bool) (c : C) : cF (some (.own b c)) = some (b, c) := nrfl rfl
@[simp] theorem putG_slot (c : C) (g : G) (i : Nat) : putG c g (.slot i) = g := nrfl rfl
@[simp] theorem putS_slot (c : C) (σ : Sl) (i : Nat) : putS c σ (.slot i) = σ.set i (some (.own false c)) := nrfl rfl
theorem setG_emb (lk : Bool) (c : C) (g : G) (l : Nat) (f : Str) : setG lk c g (.emb l f) = ((pE lk f c (g.o l)).map (g.set l)).getD g := by
 show (match g.o l with
  | some (.ins cn fs) => g.set l (.ins cn (pF f (.own lk c) fs))
  | _ => g) = _
 cases g.o l with
 | none => rfl
 | some o => cases o <;> rfl
@[simp] theorem putG_emb (c : C) (g : G) (l : Nat) (f : Str) : putG c g (.emb l f) = ((pE false f c (g.o l)).map (g.set l)).getD g := setG_emb false c g l f
@[simp] theorem set_same (g : G) (l : Nat) (o : AO) : (g.set l o).o l = some o := if_pos rfl
@[simp] theorem set_ne (g : G) {k l : Nat} (o : AO) (h : k ≠ l) : (g.set l o).o k = g.o k := if_neg h
@[simp] theorem set_set (g : G) (l : Nat) (o p : AO) : (g.set l o).set l p = g.set l p := by
 unfold G.set
 congr 1
 funext j
 dsimp only
 split <;> rfl
@[simp] theorem deA_ref (g : G) (l : Nat) : deA g (.ref l) = (cO (g.o l)).map fun c => cA c.2 := nrfl rfl
theorem fA_ins {c f : Str} {fs : List (Str × Fv)} : fA [c] f (some (.ins c fs)) = fs.lookup f := by
 show (if [c].contains c then _ else _) = _
 rw [if_pos (by simp)]
theorem sF_ins {c f : Str} {v : Fv} {fs : List (Str × Fv)} (hl : fs.length < 900) (hn : ∀ x, fs.lookup f ≠ some (.own true x)) : sF [c] f v (some (.ins c fs)) = some (.ins c (pF f v fs)) := by
 unfold sF
 dsimp only
 rw [if_pos (by simp [hl])]
 split
 ·rename_i x h; exact (hn x h).elim
 ·rfl
def oDisk (x0 x1 x2 x3 x4 : Fv) : AO := .ins "Disk" [("blocks", x0), ("pending", x1), ("left", x2), ("picks", x3), ("fallen", x4)]
def oTable (x0 x1 x2 x3 : Fv) : AO := .ins "Table" [("rows", x0), ("hands", x1), ("moment", x2), ("number", x3)]
def oCopy (x0 x1 x2 x3 : Fv) : AO := .ins "Copy" [("number", x0), ("moment", x1), ("left", x2), ("kept", x3)]
def oCopies (x0 x1 x2 : Fv) : AO := .ins "Copies" [("table", x0), ("open_ones", x1), ("many", x2)]
def oCatch (x0 x1 x2 x3 : Fv) : AO := .ins "Catch" [("reader", x0), ("number", x1), ("since", x2), ("pages", x3)]
def oH (c : Str) (x0 x1 x2 x3 x4 x5 x6 x7 x8 x9 x10 : Fv) (r : List (Str × Fv)) : AO := .ins c (("disk", x0) :: ("table", x1) :: ("copies", x2) :: ("desks", x3) :: ("epoch", x4) :: ("floor", x5) :: ("barrier", x6) :: ("slots", x7) :: ("stamps", x8) :: ("lives", x9) :: ("tail_read", x10) :: r)
@[simp] theorem g_H_disk (c : Str) (x0 x1 x2 x3 x4 x5 x6 x7 x8 x9 x10 : Fv) (r : List (Str × Fv)) : fA [c] "disk" (some (oH c x0 x1 x2 x3 x4 x5 x6 x7 x8 x9 x10 r)) = some x0 := fA_ins.trans rfl
@[simp] theorem sv_H_disk (y : Fv) (a : A) (c : Str) (x1 x2 x3 x4 x5 x6 x7 x8 x9 x10 : Fv) {r : List (Str × Fv)} (hr : r.length ≤ 20) : sF [c] "disk" y (some (oH c (.val a) x1 x2 x3 x4 x5 x6 x7 x8 x9 x10 r)) = some (oH c y x1 x2 x3 x4 x5 x6 x7 x8 x9 x10 r) := (sF_ins (by show r.length + 11 < 900; omega) (fun x h => by have h : some _ = some _ := h; cases h)).trans rfl
@[simp] theorem so_H_disk (y : Fv) (z : C) (c : Str) (x1 x2 x3 x4 x5 x6 x7 x8 x9 x10 : Fv) {r : List (Str × Fv)} (hr : r.length ≤ 20) : sF [c] "disk" y (some (oH c (.own false z) x1 x2 x3 x4 x5 x6 x7 x8 x9 x10 r)) = some (oH c y x1 x2 x3 x4 x5 x6 x7 x8 x9 x10 r) := (sF_ins (by show r.length + 11 < 900; omega) (fun x h => by have h : some _ = some _ := h; cases h)).trans rfl
@[simp] theorem g_H_table (c : Str) (x0 x1 x2 x3 x4 x5 x6 x7 x8 x9 x10 : Fv) (r : List (Str × Fv)) : fA [c] "table" (some (oH c x0 x1 x2 x3 x4 x5 x6 x7 x8 x9 x10 r)) = some x1 := fA_ins.trans rfl
@[simp] theorem sv_H_table (y : Fv) (a : A) (c : Str) (x0 x2 x3 x4 x5 x6 x7 x8 x9 x10 : Fv) {r : List (Str × Fv)} (hr : r.length ≤ 20) : sF [c] "table" y (some (oH c x0 (.val a) x2 x3 x4 x5 x6 x7 x8 x9 x10 r)) = some (oH c x0 y x2 x3 x4 x5 x6 x7 x8 x9 x10 r) := (sF_ins (by show r.length + 11 < 900; omega) (fun x h => by have h : some _ = some _ := h; cases h)).trans rfl
@[simp] theorem so_H_table (y : Fv) (z : C) (c : Str) (x0 x2 x3 x4 x5 x6 x7 x8 x9 x10 : Fv) {r : List (Str × Fv)} (hr : r.length ≤ 20) : sF [c] "table" y (some (oH c x0 (.own false z) x2 x3 x4 x5 x6 x7 x8 x9 x10 r)) = some (oH c x0 y x2 x3 x4 x5 x6 x7 x8 x9 x10 r) := (sF_ins (by show r.length + 11 < 900; omega) (fun x h => by have h : some _ = some _ := h; cases h)).trans rfl
@[simp] theorem g_H_copies (c : Str) (x0 x1 x2 x3 x4 x5 x6 x7 x8 x9 x10 : Fv) (r : List (Str × Fv)) : fA [c] "copies" (some (oH c x0 x1 x2 x3 x4 x5 x6 x7 x8 x9 x10 r)) = some x2 := fA_ins.trans rfl
@[simp] theorem sv_H_copies (y : Fv) (a : A) (c : Str) (x0 x1 x3 x4 x5 x6 x7 x8 x9 x10 : Fv) {r : List (Str × Fv)} (hr : r.length ≤ 20) : sF [c] "copies" y (some (oH c x0 x1 (.val a) x3 x4 x5 x6 x7 x8 x9 x10 r)) = some (oH c x0 x1 y x3 x4 x5 x6 x7 x8 x9 x10 r) := (sF_ins (by show r.length + 11 < 900; omega) (fun x h => by have h : some _ = some _ := h; cases h)).trans rfl
@[simp] theorem so_H_copies (y : Fv) (z : C) (c : Str) (x0 x1 x3 x4 x5 x6 x7 x8 x9 x10 : Fv) {r : List (Str × Fv)} (hr : r.length ≤ 20) : sF [c] "copies" y (some (oH c x0 x1 (.own false z) x3 x4 x5 x6 x7 x8 x9 x10 r)) = some (oH c x0 x1 y x3 x4 x5 x6 x7 x8 x9 x10 r) := (sF_ins (by show r.length + 11 < 900; omega) (fun x h => by have h : some _ = some _ := h; cases h)).trans rfl
@[simp] theorem g_H_desks (c : Str) (x0 x1 x2 x3 x4 x5 x6 x7 x8 x9 x10 : Fv) (r : List (Str × Fv)) : fA [c] "desks" (some (oH c x0 x1 x2 x3 x4 x5 x6 x7 x8 x9 x10 r)) = some x3 := fA_ins.trans rfl
@[simp] theorem sv_H_desks (y : Fv) (a : A) (c : Str) (x0 x1 x2 x4 x5 x6 x7 x8 x9 x10 : Fv) {r : List (Str × Fv)} (hr : r.length ≤ 20) : sF [c] "desks" y (some (oH c x0 x1 x2 (.val a) x4 x5 x6 x7 x8 x9 x10 r)) = some (oH c x0 x1 x2 y x4 x5 x6 x7 x8 x9 x10 r) := (sF_ins (by show r.length + 11 < 900; omega) (fun x h => by have h : some _ = some _ := h; cases h)).trans rfl
@[simp] theorem so_H_desks (y : Fv) (z : C) (c : Str) (x0 x1 x2 x4 x5 x6 x7 x8 x9 x10 : Fv) {r : List (Str × Fv)} (hr : r.length ≤ 20) : sF [c] "desks" y (some (oH c x0 x1 x2 (.own false z) x4 x5 x6 x7 x8 x9 x10 r)) = some (oH c x0 x1 x2 y x4 x5 x6 x7 x8 x9 x10 r) := (sF_ins (by show r.length + 11 < 900; omega) (fun x h => by have h : some _ = some _ := h; cases h)).trans rfl
@[simp] theorem g_H_epoch (c : Str) (x0 x1 x2 x3 x4 x5 x6 x7 x8 x9 x10 : Fv) (r : List (Str × Fv)) : fA [c] "epoch" (some (oH c x0 x1 x2 x3 x4 x5 x6 x7 x8 x9 x10 r)) = some x4 := fA_ins.trans rfl
@[simp] theorem sv_H_epoch (y : Fv) (a : A) (c : Str) (x0 x1 x2 x3 x5 x6 x7 x8 x9 x10 : Fv) {r : List (Str × Fv)} (hr : r.length ≤ 20) : sF [c] "epoch" y (some (oH c x0 x1 x2 x3 (.val a) x5 x6 x7 x8 x9 x10 r)) = some (oH c x0 x1 x2 x3 y x5 x6 x7 x8 x9 x10 r) := (sF_ins (by show r.length + 11 < 900; omega) (fun x h => by have h : some _ = some _ := h; cases h)).trans rfl
@[simp] theorem so_H_epoch (y : Fv) (z : C) (c : Str) (x0 x1 x2 x3 x5 x6 x7 x8 x9 x10 : Fv) {r : List (Str × Fv)} (hr : r.length ≤ 20) : sF [c] "epoch" y (some (oH c x0 x1 x2 x3 (.own false z) x5 x6 x7 x8 x9 x10 r)) = some (oH c x0 x1 x2 x3 y x5 x6 x7 x8 x9 x10 r) := (sF_ins (by show r.length + 11 < 900; omega) (fun x h => by have h : some _ = some _ := h; cases h)).trans rfl
@[simp] theorem g_H_floor (c : Str) (x0 x1 x2 x3 x4 x5 x6 x7 x8 x9 x10 : Fv) (r : List (Str × Fv)) : fA [c] "floor" (some (oH c x0 x1 x2 x3 x4 x5 x6 x7 x8 x9 x10 r)) = some x5 := fA_ins.trans rfl
@[simp] theorem sv_H_floor (y : Fv) (a : A) (c : Str) (x0 x1 x2 x3 x4 x6 x7 x8 x9 x10 : Fv) {r : List (Str × Fv)} (hr : r.length ≤ 20) : sF [c] "floor" y (some (oH c x0 x1 x2 x3 x4 (.val a) x6 x7 x8 x9 x10 r)) = some (oH c x0 x1 x2 x3 x4 y x6 x7 x8 x9 x10 r) := (sF_ins (by show r.length + 11 < 900; omega) (fun x h => by have h : some _ = some _ := h; cases h)).trans rfl
@[simp] theorem so_H_floor (y : Fv) (z : C) (c : Str) (x0 x1 x2 x3 x4 x6 x7 x8 x9 x10 : Fv) {r : List (Str × Fv)} (hr : r.length ≤ 20) : sF [c] "floor" y (some (oH c x0 x1 x2 x3 x4 (.own false z) x6 x7 x8 x9 x10 r)) = some (oH c x0 x1 x2 x3 x4 y x6 x7 x8 x9 x10 r) := (sF_ins (by show r.length + 11 < 900; omega) (fun x h => by have h : some _ = some _ := h; cases h)).trans rfl
@[simp] theorem g_H_barrier (c : Str) (x0 x1 x2 x3 x4 x5 x6 x7 x8 x9 x10 : Fv) (r : List (Str × Fv)) : fA [c] "barrier" (some (oH c x0 x1 x2 x3 x4 x5 x6 x7 x8 x9 x10 r)) = some x6 := fA_ins.trans rfl
@[simp] theorem sv_H_barrier (y : Fv) (a : A) (c : Str) (x0 x1 x2 x3 x4 x5 x7 x8 x9 x10 : Fv) {r : List (Str × Fv)} (hr : r.length ≤ 20) : sF [c] "barrier" y (some (oH c x0 x1 x2 x3 x4 x5 (.val a) x7 x8 x9 x10 r)) = some (oH c x0 x1 x2 x3 x4 x5 y x7 x8 x9 x10 r) := (sF_ins (by show r.length + 11 < 900; omega) (fun x h => by have h : some _ = some _ := h; cases h)).trans rfl
@[simp] theorem so_H_barrier (y : Fv) (z : C) (c : Str) (x0 x1 x2 x3 x4 x5 x7 x8 x9 x10 : Fv) {r : List (Str × Fv)} (hr : r.length ≤ 20) : sF [c] "barrier" y (some (oH c x0 x1 x2 x3 x4 x5 (.own false z) x7 x8 x9 x10 r)) = some (oH c x0 x1 x2 x3 x4 x5 y x7 x8 x9 x10 r) := (sF_ins (by show r.length + 11 < 900; omega) (fun x h => by have h : some _ = some _ := h; cases h)).trans rfl
@[simp] theorem g_H_slots (c : Str) (x0 x1 x2 x3 x4 x5 x6 x7 x8 x9 x10 : Fv) (r : List (Str × Fv)) : fA [c] "slots" (some (oH c x0 x1 x2 x3 x4 x5 x6 x7 x8 x9 x10 r)) = some x7 := fA_ins.trans rfl
@[simp] theorem sv_H_slots (y : Fv) (a : A) (c : Str) (x0 x1 x2 x3 x4 x5 x6 x8 x9 x10 : Fv) {r : List (Str × Fv)} (hr : r.length ≤ 20) : sF [c] "slots" y (some (oH c x0 x1 x2 x3 x4 x5 x6 (.val a) x8 x9 x10 r)) = some (oH c x0 x1 x2 x3 x4 x5 x6 y x8 x9 x10 r) := (sF_ins (by show r.length + 11 < 900; omega) (fun x h => by have h : some _ = some _ := h; cases h)).trans rfl
@[simp] theorem so_H_slots (y : Fv) (z : C) (c : Str) (x0 x1 x2 x3 x4 x5 x6 x8 x9 x10 : Fv) {r : List (Str × Fv)} (hr : r.length ≤ 20) : sF [c] "slots" y (some (oH c x0 x1 x2 x3 x4 x5 x6 (.own false z) x8 x9 x10 r)) = some (oH c x0 x1 x2 x3 x4 x5 x6 y x8 x9 x10 r) := (sF_ins (by show r.length + 11 < 900; omega) (fun x h => by have h : some _ = some _ := h; cases h)).trans rfl
@[simp] theorem g_H_stamps (c : Str) (x0 x1 x2 x3 x4 x5 x6 x7 x8 x9 x10 : Fv) (r : List (Str × Fv)) : fA [c] "stamps" (some (oH c x0 x1 x2 x3 x4 x5 x6 x7 x8 x9 x10 r)) = some x8 := fA_ins.trans rfl
@[simp] theorem sv_H_stamps (y : Fv) (a : A) (c : Str) (x0 x1 x2 x3 x4 x5 x6 x7 x9 x10 : Fv) {r : List (Str × Fv)} (hr : r.length ≤ 20) : sF [c] "stamps" y (some (oH c x0 x1 x2 x3 x4 x5 x6 x7 (.val a) x9 x10 r)) = some (oH c x0 x1 x2 x3 x4 x5 x6 x7 y x9 x10 r) := (sF_ins (by show r.length + 11 < 900; omega) (fun x h => by have h : some _ = some _ := h; cases h)).trans rfl
@[simp] theorem so_H_stamps (y : Fv) (z : C) (c : Str) (x0 x1 x2 x3 x4 x5 x6 x7 x9 x10 : Fv) {r : List (Str × Fv)} (hr : r.length ≤ 20) : sF [c] "stamps" y (some (oH c x0 x1 x2 x3 x4 x5 x6 x7 (.own false z) x9 x10 r)) = some (oH c x0 x1 x2 x3 x4 x5 x6 x7 y x9 x10 r) := (sF_ins (by show r.length + 11 < 900; omega) (fun x h => by have h : some _ = some _ := h; cases h)).trans rfl
@[simp] theorem g_H_lives (c : Str) (x0 x1 x2 x3 x4 x5 x6 x7 x8 x9 x10 : Fv) (r : List (Str × Fv)) : fA [c] "lives" (some (oH c x0 x1 x2 x3 x4 x5 x6 x7 x8 x9 x10 r)) = some x9 := fA_ins.trans rfl
@[simp] theorem sv_H_lives (y : Fv) (a : A) (c : Str) (x0 x1 x2 x3 x4 x5 x6 x7 x8 x10 : Fv) {r : List (Str × Fv)} (hr : r.length ≤ 20) : sF [c] "lives" y (some (oH c x0 x1 x2 x3 x4 x5 x6 x7 x8 (.val a) x10 r)) = some (oH c x0 x1 x2 x3 x4 x5 x6 x7 x8 y x10 r) := (sF_ins (by show r.length + 11 < 900; omega) (fun x h => by have h : some _ = some _ := h; cases h)).trans rfl
@[simp] theorem so_H_lives (y : Fv) (z : C) (c : Str) (x0 x1 x2 x3 x4 x5 x6 x7 x8 x10 : Fv) {r : List (Str × Fv)} (hr : r.length ≤ 20) : sF [c] "lives" y (some (oH c x0 x1 x2 x3 x4 x5 x6 x7 x8 (.own false z) x10 r)) = some (oH c x0 x1 x2 x3 x4 x5 x6 x7 x8 y x10 r) := (sF_ins (by show r.length + 11 < 900; omega) (fun x h => by have h : some _ = some _ := h; cases h)).trans rfl
@[simp] theorem g_H_tail_read (c : Str) (x0 x1 x2 x3 x4 x5 x6 x7 x8 x9 x10 : Fv) (r : List (Str × Fv)) : fA [c] "tail_read" (some (oH c x0 x1 x2 x3 x4 x5 x6 x7 x8 x9 x10 r)) = some x10 := fA_ins.trans rfl
@[simp] theorem sv_H_tail_read (y : Fv) (a : A) (c : Str) (x0 x1 x2 x3 x4 x5 x6 x7 x8 x9 : Fv) {r : List (Str × Fv)} (hr : r.length ≤ 20) : sF [c] "tail_read" y (some (oH c x0 x1 x2 x3 x4 x5 x6 x7 x8 x9 (.val a) r)) = some (oH c x0 x1 x2 x3 x4 x5 x6 x7 x8 x9 y r) := (sF_ins (by show r.length + 11 < 900; omega) (fun x h => by have h : some _ = some _ := h; cases h)).trans rfl
@[simp] theorem so_H_tail_read (y : Fv) (z : C) (c : Str) (x0 x1 x2 x3 x4 x5 x6 x7 x8 x9 : Fv) {r : List (Str × Fv)} (hr : r.length ≤ 20) : sF [c] "tail_read" y (some (oH c x0 x1 x2 x3 x4 x5 x6 x7 x8 x9 (.own false z) r)) = some (oH c x0 x1 x2 x3 x4 x5 x6 x7 x8 x9 y r) := (sF_ins (by show r.length + 11 < 900; omega) (fun x h => by have h : some _ = some _ := h; cases h)).trans rfl
@[simp] theorem i_H_0 (c : Str) (y : Fv) : sF [c] "disk" y (some (.ins c [])) = some (.ins c [("disk", y)]) := (sF_ins (by show 0 < 900; decide) (fun x h => by have h : none = some _ := h; cases h)).trans rfl
@[simp] theorem i_H_1 (c : Str) (x0 : Fv) (y : Fv) : sF [c] "table" y (some (.ins c [("disk", x0)])) = some (.ins c [("disk", x0), ("table", y)]) := (sF_ins (by show 1 < 900; decide) (fun x h => by have h : none = some _ := h; cases h)).trans rfl
@[simp] theorem gi_H_1_0 (c : Str) (x0 : Fv) : fA [c] "disk" (some (.ins c [("disk", x0)])) = some x0 := fA_ins.trans rfl
@[simp] theorem i_H_2 (c : Str) (x0 x1 : Fv) (y : Fv) : sF [c] "copies" y (some (.ins c [("disk", x0), ("table", x1)])) = some (.ins c [("disk", x0), ("table", x1), ("copies", y)]) := (sF_ins (by show 2 < 900; decide) (fun x h => by have h : none = some _ := h; cases h)).trans rfl
@[simp] theorem gi_H_2_0 (c : Str) (x0 x1 : Fv) : fA [c] "disk" (some (.ins c [("disk", x0), ("table", x1)])) = some x0 := fA_ins.trans rfl
@[simp] theorem gi_H_2_1 (c : Str) (x0 x1 : Fv) : fA [c] "table" (some (.ins c [("disk", x0), ("table", x1)])) = some x1 := fA_ins.trans rfl
@[simp] theorem i_H_3 (c : Str) (x0 x1 x2 : Fv) (y : Fv) : sF [c] "desks" y (some (.ins c [("disk", x0), ("table", x1), ("copies", x2)])) = some (.ins c [("disk", x0), ("table", x1), ("copies", x2), ("desks", y)]) := (sF_ins (by show 3 < 900; decide) (fun x h => by have h : none = some _ := h; cases h)).trans rfl
@[simp] theorem gi_H_3_0 (c : Str) (x0 x1 x2 : Fv) : fA [c] "disk" (some (.ins c [("disk", x0), ("table", x1), ("copies", x2)])) = some x0 := fA_ins.trans rfl
@[simp] theorem gi_H_3_1 (c : Str) (x0 x1 x2 : Fv) : fA [c] "table" (some (.ins c [("disk", x0), ("table", x1), ("copies", x2)])) = some x1 := fA_ins.trans rfl
@[simp] theorem gi_H_3_2 (c : Str) (x0 x1 x2 : Fv) : fA [c] "copies" (some (.ins c [("disk", x0), ("table", x1), ("copies", x2)])) = some x2 := fA_ins.trans rfl
@[simp] theorem i_H_4 (c : Str) (x0 x1 x2 x3 : Fv) (y : Fv) : sF [c] "epoch" y (some (.ins c [("disk", x0), ("table", x1), ("copies", x2), ("desks", x3)])) = some (.ins c [("disk", x0), ("table", x1), ("copies", x2), ("desks", x3), ("epoch", y)]) := (sF_ins (by show 4 < 900; decide) (fun x h => by have h : none = some _ := h; cases h)).trans rfl
@[simp] theorem gi_H_4_0 (c : Str) (x0 x1 x2 x3 : Fv) : fA [c] "disk" (some (.ins c [("disk", x0), ("table", x1), ("copies", x2), ("desks", x3)])) = some x0 := fA_ins.trans rfl
@[simp] theorem gi_H_4_1 (c : Str) (x0 x1 x2 x3 : Fv) : fA [c] "table" (some (.ins c [("disk", x0), ("table", x1), ("copies", x2), ("desks", x3)])) = some x1 := fA_ins.trans rfl
@[simp] theorem gi_H_4_2 (c : Str) (x0 x1 x2 x3 : Fv) : fA [c] "copies" (some (.ins c [("disk", x0), ("table", x1), ("copies", x2), ("desks", x3)])) = some x2 := fA_ins.trans rfl
@[simp] theorem gi_H_4_3 (c : Str) (x0 x1 x2 x3 : Fv) : fA [c] "desks" (some (.ins c [("disk", x0), ("table", x1), ("copies", x2), ("desks", x3)])) = some x3 := fA_ins.trans rfl
@[simp] theorem i_H_5 (c : Str) (x0 x1 x2 x3 x4 : Fv) (y : Fv) : sF [c] "floor" y (some (.ins c [("disk", x0), ("table", x1), ("copies", x2), ("desks", x3), ("epoch", x4)])) = some (.ins c [("disk", x0), ("table", x1), ("copies", x2), ("desks", x3), ("epoch", x4), ("floor", y)]) := (sF_ins (by show 5 < 900; decide) (fun x h => by have h : none = some _ := h; cases h)).trans rfl
@[simp] theorem gi_H_5_0 (c : Str) (x0 x1 x2 x3 x4 : Fv) : fA [c] "disk" (some (.ins c [("disk", x0), ("table", x1), ("copies", x2), ("desks", x3), ("epoch", x4)])) = some x0 := fA_ins.trans rfl
@[simp] theorem gi_H_5_1 (c : Str) (x0 x1 x2 x3 x4 : Fv) : fA [c] "table" (some (.ins c [("disk", x0), ("table", x1), ("copies", x2), ("desks", x3), ("epoch", x4)])) = some x1 := fA_ins.trans rfl
@[simp] theorem gi_H_5_2 (c : Str) (x0 x1 x2 x3 x4 : Fv) : fA [c] "copies" (some (.ins c [("disk", x0), ("table", x1), ("copies", x2), ("desks", x3), ("epoch", x4)])) = some x2 := fA_ins.trans rfl
@[simp] theorem gi_H_5_3 (c : Str) (x0 x1 x2 x3 x4 : Fv) : fA [c] "desks" (some (.ins c [("disk", x0), ("table", x1), ("copies", x2), ("desks", x3), ("epoch", x4)])) = some x3 := fA_ins.trans rfl
@[simp] theorem gi_H_5_4 (c : Str) (x0 x1 x2 x3 x4 : Fv) : fA [c] "epoch" (some (.ins c [("disk", x0), ("table", x1), ("copies", x2), ("desks", x3), ("epoch", x4)])) = some x4 := fA_ins.trans rfl
@[simp] theorem i_H_6 (c : Str) (x0 x1 x2 x3 x4 x5 : Fv) (y : Fv) : sF [c] "barrier" y (some (.ins c [("disk", x0), ("table", x1), ("copies", x2), ("desks", x3), ("epoch", x4), ("floor", x5)])) = some (.ins c [("disk", x0), ("table", x1), ("copies", x2), ("desks", x3), ("epoch", x4), ("floor", x5), ("barrier", y)]) := (sF_ins (by show 6 < 900; decide) (fun x h => by have h : none = some _ := h; cases h)).trans rfl
@[simp] theorem gi_H_6_0 (c : Str) (x0 x1 x2 x3 x4 x5 : Fv) : fA [c] "disk" (some (.ins c [("disk", x0), ("table", x1), ("copies", x2), ("desks", x3), ("epoch", x4), ("floor", x5)])) = some x0 := fA_ins.trans rfl
@[simp] theorem gi_H_6_1 (c : Str) (x0 x1 x2 x3 x4 x5 : Fv) : fA [c] "table" (some (.ins c [("disk", x0), ("table", x1), ("copies", x2), ("desks", x3), ("epoch", x4), ("floor", x5)])) = some x1 := fA_ins.trans rfl
@[simp] theorem gi_H_6_2 (c : Str) (x0 x1 x2 x3 x4 x5 : Fv) : fA [c] "copies" (some (.ins c [("disk", x0), ("table", x1), ("copies", x2), ("desks", x3), ("epoch", x4), ("floor", x5)])) = some x2 := fA_ins.trans rfl
@[simp] theorem gi_H_6_3 (c : Str) (x0 x1 x2 x3 x4 x5 : Fv) : fA [c] "desks" (some (.ins c [("disk", x0), ("table", x1), ("copies", x2), ("desks", x3), ("epoch", x4), ("floor", x5)])) = some x3 := fA_ins.trans rfl
@[simp] theorem gi_H_6_4 (c : Str) (x0 x1 x2 x3 x4 x5 : Fv) : fA [c] "epoch" (some (.ins c [("disk", x0), ("table", x1), ("copies", x2), ("desks", x3), ("epoch", x4), ("floor", x5)])) = some x4 := fA_ins.trans rfl
@[simp] theorem gi_H_6_5 (c : Str) (x0 x1 x2 x3 x4 x5 : Fv) : fA [c] "floor" (some (.ins c [("disk", x0), ("table", x1), ("copies", x2), ("desks", x3), ("epoch", x4), ("floor", x5)])) = some x5 := fA_ins.trans rfl
@[simp] theorem i_H_7 (c : Str) (x0 x1 x2 x3 x4 x5 x6 : Fv) (y : Fv) : sF [c] "slots" y (some (.ins c [("disk", x0), ("table", x1), ("copies", x2), ("desks", x3), ("epoch", x4), ("floor", x5), ("barrier", x6)])) = some (.ins c [("disk", x0), ("table", x1), ("copies", x2), ("desks", x3), ("epoch", x4), ("floor", x5), ("barrier", x6), ("slots", y)]) := (sF_ins (by show 7 < 900; decide) (fun x h => by have h : none = some _ := h; cases h)).trans rfl
@[simp] theorem gi_H_7_0 (c : Str) (x0 x1 x2 x3 x4 x5 x6 : Fv) : fA [c] "disk" (some (.ins c [("disk", x0), ("table", x1), ("copies", x2), ("desks", x3), ("epoch", x4), ("floor", x5), ("barrier", x6)])) = some x0 := fA_ins.trans rfl
@[simp] theorem gi_H_7_1 (c : Str) (x0 x1 x2 x3 x4 x5 x6 : Fv) : fA [c] "table" (some (.ins c [("disk", x0), ("table", x1), ("copies", x2), ("desks", x3), ("epoch", x4), ("floor", x5), ("barrier", x6)])) = some x1 := fA_ins.trans rfl
@[simp] theorem gi_H_7_2 (c : Str) (x0 x1 x2 x3 x4 x5 x6 : Fv) : fA [c] "copies" (some (.ins c [("disk", x0), ("table", x1), ("copies", x2), ("desks", x3), ("epoch", x4), ("floor", x5), ("barrier", x6)])) = some x2 := fA_ins.trans rfl
@[simp] theorem gi_H_7_3 (c : Str) (x0 x1 x2 x3 x4 x5 x6 : Fv) : fA [c] "desks" (some (.ins c [("disk", x0), ("table", x1), ("copies", x2), ("desks", x3), ("epoch", x4), ("floor", x5), ("barrier", x6)])) = some x3 := fA_ins.trans rfl
@[simp] theorem gi_H_7_4 (c : Str) (x0 x1 x2 x3 x4 x5 x6 : Fv) : fA [c] "epoch" (some (.ins c [("disk", x0), ("table", x1), ("copies", x2), ("desks", x3), ("epoch", x4), ("floor", x5), ("barrier", x6)])) = some x4 := fA_ins.trans rfl
@[simp] theorem gi_H_7_5 (c : Str) (x0 x1 x2 x3 x4 x5 x6 : Fv) : fA [c] "floor" (some (.ins c [("disk", x0), ("table", x1), ("copies", x2), ("desks", x3), ("epoch", x4), ("floor", x5), ("barrier", x6)])) = some x5 := fA_ins.trans rfl
@[simp] theorem gi_H_7_6 (c : Str) (x0 x1 x2 x3 x4 x5 x6 : Fv) : fA [c] "barrier" (some (.ins c [("disk", x0), ("table", x1), ("copies", x2), ("desks", x3), ("epoch", x4), ("floor", x5), ("barrier", x6)])) = some x6 := fA_ins.trans rfl
@[simp] theorem i_H_8 (c : Str) (x0 x1 x2 x3 x4 x5 x6 x7 : Fv) (y : Fv) : sF [c] "stamps" y (some (.ins c [("disk", x0), ("table", x1), ("copies", x2), ("desks", x3), ("epoch", x4), ("floor", x5), ("barrier", x6), ("slots", x7)])) = some (.ins c [("disk", x0), ("table", x1), ("copies", x2), ("desks", x3), ("epoch", x4), ("floor", x5), ("barrier", x6), ("slots", x7), ("stamps", y)]) := (sF_ins (by show 8 < 900; decide) (fun x h => by have h : none = some _ := h; cases h)).trans rfl
@[simp] theorem gi_H_8_0 (c : Str) (x0 x1 x2 x3 x4 x5 x6 x7 : Fv) : fA [c] "disk" (some (.ins c [("disk", x0), ("table", x1), ("copies", x2), ("desks", x3), ("epoch", x4), ("floor", x5), ("barrier", x6), ("slots", x7)])) = some x0 := fA_ins.trans rfl
@[simp] theorem gi_H_8_1 (c : Str) (x0 x1 x2 x3 x4 x5 x6 x7 : Fv) : fA [c] "table" (some (.ins c [("disk", x0), ("table", x1), ("copies", x2), ("desks", x3), ("epoch", x4), ("floor", x5), ("barrier", x6), ("slots", x7)])) = some x1 := fA_ins.trans rfl
@[simp] theorem gi_H_8_2 (c : Str) (x0 x1 x2 x3 x4 x5 x6 x7 : Fv) : fA [c] "copies" (some (.ins c [("disk", x0), ("table", x1), ("copies", x2), ("desks", x3), ("epoch", x4), ("floor", x5), ("barrier", x6), ("slots", x7)])) = some x2 := fA_ins.trans rfl
@[simp] theorem gi_H_8_3 (c : Str) (x0 x1 x2 x3 x4 x5 x6 x7 : Fv) : fA [c] "desks" (some (.ins c [("disk", x0), ("table", x1), ("copies", x2), ("desks", x3), ("epoch", x4), ("floor", x5), ("barrier", x6), ("slots", x7)])) = some x3 := fA_ins.trans rfl
@[simp] theorem gi_H_8_4 (c : Str) (x0 x1 x2 x3 x4 x5 x6 x7 : Fv) : fA [c] "epoch" (some (.ins c [("disk", x0), ("table", x1), ("copies", x2), ("desks", x3), ("epoch", x4), ("floor", x5), ("barrier", x6), ("slots", x7)])) = some x4 := fA_ins.trans rfl
@[simp] theorem gi_H_8_5 (c : Str) (x0 x1 x2 x3 x4 x5 x6 x7 : Fv) : fA [c] "floor" (some (.ins c [("disk", x0), ("table", x1), ("copies", x2), ("desks", x3), ("epoch", x4), ("floor", x5), ("barrier", x6), ("slots", x7)])) = some x5 := fA_ins.trans rfl
@[simp] theorem gi_H_8_6 (c : Str) (x0 x1 x2 x3 x4 x5 x6 x7 : Fv) : fA [c] "barrier" (some (.ins c [("disk", x0), ("table", x1), ("copies", x2), ("desks", x3), ("epoch", x4), ("floor", x5), ("barrier", x6), ("slots", x7)])) = some x6 := fA_ins.trans rfl
@[simp] theorem gi_H_8_7 (c : Str) (x0 x1 x2 x3 x4 x5 x6 x7 : Fv) : fA [c] "slots" (some (.ins c [("disk", x0), ("table", x1), ("copies", x2), ("desks", x3), ("epoch", x4), ("floor", x5), ("barrier", x6), ("slots", x7)])) = some x7 := fA_ins.trans rfl
@[simp] theorem i_H_9 (c : Str) (x0 x1 x2 x3 x4 x5 x6 x7 x8 : Fv) (y : Fv) : sF [c] "lives" y (some (.ins c [("disk", x0), ("table", x1), ("copies", x2), ("desks", x3), ("epoch", x4), ("floor", x5), ("barrier", x6), ("slots", x7), ("stamps", x8)])) = some (.ins c [("disk", x0), ("table", x1), ("copies", x2), ("desks", x3), ("epoch", x4), ("floor", x5), ("barrier", x6), ("slots", x7), ("stamps", x8), ("lives", y)]) := (sF_ins (by show 9 < 900; decide) (fun x h => by have h : none = some _ := h; cases h)).trans rfl
@[simp] theorem gi_H_9_0 (c : Str) (x0 x1 x2 x3 x4 x5 x6 x7 x8 : Fv) : fA [c] "disk" (some (.ins c [("disk", x0), ("table", x1), ("copies", x2), ("desks", x3), ("epoch", x4), ("floor", x5), ("barrier", x6), ("slots", x7), ("stamps", x8)])) = some x0 := fA_ins.trans rfl
@[simp] theorem gi_H_9_1 (c : Str) (x0 x1 x2 x3 x4 x5 x6 x7 x8 : Fv) : fA [c] "table" (some (.ins c [("disk", x0), ("table", x1), ("copies", x2), ("desks", x3), ("epoch", x4), ("floor", x5), ("barrier", x6), ("slots", x7), ("stamps", x8)])) = some x1 := fA_ins.trans rfl
@[simp] theorem gi_H_9_2 (c : Str) (x0 x1 x2 x3 x4 x5 x6 x7 x8 : Fv) : fA [c] "copies" (some (.ins c [("disk", x0), ("table", x1), ("copies", x2), ("desks", x3), ("epoch", x4), ("floor", x5), ("barrier", x6), ("slots", x7), ("stamps", x8)])) = some x2 := fA_ins.trans rfl
@[simp] theorem gi_H_9_3 (c : Str) (x0 x1 x2 x3 x4 x5 x6 x7 x8 : Fv) : fA [c] "desks" (some (.ins c [("disk", x0), ("table", x1), ("copies", x2), ("desks", x3), ("epoch", x4), ("floor", x5), ("barrier", x6), ("slots", x7), ("stamps", x8)])) = some x3 := fA_ins.trans rfl
@[simp] theorem gi_H_9_4 (c : Str) (x0 x1 x2 x3 x4 x5 x6 x7 x8 : Fv) : fA [c] "epoch" (some (.ins c [("disk", x0), ("table", x1), ("copies", x2), ("desks", x3), ("epoch", x4), ("floor", x5), ("barrier", x6), ("slots", x7), ("stamps", x8)])) = some x4 := fA_ins.trans rfl
@[simp] theorem gi_H_9_5 (c : Str) (x0 x1 x2 x3 x4 x5 x6 x7 x8 : Fv) : fA [c] "floor" (some (.ins c [("disk", x0), ("table", x1), ("copies", x2), ("desks", x3), ("epoch", x4), ("floor", x5), ("barrier", x6), ("slots", x7), ("stamps", x8)])) = some x5 := fA_ins.trans rfl
@[simp] theorem gi_H_9_6 (c : Str) (x0 x1 x2 x3 x4 x5 x6 x7 x8 : Fv) : fA [c] "barrier" (some (.ins c [("disk", x0), ("table", x1), ("copies", x2), ("desks", x3), ("epoch", x4), ("floor", x5), ("barrier", x6), ("slots", x7), ("stamps", x8)])) = some x6 := fA_ins.trans rfl
@[simp] theorem gi_H_9_7 (c : Str) (x0 x1 x2 x3 x4 x5 x6 x7 x8 : Fv) : fA [c] "slots" (some (.ins c [("disk", x0), ("table", x1), ("copies", x2), ("desks", x3), ("epoch", x4), ("floor", x5), ("barrier", x6), ("slots", x7), ("stamps", x8)])) = some x7 := fA_ins.trans rfl
@[simp] theorem gi_H_9_8 (c : Str) (x0 x1 x2 x3 x4 x5 x6 x7 x8 : Fv) : fA [c] "stamps" (some (.ins c [("disk", x0), ("table", x1), ("copies", x2), ("desks", x3), ("epoch", x4), ("floor", x5), ("barrier", x6), ("slots", x7), ("stamps", x8)])) = some x8 := fA_ins.trans rfl
@[simp] theorem i_H_10 (c : Str) (x0 x1 x2 x3 x4 x5 x6 x7 x8 x9 : Fv) (y : Fv) : sF [c] "tail_read" y (some (.ins c [("disk", x0), ("table", x1), ("copies", x2), ("desks", x3), ("epoch", x4), ("floor", x5), ("barrier", x6), ("slots", x7), ("stamps", x8), ("lives", x9)])) = some (oH c x0 x1 x2 x3 x4 x5 x6 x7 x8 x9 y []) := (sF_ins (by show 10 < 900; decide) (fun x h => by have h : none = some _ := h; cases h)).trans rfl
@[simp] theorem gi_H_10_0 (c : Str) (x0 x1 x2 x3 x4 x5 x6 x7 x8 x9 : Fv) : fA [c] "disk" (some (.ins c [("disk", x0), ("table", x1), ("copies", x2), ("desks", x3), ("epoch", x4), ("floor", x5), ("barrier", x6), ("slots", x7), ("stamps", x8), ("lives", x9)])) = some x0 := fA_ins.trans rfl
@[simp] theorem gi_H_10_1 (c : Str) (x0 x1 x2 x3 x4 x5 x6 x7 x8 x9 : Fv) : fA [c] "table" (some (.ins c [("disk", x0), ("table", x1), ("copies", x2), ("desks", x3), ("epoch", x4), ("floor", x5), ("barrier", x6), ("slots", x7), ("stamps", x8), ("lives", x9)])) = some x1 := fA_ins.trans rfl
@[simp] theorem gi_H_10_2 (c : Str) (x0 x1 x2 x3 x4 x5 x6 x7 x8 x9 : Fv) : fA [c] "copies" (some (.ins c [("disk", x0), ("table", x1), ("copies", x2), ("desks", x3), ("epoch", x4), ("floor", x5), ("barrier", x6), ("slots", x7), ("stamps", x8), ("lives", x9)])) = some x2 := fA_ins.trans rfl
@[simp] theorem gi_H_10_3 (c : Str) (x0 x1 x2 x3 x4 x5 x6 x7 x8 x9 : Fv) : fA [c] "desks" (some (.ins c [("disk", x0), ("table", x1), ("copies", x2), ("desks", x3), ("epoch", x4), ("floor", x5), ("barrier", x6), ("slots", x7), ("stamps", x8), ("lives", x9)])) = some x3 := fA_ins.trans rfl
@[simp] theorem gi_H_10_4 (c : Str) (x0 x1 x2 x3 x4 x5 x6 x7 x8 x9 : Fv) : fA [c] "epoch" (some (.ins c [("disk", x0), ("table", x1), ("copies", x2), ("desks", x3), ("epoch", x4), ("floor", x5), ("barrier", x6), ("slots", x7), ("stamps", x8), ("lives", x9)])) = some x4 := fA_ins.trans rfl
@[simp] theorem gi_H_10_5 (c : Str) (x0 x1 x2 x3 x4 x5 x6 x7 x8 x9 : Fv) : fA [c] "floor" (some (.ins c [("disk", x0), ("table", x1), ("copies", x2), ("desks", x3), ("epoch", x4), ("floor", x5), ("barrier", x6), ("slots", x7), ("stamps", x8), ("lives", x9)])) = some x5 := fA_ins.trans rfl
@[simp] theorem gi_H_10_6 (c : Str) (x0 x1 x2 x3 x4 x5 x6 x7 x8 x9 : Fv) : fA [c] "barrier" (some (.ins c [("disk", x0), ("table", x1), ("copies", x2), ("desks", x3), ("epoch", x4), ("floor", x5), ("barrier", x6), ("slots", x7), ("stamps", x8), ("lives", x9)])) = some x6 := fA_ins.trans rfl
@[simp] theorem gi_H_10_7 (c : Str) (x0 x1 x2 x3 x4 x5 x6 x7 x8 x9 : Fv) : fA [c] "slots" (some (.ins c [("disk", x0), ("table", x1), ("copies", x2), ("desks", x3), ("epoch", x4), ("floor", x5), ("barrier", x6), ("slots", x7), ("stamps", x8), ("lives", x9)])) = some x7 := fA_ins.trans rfl
@[simp] theorem gi_H_10_8 (c : Str) (x0 x1 x2 x3 x4 x5 x6 x7 x8 x9 : Fv) : fA [c] "stamps" (some (.ins c [("disk", x0), ("table", x1), ("copies", x2), ("desks", x3), ("epoch", x4), ("floor", x5), ("barrier", x6), ("slots", x7), ("stamps", x8), ("lives", x9)])) = some x8 := fA_ins.trans rfl
@[simp] theorem gi_H_10_9 (c : Str) (x0 x1 x2 x3 x4 x5 x6 x7 x8 x9 : Fv) : fA [c] "lives" (some (.ins c [("disk", x0), ("table", x1), ("copies", x2), ("desks", x3), ("epoch", x4), ("floor", x5), ("barrier", x6), ("slots", x7), ("stamps", x8), ("lives", x9)])) = some x9 := fA_ins.trans rfl
def xN : List Str := ["houses", "outbox", "changed", "heard_of", "catches", "mails", "gathered"]
def restOk (r : List (Str × Fv)) : Bool := r.all fun q => xN.contains q.1
theorem rest_none {mn : Str} (hm : xN.contains mn = false) : ∀ {r : List (Str × Fv)}, restOk r = true → r.lookup mn = none
 | [], _ => rfl
 | (k, x) :: r, h => by
  unfold restOk at h
  rw [List.all_cons, Bool.and_eq_true] at h
  rw [List.lookup_cons]
  cases e : mn == k with
  | true => rw [beq_iff_eq] at e; rw [e, h.1] at hm; cases hm
  | false => exact rest_none hm h.2
theorem okM_ins {c mn : Str} {fs : List (Str × Fv)} : okM c mn (some (.ins c fs)) = (fs.lookup mn).isNone := by
 show (decide (c = c) && _) = _
 simp
@[simp] theorem m_H_come_up_ok (c : Str) (x0 x1 x2 x3 x4 x5 x6 x7 x8 x9 x10 : Fv) {r : List (Str × Fv)} (hr : restOk r = true) : okM c "come_up" (some (oH c x0 x1 x2 x3 x4 x5 x6 x7 x8 x9 x10 r)) = true := okM_ins.trans (by show (r.lookup ("come_up" : Str)).isNone = true; rw [rest_none (by decide) hr]; rfl)
@[simp] theorem m_H_write_head_ok (c : Str) (x0 x1 x2 x3 x4 x5 x6 x7 x8 x9 x10 : Fv) {r : List (Str × Fv)} (hr : restOk r = true) : okM c "write_head" (some (oH c x0 x1 x2 x3 x4 x5 x6 x7 x8 x9 x10 r)) = true := okM_ins.trans (by show (r.lookup ("write_head" : Str)).isNone = true; rw [rest_none (by decide) hr]; rfl)
@[simp] theorem m_H_erase_ok (c : Str) (x0 x1 x2 x3 x4 x5 x6 x7 x8 x9 x10 : Fv) {r : List (Str × Fv)} (hr : restOk r = true) : okM c "erase" (some (oH c x0 x1 x2 x3 x4 x5 x6 x7 x8 x9 x10 r)) = true := okM_ins.trans (by show (r.lookup ("erase" : Str)).isNone = true; rw [rest_none (by decide) hr]; rfl)
@[simp] theorem m_H_load_ok (c : Str) (x0 x1 x2 x3 x4 x5 x6 x7 x8 x9 x10 : Fv) {r : List (Str × Fv)} (hr : restOk r = true) : okM c "load" (some (oH c x0 x1 x2 x3 x4 x5 x6 x7 x8 x9 x10 r)) = true := okM_ins.trans (by show (r.lookup ("load" : Str)).isNone = true; rw [rest_none (by decide) hr]; rfl)
@[simp] theorem m_H_replay_ok (c : Str) (x0 x1 x2 x3 x4 x5 x6 x7 x8 x9 x10 : Fv) {r : List (Str × Fv)} (hr : restOk r = true) : okM c "replay" (some (oH c x0 x1 x2 x3 x4 x5 x6 x7 x8 x9 x10 r)) = true := okM_ins.trans (by show (r.lookup ("replay" : Str)).isNone = true; rw [rest_none (by decide) hr]; rfl)
@[simp] theorem m_H_befores_ok (c : Str) (x0 x1 x2 x3 x4 x5 x6 x7 x8 x9 x10 : Fv) {r : List (Str × Fv)} (hr : restOk r = true) : okM c "befores" (some (oH c x0 x1 x2 x3 x4 x5 x6 x7 x8 x9 x10 r)) = true := okM_ins.trans (by show (r.lookup ("befores" : Str)).isNone = true; rw [rest_none (by decide) hr]; rfl)
@[simp] theorem m_H_afters_ok (c : Str) (x0 x1 x2 x3 x4 x5 x6 x7 x8 x9 x10 : Fv) {r : List (Str × Fv)} (hr : restOk r = true) : okM c "afters" (some (oH c x0 x1 x2 x3 x4 x5 x6 x7 x8 x9 x10 r)) = true := okM_ins.trans (by show (r.lookup ("afters" : Str)).isNone = true; rw [rest_none (by decide) hr]; rfl)
@[simp] theorem m_H_take_ok (c : Str) (x0 x1 x2 x3 x4 x5 x6 x7 x8 x9 x10 : Fv) {r : List (Str × Fv)} (hr : restOk r = true) : okM c "take" (some (oH c x0 x1 x2 x3 x4 x5 x6 x7 x8 x9 x10 r)) = true := okM_ins.trans (by show (r.lookup ("take" : Str)).isNone = true; rw [rest_none (by decide) hr]; rfl)
@[simp] theorem m_H_write_entry_ok (c : Str) (x0 x1 x2 x3 x4 x5 x6 x7 x8 x9 x10 : Fv) {r : List (Str × Fv)} (hr : restOk r = true) : okM c "write_entry" (some (oH c x0 x1 x2 x3 x4 x5 x6 x7 x8 x9 x10 r)) = true := okM_ins.trans (by show (r.lookup ("write_entry" : Str)).isNone = true; rw [rest_none (by decide) hr]; rfl)
@[simp] theorem m_H_write_out_ok (c : Str) (x0 x1 x2 x3 x4 x5 x6 x7 x8 x9 x10 : Fv) {r : List (Str × Fv)} (hr : restOk r = true) : okM c "write_out" (some (oH c x0 x1 x2 x3 x4 x5 x6 x7 x8 x9 x10 r)) = true := okM_ins.trans (by show (r.lookup ("write_out" : Str)).isNone = true; rw [rest_none (by decide) hr]; rfl)
@[simp] theorem m_H_has_room_ok (c : Str) (x0 x1 x2 x3 x4 x5 x6 x7 x8 x9 x10 : Fv) {r : List (Str × Fv)} (hr : restOk r = true) : okM c "has_room" (some (oH c x0 x1 x2 x3 x4 x5 x6 x7 x8 x9 x10 r)) = true := okM_ins.trans (by show (r.lookup ("has_room" : Str)).isNone = true; rw [rest_none (by decide) hr]; rfl)
@[simp] theorem m_H_make_room_ok (c : Str) (x0 x1 x2 x3 x4 x5 x6 x7 x8 x9 x10 : Fv) {r : List (Str × Fv)} (hr : restOk r = true) : okM c "make_room" (some (oH c x0 x1 x2 x3 x4 x5 x6 x7 x8 x9 x10 r)) = true := okM_ins.trans (by show (r.lookup ("make_room" : Str)).isNone = true; rw [rest_none (by decide) hr]; rfl)
@[simp] theorem m_H_known_ok (c : Str) (x0 x1 x2 x3 x4 x5 x6 x7 x8 x9 x10 : Fv) {r : List (Str × Fv)} (hr : restOk r = true) : okM c "known" (some (oH c x0 x1 x2 x3 x4 x5 x6 x7 x8 x9 x10 r)) = true := okM_ins.trans (by show (r.lookup ("known" : Str)).isNone = true; rw [rest_none (by decide) hr]; rfl)
@[simp] theorem m_H_clock_ok (c : Str) (x0 x1 x2 x3 x4 x5 x6 x7 x8 x9 x10 : Fv) {r : List (Str × Fv)} (hr : restOk r = true) : okM c "clock" (some (oH c x0 x1 x2 x3 x4 x5 x6 x7 x8 x9 x10 r)) = true := okM_ins.trans (by show (r.lookup ("clock" : Str)).isNone = true; rw [rest_none (by decide) hr]; rfl)
@[simp] theorem m_H_read_ok (c : Str) (x0 x1 x2 x3 x4 x5 x6 x7 x8 x9 x10 : Fv) {r : List (Str × Fv)} (hr : restOk r = true) : okM c "read" (some (oH c x0 x1 x2 x3 x4 x5 x6 x7 x8 x9 x10 r)) = true := okM_ins.trans (by show (r.lookup ("read" : Str)).isNone = true; rw [rest_none (by decide) hr]; rfl)
@[simp] theorem m_H_whole_ok (c : Str) (x0 x1 x2 x3 x4 x5 x6 x7 x8 x9 x10 : Fv) {r : List (Str × Fv)} (hr : restOk r = true) : okM c "whole" (some (oH c x0 x1 x2 x3 x4 x5 x6 x7 x8 x9 x10 r)) = true := okM_ins.trans (by show (r.lookup ("whole" : Str)).isNone = true; rw [rest_none (by decide) hr]; rfl)
def rLead (y0 y1 y2 y3 y4 y5 : Fv) : List (Str × Fv) := [("houses", y0), ("outbox", y1), ("changed", y2), ("heard_of", y3), ("catches", y4), ("mails", y5)]
@[simp] theorem rLead_len (y0 y1 y2 y3 y4 y5 : Fv) : (rLead y0 y1 y2 y3 y4 y5).length ≤ 20 := by show 6 ≤ 20; decide
def rFollower (y0 : Fv) : List (Str × Fv) := [("gathered", y0)]
@[simp] theorem rFollower_len (y0 : Fv) : (rFollower y0).length ≤ 20 := by show 1 ≤ 20; decide
end N
end
section
namespace W
open PySem PySem.Spec PyProof.Rows L2 Cm
abbrev RowT := Int × Int × Int
abbrev HandT := Int × Int × Int × Bool
inductive Cont where
 | rows (l : List RowT)
 | hands (m : Int) (l : List HandT)
deriving DecidableEq
def rowTD (q : RowT) : PyData := .tuple [.int q.1, .int q.2.1, .int q.2.2]
def handTD (q : HandT) : PyData := .tuple [.int q.1, .int q.2.1, .int q.2.2.1, .bool q.2.2.2]
def Cont.d : Cont → PyData
 | .rows l => .tuple (l.map rowTD)
 | .hands m l => .tuple [.int m, .tuple (l.map handTD)]
def TB.rowsAt (T : TB) (p m : Int) : List RowT := (rng 32).filterMap fun k => if k / 4 = p then (T.rows k).bind fun r => if (psh m (some (toP r))).isSome then some (k, r) else none else none
def TB.handsL (T : TB) : List HandT := (rng 4).filterMap fun h => (T.hands h).map fun q => (h, q)
def TB.content (T : TB) (p m : Int) : Cont := if p = 8 then .hands T.moment T.handsL else .rows (T.rowsAt p m)
def Cont.Ok (p : Int) : Cont → Prop
 | .rows l => p ≠ 8 ∧ l.Pairwise (fun a b => a.1 < b.1) ∧ ∀ q ∈ l, (0 ≤ q.1 ∧ q.1 < 32) ∧ q.1 / 4 = p ∧ rowOk q.2
 | .hands _ l => p = 8 ∧ l.Pairwise (fun a b => a.1 < b.1) ∧ ∀ q ∈ l, 0 ≤ q.1 ∧ q.1 < 4
def TB.putPage (T : TB) (p : Int) : Cont → TB
 | .rows l => { T with rows := fun k => if k / 4 = p then l.lookup k else T.rows k }
 | .hands m l => { T with moment := m, hands := fun h => l.lookup h }
def TB.prune (T : TB) (p : Int) : TB := { T with rows := fun k => if k / 4 = p ∧ psh T.moment ((T.rows k).map toP) = none then none else T.rows k }
def TB.whole (T : TB) : List Cont := (rng 9).map fun p => T.content p T.moment
theorem few_up {β : Type} : ∀ {l : List (Int × β)} {a : Int} {n : Nat}, l.Pairwise (fun a b => a.1 < b.1) → (∀ q ∈ l, a ≤ q.1 ∧ q.1 < a + n) → l.length ≤ n
 | [], _, _, _, _ => Nat.zero_le _
 | q :: l, a, n, h, hq => by
  rw [List.pairwise_cons] at h
  have h0 := hq q List.mem_cons_self
  cases n with
  | zero => omega
  | succ n =>
   have := few_up (l := l) (a := a + 1) (n := n) h.2 fun x hx => by
    have h1 := h.1 x hx
    have h2 := hq x (List.mem_cons_of_mem _ hx)
    omega
   simp only [List.length_cons]; omega
theorem Cont.Ok.few {p : Int} {c : Cont} (h : c.Ok p) : match c with | .rows l => l.length ≤ 4 | .hands _ l => l.length ≤ 4 := by
 cases c with
 | rows l => exact few_up (a := 4 * p) h.2.1 fun q hq => by have := (h.2.2 q hq).2.1; omega
 | hands m l => exact few_up (a := 0) h.2.1 fun q hq => by have := h.2.2 q hq; omega
end W
namespace W
open PySem PySem.Spec PyProof.Rows L2 Cm
end W
end
section
namespace N
open PySem PySem.Spec PyProof.Rows L2 Cm W
structure Fr (S : Nat → Prop) (g g' : G) : Prop where
 n : g.n ≤ g'.n
 fz : g'.fz = g.fz
 o : ∀ l, l < g.n → ¬ S l → g'.o l = g.o l
theorem Fr.refl {S : Nat → Prop} {g : G} : Fr S g g := ⟨Nat.le_refl _, rfl, fun _ _ _ => rfl⟩
theorem Fr.trans {S S' : Nat → Prop} {g g1 g2 : G} (a : Fr S g g1) (b : Fr S' g1 g2) (h : ∀ l, S' l → S l ∨ g.n ≤ l) : Fr S g g2 :=
 ⟨Nat.le_trans a.n b.n, b.fz.trans a.fz, fun l hl hs => (b.o l (Nat.lt_of_lt_of_le hl a.n) fun z => (h l z).elim hs fun y => absurd hl (by omega)).trans (a.o l hl hs)⟩
theorem Fr.tr {S : Nat → Prop} {g g1 g2 : G} (a : Fr S g g1) (b : Fr S g1 g2) : Fr S g g2 := a.trans b fun _ h => .inl h
theorem Fr.mono {S S' : Nat → Prop} {g g1 : G} (a : Fr S g g1) (h : ∀ l, S l → S' l) : Fr S' g g1 := ⟨a.n, a.fz, fun l hl hs => a.o l hl fun z => hs (h l z)⟩
theorem Fr.set {S : Nat → Prop} {g : G} {l : Nat} {o : AO} (h : S l) : Fr S g (g.set l o) := ⟨Nat.le_refl _, rfl, fun k _ hk => set_ne g o fun z => hk (z ▸ h)⟩
@[simp] theorem add_new (g : G) (o : AO) : (g.add o).o g.n = some o := if_pos rfl
@[simp] theorem add_old (g : G) (o : AO) {k : Nat} (h : k ≠ g.n) : (g.add o).o k = g.o k := if_neg h
@[simp] theorem add_n (g : G) (o : AO) : (g.add o).n = g.n + 1 := rfl
@[simp] theorem add_fz (g : G) (o : AO) : (g.add o).fz = g.fz := rfl
theorem Fr.add {S : Nat → Prop} {g : G} {o : AO} : Fr S g (g.add o) := ⟨Nat.le_succ _, rfl, fun k hk _ => add_old g o (Nat.ne_of_lt hk)⟩
def pgm (f : Rows) (i : Nat) : Int → Option A := fun k => if k / 4 = (i : Int) then (f k).map eRow else none
structure TabAt (g : G) (t : Nat) (rl : List Nat) (T : TB) : Prop where
 ob : ∃ hk, g.o t = some (oTable (.own false (.lst (rl.map A.ref))) (.own false (.dic hk)) (.val (.int T.moment)) (.val (.int T.number))) ∧ Dm hk (fun i => (T.hands i).map eHand)
 len : rl.length = 8
 nd : (t :: rl).Nodup
 lt : ∀ l ∈ t :: rl, l < g.n
 pg : ∀ (i : Nat) l, rl[i]? = some l → ∃ kvs, g.o l = some (.con false (.dic kvs)) ∧ Dm kvs (pgm T.rows i)
 ok : T.Ok
theorem TabAt.keep {g g' : G} {t : Nat} {rl : List Nat} {T : TB} {S : Nat → Prop} (h : TabAt g t rl T) (f : Fr S g g') (hs : ∀ l ∈ t :: rl, ¬ S l) : TabAt g' t rl T where
 ob := by
  obtain ⟨hk, e, d⟩ := h.ob
  exact ⟨hk, by rw [f.o t (h.lt t List.mem_cons_self) (hs t List.mem_cons_self)]; exact e, d⟩
 len := h.len
 nd := h.nd
 lt l hl := Nat.lt_of_lt_of_le (h.lt l hl) f.n
 pg i l e := by
  obtain ⟨kvs, e1, d⟩ := h.pg i l e
  have hm := List.mem_cons_of_mem t (List.mem_of_getElem? e)
  exact ⟨kvs, by rw [f.o l (h.lt l hm) (hs l hm)]; exact e1, d⟩
 ok := h.ok
def eRowT (q : RowT) : A := .tup [.int q.1, .int q.2.1, .int q.2.2]
def eHandT (q : HandT) : A := .tup [.int q.1, .int q.2.1, .int q.2.2.1, .bl q.2.2.2]
def eCont : Cont → A
 | .rows l => .tup (l.map eRowT)
 | .hands m l => .tup [.int m, .tup (l.map eHandT)]
end N
end
section
namespace W
open PySem PySem.Spec PyProof.Rows L2 Cm
def shr (m : Int) : Option (Int × Int) → Option (Int × Int)
 | some (w, e) => if e = 0 ∨ e > m then some (w, e) else none
 | none => none
def Agr (m : Int) (f g : Rows) : Prop := ∀ k, shr m (f k) = shr m (g k)
theorem Agr.refl {m : Int} {f : Rows} : Agr m f f := fun _ => rfl
theorem psh_shr {m : Int} {r : Option (Int × Int)} : psh m (r.map toP) = (shr m r).map (·.1) := by
 cases r with
 | none => rfl
 | some r =>
  obtain ⟨w, e⟩ := r
  show (if e = 0 ∨ e > m then some w else none) = Option.map _ (if e = 0 ∨ e > m then some (w, e) else none)
  split <;> rfl
theorem Agr.psh {m : Int} {f g : Rows} (h : Agr m f g) (k : Int) : psh m ((f k).map toP) = psh m ((g k).map toP) := by
 rw [psh_shr, psh_shr, h k]
theorem Agr.trans {m : Int} {f g h : Rows} (a : Agr m f g) (b : Agr m g h) : Agr m f h := fun k => (a k).trans (b k)
theorem Agr.symm {m : Int} {f g : Rows} (a : Agr m f g) : Agr m g f := fun k => (a k).symm
def ofP : PRow → Option (Int × Int)
 | (some w, e) => some (w, e)
 | (none, _) => none
def appO (f : Rows) (ov : Ov) : Rows := fun k => match ov k with
 | some r => ofP r
 | none => f k
def ovOk (ov : Ov) : Prop := ∀ k r, ov k = some r → (0 ≤ k ∧ k < 32) ∧ prOk r
def appE (f : Rows) (es : List Eff) : Rows := es.foldl put1 f
def TB.chgs (T : TB) (e : Ent) : TB := (pagesOf e).foldl (fun T p => T.chg e p) T
end W
end
section
namespace N
open PySem PySem.Spec PyProof.Rows L2 Cm W
def Tin (t : Nat) (rl : List Nat) (l : Nat) : Prop := l ∈ t :: rl
end N
end
section
namespace N
open PySem PySem.Spec PyProof.Rows L2 Cm W
@[simp] theorem fIn_dic (k : Int) (kvs : List (Key × A)) : fIn (.int k) (.dic kvs) = some (.bl (getK kvs (.inl k)).isSome) := rfl
@[simp] theorem fNotIn_dic (k : Int) (kvs : List (Key × A)) : fNotIn (.int k) (.dic kvs) = some (.bl (!(getK kvs (.inl k)).isSome)) := rfl
structure Cp where
 number : Int
 moment : Int
 left : List Int
 view : Int → Cont
structure Cp.Ok (C : Cp) : Prop where
 nd : C.left.Pairwise (· < ·)
 pg : ∀ p ∈ C.left, 0 ≤ p ∧ p ≤ 8
 vw : ∀ p ∈ C.left, (C.view p).Ok p
abbrev Ct := Int → Int → Cont
def keptF (ct : Ct) (C : Cp) (p : Int) : Option A := if p ∈ C.left ∧ ct p C.moment ≠ C.view p then some (eCont (C.view p)) else none
structure CopyAt (g : G) (ct : Ct) (l : Nat × Nat) (C : Cp) : Prop where
 ob : g.o l.1 = some (oCopy (.val (.int C.number)) (.val (.int C.moment)) (.own false (.lst (C.left.map A.int))) (.val (.ref l.2)))
 kp : ∃ kk, g.o l.2 = some (.con false (.dic kk)) ∧ Dm kk (keptF ct C)
 ok : C.Ok
structure Dk where
 many : Int
 ones : List (Int × Cp)
def Dk.open_ (K : Dk) (ls : List (Nat × Nat)) : List (Key × A) := (K.ones.zip ls).map fun q => (.inl q.1.1, .ref q.2.1)
def Dk.ok (K : Dk) : Prop := (K.ones.map (·.1)).Pairwise (· < ·) ∧ (∀ q ∈ K.ones, 0 ≤ q.1 ∧ q.1 < K.many) ∧ K.ones.length ≤ 90000
def lbs (ls : List (Nat × Nat)) : List Nat := ls.flatMap fun l => [l.1, l.2]
structure DeskAt (g : G) (c t : Nat) (ct : Ct) (K : Dk) (ls : List (Nat × Nat)) : Prop where
 ob : g.o c = some (oCopies (.val (.ref t)) (.own false (.dic (K.open_ ls))) (.val (.int K.many)))
 len : ls.length = K.ones.length
 cp : ∀ (i : Nat) (q : Int × Cp) (l : Nat × Nat), K.ones[i]? = some q → ls[i]? = some l → CopyAt g ct l q.2
 nd : (c :: lbs ls).Nodup
 lt : ∀ l ∈ c :: lbs ls, l < g.n
 ok : K.ok
theorem mem_lbs {ls : List (Nat × Nat)} {l : Nat × Nat} (h : l ∈ ls) : l.1 ∈ lbs ls ∧ l.2 ∈ lbs ls := ⟨List.mem_flatMap.mpr ⟨l, h, by simp⟩, List.mem_flatMap.mpr ⟨l, h, by simp⟩⟩
theorem CopyAt.keep {g g' : G} {ct : Ct} {l : Nat × Nat} {C : Cp} (h : CopyAt g ct l C) (h1 : g'.o l.1 = g.o l.1) (h2 : g'.o l.2 = g.o l.2) : CopyAt g' ct l C := by
 obtain ⟨kk, e, d⟩ := h.kp
 exact ⟨h1.trans h.ob, ⟨kk, h2.trans e, d⟩, h.ok⟩
theorem DeskAt.keep {g g' : G} {c t : Nat} {ct : Ct} {K : Dk} {ls : List (Nat × Nat)} {S : Nat → Prop} (h : DeskAt g c t ct K ls) (f : Fr S g g') (hs : ∀ l ∈ c :: lbs ls, ¬ S l) : DeskAt g' c t ct K ls where
 ob := by rw [f.o c (h.lt c List.mem_cons_self) (hs c List.mem_cons_self)]; exact h.ob
 len := h.len
 cp i q l e1 e2 := by
  have hm := mem_lbs (List.mem_of_getElem? e2)
  refine (h.cp i q l e1 e2).keep ?_ ?_
  ·exact f.o _ (h.lt _ (List.mem_cons_of_mem _ hm.1)) (hs _ (List.mem_cons_of_mem _ hm.1))
  ·exact f.o _ (h.lt _ (List.mem_cons_of_mem _ hm.2)) (hs _ (List.mem_cons_of_mem _ hm.2))
 nd := h.nd
 lt l hl := Nat.lt_of_lt_of_le (h.lt l hl) f.n
 ok := h.ok
structure DS where
 blocks : List A
 pending : List (Int × A)
 left : Option Int
 picks : List Bool
 fallen : Bool
def ePd (q : Int × A) : A := .tup [.int q.1, q.2]
def eD (D : DS) : AO := oDisk (.own false (.lst D.blocks)) (.own false (.lst (D.pending.map ePd))) (.val (eO D.left)) (.val (.lst (D.picks.map A.bl))) (.val (.bl D.fallen))
@[simp] theorem okM_eD_need_block (D : DS) : okM "Disk" "need_block" (some (eD D)) = true := rfl
@[simp] theorem okM_eD_count (D : DS) : okM "Disk" "count" (some (eD D)) = true := rfl
@[simp] theorem okM_eD_write (D : DS) : okM "Disk" "write" (some (eD D)) = true := rfl
@[simp] theorem okM_eD_settle (D : DS) : okM "Disk" "settle" (some (eD D)) = true := rfl
@[simp] theorem okM_eD_read (D : DS) : okM "Disk" "read" (some (eD D)) = true := rfl
@[simp] theorem okM_eD_arm (D : DS) : okM "Disk" "arm" (some (eD D)) = true := rfl
@[simp] theorem okM_eD_stop (D : DS) : okM "Disk" "stop" (some (eD D)) = true := rfl
@[simp] theorem okM_eD_again (D : DS) : okM "Disk" "again" (some (eD D)) = true := rfl
@[simp] theorem okM_eD_settled (D : DS) : okM "Disk" "settled" (some (eD D)) = true := rfl
structure DS.Ok (D : DS) : Prop where
 bl : D.blocks.length = 35
 pd : ∀ q ∈ D.pending, 0 ≤ q.1 ∧ q.1 < 35
 ln : D.pending.length ≤ 90000
def putB (bl : List A) (q : Int × A) : List A := bl.set q.1.toNat q.2
def DS.setl (D : DS) : DS := { D with blocks := D.pending.foldl putB D.blocks, pending := [] }
def stopB (bl : List A) (q : (Int × A) × Bool) : List A := if q.2 then putB bl q.1 else bl
def DS.stopped (D : DS) (ps : List Bool) : DS := { D with blocks := (D.pending.zip ps).foldl stopB D.blocks, pending := [], fallen := true }
def DS.cnt (D : DS) : Option DS := if D.fallen = true ∨ D.left = some 0 then none else some { D with left := D.left.map (· - 1) }
def DS.halt (D : DS) : DS := if D.fallen then D else D.stopped D.picks
def DS.wr (D : DS) (b : Int) (w : A) : DS := { D with pending := D.pending ++ [(b, w)] }
def DS.rd (D : DS) (b : Int) : A := match (D.pending.filter fun q => decide (q.1 = b)).getLast? with
 | some q => q.2
 | none => (D.blocks[b.toNat]?).getD .non
@[simp] theorem fNe_nil (xs : List A) : fNe (.lst xs) (.lst []) = some (.bl (!xs.isEmpty)) := by
 cases xs <;> simp [fNe, eqB, scA, toV]
@[simp] theorem fEq_nil (xs : List A) : fEq (.lst xs) (.lst []) = some (.bl xs.isEmpty) := by
 cases xs <;> simp [fEq, eqB, scA, toV]
def flatA : A → Bool
 | .non => true
 | .bl _ => true
 | .int _ => true
 | .str _ => true
 | _ => false
def wtF : Nat → A → Option Int
 | 0, a => if flatA a then some 1 else none
 | n + 1, a => match a with
  | .tup xs => if xs.length ≤ 1000 then (seqO (wtF n) xs).map List.sum else none
  | a => if flatA a then some 1 else none
theorem ixN_ok {n : Nat} {b : Int} (h0 : 0 ≤ b) (h1 : b < n) : ixN n b = some b.toNat := by
 unfold ixN
 rw [if_pos h0, if_pos h1]
@[simp] theorem fEq_non_int (i : Int) : fEq .non (.int i) = some (.bl false) := by simp [fEq, eqB, scA, toV, scal]
end N
end
section
namespace W
open PySem PySem.Spec PyProof.Rows L2 Cm
mutual
theorem depth_le : ∀ {n : Nat} {d : PyData}, Dn n d → d.depth ≤ n
 | n, .none, _ => by simp [PyData.depth]
 | n, .bool _, _ => by simp [PyData.depth]
 | n, .int _, _ => by simp [PyData.depth]
 | n, .str _, _ => by simp [PyData.depth]
 | 0, .tuple _, h => by cases h
 | n + 1, .tuple ds, h => by
  have := depths_le (n := n) (ds := ds) h.2
  simp only [PyData.depth]; omega
 | 0, .list _, h => by cases h
 | n + 1, .list ds, h => by
  have := depths_le (n := n) (ds := ds) h.2
  simp only [PyData.depth]; omega
 | 0, .dict _, h => by cases h
 | n + 1, .dict _, h => by cases h
theorem depths_le : ∀ {n : Nat} {ds : List PyData}, (∀ d ∈ ds, Dn n d) → PyData.depthAll ds ≤ n
 | n, [], _ => by simp [PyData.depthAll]
 | n, d :: ds, h => by
  have h1 := depth_le (n := n) (d := d) (h d List.mem_cons_self)
  have h2 := depths_le (n := n) (ds := ds) fun d h' => h d (List.mem_cons_of_mem _ h')
  simp only [PyData.depthAll]; omega
end
theorem canL {ds : List PyData} (h : ∀ d ∈ ds, d.canLay0 = true) : PyData.canLayAll0 ds = true := by
 induction ds with
 | nil => rfl
 | cons d ds ih => simp [PyData.canLayAll0, h d List.mem_cons_self, ih fun d h' => h d (List.mem_cons_of_mem _ h')]
theorem shaped_of {n : Nat} {d : PyData} (h : Dn n d) (hn : n ≤ 64) (hc : d.canLay0 = true) : SeqAt.shaped d = true := by
 unfold SeqAt.shaped
 rw [hc, decide_eq_true (Nat.le_trans (depth_le h) hn)]; rfl
end W
end
section
namespace N
open PySem PySem.Spec PyProof.Rows L2 Cm W
theorem Dk.get {K : Dk} {ls : List (Nat × Nat)} (hk : K.ok) (hl : ls.length = K.ones.length) {i : Nat} {q : Int × Cp} {l : Nat × Nat} (e1 : K.ones[i]? = some q) (e2 : ls[i]? = some l) : getK (K.open_ ls) (.inl q.1) = some (.ref l.1) := by
 have hz : (K.ones.zip ls)[i]? = some (q, l) := by
  rw [List.getElem?_zip_eq_some]
  exact ⟨e1, e2⟩
 have key : ∀ {zs : List ((Int × Cp) × (Nat × Nat))}, (zs.map (·.1.1)).Pairwise (· < ·) → ∀ {i : Nat}, zs[i]? = some (q, l) → getK (zs.map fun q => ((.inl q.1.1 : Key), A.ref q.2.1)) (.inl q.1) = some (.ref l.1) := by
  intro zs
  induction zs with
  | nil => intro _ i h; simp at h
  | cons z zs ih =>
   intro hp i h
   rw [List.map_cons, List.pairwise_cons] at hp
   unfold getK
   rw [List.map_cons, List.find?_cons]
   cases i with
   | zero =>
    have : z = (q, l) := by simpa using h
    subst this
    simp
   | succ i =>
    have h : zs[i]? = some (q, l) := by simpa using h
    have hm : q.1 ∈ zs.map (·.1.1) := List.mem_map.mpr ⟨(q, l), List.mem_of_getElem? h, rfl⟩
    have := hp.1 _ hm
    rw [decide_eq_false (fun z => by have := Sum.inl.inj z; omega)]
    exact ih hp.2 h
 refine key ?_ hz
 have : (K.ones.zip ls).map (·.1.1) = (K.ones.map (·.1)) := by
  have : (K.ones.zip ls).map (·.1.1) = ((K.ones.zip ls).map (·.1)).map (·.1) := by rw [List.map_map]; rfl
  rw [this, List.map_fst_zip (by omega)]
 rw [this]
 exact hk.1
def befs (K : Dk) (p : Int) : List (Key × A) := (K.ones.filter fun q => decide (p ∈ q.2.left)).map fun q => (.inl q.1, eCont (q.2.view p))
@[simp] theorem wz_o (g : G) (b : Bool) : (g.wz b).o = g.o := rfl
@[simp] theorem wz_n (g : G) (b : Bool) : (g.wz b).n = g.n := rfl
@[simp] theorem wz_fz (g : G) (b : Bool) : (g.wz b).fz = b := rfl
def Kin (ls : List (Nat × Nat)) (l : Nat) : Prop := ∃ q ∈ ls, l = q.2
def ds0 : DS := ⟨List.replicate 35 .non, [], none, [], false⟩
structure HS where
 D : DS
 T : TB
 desks : List Dk
 epoch : Int
 floor : Int
 barrier : Int
 slots : List Int
 stamps : List Int
 lives : List Int
 tailr : List Ent
structure Lc where
 h : Nat
 d : Nat
 t : Nat
 rl : List Nat
 cs : List (Nat × List (Nat × Nat))
def Lc.desk (L : Lc) : List Nat := L.cs.flatMap fun x => x.1 :: lbs x.2
def Lc.all (L : Lc) : List Nat := L.h :: L.d :: ((L.t :: L.rl) ++ L.desk)
def Hin (L : Lc) (l : Nat) : Prop := l ∈ L.all
def Lc.c0 (L : Lc) : Nat := (L.cs.map (·.1)).headD 0
def Lc.refs (L : Lc) : List A := L.cs.map fun x => .ref x.1
def eInts (l : List Int) : Fv := .own false (.lst (l.map A.int))
def oHS (c : Str) (L : Lc) (S : HS) (dk : Bool) (r : List (Str × Fv)) : AO := oH c (.val (.ref L.d)) (.val (.ref L.t)) (.val (.ref L.c0)) (.own dk (.lst L.refs)) (.val (.int S.epoch)) (.val (.int S.floor)) (.val (.int S.barrier)) (eInts S.slots) (eInts S.stamps) (eInts S.lives) (.val (.lst (S.tailr.map eEnt))) r
structure HouseC (g : G) (c : Str) (L : Lc) (S : HS) (r : List (Str × Fv)) (ct : Ct) : Prop where
 ob : g.o L.h = some (oHS c L S false r)
 dk : g.o L.d = some (eD S.D)
 dok : S.D.Ok
 tb : TabAt g L.t L.rl S.T
 len : L.cs.length = S.desks.length
 ds : ∀ (i : Nat) (x : Nat × List (Nat × Nat)) (K : Dk), L.cs[i]? = some x → S.desks[i]? = some K → DeskAt g x.1 L.t ct K x.2
 nd : L.all.Nodup
 lt : ∀ l ∈ L.all, l < g.n
 rok : restOk r = true
 rln : r.length ≤ 20
 fz : g.fz = false
 l9 : S.slots.length = 9 ∧ S.stamps.length = 9 ∧ S.lives.length = 9
 few : S.desks.length ≤ 9
abbrev HouseAt (g : G) (c : Str) (L : Lc) (S : HS) (r : List (Str × Fv)) : Prop := HouseC g c L S r S.T.content
section
variable {g g' : G} {c : Str} {L : Lc} {S : HS} {r : List (Str × Fv)} {ct : Ct}
theorem Lc.mem_h : L.h ∈ L.all := List.mem_cons_self
theorem Lc.mem_d : L.d ∈ L.all := List.mem_cons_of_mem _ List.mem_cons_self
theorem Lc.mem_t {l : Nat} (h : l ∈ L.t :: L.rl) : l ∈ L.all := List.mem_cons_of_mem _ (List.mem_cons_of_mem _ (List.mem_append_left _ h))
theorem Lc.mem_c {l : Nat} {x : Nat × List (Nat × Nat)} (hx : x ∈ L.cs) (h : l ∈ x.1 :: lbs x.2) : l ∈ L.desk := List.mem_flatMap.mpr ⟨x, hx, h⟩
theorem Lc.mem_k {l : Nat} (h : l ∈ L.desk) : l ∈ L.all := List.mem_cons_of_mem _ (List.mem_cons_of_mem _ (List.mem_append_right _ h))
structure Lc.Nd (L : Lc) : Prop where
 hd : L.h ≠ L.d
 ht : ∀ l ∈ L.t :: L.rl, l ≠ L.h ∧ l ≠ L.d
 hk : ∀ l ∈ L.desk, l ≠ L.h ∧ l ≠ L.d
 tk : ∀ l ∈ L.t :: L.rl, l ∉ L.desk
 dn : L.desk.Nodup
theorem Lc.nd_of (h : L.all.Nodup) : L.Nd := by
 unfold Lc.all at h
 rw [List.nodup_cons, List.nodup_cons, List.nodup_append] at h
 obtain ⟨h1, h2, h3, h4, h5⟩ := h
 exact ⟨fun z => h1 (by rw [z]; exact List.mem_cons_self), fun l hl => ⟨fun z => h1 (List.mem_cons_of_mem _ (List.mem_append_left _ (z ▸ hl))), fun z => h2 (List.mem_append_left _ (z ▸ hl))⟩, fun l hl => ⟨fun z => h1 (List.mem_cons_of_mem _ (List.mem_append_right _ (z ▸ hl))), fun z => h2 (List.mem_append_right _ (z ▸ hl))⟩, fun l hl hk => h5 l hl l hk rfl, h4⟩
theorem HouseC.keep {S0 : Nat → Prop} (h : HouseC g c L S r ct) (f : Fr S0 g g') (hs : ∀ l ∈ L.all, ¬ S0 l) : HouseC g' c L S r ct where
 ob := by rw [f.o _ (h.lt _ Lc.mem_h) (hs _ Lc.mem_h)]; exact h.ob
 dk := by rw [f.o _ (h.lt _ Lc.mem_d) (hs _ Lc.mem_d)]; exact h.dk
 dok := h.dok
 tb := h.tb.keep f fun l hl => hs l (Lc.mem_t hl)
 len := h.len
 ds i x K e1 e2 := (h.ds i x K e1 e2).keep f fun l hl => hs l (Lc.mem_k (Lc.mem_c (List.mem_of_getElem? e1) hl))
 nd := h.nd
 lt l hl := Nat.lt_of_lt_of_le (h.lt l hl) f.n
 rok := h.rok
 rln := h.rln
 fz := f.fz.trans h.fz
 l9 := h.l9
 few := h.few
theorem HouseC.setD (h : HouseC g c L S r ct) {D : DS} (ok : D.Ok) : HouseC (g.set L.d (eD D)) c L { S with D := D } r ct := by
 have n := Lc.nd_of h.nd
 have f : Fr (fun l => l = L.d) g (g.set L.d (eD D)) := Fr.set rfl
 exact ⟨by rw [set_ne _ _ n.hd]; exact h.ob, set_same _ _ _, ok, h.tb.keep f fun l hl => (n.ht l hl).2, h.len, fun i x K e1 e2 => (h.ds i x K e1 e2).keep f fun l hl => (n.hk l (Lc.mem_c (List.mem_of_getElem? e1) hl)).2, h.nd, h.lt, h.rok, h.rln, h.fz, h.l9, h.few⟩
end
section
variable {g g' : G} {c : Str} {L : Lc} {S : HS} {r : List (Str × Fv)} {ct : Ct} {Q : Fv → G → Prop} {E : Ex → G → Prop}
def hbefs (S : HS) (p : Int) : List A := S.desks.map fun K => .dic (befs K p)
end
inductive Dd where
 | w (b : Int) (a : A) | s
def DS.do1 (D : DS) : Dd → DS
 | .w b a => D.wr b a
 | .s => D.setl
def DS.go (D : DS) : List Dd → Bool × DS
 | [] => (true, D)
 | x :: xs => match D.cnt with
  | none => (false, D.halt)
  | some D' => (D'.do1 x).go xs
def _root_.W.Ent.num : Ent → Int
 | .tick n _ => n
 | .deal n _ _ _ _ => n
def _root_.W.TB.take (T : TB) (e : Ent) : TB := { T.chgs e with number := e.num }
section
variable {g g' : G} {c : Str} {L : Lc} {S : HS} {r : List (Str × Fv)} {ct : Ct} {Q : Fv → G → Prop} {E : Ex → G → Prop}
end
def _root_.W.Ent.Sm : Ent → Prop
 | .tick _ _ => True
 | .deal _ _ _ _ es => es.length ≤ 4
theorem wt_flat {n : Nat} {a : A} (h : flatA a = true) : wtF n a = some 1 := by
 cases n with
 | zero => show (if flatA a then some (1 : Int) else none) = _; rw [if_pos h]
 | succ n => cases a <;> first | (simp [wtF, flatA]; done) | cases h
theorem flat_eO (o : Option Int) : flatA (eO o) = true := by cases o <;> rfl
@[simp] theorem wt_int (n : Nat) (i : Int) : wtF n (.int i) = some 1 := wt_flat rfl
@[simp] theorem wt_str (n : Nat) (i : Str) : wtF n (.str i) = some 1 := wt_flat rfl
@[simp] theorem wt_bl (n : Nat) (i : Bool) : wtF n (.bl i) = some 1 := wt_flat rfl
@[simp] theorem wt_non (n : Nat) : wtF n .non = some 1 := wt_flat rfl
@[simp] theorem wt_eO (n : Nat) (o : Option Int) : wtF n (eO o) = some 1 := wt_flat (flat_eO o)
def entA (ep : Int) (e : Ent) : A := .tup [.str "entry", .int ep, eEnt e]
def pagA (n : Int) (c : Cont) (ep : Int) : A := .tup [.str "page", .int n, eCont c, .int ep]
section
variable {g g' : G} {c : Str} {L : Lc} {S : HS} {r : List (Str × Fv)} {ct : Ct} {Q : Fv → G → Prop} {E : Ex → G → Prop}
def HS.entD (S : HS) (e : Ent) : Dd := .w (1 + e.num % 16) (entA S.epoch e)
end
def HS.prn (S : HS) (p : Int) : HS := if p = 8 then S else { S with T := S.T.prune p }
def HS.slot (S : HS) (p : Int) : Int := (S.slots[p.toNat]?).getD 0
def HS.wod (S : HS) (p : Int) : List Dd := [.w (17 + 2 * p + (1 - S.slot p)) (pagA S.T.number ((S.prn p).T.content p S.T.moment) S.epoch), .s]
def HS.wo (S : HS) (p : Int) : HS := { S.prn p with slots := S.slots.set p.toNat (1 - S.slot p), stamps := S.stamps.set p.toNat S.T.number }
section
variable {g g' : G} {c : Str} {L : Lc} {S : HS} {r : List (Str × Fv)} {ct : Ct} {Q : Fv → G → Prop} {E : Ex → G → Prop}
end
def mu (n : Int) (l : List Int) : Nat := (l.filter fun x => decide (x ≠ n)).length
inductive WO : HS → HS → Prop
 | refl (S : HS) : WO S S
 | step {S S' : HS} (p : Int) (D' : DS) (h0 : 0 ≤ p) (h8 : p ≤ 8) (hg : S.D.go (S.wod p) = (true, D')) (hm : mu (S.wo p).T.number (S.wo p).stamps < mu S.T.number S.stamps) (hr : WO { S.wo p with D := D' } S') : WO S S'
def HS.S01 (S : HS) : Prop := ∀ x ∈ S.slots, x = 0 ∨ x = 1
section
variable {g g' : G} {c : Str} {L : Lc} {S : HS} {r : List (Str × Fv)} {ct : Ct} {Q : Fv → G → Prop} {E : Ex → G → Prop}
end
def shF (T : TB) (m k : Int) : Option RowT := (T.rows k).bind fun r => if (psh m (some (toP r))).isSome then some (k, r) else none
def _root_.W.TB.allRows (T : TB) : List RowT := (rng 32).filterMap (shF T T.moment)
section
variable {g g' : G} {c : Str} {L : Lc} {S : HS} {r : List (Str × Fv)} {ct : Ct} {Q : Fv → G → Prop} {E : Ex → G → Prop}
end
def sK (r h : Nat) (m n : Int) : List (Key × A) := [(.inr "rows", .ref r), (.inr "hands", .ref h), (.inr "moment", .int m), (.inr "number", .int n)]
@[simp] theorem sK_rows (r h : Nat) (m n : Int) : getK (sK r h m n) (.inr "rows") = some (.ref r) := nrfl rfl
@[simp] theorem sK_moment (r h : Nat) (m n : Int) : getK (sK r h m n) (.inr "moment") = some (.int m) := nrfl rfl
structure StoreAt (g : G) (s r h : Nat) (T : TB) : Prop where
 ob : g.o s = some (.con false (.dic (sK r h T.moment T.number)))
 rw : ∃ kvs, g.o r = some (.con false (.dic kvs)) ∧ Dm kvs (fun k => (T.rows k).map eRow)
 hd : ∃ kvs, g.o h = some (.con false (.dic kvs)) ∧ Dm kvs (fun k => (T.hands k).map eHand)
 ne : s ≠ r ∧ s ≠ h ∧ r ≠ h
 lt : s < g.n ∧ r < g.n ∧ h < g.n
 ok : T.Ok
theorem StoreAt.keep {g g' : G} {s r h : Nat} {T : TB} {S : Nat → Prop} (a : StoreAt g s r h T) (f : Fr S g g') (hs : ¬ S s ∧ ¬ S r ∧ ¬ S h) : StoreAt g' s r h T where
 ob := by rw [f.o s a.lt.1 hs.1]; exact a.ob
 rw := by
  obtain ⟨k, e, d⟩ := a.rw
  exact ⟨k, by rw [f.o r a.lt.2.1 hs.2.1]; exact e, d⟩
 hd := by
  obtain ⟨k, e, d⟩ := a.hd
  exact ⟨k, by rw [f.o h a.lt.2.2 hs.2.2]; exact e, d⟩
 ne := a.ne
 lt := ⟨Nat.lt_of_lt_of_le a.lt.1 f.n, Nat.lt_of_lt_of_le a.lt.2.1 f.n, Nat.lt_of_lt_of_le a.lt.2.2 f.n⟩
 ok := a.ok
section
variable {g g' : G} {s r h : Nat} {T : TB} {Q : Fv → G → Prop} {E : Ex → G → Prop}
theorem seen_eq (a : StoreAt g s r h T) (k : Int) : m_seen_ [.ref s, .int k] g = .ok (.val (eO (T.shown k))) g := by
 obtain ⟨kvs, e, d⟩ := a.rw
 have hg : getK kvs (.inl k) = (T.rows k).map eRow := d.gt k
 unfold m_seen_
 rw [ap_mFun]
 cases er : T.rows k with
 | none =>
  rw [er] at hg
  simp [startA, a.ob, e, hg, TB.shown, er, psh]
 | some v =>
  rw [er] at hg
  by_cases h1 : v.2 = 0
  ·simp [startA, a.ob, e, hg, TB.shown, er, psh, toP, eRow, h1]
  ·by_cases h2 : T.moment < v.2 <;> simp [startA, a.ob, e, hg, TB.shown, er, psh, toP, eRow, h1, h2]
theorem stA {g g' : G} {T : TB} {rk hk : List (Key × A)} (e1 : g'.o (g.n + 2) = some (.con false (.dic (sK g.n (g.n + 1) T.moment T.number)))) (e2 : g'.o g.n = some (.con false (.dic rk))) (e3 : g'.o (g.n + 1) = some (.con false (.dic hk))) (dr : Dm rk (fun k => (T.rows k).map eRow)) (dh : Dm hk (fun k => (T.hands k).map eHand)) (ok : T.Ok) (hn : g'.n = g.n + 3) : StoreAt g' (g.n + 2) g.n (g.n + 1) T :=
 ⟨e1, ⟨rk, e2, dr⟩, ⟨hk, e3, dh⟩, ⟨by omega, by omega, by omega⟩, ⟨by omega, by omega, by omega⟩, ok⟩
theorem store_sp (hQ : ∀ g', StoreAt g' (g.n + 2) g.n (g.n + 1) ts0 → Fr (fun _ => False) g g' → g'.n = g.n + 3 → Q (.val (.ref (g.n + 2))) g') : (m_store_ [] g).sat Q E := by
 unfold m_store_
 rw [ap_mFun]
 simp [startA]
 have e4 : mrgK [] [((.inr "rows" : Key), A.ref g.n), (.inr "hands", .ref (g.n + 1)), (.inr "moment", .int 0), (.inr "number", .int 0)] = sK g.n (g.n + 1) 0 0 := rfl
 rw [e4]
 refine hQ _ (stA (T := ts0) (add_new ((g.add _).add _) _) ?_ ?_ (dm_nil.ext fun _ => rfl) (dm_nil.ext fun _ => rfl) ts0_ok rfl) ⟨Nat.le_add_right _ 3, rfl, fun l hl _ => ?_⟩ rfl
 ·rw [add_old ((g.add _).add _) _ (show g.n ≠ g.n + 1 + 1 by omega), add_old (g.add _) _ (show g.n ≠ g.n + 1 by omega), add_new]
 ·rw [add_old ((g.add _).add _) _ (show g.n + 1 ≠ g.n + 1 + 1 by omega)]
  exact add_new (g.add _) _
 ·rw [add_old ((g.add _).add _) _ (show l ≠ g.n + 1 + 1 by omega), add_old (g.add _) _ (show l ≠ g.n + 1 by omega), add_old _ _ (by omega)]
def eWh (T : TB) : A := .tup [.int T.moment, .lst (T.allRows.map eRowT), .lst (T.handsL.map eHandT)]
end
abbrev FF : Nat → Prop := fun _ => False
def rwsOk (f : Rows) : Prop := ∀ k r, f k = some r → (0 ≤ k ∧ k < 32) ∧ rowOk r
section
variable {g g' : G} {s r h : Nat} {T : TB} {Q : Fv → G → Prop} {E : Ex → G → Prop}
end
section
variable {g g' : G} {b s r h : Nat} {T : TB} {Q : Fv → G → Prop} {E : Ex → G → Prop}
theorem take_box (hb : g.o b = some .box) {n : Int} (h0 : 0 < n) (h1 : n < 2 ^ 64) (hQ : ∀ v : Int, 0 ≤ v → v < n → Q (.val (.int v)) g) : (p_take [.ref b, .int n] g).sat Q E := by
 show (if (isBox (g.o b) && decide (0 < n ∧ n < 2 ^ 64)) = true then R.all { v : Int // 0 ≤ v ∧ v < n } fun v => .ok (.val (.int v.1)) g else .no : R Fv).sat Q E
 rw [if_pos (by rw [hb]; simp only [isBox, Bool.true_and, decide_eq_true_eq]; exact ⟨h0, h1⟩)]
 exact fun v => hQ v.1 v.2.1 v.2.2
theorem at_3 {a b c : A} {v : Int} (h0 : 0 ≤ v) (h3 : v < 3) : ∃ x, atI [a, b, c] v = some x ∧ (x = a ∨ x = b ∨ x = c) := by
 have : v = 0 ∨ v = 1 ∨ v = 2 := by omega
 rcases this with rfl | rfl | rfl
 ·exact ⟨a, by simp, .inl rfl⟩
 ·exact ⟨b, by simp, .inr (.inl rfl)⟩
 ·exact ⟨c, by simp, .inr (.inr rfl)⟩
theorem at_2 {a b : A} {v : Int} (h0 : 0 ≤ v) (h3 : v < 2) : ∃ x, atI [a, b] v = some x ∧ (x = a ∨ x = b) := by
 have : v = 0 ∨ v = 1 := by omega
 rcases this with rfl | rfl
 ·exact ⟨a, by simp, .inl rfl⟩
 ·exact ⟨b, by simp, .inr rfl⟩
theorem at_5 {a b c d e : A} {v : Int} (h0 : 0 ≤ v) (h3 : v < 5) : ∃ x, atI [a, b, c, d, e] v = some x ∧ (x = a ∨ x = b ∨ x = c ∨ x = d ∨ x = e) := by
 have : v = 0 ∨ v = 1 ∨ v = 2 ∨ v = 3 ∨ v = 4 := by omega
 rcases this with rfl | rfl | rfl | rfl | rfl
 ·exact ⟨a, by simp, .inl rfl⟩
 ·exact ⟨b, by simp, .inr (.inl rfl)⟩
 ·exact ⟨c, by simp, .inr (.inr (.inl rfl))⟩
 ·exact ⟨d, by simp, .inr (.inr (.inr (.inl rfl)))⟩
 ·exact ⟨e, by simp, .inr (.inr (.inr (.inr rfl)))⟩
theorem deed_sp (hb : g.o b = some .box) (a : StoreAt g s r h T) (hQ : ∀ d : Deed, d.Ok → Q (.val (eDeed d)) g) : (m_deed_ [.ref b, .ref s] g).sat Q E := by
 unfold m_deed_
 rw [ap_mFun]
 simp [startA]
 (try simp only [sat_bind])
 refine take_box hb (by decide) (by decide) (fun v v0 v1 => ?_)
 obtain ⟨x, hx, hx2⟩ := at_3 (a := .int 2) (b := .int 6) (c := .int 32) v0 v1
 obtain ⟨m, rfl, hm⟩ : ∃ m : Int, x = .int m ∧ (0 < m ∧ m ≤ 32) := by rcases hx2 with rfl | rfl | rfl <;> exact ⟨_, rfl, by decide⟩
 simp [hx]
 (try simp only [sat_bind])
 refine take_box hb hm.1 (by omega) (fun k k0 k1 => ?_)
 have hkb : 0 ≤ k ∧ k < 32 := by omega
 have hsh : T.shown k = none ∨ ∃ w, T.shown k = some w ∧ 0 ≤ w ∧ w ≤ 999 := by
  unfold TB.shown
  cases e : T.rows k with
  | none => exact .inl rfl
  | some q =>
   have := (a.ok.rw k q e).2
   show psh T.moment (some (some q.1, q.2)) = none ∨ _
   rw [psh_some]
   split
   ·exact .inr ⟨q.1, by rw [Option.map_some]; show psh T.moment (some (some q.1, q.2)) = _; rw [psh_some, if_pos (by assumption)], this⟩
   ·exact .inl rfl
 simp [seen_eq a]
 (try simp only [sat_bind])
 refine take_box hb (by decide) (by decide) (fun w w0 w1 => ?_)
 by_cases h5 : w < 5
 ·simp [h5]
  (try simp only [sat_bind])
  refine take_box hb (by decide) (by decide) (fun l1 a0 a1 => ?_)
  simp
  (try simp only [sat_bind])
  refine take_box hb (by decide) (by decide) (fun l2 b0 b1 => ?_)
  simp
  (try simp only [sat_bind])
  refine take_box hb (by decide) (by decide) (fun l3 c0 c1 => ?_)
  obtain ⟨x, hx, hx2⟩ := at_3 (a := .int 0) (b := .int (1 + l1)) (c := .int (1 + l2)) c0 c1
  obtain ⟨lf, rfl, hlf⟩ : ∃ m : Int, x = .int m ∧ (0 ≤ m ∧ m ≤ 1000) := by rcases hx2 with rfl | rfl | rfl <;> exact ⟨_, rfl, by omega⟩
  simp [hx]
  (try simp only [sat_bind])
  refine take_box hb (by decide) (by decide) (fun w1 d0 d1 => ?_)
  simp
  (try simp only [sat_bind])
  refine take_box hb (by decide) (by decide) (fun w2 e0 e1 => ?_)
  obtain ⟨x, hx, hx2⟩ := at_3 (a := .int w1) (b := .int 999) (c := .int 0) e0 e1
  obtain ⟨wo, rfl, hwo⟩ : ∃ m : Int, x = .int m ∧ (0 ≤ m ∧ m ≤ 999) := by rcases hx2 with rfl | rfl | rfl <;> exact ⟨_, rfl, by omega⟩
  simp [hx]
  exact hQ (.put k wo lf) ⟨hkb, hwo, hlf⟩
 ·by_cases h6 : w = 5
  ·simp [h6]
   exact hQ (.drop k) hkb
  ·by_cases h8 : w < 8
   ·simp [h5, h6, h8]
    (try simp only [sat_bind])
    refine take_box hb (by decide) (by decide) (fun l1 a0 a1 => ?_)
    simp
    (try simp only [sat_bind])
    refine take_box hb (by decide) (by decide) (fun l2 b0 b1 => ?_)
    simp
    (try simp only [sat_bind])
    refine take_box hb (by decide) (by decide) (fun l3 c0 c1 => ?_)
    obtain ⟨x, hx, hx2⟩ := at_2 (a := .int (l1 - 4)) (b := .int (l2 - 999)) c0 c1
    obtain ⟨mo, rfl, hmo⟩ : ∃ m : Int, x = .int m ∧ (-999 ≤ m ∧ m ≤ 999) := by rcases hx2 with rfl | rfl <;> exact ⟨_, rfl, by omega⟩
    simp [hx]
    exact hQ (.add k mo) ⟨hkb, hmo⟩
   ·simp [h5, h6, h8]
    (try simp only [sat_bind])
    refine take_box hb (by decide) (by decide) (fun l1 a0 a1 => ?_)
    simp
    (try simp only [sat_bind])
    refine take_box hb (by decide) (by decide) (fun l2 b0 b1 => ?_)
    obtain ⟨x, hx, hx2⟩ := at_5 (a := eO (T.shown k)) (b := eO (T.shown k)) (c := eO (T.shown k)) (d := .non) (e := .int l1) b0 b1
    obtain ⟨wo, rfl, hwo⟩ : ∃ m : Option Int, x = eO m ∧ (∀ i, m = some i → 0 ≤ i ∧ i ≤ 999) := by
     have hs : ∀ i, T.shown k = some i → 0 ≤ i ∧ i ≤ 999 := fun i hi => by
      rcases hsh with z | ⟨w, z, z2⟩
      ·rw [z] at hi; cases hi
      ·rw [z] at hi; cases hi; exact z2
     rcases hx2 with rfl | rfl | rfl | rfl | rfl
     ·exact ⟨_, rfl, hs⟩
     ·exact ⟨_, rfl, hs⟩
     ·exact ⟨_, rfl, hs⟩
     ·exact ⟨none, rfl, nofun⟩
     ·exact ⟨some l1, rfl, fun i hi => by cases hi; omega⟩
    simp [hx]
    exact hQ (.iff k wo) ⟨hkb, hwo⟩
theorem drawn_sp (hb : g.o b = some .box) (a : StoreAt g s r h T) (hQ : ∀ ds : List Deed, (∀ d ∈ ds, d.Ok) → 1 ≤ ds.length → ds.length ≤ 4 → Q (.val (eDeal ds)) g) : (m_drawn_ [.ref b, .ref s] g).sat Q E := by
 unfold m_drawn_
 rw [ap_mFun]
 simp [startA]
 (try simp only [sat_bind])
 refine take_box hb (by decide) (by decide) (fun v v0 v1 => ?_)
 obtain ⟨x, hx, hx2⟩ := at_3 (a := .int 1) (b := .int 2) (c := .int 4) v0 v1
 obtain ⟨m, rfl, hm⟩ : ∃ m : Int, x = .int m ∧ (0 < m ∧ m ≤ 4) := by rcases hx2 with rfl | rfl | rfl <;> exact ⟨_, rfl, by decide⟩
 simp [hx]
 (try simp only [sat_bind])
 refine take_box hb hm.1 (by omega) (fun k k0 k1 => ?_)
 have hk1 : -4611686018427387904 ≤ 1 + k ∧ 1 + k < 4611686018427387904 := by omega
 simp [hk1, vsOk, noOwn, wipeA, rngA_eq]
 (try simp only [sat_bind])
 have hn : (1 + k).toNat ≤ 4 ∧ 1 ≤ (1 + k).toNat := by omega
 refine sat_lc (fun i acc g1 => g1 = g ∧ ∃ ds : List Deed, acc = ds.map eDeed ∧ ds.length = i ∧ ∀ d ∈ ds, d.Ok) (n := 0) ⟨rfl, [], rfl, rfl, nofun⟩ (by simp [rng_len]; omega) (fun i x acc g1 hx hP Q' hq' => ?_) (fun acc g1 hP => ?_)
 ·obtain ⟨rfl, ds, rfl, hl, hd⟩ := hP
  simp
  (try simp only [sat_bind])
  rw [List.getElem?_map] at hx
  obtain ⟨z, hz, rfl⟩ := Option.map_eq_some_iff.mp hx
  simp
  (try simp only [sat_bind])
  refine deed_sp hb a (fun d hdo => ?_)
  simp
  refine hq' _ _ ⟨rfl, ds ++ [d], by simp, by simp [hl], fun e he => ?_⟩
  rcases List.mem_append.mp he with he | he
  ·exact hd e he
  ·rw [List.mem_singleton.mp he]; exact hdo
 ·obtain ⟨rfl, ds, rfl, hl, hd⟩ := hP
  have hl2 : ds.length = (1 + k).toNat := by rw [hl]; simp [rng_len]
  simp
  exact hQ ds hd (by omega) (by omega)
end
end N
end
section
namespace N
open PySem PySem.Spec PyProof.Rows L2 Cm W TL
section
variable (σ : Sl) (g : G)
@[simp] theorem ap_iSt (q : QE) : iSt q σ g = ofO ((q σ g).bind strT) g := nrfl rfl
@[simp] theorem strT_str (z : Str) : strT (.str z) = some (signs z) := nrfl rfl
@[simp] theorem ap_mM1 {α : Type} (f : A → Option α) (a : ME) : mM1 f a σ g = (a σ g).bind (kO f) := nrfl rfl
@[simp] theorem ap_mRef (mb : MF) : mRef mb σ g = (mb σ g).refB := nrfl rfl
end
def digB (w : Str) : Bool := w.cps.toList.all fun c => decide (48 ≤ c) && decide (c ≤ 57)
def numO (w : Str) : Option Int := if 1 ≤ w.length ∧ w.length ≤ 4 ∧ digB w = true ∧ (w.cps.toList.head? = some 48 → w.length = 1) then some ((NumText.digitsVal w.cps.toList : Nat) : Int) else none
def opI : Option Int → A
 | some i => .int i
 | none => .non
theorem notDig (c : Nat) : (!decide (c ∈ ("0123456789" : Str).cps.toList)) = !(decide (48 ≤ c) && decide (c ≤ 57)) := by
 have e : ("0123456789" : Str).cps.toList = [48, 49, 50, 51, 52, 53, 54, 55, 56, 57] := by decide
 rw [e]
 congr 1
 rw [Bool.eq_iff_iff]
 simp
 omega
theorem fLen_str (w : Str) (hw : w.length ≤ 100000) : fLen (.str w) = some (.int w.length) := if_pos hw
@[simp] theorem fNotInT_1 (c : Nat) (z : Str) : fNotInT (.str ⟨#[c]⟩) (.str z) = some (.bl (!decide (c ∈ z.cps.toList))) := nrfl rfl
def badS (w : Str) : List A := (w.cps.toList.filter fun c => !(decide (48 ≤ c) && decide (c ≤ 57))).map fun c => .str ⟨#[c]⟩
theorem signs_lc (w : Str) (hw : w.length ≤ 100000) (g : G) : mLcL (gN 1) (mQT (o1 tB (o2 fNotInT (qVar 1) (qC (.str "0123456789"))))) (mQ (qVar 1)) [some (.val (.str w)), none] (signs w) [] g
  = .ok (badS w) g := by
 have := lc_eq (mg := gN 1) (mt := mQT (o1 tB (o2 fNotInT (qVar 1) (qC (.str "0123456789"))))) (me := mQ (qVar 1)) (σ := [some (.val (.str w)), none]) (g := g) (enc := fun c : Nat => A.str ⟨#[c]⟩) (tt := fun c => !(decide (48 ≤ c) && decide (c ≤ 57))) (ee := fun c => .str ⟨#[c]⟩)
  w.cps.toList [] (fun c _ => by
   have e := notDig c
   simp at e
   simp [e]) (by simp; exact hw)
 exact this
theorem fil_nil {w : Str} : (w.cps.toList.filter fun c => !(decide (48 ≤ c) && decide (c ≤ 57))).isEmpty = digB w := by
 unfold digB
 induction w.cps.toList with
 | nil => rfl
 | cons c l ih =>
  rw [List.filter_cons, List.all_cons]
  cases h : (decide (48 ≤ c) && decide (c ≤ 57)) with
  | true => simpa [h] using ih
  | false => simp [h]
theorem bad_nil (w : Str) : (badS w = []) = (digB w = true) := by
 rw [← fil_nil (w := w), ← List.isEmpty_iff]
 unfold badS
 rw [List.isEmpty_map]
theorem one_0 (c : Nat) : ((⟨#[c]⟩ : Str) = "0") ↔ c = 48 := by
 constructor
 ·intro h
  have := congrArg (fun z : Str => z.cps.toList) h
  have e : ("0" : Str).cps.toList = [48] := by decide
  simp only [e] at this
  simpa using this
 ·rintro rfl
  decide
theorem is_0 (w : Str) : (w = "0") ↔ w.cps.toList = [48] := by
 have e : ("0" : Str).cps.toList = [48] := by decide
 constructor
 ·rintro rfl; exact e
 ·intro h
  exact Str.ext' (Array.toList_inj.mp (h.trans e.symm))
theorem fIntT_dig {w : Str} (h1 : 1 ≤ w.length) (h4 : w.length ≤ 4) (hd : digB w = true) : fIntT [.str w] = some (.int ((NumText.digitsVal w.cps.toList : Nat) : Int)) := by
 have hl : w.cps.toList.length = w.length := Array.length_toList
 have := intText_digits (x := w) (fun c hc => by
  have := List.all_eq_true.mp hd c hc
  simpa using this) (fun z => by rw [z] at hl; simp at hl; omega) (by omega)
 show (if w.length ≤ 640 then (PySem.intText? w).map A.int else none) = _
 rw [if_pos (by omega), this]
 rfl
theorem number_of_eq (w : Str) (hw : w.length ≤ 100000) (g : G) : m_number_of [.str w] g = .ok (.val (opI (numO w))) g := by
 unfold m_number_of
 rw [ap_mFun]
 have hl : w.cps.toList.length = w.length := Array.length_toList
 by_cases h1 : 1 ≤ w.length
 ·by_cases h4 : w.length ≤ 4
  ·have h1' : (1 : Int) ≤ w.length := by omega
   have h4' : (w.length : Int) ≤ 4 := by omega
   simp [startA, fLen_str w hw, h1', h4', vsOk, noOwn, wipeA, signs_lc w hw, bad_nil]
   by_cases hd : digB w = true
   ·obtain ⟨c, r, hc⟩ : ∃ c r, w.cps.toList = c :: r := by
     cases h : w.cps.toList with
     | nil => rw [h] at hl; simp at hl; omega
     | cons c r => exact ⟨c, r, rfl⟩
    have hs : w.length ≤ sizeLine := by rw [sizeLine_eq]; omega
    simp [hd, fIxT, hs, hc, one_0, is_0, fIntT_dig h1 h4 hd]
    have hl2 : w.length = r.length + 1 := by rw [← hl, hc]; rfl
    have hn : numO w = if (c = 48 → r = []) then some ((NumText.digitsVal w.cps.toList : Nat) : Int) else none := by
     unfold numO
     congr 1
     rw [hc]
     simp [h1, h4, hd]
     rw [hl2]
     simp
    rw [hn]
    by_cases h48 : c = 48
    ·subst h48
     cases r with
     | nil => simp [fIntT_dig h1 h4 hd, opI]
     | cons => simp [opI]
    ·simp [h48, fIntT_dig h1 h4 hd, opI]
   ·simp [hd]
    unfold numO
    rw [if_neg (fun z => hd z.2.2.1)]
    rfl
  ·have h1' : (1 : Int) ≤ w.length := by omega
   have h4' : ¬ (w.length : Int) ≤ 4 := by omega
   simp [startA, fLen_str w hw, h1', h4']
   unfold numO
   rw [if_neg (fun z => h4 z.2.1)]
   rfl
 ·have h1' : ¬ (1 : Int) ≤ w.length := by omega
  simp [startA, fLen_str w hw, h1']
  unfold numO
  rw [if_neg (fun z => h1 z.1)]
  rfl
theorem toNat_of {c : Nat} (h : 48 ≤ c ∧ c ≤ 57) : (Char.ofNat c).toNat = c := by
 obtain ⟨h1, h2⟩ := h
 have : c = 48 ∨ c = 49 ∨ c = 50 ∨ c = 51 ∨ c = 52 ∨ c = 53 ∨ c = 54 ∨ c = 55 ∨ c = 56 ∨ c = 57 := by omega
 rcases this with rfl | rfl | rfl | rfl | rfl | rfl | rfl | rfl | rfl | rfl <;> rfl
theorem map_of : ∀ {cs : List Nat}, NumText.AllDigits cs → (cs.map Char.ofNat).map Char.toNat = cs
 | [], _ => rfl
 | c :: cs, h => by rw [List.map_cons, List.map_cons, toNat_of h.head, map_of h.tail]
theorem drop_len (cs : List Nat) : (cs.dropWhile (· == 48)).length ≤ cs.length := (List.dropWhile_sublist _).length_le
theorem numL_iff {c : Nat} {r : List Nat} (h : NumText.AllDigits (c :: r)) : numL (NumText.digitsVal (c :: r)) = c :: r ↔ (c = 48 → r = []) := by
 unfold numL
 rw [NumText.toDigits_all _ h]
 by_cases hc : c = 48
 ·subst hc
  have e : (48 :: r).dropWhile (· == 48) = r.dropWhile (· == 48) := by rw [List.dropWhile_cons]; rfl
  rw [e]
  have hl := drop_len r
  have hsub : ∀ d ∈ r.dropWhile (· == 48), 48 ≤ d ∧ d ≤ 57 := fun d hd => h d (List.mem_cons_of_mem _ ((List.dropWhile_sublist _).subset hd))
  generalize r.dropWhile (· == 48) = q at hl hsub
  cases q with
  | nil =>
   constructor
   ·intro z _
    have := congrArg List.length z
    have : 1 = r.length + 1 := this
    exact List.eq_nil_of_length_eq_zero (by omega)
   ·intro z
    rw [z rfl]
    rfl
  | cons d q =>
   constructor
   ·intro z
    have z2 : (d :: q) = 48 :: r := by
     rw [← z]
     exact (map_of hsub).symm
    have := congrArg List.length z2
    simp at this hl
    omega
   ·intro z
    rw [z rfl] at hl
    simp at hl
 ·have e : (c :: r).dropWhile (· == 48) = c :: r := by rw [List.dropWhile_cons, if_neg (by simpa using hc)]
  rw [e]
  exact ⟨fun _ z => (hc z).elim, fun _ => map_of h⟩
theorem str_iff {w : Str} {c : Nat} {r : List Nat} (hc : w.cps.toList = c :: r) (hd : digB w = true) : ((toString ((NumText.digitsVal w.cps.toList : Nat) : Int) : String) : Str) = w ↔ (c = 48 → r = []) := by
 have h : NumText.AllDigits (c :: r) := fun d hdm => by
  have := List.all_eq_true.mp hd d (by rw [hc]; exact hdm)
  simpa using this
 rw [← numL_iff h, ← hc]
 constructor
 ·intro z
  have := congrArg tl z
  rw [tl_num] at this
  exact this
 ·intro z
  refine ext_tl ?_
  rw [tl_num]
  exact z
theorem digV_lt : ∀ {cs : List Nat}, NumText.AllDigits cs → NumText.digitsVal cs < 10 ^ cs.length := by
 intro cs h
 suffices ∀ (l : List Nat) (a : Nat), NumText.AllDigits l → l.foldl (fun acc c => acc * 10 + (c - 48)) a < (a + 1) * 10 ^ l.length by
  have := this cs 0 h
  rw [Nat.zero_add, Nat.one_mul] at this
  exact this
 intro l
 induction l with
 | nil => intro a _; simp
 | cons c l ih =>
  intro a h
  have hc := h.head
  have := ih (a * 10 + (c - 48)) h.tail
  rw [List.foldl_cons]
  refine Nat.lt_of_lt_of_le this ?_
  rw [List.length_cons, Nat.pow_succ, Nat.mul_comm (10 ^ l.length) 10, ← Nat.mul_assoc]
  exact Nat.mul_le_mul_right _ (by omega)
theorem fStr1_nat {n : Nat} (h : n < 10000) : fStr1 [.int (n : Int)] = some (.str (toString (n : Int))) := by
 refine if_pos ?_
 have : (n : Int).natAbs = n := rfl
 rw [this]
 by_cases h0 : n = 0
 ·subst h0; decide
 ·exact Nat.lt_trans ((Nat.log2_lt h0).mpr (show n < 2 ^ 14 by omega)) (by decide)
theorem number_eq (w : Str) (hw : w.length ≤ 100000) (g : G) : m_number_ [.str w] g = .ok (.val (opI (numO w))) g := by
 unfold m_number_
 rw [ap_mFun]
 have hl : w.cps.toList.length = w.length := Array.length_toList
 by_cases h1 : 1 ≤ w.length
 ·have h0 : w ≠ "" := by rintro rfl; exact absurd h1 (by decide)
  by_cases h4 : w.length ≤ 4
  ·have h4' : ¬ (4 : Int) < w.length := by omega
   simp [startA, fLen_str w hw, h0, h4', vsOk, noOwn, wipeA, signs_lc w hw, bad_nil]
   by_cases hd : digB w = true
   ·obtain ⟨c, r, hc⟩ : ∃ c r, w.cps.toList = c :: r := by
     cases h : w.cps.toList with
     | nil => rw [h] at hl; simp at hl; omega
     | cons c r => exact ⟨c, r, rfl⟩
    have hv : NumText.digitsVal w.cps.toList < 10000 := by
     refine Nat.lt_of_lt_of_le (digV_lt fun d hdm => ?_) (Nat.pow_le_pow_right (n := 10) (by decide) (show w.cps.toList.length ≤ 4 by omega))
     have := List.all_eq_true.mp hd d hdm
     simpa using this
    have hl2 : w.length = r.length + 1 := by rw [← hl, hc]; rfl
    have hn : numO w = if (c = 48 → r = []) then some ((NumText.digitsVal w.cps.toList : Nat) : Int) else none := by
     unfold numO
     congr 1
     rw [hc]
     simp [h1, h4, hd]
     rw [hl2]
     simp
    rw [hn]
    by_cases h48 : c = 48 → r = []
    ·have e : Str.ofString (Int.repr ((NumText.digitsVal w.cps.toList : Nat) : Int)) = w := (str_iff hc hd).mpr h48
     rw [if_pos h48]
     simp [hd, fIntT_dig h1 h4 hd, fStr1_nat hv, e, opI]
    ·have e : ¬ Str.ofString (Int.repr ((NumText.digitsVal w.cps.toList : Nat) : Int)) = w := fun z => h48 ((str_iff hc hd).mp z)
     rw [if_neg h48]
     simp [hd, fIntT_dig h1 h4 hd, fStr1_nat hv, e, opI]
   ·simp [hd]
    unfold numO
    rw [if_neg (fun z => hd z.2.2.1)]
    rfl
  ·have h4' : (4 : Int) < w.length := by omega
   simp [startA, fLen_str w hw, h0, h4']
   unfold numO
   rw [if_neg (fun z => h4 z.2.1)]
   rfl
 ·have h0 : w = "" := by
   refine Str.ext' (Array.toList_inj.mp ?_)
   have : w.cps.toList = [] := List.eq_nil_of_length_eq_zero (by omega)
   rw [this]
   rfl
  have hn : numO w = none := by
   unfold numO
   rw [if_neg (fun z => h1 z.1)]
  rw [hn]
  simp [startA, h0, opI]
theorem numO_le {w : Str} {n : Int} (h : numO w = some n) : 0 ≤ n ∧ n < 10000 := by
 unfold numO at h
 split at h
 ·rename_i z
  cases h
  have hl : w.cps.toList.length = w.length := Array.length_toList
  have : NumText.digitsVal w.cps.toList < 10000 := by
   refine Nat.lt_of_lt_of_le (digV_lt fun d hdm => ?_) (Nat.pow_le_pow_right (n := 10) (by decide) (show w.cps.toList.length ≤ 4 by omega))
   have := List.all_eq_true.mp z.2.2.1 d hdm
   simpa using this
  omega
 ·cases h
end N
end
section
namespace N
open PySem PySem.Spec PyProof.Rows L2 Cm W TL
inductive Kd where
 | n | s | o
def Kd.c : Kd → Str
 | .n => "n"
 | .s => "s"
 | .o => "o"
def Kd.l : Kd → Str
 | .n => "key"
 | .s => "more"
 | .o => "worth"
def minus : Str := "-"
def sgn (w : Str) : Bool := decide (Txt.slice w none (some 1) = "-")
def partO (k : Kd) (w : Str) : Option (Option Int) := match k with
 | .n => (numO w).map some
 | .o => if w = "-" then some none else (numO w).map some
 | .s => if sgn w then (numO (Txt.slice w (some 1) none)).bind fun n => if n = 0 then none else some (some (0 - n)) else (numO w).map some
theorem tl_S (x : Str) : (SX.S (tl x)) = x := mk_tl x
theorem slice_le {x : Str} {i : Int} (h : 0 ≤ i) : (Txt.slice x (some i) none).length ≤ x.length := by
 have e := SX.slice_from (a := tl x) h
 rw [tl_S] at e
 rw [e, len_tl, len_tl x]
 show ((tl x).drop i.toNat).length ≤ _
 rw [List.length_drop]
 omega
theorem slice_le2 {x : Str} {i : Int} (h : 0 ≤ i) : (Txt.slice x none (some i)).length ≤ x.length := by
 have e := SX.slice_to (a := tl x) h
 rw [tl_S] at e
 rw [e, len_tl, len_tl x]
 show ((tl x).take i.toNat).length ≤ _
 rw [List.length_take]
 omega
theorem fSlT_str {z : Str} {lo hi : Option Int} (h : z.length ≤ 100000) : fSlT (.str z) lo hi = some (.str (Txt.slice z lo hi)) := if_pos (by rw [sizeLine_eq]; omega)
@[simp] theorem k_s_o : ((("s" : Str) = "o") : Prop) = False := by simp only [eq_iff_iff, iff_false]; decide
@[simp] theorem k_n_o : ((("n" : Str) = "o") : Prop) = False := by simp only [eq_iff_iff, iff_false]; decide
@[simp] theorem k_n_s : ((("n" : Str) = "s") : Prop) = False := by simp only [eq_iff_iff, iff_false]; decide
@[simp] theorem k_o_s : ((("o" : Str) = "s") : Prop) = False := by simp only [eq_iff_iff, iff_false]; decide
@[simp] theorem k_key_worth : ((("key" : Str) = "worth") : Prop) = False := by simp only [eq_iff_iff, iff_false]; decide
@[simp] theorem k_key_more : ((("key" : Str) = "more") : Prop) = False := by simp only [eq_iff_iff, iff_false]; decide
@[simp] theorem k_more_worth : ((("more" : Str) = "worth") : Prop) = False := by simp only [eq_iff_iff, iff_false]; decide
@[simp] theorem k_worth_more : ((("worth" : Str) = "more") : Prop) = False := by simp only [eq_iff_iff, iff_false]; decide
def okP : Option (Option Int) → A
 | none => .tup [.bl false, .non]
 | some v => .tup [.bl true, opI v]
theorem part_of_eq (w : Str) (hw : w.length ≤ 100000) (k : Kd) (g : G) : m_part_of [.str w, .str k.c] g = .ok (.val (okP (partO k w))) g := by
 unfold m_part_of
 rw [ap_mFun]
 cases k with
 | n =>
  cases h : numO w <;> simp [startA, Kd.c, partO, number_of_eq w hw, h, opI, okP, trA, isNon]
 | o =>
  by_cases hm : w = "-"
  ·simp [startA, Kd.c, partO, hm, okP, opI]
  ·cases h : numO w <;> simp [startA, Kd.c, partO, hm, number_of_eq w hw, h, opI, okP, trA, isNon]
 | s =>
  have hw2 : (Txt.slice w (some 1) none).length ≤ 100000 := Nat.le_trans (slice_le (by decide)) hw
  by_cases hm : Txt.slice w none (some 1) = "-"
  ·cases h : numO (Txt.slice w (some 1) none) with
   | none => simp [startA, Kd.c, partO, sgn, hm, fSlT_str hw, number_of_eq _ hw2, h, opI, okP, trA, isNon]
   | some n =>
    by_cases h0 : n = 0 <;> simp [startA, Kd.c, partO, sgn, hm, fSlT_str hw, number_of_eq _ hw2, h, opI, okP, trA, isNon, h0]
  ·cases h : numO w <;> simp [startA, Kd.c, partO, sgn, hm, fSlT_str hw, number_of_eq w hw, h, opI, okP, trA, isNon]
def lsP : Option (Option Int) → List A
 | none => []
 | some v => [opI v]
theorem part_eq (w : Str) (hw : w.length ≤ 100000) (k : Kd) (g : G) : ∃ f, m_part_ [.str w, .str k.l] g = .ok f g ∧ toA f = .lst (lsP (partO k w)) := by
 unfold m_part_
 rw [ap_mFun]
 cases k with
 | n =>
  cases h : numO w <;> simp [startA, Kd.l, partO, number_eq w hw, h, opI, lsP, isNon]
 | o =>
  by_cases hm : w = "-"
  ·simp [startA, Kd.l, partO, hm, lsP, opI]
  ·cases h : numO w <;> simp [startA, Kd.l, partO, hm, number_eq w hw, h, opI, lsP, isNon]
 | s =>
  have hw2 : (Txt.slice w (some 1) none).length ≤ 100000 := Nat.le_trans (slice_le (by decide)) hw
  by_cases hm : Txt.slice w none (some 1) = "-"
  ·cases h : numO (Txt.slice w (some 1) none) with
   | none => simp [startA, Kd.l, partO, sgn, hm, fSlT_str hw, number_eq _ hw2, h, opI, lsP, isNon]
   | some n =>
    have hn := numO_le h
    by_cases h0 : n = 0
    ·simp [startA, Kd.l, partO, sgn, hm, fSlT_str hw, number_eq _ hw2, h, opI, lsP, isNon, h0]
    ·have h1 : 0 < n := by omega
     simp [startA, Kd.l, partO, sgn, hm, fSlT_str hw, number_eq _ hw2, h, opI, lsP, isNon, h0, h1]
  ·cases h : numO w <;> simp [startA, Kd.l, partO, sgn, hm, fSlT_str hw, number_eq w hw, h, opI, lsP, isNon]
end N
end
section
namespace N
open PySem PySem.Spec PyProof.Rows L2 Cm W TL
theorem spl_len (S : List Nat) : ∀ (k : Nat) (acc l : List Nat), spl S k acc l ≠ [] ∧ ((spl S k acc l).map List.length).sum ≤ acc.length + l.length ∧ (spl S k acc l).length ≤ l.length + 1
 | k, acc, [] => by
  rw [spl_nil]
  exact ⟨by simp, by simp, by simp⟩
 | 0, acc, c :: r => by
  cases h : pre S (c :: r) with
  | true =>
   rw [spl_hit h]
   obtain ⟨_, h2, h3⟩ := spl_len S (S.length - 1) [] r
   refine ⟨by simp, ?_, ?_⟩
   ·simp only [List.map_cons, List.sum_cons, List.length_cons]
    simp at h2
    omega
   ·simp only [List.length_cons]
    omega
  | false =>
   rw [spl_miss h]
   obtain ⟨h1, h2, h3⟩ := spl_len S 0 (acc ++ [c]) r
   refine ⟨h1, ?_, ?_⟩
   ·have : (acc ++ [c]).length = acc.length + 1 := by simp
    have h4 : (c :: r).length = r.length + 1 := rfl
    omega
   ·simp only [List.length_cons]
    omega
 | k + 1, acc, c :: r => by
  show spl S k acc r ≠ [] ∧ ((spl S k acc r).map List.length).sum ≤ acc.length + (c :: r).length ∧ (spl S k acc r).length ≤ (c :: r).length + 1
  obtain ⟨h1, h2, h3⟩ := spl_len S k acc r
  refine ⟨h1, ?_, ?_⟩ <;> simp only [List.length_cons] <;> omega
structure Sep (y : Str) : Prop where
 ne : tl y ≠ []
 lo : y.cps.all (· < 256) = true
theorem Sep.len {y : Str} (h : Sep y) : (y.length == 0) = false := by
 have := len_tl y
 have h2 := List.length_pos_iff.mpr h.ne
 simp
 omega
theorem split_len {y : Str} (h : Sep y) (x : Str) : Txt.split x y ≠ [] ∧ ((Txt.split x y).map Str.length).sum ≤ x.length ∧ (Txt.split x y).length ≤ x.length + 1 := by
 have e := split_spl x y h.ne (kind_ok h.lo)
 obtain ⟨h1, h2, h3⟩ := spl_len (tl y) 0 [] (tl x)
 rw [← e] at h1 h2 h3
 refine ⟨fun z => h1 (by rw [z]; rfl), ?_, ?_⟩
 ·rw [List.map_map] at h2
  have : (Txt.split x y).map (List.length ∘ tl) = (Txt.split x y).map Str.length := List.map_congr_left fun z _ => (len_tl z).symm
  rw [this] at h2
  rw [len_tl x]
  simpa using h2
 ·rw [len_tl x]
  simpa using h3
theorem sum_mem : ∀ {l : List Nat} {n : Nat}, n ∈ l → n ≤ l.sum
 | a :: l, n, h => by
  rw [List.sum_cons]
  rcases List.mem_cons.mp h with rfl | h
  ·omega
  ·have := sum_mem h; omega
theorem split_mem {y : Str} (h : Sep y) {x p : Str} (hp : p ∈ Txt.split x y) : p.length ≤ x.length := Nat.le_trans (sum_mem (List.mem_map_of_mem hp)) (split_len h x).2.1
theorem nSplit_eq {y : Str} (h : Sep y) {x : Str} (hx : x.length ≤ 100000) : nSplit y (.str x) = some (.lst ((Txt.split x y).map A.str)) := if_pos ⟨h.len, by rw [sizeLine_eq]; omega⟩
theorem sep_nl : Sep "\n" := ⟨by decide, by decide +kernel⟩
theorem sep_sp : Sep " " := ⟨by decide, by decide +kernel⟩
theorem sep_cl : Sep ": " := ⟨by decide, by decide +kernel⟩
theorem sep_sc : Sep "; " := ⟨by decide, by decide +kernel⟩
def Kd.ch : Kd → Nat
 | .n => 110
 | .s => 115
 | .o => 111
theorem Kd.c_ch (k : Kd) : k.c = ⟨#[k.ch]⟩ := by cases k <;> decide
def kT (ks : List Kd) : Str := ⟨(ks.map Kd.ch).toArray⟩
def kdsOf (z : Str) : Option (List Kd) := if z = "put" then some [.n, .n, .n] else if z = "drop" then some [.n] else if z = "add" then some [.n, .s] else if z = "if" then some [.n, .o] else none
theorem kget (z : Str) : (lkT kt_KINDS z).getD "" = match kdsOf z with
  | some ks => kT ks
  | none => "" := by
 unfold lkT kt_KINDS kdsOf
 by_cases h1 : z = "put"
 ·subst h1; decide
 ·by_cases h2 : z = "drop"
  ·subst h2; decide
  ·by_cases h3 : z = "add"
   ·subst h3; decide
   ·by_cases h4 : z = "if"
    ·subst h4; decide
    ·rw [if_neg h1, if_neg h2, if_neg h3, if_neg h4]
     simp [List.find?_cons, Ne.symm h1, Ne.symm h2, Ne.symm h3, Ne.symm h4]
theorem kds_pos {z : Str} {ks : List Kd} (h : kdsOf z = some ks) : 1 ≤ ks.length ∧ ks.length ≤ 3 := by
 unfold kdsOf at h
 split at h
 ·cases h; decide
 ·split at h
  ·cases h; decide
  ·split at h
   ·cases h; decide
   ·split at h
    ·cases h; decide
    ·cases h
def lawK : List (Key × A) := [(.inr "put", .lst [.str "key", .str "key", .str "key"]), (.inr "drop", .lst [.str "key"]), (.inr "add", .lst [.str "key", .str "more"]), (.inr "if", .lst [.str "key", .str "worth"])]
theorem lawK_get (z : Str) : getK lawK (.inr z) = (kdsOf z).map fun ks => .lst (ks.map fun k => .str k.l) := by
 unfold getK lawK kdsOf
 by_cases h1 : z = "put"
 ·subst h1; rfl
 ·by_cases h2 : z = "drop"
  ·subst h2; rfl
  ·by_cases h3 : z = "add"
   ·subst h3; rfl
   ·by_cases h4 : z = "if"
    ·subst h4; rfl
    ·rw [if_neg h1, if_neg h2, if_neg h3, if_neg h4]
     simp [List.find?_cons, Ne.symm h1, Ne.symm h2, Ne.symm h3, Ne.symm h4]
def allS {α : Type} : List (Option α) → Option (List α)
 | [] => some []
 | none :: _ => none
 | some a :: l => (allS l).map (a :: ·)
theorem allS_some {α : Type} : ∀ {l : List (Option α)} {vs : List α}, allS l = some vs → l = vs.map some
 | [], vs, h => by cases h; rfl
 | none :: l, vs, h => by cases h
 | some a :: l, vs, h => by
  obtain ⟨ws, h1, rfl⟩ := Option.map_eq_some_iff.mp (show (allS l).map (a :: ·) = some vs from h)
  rw [allS_some h1]
  rfl
theorem allS_none {α : Type} : ∀ {l : List (Option α)}, allS l = none ↔ none ∈ l
 | [] => by simp [allS]
 | none :: l => by simp [allS]
 | some a :: l => by
  show (allS l).map (a :: ·) = none ↔ _
  rw [Option.map_eq_none_iff, allS_none]
  simp
def wAt (ws : List Str) (i : Nat) : Str := ws.getD i ""
def prt (ks : List Kd) (ws : List Str) (y : Int) : Option (Option Int) := partO (ks.getD y.toNat .n) (wAt ws (y.toNat + 1))
def prts (ks : List Kd) (ws : List Str) : List (Option (Option Int)) := (rng ks.length).map (prt ks ws)
def deedO (t : Str) : Option (Str × List (Option Int)) := match kdsOf (wAt (Txt.split t " ") 0) with
 | some ks => if (Txt.split t " ").length = ks.length + 1 then (allS (prts ks (Txt.split t " "))).map fun vs => (wAt (Txt.split t " ") 0, vs) else none
 | none => none
def eDd (d : Str × List (Option Int)) : A := .tup (.str d.1 :: d.2.map opI)
def opD : Option (Str × List (Option Int)) → A
 | some d => eDd d
 | none => .non
end N
end
section
namespace N
open PySem PySem.Spec PyProof.Rows L2 Cm W TL
theorem at_w {ws : List Str} {i : Nat} (h : i < ws.length) : atI (ws.map A.str) (i : Int) = some (.str (wAt ws i)) := by
 rw [atI_nat, List.getElem?_map, List.getElem?_eq_getElem h]
 unfold wAt
 rw [List.getD_eq_getElem?_getD, List.getElem?_eq_getElem h]
 rfl
theorem fIx_w {ws : List Str} {i : Int} (h0 : 0 ≤ i) (h : i < ws.length) : fIx (.lst (ws.map A.str)) (.int i) = some (.str (wAt ws i.toNat)) := by
 have := at_w (ws := ws) (i := i.toNat) (by omega)
 rw [show ((i.toNat : Nat) : Int) = i by omega] at this
 exact this
@[simp] theorem fKGet_str (kvs : List (Str × Str)) (x z : Str) : fKGet kvs x (.str z) = some (.str ((lkT kvs z).getD x)) := nrfl rfl
theorem kT_len (ks : List Kd) : (kT ks).length = ks.length := by
 rw [len_tl]
 show ((ks.map Kd.ch).toArray.toList).length = _
 simp
theorem kT_ne {ks : List Kd} (h : 1 ≤ ks.length) : kT ks ≠ "" := by
 intro z
 have := kT_len ks
 rw [z] at this
 have e : ("" : Str).length = 0 := by decide
 omega
theorem fIxT_k {ks : List Kd} {i : Int} (h0 : 0 ≤ i) (h : i < ks.length) (h3 : ks.length ≤ 3) : fIxT (.str (kT ks)) (.int i) = some (.str (ks.getD i.toNat .n).c) := by
 show (if (kT ks).length ≤ sizeLine then (atI (kT ks).cps.toList i).map fun c => A.str ⟨#[c]⟩ else none) = _
 rw [if_pos (by rw [kT_len, sizeLine_eq]; omega)]
 have e : (kT ks).cps.toList = ks.map Kd.ch := by show ((ks.map Kd.ch).toArray.toList) = _; simp
 have h2 : i.toNat < ks.length := by omega
 have : atI (ks.map Kd.ch) i = some (ks.getD i.toNat .n).ch := by
  have := atI_nat (ks.map Kd.ch) i.toNat
  rw [show ((i.toNat : Nat) : Int) = i by omega] at this
  rw [this, List.getElem?_map, List.getElem?_eq_getElem h2, List.getD_eq_getElem?_getD, List.getElem?_eq_getElem h2]
  rfl
 rw [e, this, Kd.c_ch]
 rfl
theorem wAt_len {ws : List Str} (hw : ∀ p ∈ ws, p.length ≤ 100000) (i : Nat) : (wAt ws i).length ≤ 100000 := by
 unfold wAt
 rw [List.getD_eq_getElem?_getD]
 cases h : ws[i]? with
 | none => exact Nat.zero_le _
 | some p => exact hw p (List.mem_of_getElem? h)
theorem okP_0 (p : Option (Option Int)) : fIx (okP p) (.int 0) = some (.bl p.isSome) := by cases p <;> simp [okP, fIx]
theorem okP_1 (v : Option Int) : fIx (okP (some v)) (.int 1) = some (opI v) := by simp [okP, fIx]
theorem lc_parts {ks : List Kd} {ws : List Str} {t : A} (hl : ws.length = ks.length + 1) (h3 : ks.length ≤ 3) (hmem : ∀ p ∈ ws, p.length ≤ 100000) (g : G) :
  mLcL (gN 4) (mQT fun _ _ => some true) (mFrz (mCall 2 m_part_of (maCons (mQ (o2 fIx (qVar 1) (o2 fAdd (qVar 4) (qC (.int 1))))) (maCons (mQ (o2 fIxT (qVar 2) (qVar 4))) maNil))))
   [some (.val t), some (.val (.lst (ws.map A.str))), some (.val (.str (kT ks))), none, none, none] ((rng ks.length).map A.int) [] g = .ok ((prts ks ws).map okP) g := by
 have := lc_eq (mg := gN 4) (mt := mQT fun _ _ => some true) (me := mFrz (mCall 2 m_part_of (maCons (mQ (o2 fIx (qVar 1) (o2 fAdd (qVar 4) (qC (.int 1))))) (maCons (mQ (o2 fIxT (qVar 2) (qVar 4))) maNil))))
  (σ := [some (.val t), some (.val (.lst (ws.map A.str))), some (.val (.str (kT ks))), none, none, none]) (g := g) (enc := A.int) (tt := fun _ => true) (ee := fun y => okP (prt ks ws y)) (rng ks.length) [] (fun y hy => by
   obtain ⟨y0, y1⟩ := mem_rng.mp hy
   have e1 := fIx_w (ws := ws) (i := y + 1) (by omega) (by omega)
   have e2 := fIxT_k (ks := ks) y0 y1 h3
   have e3 := part_of_eq (wAt ws (y + 1).toNat) (wAt_len hmem _) (ks.getD y.toNat .n) g
   have e4 : (y + 1).toNat = y.toNat + 1 := by omega
   refine ⟨by simp, fun _ => ?_⟩
   unfold prt
   rw [e4] at e1 e3
   simp only [List.getD_eq_getElem?_getD] at e2 e3 ⊢
   simp [e1, e2, e3]) (by simp [rng_len]; omega)
 rw [this]
 simp [prts]
theorem lc_bad {s0 s1 s2 s3 s4 : Option Fv} (ps : List (Option (Option Int))) (h3 : ps.length ≤ 3) (g : G) :
  mLcL (gN 5) (mQT (qNot (o1 trA (o2 fIx (qVar 5) (qC (.int 0)))))) (mQ (qVar 5)) [s0, s1, s2, s3, s4, none] (ps.map okP) [] g = .ok ((ps.filter fun p => !p.isSome).map okP) g := by
 exact (lc_eq (mg := gN 5) (mt := mQT (qNot (o1 trA (o2 fIx (qVar 5) (qC (.int 0)))))) (me := mQ (qVar 5)) (σ := [s0, s1, s2, s3, s4, none]) (g := g) (enc := okP) (tt := fun p => !p.isSome) (ee := okP) ps [] (fun p _ => by
   simp [okP_0, trA]) (by simp; omega))
theorem lc_vals {s0 s1 s2 s3 s4 : Option Fv} (vs : List (Option Int)) (h3 : vs.length ≤ 3) (g : G) :
  mLcL (gN 5) (mQT fun _ _ => some true) (mQ (o2 fIx (qVar 5) (qC (.int 1)))) [s0, s1, s2, s3, s4, none] (vs.map (okP ∘ some)) [] g = .ok (vs.map opI) g := by
 have := lc_eq (mg := gN 5) (mt := mQT fun _ _ => some true) (me := mQ (o2 fIx (qVar 5) (qC (.int 1)))) (σ := [s0, s1, s2, s3, s4, none]) (g := g) (enc := fun v : Option Int => okP (some v)) (tt := fun _ => true) (ee := opI) vs [] (fun p _ => by
   simp [okP_1]) (by simp; omega)
 refine this.trans ?_
 simp
theorem fil_none {α : Type} {l : List (Option α)} : (l.filter fun p => !p.isSome) = [] ↔ none ∉ l := by
 rw [List.filter_eq_nil_iff]
 constructor
 ·intro h z
  exact h none z (by simp)
 ·intro h p hp
  cases p with
  | none => exact (h hp).elim
  | some => simp
theorem take1 {ws : List Str} (h : 0 < ws.length) : cutL (ws.map A.str) none (some 1) = [.str (wAt ws 0)] := by
 cases ws with
 | nil => simp at h
 | cons w ws => simp [cutL, HT.sIx, wAt]
theorem deed_of_eq (t : Str) (ht : t.length ≤ 90000) (g : G) : m_deed_of [.str t] g = .ok (.val (opD (deedO t))) g := by
 unfold m_deed_of deedO
 rw [ap_mFun]
 have hn := nSplit_eq sep_sp (x := t) (by omega)
 obtain ⟨hne, hsum, hcnt⟩ := split_len sep_sp t
 have hmem : ∀ p ∈ Txt.split t " ", p.length ≤ 100000 := fun p hp => Nat.le_trans (split_mem sep_sp hp) (by omega)
 generalize Txt.split t " " = ws at hn hne hcnt hmem
 have hpos : 0 < ws.length := List.length_pos_iff.mpr hne
 have h0 := fIx_w (ws := ws) (i := 0) (by decide) (by omega)
 simp only [Int.toNat_zero] at h0
 cases hk : kdsOf (wAt ws 0) with
 | none =>
  simp [startA, hn, h0, kget, hk, opD]
 | some ks =>
  obtain ⟨k1, k3⟩ := kds_pos hk
  have hkl := kT_len ks
  have hlk : fLen (.str (kT ks)) = some (.int ks.length) := by rw [fLen_str _ (by omega), hkl]
  by_cases hl : ws.length = ks.length + 1
  ·have hl' : (ws.length : Int) = (ks.length : Int) + 1 := by omega
   have hr : (ks.length : Int) < 4611686018427387904 := by omega
   have hr2 : -4611686018427387904 ≤ (ks.length : Int) := by omega
   have hp3 : (prts ks ws).length ≤ 3 := by unfold prts; rw [List.length_map, rng_len]; exact k3
   simp [startA, hn, h0, kget, hk, hlk, kT_ne k1, hl, hl', vsOk, noOwn, wipeA, rngA_eq, hr, lc_parts hl k3 hmem, lc_bad _ hp3]
   cases ha : allS (prts ks ws) with
   | none =>
    have hf : none ∈ prts ks ws := allS_none.mp ha
    simp [hf, opD]
   | some vs =>
    have e := allS_some ha
    have hf : ((prts ks ws).filter fun p => !p.isSome) = [] := fil_none.mpr (by rw [e]; simp)
    have hv3 : vs.length ≤ 3 := by rw [e, List.length_map] at hp3; exact hp3
    rw [e]
    have hv4 : 1 + vs.length ≤ 100000 := by omega
    simp [opD, vsOk, noOwn, wipeA, lc_vals vs hv3, take1 hpos, eDd, hv4]
  ·have hl' : ¬ (ws.length : Int) = (ks.length : Int) + 1 := by omega
   simp [startA, hn, h0, kget, hk, hlk, kT_ne k1, hl, hl', opD]
end N
end
section
namespace N
open PySem PySem.Spec PyProof.Rows L2 Cm W TL
def dI : Option Int → PyData
 | none => .none
 | some i => .int i
def dD : Option (Str × List (Option Int)) → PyData
 | none => .none
 | some d => .tuple (.str d.1 :: d.2.map dI)
def DOk (d : Str × List (Option Int)) : Prop := (∃ ks, kdsOf d.1 = some ks ∧ ks.length = d.2.length) ∧ d.2.length ≤ 3
theorem deedO_ok {t : Str} {d : Str × List (Option Int)} (h : deedO t = some d) : DOk d := by
 unfold deedO at h
 split at h
 ·rename_i ks hk
  split at h
  ·obtain ⟨vs, h1, rfl⟩ := Option.map_eq_some_iff.mp h
   have h2 := congrArg List.length (allS_some h1)
   rw [List.length_map] at h2
   have h3 : (prts ks (Txt.split t " ")).length = ks.length := by unfold prts; rw [List.length_map, rng_len]
   have := kds_pos hk
   exact ⟨⟨ks, hk, by show ks.length = vs.length; omega⟩, by show vs.length ≤ 3; omega⟩
  ·cases h
 ·cases h
theorem toDs_mp {α : Type} {f : α → A} {f' : α → PyData} : ∀ {l : List α}, (∀ x ∈ l, toD (f x) = some (f' x)) → toDs (l.map f) = some (l.map f')
 | [], _ => rfl
 | x :: l, h => by
  show (match toD (f x) with
   | some d => match toDs (l.map f) with
    | some ds => some (d :: ds)
    | none => none
   | none => none) = _
  rw [h x List.mem_cons_self, toDs_mp fun y hy => h y (List.mem_cons_of_mem _ hy)]
  rfl
theorem toD_opI (v : Option Int) : toD (opI v) = some (dI v) := by cases v <;> rfl
theorem toD_opD (d : Option (Str × List (Option Int))) : toD (opD d) = some (dD d) := by
 cases d with
 | none => rfl
 | some d =>
  show (toDs (.str d.1 :: d.2.map opI)).map PyData.tuple = _
  have e : toDs (.str d.1 :: d.2.map opI) = some (.str d.1 :: d.2.map dI) := by
   show (match toDs (d.2.map opI) with
    | some ds => some (PyData.str d.1 :: ds)
    | none => none) = _
   rw [toDs_mp fun x _ => toD_opI x]
  rw [e]
  rfl
theorem strOk_w {w : Str} (h : ∃ ks, kdsOf w = some ks) : PyData.strOk w = true := by
 obtain ⟨ks, h⟩ := h
 unfold kdsOf at h
 split at h
 ·rename_i e; subst e; decide +kernel
 ·split at h
  ·rename_i e; subst e; decide +kernel
  ·split at h
   ·rename_i e; subst e; decide +kernel
   ·split at h
    ·rename_i e; subst e; decide +kernel
    ·cases h
theorem dnI (n : Nat) (v : Option Int) : Dn n (dI v) := by
 cases v with
 | none => exact Dn.none
 | some i => exact Dn.int
theorem dnD {d : Option (Str × List (Option Int))} (h : ∀ e, d = some e → DOk e) (n : Nat) : Dn (n + 1) (dD d) ∧ (dD d).canLay0 = true := by
 cases d with
 | none => exact ⟨Dn.none, rfl⟩
 | some d =>
  obtain ⟨⟨ks, h1, _⟩, h2⟩ := h d rfl
  refine ⟨⟨by simp; omega, fun x hx => ?_⟩, ?_⟩
  ·rcases List.mem_cons.mp hx with rfl | hx
   ·exact Dn.str
   ·obtain ⟨v, _, rfl⟩ := List.mem_map.mp hx
    exact dnI _ _
  ·show PyData.canLayAll0 (.str d.1 :: d.2.map dI) = true
   refine canL fun x hx => ?_
   rcases List.mem_cons.mp hx with rfl | hx
   ·simp only [PyData.canLay0]
    exact strOk_w ⟨ks, h1⟩
   ·obtain ⟨v, _, rfl⟩ := List.mem_map.mp hx
    cases v <;> rfl
theorem fInD_of {α : Type} {f : α → A} {f' : α → PyData} {l : List α} {z : A} {z' : PyData} (hz : toD z = some z') (hzs : SeqAt.shaped z' = true) (hl : l.length ≤ 100000) (h : ∀ x ∈ l, toD (f x) = some (f' x) ∧ Dn 5 (f' x) ∧ (f' x).canLay0 = true) : fInD z (.lst (l.map f)) = some (.bl (l.any fun x => PyData.eqv (f' x) z')) := by
 have e : toD (.lst (l.map f)) = some (.list (l.map f')) := by
  show (toDs (l.map f)).map PyData.list = _
  rw [toDs_mp fun x hx => (h x hx).1]
  rfl
 have hs : SeqAt.shaped (.list (l.map f')) = true := by
  refine shaped_of (n := 6) ⟨by rw [List.length_map]; exact hl, fun d hd => ?_⟩ (by decide) ?_
  ·obtain ⟨x, hx, rfl⟩ := List.mem_map.mp hd
   exact (h x hx).2.1
  ·show PyData.canLayAll0 (l.map f') = true
   refine canL fun d hd => ?_
   obtain ⟨x, hx, rfl⟩ := List.mem_map.mp hd
   exact (h x hx).2.2
 unfold fInD
 rw [hz, e]
 dsimp only
 rw [hzs, hs]
 simp [List.any_map, Function.comp_def]
theorem noneShaped : SeqAt.shaped .none = true := by decide
theorem in_opI {l : List (Option Int)} (hl : l.length ≤ 100000) : fInD .non (.lst (l.map opI)) = some (.bl (decide (none ∈ l))) := by
 rw [fInD_of (f' := dI) rfl noneShaped hl fun x _ => ⟨toD_opI x, dnI _ _, by cases x <;> rfl⟩]
 congr 2
 rw [Bool.eq_iff_iff]
 simp only [List.any_eq_true, decide_eq_true_eq]
 constructor
 ·rintro ⟨x, hx, h⟩
  cases x with
  | none => exact hx
  | some i => simp [dI, PyData.eqv] at h
 ·intro h
  exact ⟨none, h, by decide⟩
theorem in_opD {l : List (Option (Str × List (Option Int)))} (hl : l.length ≤ 100000) (hk : ∀ x ∈ l, ∀ e, x = some e → DOk e) : fInD .non (.lst (l.map opD)) = some (.bl (decide (none ∈ l))) := by
 rw [fInD_of (f' := dD) rfl noneShaped hl fun x hx => ⟨toD_opD x, (dnD (hk x hx) 4).1, (dnD (hk x hx) 4).2⟩]
 congr 2
 rw [Bool.eq_iff_iff]
 simp only [List.any_eq_true, decide_eq_true_eq]
 constructor
 ·rintro ⟨x, hx, h⟩
  cases x with
  | none => exact hx
  | some i => simp [dD, PyData.eqv] at h
 ·intro h
  exact ⟨none, h, by decide⟩
structure Dl where
 h : Int
 l : Int
 ds : List (Str × List (Option Int))
def eDl (d : Dl) : A := .tup [.int d.h, .int d.l, .tup (d.ds.map eDd)]
def opL : Option Dl → A
 | some d => eDl d
 | none => .non
def mkD : Option Int → Option Int → Option (List (Str × List (Option Int))) → Option Dl
 | some a, some b, some ds => some ⟨a, b, ds⟩
 | _, _, _ => none
def hdsOf (r : Str) : List Str := Txt.split (wAt (Txt.split r ": ") 0) " "
def dsOf (r : Str) : List (Option (Str × List (Option Int))) := (Txt.split (wAt (Txt.split r ": ") 1) "; ").map deedO
def dealO (r : Str) : Option Dl := if (Txt.split r ": ").length = 2 ∧ (hdsOf r).length = 2 then mkD (numO (wAt (hdsOf r) 0)) (numO (wAt (hdsOf r) 1)) (allS (dsOf r)) else none
theorem lc_nums {hs : List Str} {s0 s1 s2 s3 s5 s6 : Option Fv} (hl : hs.length ≤ 100000) (hm : ∀ p ∈ hs, p.length ≤ 100000) (g : G) :
  mLcL (gN 4) (mQT fun _ _ => some true) (mFrz (mCall 1 m_number_of (maCons (mQ (qVar 4)) maNil))) [s0, s1, s2, s3, none, s5, s6] (hs.map A.str) [] g = .ok ((hs.map numO).map opI) g := by
 have := lc_eq (mg := gN 4) (mt := mQT fun _ _ => some true) (me := mFrz (mCall 1 m_number_of (maCons (mQ (qVar 4)) maNil))) (σ := [s0, s1, s2, s3, none, s5, s6]) (g := g) (enc := A.str) (tt := fun _ => true) (ee := fun p => opI (numO p)) hs [] (fun p hp => by
  simp [number_of_eq p (hm p hp)]) (by simpa using hl)
 rw [this]
 simp
theorem lc_nums2 {w0 w1 : Str} {s0 s1 s2 s3 s5 s6 : Option Fv} (hm : ∀ p ∈ [w0, w1], p.length ≤ 100000) (g : G) :
  mLcL (gN 4) (mQT fun _ _ => some true) (mFrz (mCall 1 m_number_of (maCons (mQ (qVar 4)) maNil))) [s0, s1, s2, s3, none, s5, s6] [.str w0, .str w1] [] g = .ok [opI (numO w0), opI (numO w1)] g :=
 lc_nums (hs := [w0, w1]) (by simp) hm g
theorem lc_deeds {ps : List Str} {s0 s1 s2 s3 s4 s5 : Option Fv} (hl : ps.length ≤ 100000) (hm : ∀ p ∈ ps, p.length ≤ 90000) (g : G) :
  mLcL (gN 6) (mQT fun _ _ => some true) (mFrz (mCall 1 m_deed_of (maCons (mQ (qVar 6)) maNil))) [s0, s1, s2, s3, s4, s5, none] (ps.map A.str) [] g = .ok ((ps.map deedO).map opD) g := by
 have := lc_eq (mg := gN 6) (mt := mQT fun _ _ => some true) (me := mFrz (mCall 1 m_deed_of (maCons (mQ (qVar 6)) maNil))) (σ := [s0, s1, s2, s3, s4, s5, none]) (g := g) (enc := A.str) (tt := fun _ => true) (ee := fun p => opD (deedO p)) ps [] (fun p hp => by
  simp [deed_of_eq p (hm p hp)]) (by simpa using hl)
 rw [this]
 simp
theorem len2 {α : Type} {l : List α} (h : l.length = 2) : ∃ a b, l = [a, b] := by
 match l, h with
 | [a, b], _ => exact ⟨a, b, rfl⟩
theorem deal_of_eq (r : Str) (hr : r.length ≤ 90000) (g : G) : m_deal_of [.str r] g = .ok (.val (opL (dealO r))) g := by
 unfold m_deal_of dealO hdsOf dsOf
 rw [ap_mFun]
 have hn := nSplit_eq sep_cl (x := r) (by omega)
 obtain ⟨hne, hsum, hcnt⟩ := split_len sep_cl r
 have hmem : ∀ p ∈ Txt.split r ": ", p.length ≤ 90000 := fun p hp => Nat.le_trans (split_mem sep_cl hp) hr
 generalize Txt.split r ": " = ps at hn hne hcnt hmem
 have hpos : 0 < ps.length := List.length_pos_iff.mpr hne
 have h0 := fIx_w (ws := ps) (i := 0) (by decide) (by omega)
 simp only [Int.toNat_zero] at h0
 have hp0 : (wAt ps 0).length ≤ 90000 := by
  unfold wAt
  rw [List.getD_eq_getElem?_getD, List.getElem?_eq_getElem hpos]
  exact hmem _ (List.getElem_mem _)
 have hn2 := nSplit_eq sep_sp (x := wAt ps 0) (by omega)
 obtain ⟨hne2, _, hcnt2⟩ := split_len sep_sp (wAt ps 0)
 have hmem2 : ∀ p ∈ Txt.split (wAt ps 0) " ", p.length ≤ 100000 := fun p hp => Nat.le_trans (split_mem sep_sp hp) (by omega)
 generalize Txt.split (wAt ps 0) " " = hs at hn2 hne2 hcnt2 hmem2
 by_cases hl : ps.length = 2
 ·by_cases hl2 : hs.length = 2
  ·obtain ⟨p0, p1, rfl⟩ := len2 hl
   obtain ⟨w0, w1, rfl⟩ := len2 hl2
   have hp1 : p1.length ≤ 90000 := hmem p1 (by simp)
   have hn3 := nSplit_eq sep_sc (x := p1) (by omega)
   obtain ⟨_, _, hcnt3⟩ := split_len sep_sc p1
   have hmem3 : ∀ p ∈ Txt.split p1 "; ", p.length ≤ 90000 := fun p hp => Nat.le_trans (split_mem sep_sc hp) hp1
   have e1 : wAt [p0, p1] 1 = p1 := rfl
   rw [e1]
   generalize Txt.split p1 "; " = qs at hn3 hcnt3 hmem3
   have e2 : wAt [p0, p1] 0 = p0 := rfl
   rw [e2] at h0 hn2
   have hin : fInD .non (.lst [opI (numO w0), opI (numO w1)]) = some (.bl (decide (none ∈ [numO w0, numO w1]))) := in_opI (l := [numO w0, numO w1]) (by simp)
   have hin2 : fInD .non (.lst (qs.map (opD ∘ deedO))) = some (.bl (decide (none ∈ qs.map deedO))) := by
    rw [← List.map_map]
    exact in_opD (l := qs.map deedO) (by simp; omega) (fun x hx e he => by
     obtain ⟨q, _, rfl⟩ := List.mem_map.mp hx
     exact deedO_ok he)
   have hq : qs.length ≤ 100000 := by omega
   simp only [List.map_cons, List.map_nil] at h0 hn hn2
   have h1 : fIx (.lst [A.str p0, A.str p1]) (.int 1) = some (.str p1) := by simp [fIx]
   simp [startA, hn, h0, h1, hn2, hl, hl2, hn3, vsOk, noOwn, wipeA, lc_nums2 hmem2, lc_deeds hq hmem3, hin]
   have w00 : wAt [w0, w1] 0 = w0 := rfl
   have w11 : wAt [w0, w1] 1 = w1 := rfl
   rw [w00, w11]
   cases ha : numO w0 with
   | none => simp [mkD, opL]
   | some a =>
    cases hb : numO w1 with
    | none => simp [mkD, opL]
    | some b =>
     cases hd : allS (qs.map deedO) with
     | none =>
      rw [decide_eq_true (allS_none.mp hd)] at hin2
      simp [hin2, mkD, opL]
     | some ds =>
      have e := allS_some hd
      have e3 : none ∉ qs.map deedO := by rw [e]; simp
      have e4 : qs.map (opD ∘ deedO) = ds.map eDd := by
       rw [← List.map_map, e, List.map_map]
       rfl
      rw [e4, decide_eq_false e3] at hin2
      simp [hin2, e4, mkD, opL, eDl, opI, fIx]
  ·have hl2' : ¬ (hs.length : Int) = 2 := by omega
   simp [startA, hn, h0, hn2, hl, hl2, hl2', opL]
 ·have hl' : ¬ (ps.length : Int) = 2 := by omega
  simp [startA, hn, h0, hn2, hl, hl', opL]
end N
end
section
noncomputable section
namespace N
open PySem PySem.Spec PyProof.Rows L2 Cm W
def law_5_5 : MS := (mIfS (mOr (mNot (mTr (mFrz (mCall 2 p_alike (maCons (mFrz (mCall 1 m_told_ (maCons (mQ (qVar 4)) maNil))) (maCons (mQ (qVar 6)) maNil)))))) (mNot (mTr (mFrz (mCall 2 p_alike (maCons (mFrz (mCall 1 m_told_ (maCons (mQ (qVar 4)) maNil))) (maCons (mQ (qVar 6)) maNil))))))) (mRet (mVal (mQ (qC (.bl false))))) mNext)
def law_5_4 : MS := mSeq (mAsg 6 (mVal (mFrz (mCall 1 m_due_ (maCons (mQ (qVar 4)) maNil))))) law_5_5
def law_5_3 : MS := mSeq (mIfS (mTest (m2 fEq (mFrz (mCall 2 p_take (maCons (mQ (qVar 1)) (maCons (mQ (qC (.int 3))) maNil)))) (mQ (qC (.int 0))))) (mAsg 4 (mVal (mFrz (mCall 2 m_wrong_ (maCons (mQ (qVar 1)) (maCons (mQ (qVar 4)) maNil)))))) mNext) law_5_4
def law_5_2 : MS := mSeq (mFor (iR1 (maCons (mFrz (mCall 2 p_take (maCons (mQ (qVar 1)) (maCons (mQ (qC (.int 4))) maNil)))) maNil)) (gN 5) (mAsg 4 (mVal (mFrz (mCall 2 m_spoilt_ (maCons (mQ (qVar 1)) (maCons (mQ (qVar 4)) maNil))))))) law_5_3
def law_5_1 : MS := mSeq (mAsg 4 (mVal (m2 fIx (mFrz (mL (fun a => (fLst a).map (Fv.own false)) (maCons (mFrz (mCall 1 m_text_ (maCons (mFrz (mCall 1 m_deals_ (maCons (mQ (qVar 1)) maNil))) maNil))) (maCons (m2 fIx (mQ (qVar 2)) (mFrz (mCall 2 p_take (maCons (mQ (qVar 1)) (maCons (mQ (qC (.int 16))) maNil))))) maNil)))) (m2 (fIc cDiv fun i j => .int (i / j)) (mFrz (mCall 2 p_take (maCons (mQ (qVar 1)) (maCons (mQ (qC (.int 3))) maNil)))) (mQ (qC (.int 2))))))) law_5_2
def law_6 : MS := (mRet (mVal (mQ (qC (.bl true)))))
def law_5 : MS := mSeq (mFor (iR1 (maCons (mQ (qC (.int 5))) maNil)) (gN 3) law_5_1) law_6
def law_4 : MS := mSeq (mAsg 2 (mVal (mQ (qNew (o2 nAdd (qVar 2) (qNew (oL fLst (aCons (o2 fMulT (qC (.str "0 1: drop 1; ")) (qC (.int 2))) (aCons (qC (.str "0 1: drop 32")) aNil))))))))) law_5
def law_3 : MS := mSeq (mAsg 2 (mVal (mQ (qNew (o2 nAdd (qVar 2) (qNew (oL fLst (aCons (qC (.str "0 1: add 2 -5")) (aCons (qC (.str "4 1: drop 0")) (aCons (qC (.str "0 1: put 1 -2 0")) (aCons (qC (.str " 0 1: drop 2")) (aCons (qC (.str "0 1: drop 2;drop 3")) aNil)))))))))))) law_4
def law_2 : MS := mSeq (mAsg 2 (mVal (mQ (qNew (oL fLst (aCons (qC (.str "")) (aCons (qC (.str " ")) (aCons (qC (.str "\n")) (aCons (qC (.str "0 1")) (aCons (qC (.str "0 1:")) (aCons (qC (.str "0 1: ")) (aCons (qC (.str "0 1:drop 2")) (aCons (qC (.str "0 1: drop 2\n")) (aCons (qC (.str "0 1: if 2 -")) aNil)))))))))))))) law_3
def law_1 : MS := mSeq (mAsg 1 (mVal (mFrz (mCall 1 p_begun (maCons (mQ (qVar 0)) maNil))))) law_2
theorem law_cut : m_law = mFun 7 law_1 := rfl
end N
end
noncomputable section
namespace N
open PySem PySem.Spec PyProof.Rows L2 Cm W
def row_6_5 : MS := (mMutE lApp 5 (maCons (mL (one fTupOf) (maCons (mFrz (m2 (fun a b => (nAdd a b).map (Fv.own false)) (mQ (qNew (oL fLst (aCons (o2 fIx (qVar 7) (qC (.int 0))) aNil)))) (mFrz (mLc (iSq (qVar 8)) (gN 10) (mQT fun _ _ => some true) (mQ (o2 fIx (qVar 10) (qC (.int 0)))) [10])))) maNil)) maNil))
def row_6_4 : MS := mSeq (mIfS (mQT (o1 tB (o2 fInD (qNew (oL fLst aNil)) (qVar 8)))) (mRet (mVal (mQ (qC .non)))) mNext) row_6_5
def row_6_3 : MS := mSeq (mAsg 8 (mVal (mFrz (mLc (iR1 (maCons (mQ (o2 (fI fun i j => .int (i - j)) (oL (one fLen) (aCons (qVar 7) aNil)) (qC (.int 1)))) maNil)) (gN 9) (mQT fun _ _ => some true) (mFrz (mCall 2 m_part_ (maCons (mQ (o2 fIx (qVar 7) (o2 fAdd (qVar 9) (qC (.int 1))))) (maCons (mQ (o2 fIx (o2 fIx (qVar 4) (o2 fIx (qVar 7) (qC (.int 0)))) (qVar 9))) maNil)))) [9])))) row_6_4
def row_6_2 : MS := mSeq (mIfS (mQT (qOr (o1 tB (o2 fNotIn (o2 fIx (qVar 7) (qC (.int 0))) (qVar 4))) (o1 tB (o2 fNe (oL (one fLen) (aCons (qVar 7) aNil)) (o2 fAdd (oL (one fLen) (aCons (o2 fIx (qVar 4) (o2 fIx (qVar 7) (qC (.int 0)))) aNil)) (qC (.int 1))))))) (mRet (mVal (mQ (qC .non)))) mNext) row_6_3
def row_6_1 : MS := mSeq (mAsg 7 (mVal (mFrz (mM1 (fun x => (nSplit " " x).map (Fv.own false)) (mQ (qVar 6)))))) row_6_2
def row_7 : MS := (mRet (mVal (mQ (oL fTup (aCons (oL fIntT (aCons (o2 fIx (qVar 2) (qC (.int 0))) aNil)) (aCons (oL fIntT (aCons (o2 fIx (qVar 2) (qC (.int 1))) aNil)) (aCons (oL (one fTupOf) (aCons (wVar 5) aNil)) aNil)))))))
def row_6 : MS := mSeq (mFor (iL (mFrz (mM1 (fun x => (nSplit "; " x).map (Fv.own false)) (mQ (o2 fIx (qVar 1) (qC (.int 1))))))) (gN 6) row_6_1) row_7
def row_5 : MS := mSeq (mAsg 5 (mNew (oL fLst aNil))) row_6
def row_4 : MS := mSeq (mAsg 4 (mVal (mFrz (mDisp [("put", (mQ (qNew (oL fLst (aCons (qC (.str "key")) (aCons (qC (.str "key")) (aCons (qC (.str "key")) aNil))))))), ("drop", (mQ (qNew (oL fLst (aCons (qC (.str "key")) aNil))))), ("add", (mQ (qNew (oL fLst (aCons (qC (.str "key")) (aCons (qC (.str "more")) aNil)))))), ("if", (mQ (qNew (oL fLst (aCons (qC (.str "key")) (aCons (qC (.str "worth")) aNil))))))])))) row_5
def row_3 : MS := mSeq (mIfS (mOr (mQT (o1 tB (o2 fNe (oL (one fLen) (aCons (qVar 1) aNil)) (qC (.int 2))))) (mOr (mQT (o1 tB (o2 fNe (oL (one fLen) (aCons (qVar 2) aNil)) (qC (.int 2))))) (mTest (m2 fIn (mQ (qC .non)) (mFrz (mLc (iSq (qVar 2)) (gN 3) (mQT fun _ _ => some true) (mFrz (mCall 1 m_number_ (maCons (mQ (qVar 3)) maNil))) [3])))))) (mRet (mVal (mQ (qC .non)))) mNext) row_4
def row_2 : MS := mSeq (mAsg 2 (mVal (mFrz (mM1 (fun x => (nSplit " " x).map (Fv.own false)) (mQ (o2 fIx (qVar 1) (qC (.int 0)))))))) row_3
def row_1 : MS := mSeq (mAsg 1 (mVal (mFrz (mM1 (fun x => (nSplit ": " x).map (Fv.own false)) (mQ (qVar 0)))))) row_2
theorem row_cut : m_row_ = mFun 11 row_1 := rfl
end N
end
noncomputable section
namespace N
open PySem PySem.Spec PyProof.Rows L2 Cm W
def read_deals_2_3 : MS := (mMut lApp (pVar 1) (aCons (qVar 4) aNil))
def read_deals_2_2 : MS := mSeq (mIfS (mQT (o1 tB (o2 fIsNo (qVar 4) (qC .non)))) (mRx "BadText" "row" (mQ (qVar 2))) mNext) read_deals_2_3
def read_deals_2_1 : MS := mSeq (mAsg 4 (mVal (mFrz (mCall 1 m_deal_of (maCons (mQ (qVar 3)) maNil))))) read_deals_2_2
def read_deals_3_2 : MS := (mDrop (mCall 1 m_need_deal (maCons (mQ (qVar 7)) maNil)))
def read_deals_3_1 : MS := mSeq (mDrop (mCall 1 m_need_hand (maCons (mQ (qVar 5)) maNil))) read_deals_3_2
def read_deals_4 : MS := (mRetO 1)
def read_deals_3 : MS := mSeq (mLockL (pVar 1) (mFor (iLp (pVar 1)) (gT 3 (gsC (gN 5) (gsC (gN 6) (gsC (gN 7) gs0)))) read_deals_3_1)) read_deals_4
def read_deals_2 : MS := mSeq (mFor (iE seqA (maCons (mFrz (mIf (mQT (o1 tB (o2 fNe (qVar 0) (qC (.str ""))))) (mM1 (fun x => (nSplit "\n" x).map (Fv.own false)) (mQ (qVar 0))) (mNew (oL fLst aNil)))) maNil)) (gT 2 (gsC (gN 2) (gsC (gN 3) gs0))) read_deals_2_1) read_deals_3
def read_deals_1 : MS := mSeq (mAsg 1 (mNew (oL fLst aNil))) read_deals_2
theorem read_deals_cut : m_read_deals = mFun 8 read_deals_1 := rfl
end N
end
noncomputable section
namespace N
open PySem PySem.Spec PyProof.Rows L2 Cm W
def fault_2_4 : MS := (mIfS (mQT (qOr (o1 tB (o2 (fI fun i j => .bl (decide (j < i))) (qVar 1) (qC (.int 3)))) (o1 tB (o2 fNe (qVar 4) (qNew (oL fLst aNil)))))) (mRet (mVal (mQ (oL fTup (aCons (qC (.str "BadDeal")) (aCons (qVar 1) aNil)))))) mNext)
def fault_2_3 : MS := mSeq (mAsg 4 (mVal (mFrz (mLc (iR1 (maCons (mQ (oL (one fLen) (aCons (qVar 3) aNil))) maNil)) (gN 5) (mQT (qAnd (o1 tB (o2 fNotNo (o2 fIx (qVar 2) (o2 fAdd (qVar 5) (qC (.int 1)))) (qC .non))) (o1 tB (o2 (fI fun i j => .bl (decide (j < i))) (oL (one fAbs) (aCons (o2 fIx (qVar 2) (o2 fAdd (qVar 5) (qC (.int 1)))) aNil)) (o2 fIx (qVar 3) (qVar 5)))))) (mQ (qVar 5)) [5])))) fault_2_4
def fault_2_2 : MS := mSeq (mAsg 3 (mVal (m2 fIx (mFrz (mDisp [("put", (mQ (oL fTup (aCons (qC (.int 31)) (aCons (qC (.int 999)) (aCons (qC (.int 1000)) aNil)))))), ("drop", (mQ (oL fTup (aCons (qC (.int 31)) aNil)))), ("add", (mQ (oL fTup (aCons (qC (.int 31)) (aCons (qC (.int 999)) aNil))))), ("if", (mQ (oL fTup (aCons (qC (.int 31)) (aCons (qC (.int 999)) aNil)))))])) (mQ (o2 fIx (qVar 2) (qC (.int 0))))))) fault_2_3
def fault_2_1 : MS := mSeq (mAsg 2 (mVal (mQ (o2 fIx (o2 fIx (qVar 0) (qC (.int 2))) (qVar 1))))) fault_2_2
def fault_3 : MS := (mRet (mVal (mQ (qC .non))))
def fault_2 : MS := mSeq (mFor (iR1 (maCons (mQ (oL (one fLen) (aCons (o2 fIx (qVar 0) (qC (.int 2))) aNil))) maNil)) (gN 1) fault_2_1) fault_3
def fault_1 : MS := mSeq (mIfS (mQT (o1 tB (o2 (fI fun i j => .bl (decide (j < i))) (o2 fIx (qVar 0) (qC (.int 0))) (qC (.int 3))))) (mRet (mVal (mQ (oL fTup (aCons (qC (.str "BadHand")) (aCons (qC (.int 0)) aNil)))))) mNext) fault_2
theorem fault_cut : m_fault_ = mFun 6 fault_1 := rfl
end N
end
noncomputable section
namespace N
open PySem PySem.Spec PyProof.Rows L2 Cm W
def due_4 : MS := (mRet (mVal (mQ (qIf (o1 tB (o2 fNe (qVar 3) (qNew (oL fLst aNil)))) (o2 fIx (qVar 3) (qC (.int 0))) (qVar 1)))))
def due_3 : MS := mSeq (mAsg 3 (mVal (mFrz (mLc (iSq (qVar 1)) (gN 4) (mTest (m2 fNotNo (mFrz (mCall 1 m_fault_ (maCons (mQ (qVar 4)) maNil))) (mQ (qC .non)))) (mFrz (mCall 1 m_fault_ (maCons (mQ (qVar 4)) maNil))) [4])))) due_4
def due_2 : MS := mSeq (mIfS (mQT (o1 tB (o2 fInD (qC .non) (qVar 1)))) (mRet (mVal (mQ (oL fTup (aCons (qC (.str "BadText")) (aCons (o2 fIdxD (qVar 1) (qC .non)) aNil)))))) mNext) due_3
def due_1 : MS := mSeq (mAsg 1 (mVal (mFrz (mIf (mQT (o1 tB (o2 fNe (qVar 0) (qC (.str ""))))) (mLc (iL (mFrz (mM1 (fun x => (nSplit "\n" x).map (Fv.own false)) (mQ (qVar 0))))) (gN 2) (mQT fun _ _ => some true) (mFrz (mCall 1 m_row_ (maCons (mQ (qVar 2)) maNil))) [2]) (mNew (oL fLst aNil)))))) due_2
theorem due_cut : m_due_ = mFun 5 due_1 := rfl
end N
end
noncomputable section
namespace N
open PySem PySem.Spec PyProof.Rows L2 Cm W
def deals_2_2 : MS := (mMutE lApp 1 (maCons (mL fTup (maCons (mFrz (mCall 2 p_take (maCons (mQ (qVar 0)) (maCons (mQ (qC (.int 4))) maNil)))) (maCons (mQ (qVar 3)) (maCons (mFrz (mCall 2 m_drawn_ (maCons (mQ (qVar 0)) (maCons (mFrz (mCall 0 m_store_ maNil)) maNil)))) maNil)))) maNil))
def deals_2_1 : MS := mSeq (mAsg 3 (mVal (m2 fIx (mFrz (mL (fun a => (fLst a).map (Fv.own false)) (maCons (m2 fAdd (mQ (qC (.int 1))) (mFrz (mCall 2 p_take (maCons (mQ (qVar 0)) (maCons (mQ (qC (.int 9))) maNil))))) (maCons (mFrz (mCall 2 p_take (maCons (mQ (qVar 0)) (maCons (mQ (qC (.int 10000))) maNil)))) maNil)))) (mFrz (mCall 2 p_take (maCons (mQ (qVar 0)) (maCons (mQ (qC (.int 2))) maNil))))))) deals_2_2
def deals_3 : MS := (mRetO 1)
def deals_2 : MS := mSeq (mFor (iR1 (maCons (mFrz (mCall 2 p_take (maCons (mQ (qVar 0)) (maCons (mQ (qC (.int 13))) maNil)))) maNil)) (gN 2) deals_2_1) deals_3
def deals_1 : MS := mSeq (mAsg 1 (mNew (oL fLst aNil))) deals_2
theorem deals_cut : m_deals_ = mFun 4 deals_1 := rfl
end N
end
noncomputable section
namespace N
open PySem PySem.Spec PyProof.Rows L2 Cm W
def text_2_2 : MS := (mMut lApp (pVar 1) (aCons (o2 fAdd (o2 fAdd (o2 fAdd (o2 fAdd (oL fStr1 (aCons (qVar 2) aNil)) (qC (.str " "))) (oL fStr1 (aCons (qVar 3) aNil))) (qC (.str ": "))) (o1 (fJoin "; ") (qVar 5))) aNil))
def text_2_1 : MS := mSeq (mAsg 5 (mVal (mFrz (mLc (iSq (qVar 4)) (gN 7) (mQT fun _ _ => some true) (mM1 (fJoin " ") (mFrz (mLc (iSq (qVar 7)) (gN 6) (mQT fun _ _ => some true) (mQ (qIf (o1 tB (o2 fIsNo (qVar 6) (qC .non))) (qC (.str "-")) (oL fStr1 (aCons (qVar 6) aNil)))) [6]))) [7])))) text_2_2
def text_3 : MS := (mRet (mVal (mQ (o1 (fJoin "\n") (wVar 1)))))
def text_2 : MS := mSeq (mFor (iSq (qVar 0)) (gT 3 (gsC (gN 2) (gsC (gN 3) (gsC (gN 4) gs0)))) text_2_1) text_3
def text_1 : MS := mSeq (mAsg 1 (mNew (oL fLst aNil))) text_2
theorem text_cut : m_text_ = mFun 8 text_1 := rfl
end N
end
noncomputable section
namespace N
open PySem PySem.Spec PyProof.Rows L2 Cm W
def spoilt_6a_4 : MS := (mRet (mVal (mQ (o1 (fJoin "\n") (qNew (o2 nAdd (qNew (o2 nAdd (qNew (qSl nSl (qVar 4) oNo (oPt (qVar 5)))) (qNew (oL fLst (aCons (o1 (fJoin " ") (wDe (qVar 6))) aNil))))) (qNew (qSl nSl (qVar 4) (oPt (o2 fAdd (qVar 5) (qC (.int 1)))) oNo))))))))
def spoilt_6a_3 : MS := mSeq (mSubE (pVar 6) (mFrz (mCall 2 p_take (maCons (mQ (qVar 0)) (maCons (mQ (oL (one fLen) (aCons (wDe (qVar 6)) aNil))) maNil)))) (m2 fIx (mQ (qNew (o2 nAdd (qVar 7) (qNew (oL fLst (aCons (qC (.str "5;")) (aCons (qC (.str ";")) (aCons (qC (.str "x")) (aCons (qC (.str "1001")) (aCons (qC (.str "--1")) aNil)))))))))) (mFrz (mCall 2 p_take (maCons (mQ (qVar 0)) (maCons (mQ (qC (.int 21))) maNil)))))) spoilt_6a_4
def spoilt_6a_2 : MS := mSeq (mAsg 7 (mVal (mQ (qNew (oL fLst (aCons (qC (.str "")) (aCons (qC (.str "put")) (aCons (qC (.str "drop")) (aCons (qC (.str "add")) (aCons (qC (.str "if")) (aCons (qC (.str "take")) (aCons (qC (.str "0")) (aCons (qC (.str "00")) (aCons (qC (.str "07")) (aCons (qC (.str "-1")) (aCons (qC (.str "-")) (aCons (qC (.str "-0")) (aCons (qC (.str "9999")) (aCons (qC (.str "10000")) (aCons (qC (.str "32")) (aCons (qC (.str "4:")) aNil))))))))))))))))))))) spoilt_6a_3
def spoilt_6a_1 : MS := mSeq (mAsg 6 (mVal (mLabV (mM1 (fun x => (nSplit " " x).map (Fv.own false)) (mQ (o2 fIx (qVar 4) (qVar 5))))))) spoilt_6a_2
def spoilt_7a_2 : MS := (mRet (mVal (mM1 (fJoin "\n") (mFrz (m2 (fun a b => (nAdd a b).map (Fv.own false)) (mFrz (m2 (fun a b => (nAdd a b).map (Fv.own false)) (mQ (qNew (qSl nSl (qVar 4) oNo (oPt (qVar 5))))) (mFrz (mL (fun a => (fLst a).map (Fv.own false)) (maCons (m2 fAdd (mQ (o2 fIx (qVar 4) (qVar 5))) (m2 fIx (mQ (qVar 8)) (mFrz (mCall 2 p_take (maCons (mQ (qVar 0)) (maCons (mQ (qC (.int 8))) maNil)))))) maNil))))) (mQ (qNew (qSl nSl (qVar 4) (oPt (o2 fAdd (qVar 5) (qC (.int 1)))) oNo))))))))
def spoilt_7a_1 : MS := mSeq (mAsg 8 (mVal (mQ (qNew (oL fLst (aCons (qC (.str "; drop 2")) (aCons (qC (.str "; put 1 2")) (aCons (qC (.str "; add 3 -")) (aCons (qC (.str "; if 2 -3")) (aCons (qC (.str "; drop -1")) (aCons (qC (.str ";")) (aCons (qC (.str "; ")) (aCons (qC (.str ": drop 1")) aNil))))))))))))) spoilt_7a_2
def spoilt_10 : MS := (mRet (mVal (mQ (o2 fAdd (o2 fAdd (qSl fSlT (qVar 1) oNo (oPt (qVar 3))) (qVar 10)) (qSl fSlT (qVar 1) (oPt (o2 fAdd (qVar 3) (oL (one fInt1) (aCons (o2 (fI fun i j => .bl (decide (j < i))) (qVar 2) (qC (.int 4))) aNil)))) oNo)))))
def spoilt_9 : MS := mSeq (mAsg 10 (mVal (m2 fIx (mFrz (mL (fun a => (fLst a).map (Fv.own false)) (maCons (m2 fIxT (mQ (qVar 9)) (mFrz (mCall 2 p_take (maCons (mQ (qVar 0)) (maCons (mQ (oL (one fLen) (aCons (qVar 9) aNil))) maNil))))) (maCons (mQ (qC (.str ""))) (maCons (m2 fIxT (mQ (qVar 9)) (mFrz (mCall 2 p_take (maCons (mQ (qVar 0)) (maCons (mQ (qC (.int 15))) maNil))))) maNil))))) (mQ (o2 (fI fun i j => .int (i - j)) (qVar 2) (qC (.int 4))))))) spoilt_10
def spoilt_8 : MS := mSeq (mAsg 9 (mVal (mQ (qC (.str "0123456789 -;:\nabcdefghijklmnopqrstuvwxyz!#$&'()*+,./<=>?@ABCDEFGHIJKLMNOPQRSTUVWXYZ[]^_`{|}~"))))) spoilt_9
def spoilt_7 : MS := mSeq (mIfS (mQT (o1 tB (o2 fEq (qVar 2) (qC (.int 3))))) spoilt_7a_1 mNext) spoilt_8
def spoilt_6 : MS := mSeq (mIfS (mQT (o1 tB (o2 fEq (qVar 2) (qC (.int 2))))) spoilt_6a_1 mNext) spoilt_7
def spoilt_5 : MS := mSeq (mIfS (mQT (o1 tB (o2 (fI fun i j => .bl (decide (i < j))) (qVar 2) (qC (.int 2))))) (mRet (mVal (mQ (o1 (fJoin "\n") (qNew (o2 nAdd (qNew (qSl nSl (qVar 4) oNo (oPt (o2 fAdd (qVar 5) (qVar 2))))) (qNew (qSl nSl (qVar 4) (oPt (o2 (fI fun i j => .int (i - j)) (o2 fAdd (qVar 5) (qC (.int 1))) (qVar 2))) oNo)))))))) mNext) spoilt_6
def spoilt_4 : MS := mSeq (mAsg 5 (mVal (mFrz (mCall 2 p_take (maCons (mQ (qVar 0)) (maCons (mQ (oL (one fLen) (aCons (qVar 4) aNil))) maNil)))))) spoilt_5
def spoilt_3 : MS := mSeq (mAsg 4 (mVal (mFrz (mM1 (fun x => (nSplit "\n" x).map (Fv.own false)) (mQ (qVar 1)))))) spoilt_4
def spoilt_2 : MS := mSeq (mAsg 3 (mVal (mFrz (mCall 2 p_take (maCons (mQ (qVar 0)) (maCons (mQ (o2 fAdd (oL (one fLen) (aCons (qVar 1) aNil)) (qC (.int 1)))) maNil)))))) spoilt_3
def spoilt_1 : MS := mSeq (mAsg 2 (mVal (mFrz (mCall 2 p_take (maCons (mQ (qVar 0)) (maCons (mQ (qC (.int 7))) maNil)))))) spoilt_2
theorem spoilt_cut : m_spoilt_ = mFun 11 spoilt_1 := rfl
end N
end
noncomputable section
namespace N
open PySem PySem.Spec PyProof.Rows L2 Cm W
def wrong_4_2 : MS := (mAsg 2 (mVal (mFrz (m2 (fun a b => (nAdd a b).map (Fv.own false)) (mFrz (m2 (fun a b => (nAdd a b).map (Fv.own false)) (mQ (qNew (qSl nSl (qVar 2) oNo (oPt (qVar 5))))) (mFrz (mL (fun a => (fLst a).map (Fv.own false)) (maCons (m2 fIx (mQ (qVar 3)) (mFrz (mCall 2 p_take (maCons (mQ (qVar 0)) (maCons (mQ (qC (.int 9))) maNil))))) maNil))))) (mQ (qNew (qSl nSl (qVar 2) (oPt (qVar 5)) oNo)))))))
def wrong_4_1 : MS := mSeq (mAsg 5 (mVal (mFrz (mCall 2 p_take (maCons (mQ (qVar 0)) (maCons (mQ (o2 fAdd (oL (one fLen) (aCons (qVar 2) aNil)) (qC (.int 1)))) maNil)))))) wrong_4_2
def wrong_5 : MS := (mRet (mVal (mQ (o1 (fJoin "\n") (qVar 2)))))
def wrong_4 : MS := mSeq (mFor (iR1 (maCons (m2 fAdd (mQ (qC (.int 2))) (mFrz (mCall 2 p_take (maCons (mQ (qVar 0)) (maCons (mQ (qC (.int 2))) maNil))))) maNil)) (gN 4) wrong_4_1) wrong_5
def wrong_3 : MS := mSeq (mAsg 3 (mVal (mQ (qNew (o2 nAdd (qVar 3) (qNew (oL fLst (aCons (qC (.str "1 1: drop 1; drop 2; drop 3; drop 4; drop 5")) (aCons (qC (.str "2 0: put 31 999 1001")) (aCons (qC (.str "0 9: drop 1; drop 99")) aNil)))))))))) wrong_4
def wrong_2 : MS := mSeq (mAsg 3 (mVal (mQ (qNew (oL fLst (aCons (qC (.str "0 1: drop 32")) (aCons (qC (.str "9 1: drop 0")) (aCons (qC (.str "4 12: drop 3")) (aCons (qC (.str "7 2: put 0 1000 0")) (aCons (qC (.str "3 3: if 4 1000")) (aCons (qC (.str "2 2: add 5 1000")) aNil))))))))))) wrong_3
def wrong_1 : MS := mSeq (mAsg 2 (mVal (mFrz (mIf (mQT (o1 tB (o2 fNe (qVar 1) (qC (.str ""))))) (mM1 (fun x => (nSplit "\n" x).map (Fv.own false)) (mQ (qVar 1))) (mNew (oL fLst aNil)))))) wrong_2
theorem wrong_cut : m_wrong_ = mFun 6 wrong_1 := rfl
end N
end
end
section
namespace N
open PySem PySem.Spec PyProof.Rows L2 Cm W TL
inductive Rd4 : Str × List (Option Int) → Prop where
 | put {a b c : Int} : 0 ≤ a → 0 ≤ b → 0 ≤ c → Rd4 ("put", [some a, some b, some c])
 | drop {a : Int} : 0 ≤ a → Rd4 ("drop", [some a])
 | add {a b : Int} : 0 ≤ a → Rd4 ("add", [some a, some b])
 | iff {a : Int} {b : Option Int} : 0 ≤ a → (∀ i, b = some i → 0 ≤ i) → Rd4 ("if", [some a, b])
theorem prt_n {w : Str} {v : Option Int} (h : partO .n w = some v) : ∃ i, v = some i ∧ 0 ≤ i := by
 obtain ⟨i, h1, rfl⟩ := Option.map_eq_some_iff.mp (show (numO w).map some = some v from h)
 exact ⟨i, rfl, (numO_le h1).1⟩
theorem prt_s {w : Str} {v : Option Int} (h : partO .s w = some v) : ∃ i, v = some i := by
 unfold partO at h
 dsimp only at h
 split at h
 ·obtain ⟨n, _, h2⟩ := Option.bind_eq_some_iff.mp h
  split at h2
  ·cases h2
  ·cases h2; exact ⟨_, rfl⟩
 ·obtain ⟨i, _, rfl⟩ := Option.map_eq_some_iff.mp h
  exact ⟨i, rfl⟩
theorem prt_o {w : Str} {v : Option Int} (h : partO .o w = some v) : ∀ i, v = some i → 0 ≤ i := by
 unfold partO at h
 dsimp only at h
 intro i hi
 split at h
 ·cases h; cases hi
 ·obtain ⟨j, h1, rfl⟩ := Option.map_eq_some_iff.mp h
  cases hi
  exact (numO_le h1).1
theorem allS_1 {α : Type} {a : Option α} {vs : List α} (h : allS [a] = some vs) : ∃ x, a = some x ∧ vs = [x] := by
 cases a with
 | none => cases h
 | some x => cases h; exact ⟨x, rfl, rfl⟩
theorem allS_c {α : Type} {a : Option α} {l : List (Option α)} {vs : List α} (h : allS (a :: l) = some vs) : ∃ x xs, a = some x ∧ allS l = some xs ∧ vs = x :: xs := by
 cases a with
 | none => cases h
 | some x =>
  obtain ⟨ws, h1, rfl⟩ := Option.map_eq_some_iff.mp (show (allS l).map (x :: ·) = some vs from h)
  exact ⟨x, ws, rfl, h1, rfl⟩
theorem rng1 : rng 1 = [0] := by decide
theorem rng2 : rng 2 = [0, 1] := by decide
theorem rng3 : rng 3 = [0, 1, 2] := by decide
theorem deedO_rd {t : Str} {d : Str × List (Option Int)} (h : deedO t = some d) : Rd4 d := by
 unfold deedO at h
 generalize Txt.split t " " = ws at h
 split at h
 ·rename_i ks hk
  split at h
  ·obtain ⟨vs, h1, rfl⟩ := Option.map_eq_some_iff.mp h
   generalize wAt ws 0 = w at hk
   unfold kdsOf at hk
   split at hk
   ·rename_i e; subst e; cases hk
    have h1 : allS ((rng 3).map (prt [.n, .n, .n] ws)) = some vs := h1
    rw [rng3] at h1
    obtain ⟨x, _, e1, q1, rfl⟩ := allS_c h1
    obtain ⟨y, _, e2, q2, rfl⟩ := allS_c q1
    obtain ⟨z, e3, rfl⟩ := allS_1 q2
    obtain ⟨a, rfl, h4⟩ := prt_n e1
    obtain ⟨b, rfl, h5⟩ := prt_n e2
    obtain ⟨c, rfl, h6⟩ := prt_n e3
    exact .put h4 h5 h6
   ·split at hk
    ·rename_i e; subst e; cases hk
     have h1 : allS ((rng 1).map (prt [.n] ws)) = some vs := h1
     rw [rng1] at h1
     obtain ⟨x, e1, rfl⟩ := allS_1 h1
     obtain ⟨a, rfl, h4⟩ := prt_n e1
     exact .drop h4
    ·split at hk
     ·rename_i e; subst e; cases hk
      have h1 : allS ((rng 2).map (prt [.n, .s] ws)) = some vs := h1
      rw [rng2] at h1
      obtain ⟨x, _, e1, q1, rfl⟩ := allS_c h1
      obtain ⟨z, e3, rfl⟩ := allS_1 q1
      obtain ⟨a, rfl, h4⟩ := prt_n e1
      obtain ⟨b, rfl⟩ := prt_s e3
      exact .add h4
     ·split at hk
      ·rename_i e; subst e; cases hk
       have h1 : allS ((rng 2).map (prt [.n, .o] ws)) = some vs := h1
       rw [rng2] at h1
       obtain ⟨x, _, e1, q1, rfl⟩ := allS_c h1
       obtain ⟨z, e3, rfl⟩ := allS_1 q1
       obtain ⟨a, rfl, h4⟩ := prt_n e1
       exact .iff h4 (prt_o e3)
      ·cases hk
  ·cases h
 ·cases h
def fitD (d : Str × List (Option Int)) : Bool := match d.2 with
 | [some a, some b, some c] => decide (a ≤ 31 ∧ b ≤ 999 ∧ c ≤ 1000)
 | [some a] => decide (a ≤ 31)
 | [some a, some b] => decide (a ≤ 31 ∧ -999 ≤ b ∧ b ≤ 999)
 | [some a, none] => decide (a ≤ 31)
 | _ => false
theorem isd_eq {d : Str × List (Option Int)} (h : Rd4 d) (g : G) : m_is_deed [eDd d] g = .ok (.val (.bl (fitD d))) g := by
 unfold m_is_deed m_is_put m_is_if
 rw [ap_mFun]
 cases h with
 | @put a b c h1 h2 h3 =>
  by_cases z1 : a ≤ 31
  ·by_cases z2 : b ≤ 999
   ·by_cases z3 : c ≤ 1000 <;> simp [startA, words_in, eDd, opI, fitD, h1, h2, h3, z1, z2, z3, ap_mFun]
   ·simp [startA, words_in, eDd, opI, fitD, h1, h2, h3, z1, z2, ap_mFun]
  ·simp [startA, words_in, eDd, opI, fitD, h1, h2, h3, z1, ap_mFun]
 | @drop a h1 =>
  by_cases z1 : a ≤ 31 <;> simp [startA, words_in, eDd, opI, fitD, h1, z1, ap_mFun]
 | @add a b h1 =>
  by_cases z1 : a ≤ 31
  ·by_cases z2 : -999 ≤ b <;> simp [startA, words_in, eDd, opI, fitD, h1, z1, z2, ap_mFun]
  ·simp [startA, words_in, eDd, opI, fitD, h1, z1, ap_mFun]
 | @iff a b h1 h2 =>
  by_cases z1 : a ≤ 31
  ·cases b with
   | none => simp [startA, words_in, eDd, opI, fitD, h1, z1, ap_mFun, isNon]
   | some i =>
    have := h2 i rfl
    have h9 : -999 ≤ i := by omega
    by_cases z2 : i ≤ 999 <;> simp [startA, words_in, eDd, opI, fitD, h1, z1, z2, ap_mFun, isNon, this, h9]
  ·cases b <;> simp [startA, words_in, eDd, opI, fitD, h1, z1, ap_mFun]
def fitB (n : Nat) (d : Str × List (Option Int)) : Bool := decide (n < 4) && fitD d
def badP (n : Nat) : List (Str × List (Option Int)) → Option Int
 | [] => none
 | d :: r => if fitB n d then badP (n + 1) r else some (n : Int)
theorem need_for (g : G) (s0 : Option Fv) : ∀ (ds : List (Str × List (Option Int))) (n : Nat) (x1 x2 : Option Fv), (∀ d ∈ ds, Rd4 d) → okS (some x1) = some () → okS (some x2) = some () →
  ∃ o, mForL (gT 2 (gsC (gN 1) (gsC (gN 2) gs0))) (mIfS (mOr (mQT (o1 tB (o2 (fI fun i j => .bl (decide (j ≤ i))) (qVar 1) (qC (.int 4))))) (mNot (mTr (mFrz (mCall 1 m_is_deed (maCons (mQ (qVar 2)) maNil))))))
   (mRx "BadDeal" "place" (mQ (qVar 1))) mNext) ((ds.map eDd).zipIdx n |>.map fun q => .tup [.int (q.2 : Nat), q.1]) [s0, x1, x2] g = o ∧ match badP n ds with
   | some p => o = .err ⟨"BadDeal", some ("place", p)⟩ g
   | none => ∃ y1 y2, o = .ok (.nx [s0, y1, y2]) g
 | [], n, x1, x2, _, _, _ => ⟨_, rfl, x1, x2, rfl⟩
 | d :: ds, n, x1, x2, hd, h1, h2 => by
  simp only [List.map_cons, List.zipIdx_cons]
  rw [ap_forC]
  have eg : gT 2 (gsC (gN 1) (gsC (gN 2) gs0)) (.tup [.int (n : Nat), eDd d]) [s0, x1, x2] = some [s0, some (.val (.int n)), some (.val (eDd d))] := by simp [h1, h2]
  rw [eg, ofO_some, bind_ok, kBody_ap]
  unfold badP fitB
  by_cases hn : n < 4
  ·have hn' : ¬ (4 : Int) ≤ n := by omega
   cases hf : fitD d with
   | true =>
    obtain ⟨o, e1, e2⟩ := need_for g s0 ds (n + 1) (some (.val (.int n))) (some (.val (eDd d))) (fun x hx => hd x (List.mem_cons_of_mem _ hx)) rfl rfl
    refine ⟨o, ?_, ?_⟩
    ·rw [← e1]
     simp [hn', isd_eq (hd d List.mem_cons_self), hf, trA]
    ·simp only [hn, decide_true, Bool.true_and, if_true]
     exact e2
   | false =>
    refine ⟨_, rfl, ?_⟩
    simp [hn, hn', isd_eq (hd d List.mem_cons_self), hf, trA]
  ·have hn' : (4 : Int) ≤ n := by omega
   refine ⟨_, rfl, ?_⟩
   simp [hn, hn']
end N
end
section
namespace N
open PySem PySem.Spec PyProof.Rows L2 Cm W TL
theorem enumA_zip (xs : List A) : enumA xs = (xs.zipIdx 0).map fun q => .tup [.int (q.2 : Nat), q.1] := by
 refine List.ext_getElem? fun i => ?_
 rw [List.getElem?_map, List.getElem?_zipIdx]
 unfold enumA
 rw [List.getElem?_zipWith]
 by_cases h : i < xs.length
 ·rw [List.getElem?_eq_getElem h, List.getElem?_eq_getElem (by simpa using h)]
  simp
 ·have h' : xs.length ≤ i := by omega
  simp [List.getElem?_eq_none h', List.getElem?_eq_none (show (List.range xs.length).length ≤ i by simpa using h')]
theorem need_deal_eq {ds : List (Str × List (Option Int))} (hne : ds ≠ []) (hd : ∀ d ∈ ds, Rd4 d) (g : G) : m_need_deal [.tup (ds.map eDd)] g = match badP 0 ds with
  | some p => .err ⟨"BadDeal", some ("place", p)⟩ g
  | none => .ok (.val .non) g := by
 unfold m_need_deal
 rw [ap_mFun]
 simp [startA, enumA_zip]
 obtain ⟨o, e1, e2⟩ := need_for g (some (.val (.tup (ds.map eDd)))) ds 0 none none hd rfl rfl
 rw [e1]
 cases hb : badP 0 ds with
 | some p =>
  rw [hb] at e2
  have e2 : o = _ := e2
  subst e2
  rfl
 | none =>
  rw [hb] at e2
  obtain ⟨y1, y2, rfl⟩ := e2
  simp [hne]
def faultO (d : Dl) : Option (Str × Int) := if 3 < d.h then some ("BadHand", 0) else (badP 0 d.ds).map fun p => ("BadDeal", p)
def opF : Option (Str × Int) → A
 | some p => .tup [.str p.1, .int p.2]
 | none => .non
def mostK : List (Key × A) := [(.inr "put", .tup [.int 31, .int 999, .int 1000]), (.inr "drop", .tup [.int 31]), (.inr "add", .tup [.int 31, .int 999]), (.inr "if", .tup [.int 31, .int 999])]
theorem mrg_mostK : mrgK [] mostK = mostK := by rfl
def mostA (d : Str × List (Option Int)) : List Int := if d.1 = "put" then [31, 999, 1000] else if d.1 = "drop" then [31] else [31, 999]
theorem most_get {d : Str × List (Option Int)} (h : Rd4 d) : getK mostK (.inr d.1) = some (.tup ((mostA d).map A.int)) := by
 cases h <;> rfl
theorem far_eq {d : Str × List (Option Int)} (h : Rd4 d) {s0 s1 s4 : Option Fv} (g : G) : ∃ fs : List A, mLcL (gN 5) (mQT (qAnd (o1 tB (o2 fNotNo (o2 fIx (qVar 2) (o2 fAdd (qVar 5) (qC (.int 1)))) (qC .non))) (o1 tB (o2 (fI fun i j => .bl (decide (j < i))) (oL (one fAbs) (aCons (o2 fIx (qVar 2) (o2 fAdd (qVar 5) (qC (.int 1)))) aNil)) (o2 fIx (qVar 3) (qVar 5)))))) (mQ (qVar 5))
  [s0, s1, some (.val (eDd d)), some (.val (.tup ((mostA d).map A.int))), s4, none] ((rng (mostA d).length).map A.int) [] g = .ok fs g ∧ (fs = []) = (fitD d = true) := by
 have n1 : ((("drop" : Str) = "put") : Prop) = False := s_drop_put
 have n2 : ((("add" : Str) = "put") : Prop) = False := s_add_put
 have n3 : ((("add" : Str) = "drop") : Prop) = False := s_add_drop
 have n4 : ((("if" : Str) = "put") : Prop) = False := s_if_put
 have n5 : ((("if" : Str) = "drop") : Prop) = False := s_if_drop
 cases h with
 | @put a b c h1 h2 h3 =>
  have a1 : ¬ a < 0 := by omega
  have b1 : ¬ b < 0 := by omega
  have c1 : ¬ c < 0 := by omega
  by_cases z1 : a ≤ 31
  ·have y1 : ¬ 31 < a := by omega
   by_cases z2 : b ≤ 999
   ·have y2 : ¬ 999 < b := by omega
    by_cases z3 : c ≤ 1000
    ·have y3 : ¬ 1000 < c := by omega
     simp [mostA, rng3, eDd, opI, fitD, mLcL, fAbs, fIx, isNon, a1, b1, c1, y1, y2, y3, z1, z2, z3]
    ·have y3 : 1000 < c := by omega
     simp [mostA, rng3, eDd, opI, fitD, mLcL, fAbs, fIx, isNon, a1, b1, c1, y1, y2, y3, z1, z2, z3]
   ·have y2 : 999 < b := by omega
    by_cases y3 : 1000 < c <;> simp [mostA, rng3, eDd, opI, fitD, mLcL, fAbs, fIx, isNon, a1, b1, c1, y1, y2, y3, z1, z2]
  ·have y1 : 31 < a := by omega
   by_cases y2 : 999 < b <;> by_cases y3 : 1000 < c <;> simp [mostA, rng3, eDd, opI, fitD, mLcL, fAbs, fIx, isNon, a1, b1, c1, y1, y2, y3, z1]
 | @drop a h1 =>
  have a1 : ¬ a < 0 := by omega
  by_cases z1 : a ≤ 31
  ·have y1 : ¬ 31 < a := by omega
   simp [mostA, rng1, eDd, opI, fitD, mLcL, fAbs, fIx, isNon, a1, y1, z1]
  ·have y1 : 31 < a := by omega
   simp [mostA, rng1, eDd, opI, fitD, mLcL, fAbs, fIx, isNon, a1, y1, z1]
 | @add a b h1 =>
  have a1 : ¬ a < 0 := by omega
  have hb : (999 < if b < 0 then -b else b) ↔ ¬ (-999 ≤ b ∧ b ≤ 999) := by split <;> omega
  by_cases z1 : a ≤ 31
  ·have y1 : ¬ 31 < a := by omega
   by_cases z2 : -999 ≤ b ∧ b ≤ 999
   ·have y2 := mt hb.mp (not_not_intro z2)
    simp [mostA, rng2, eDd, opI, fitD, mLcL, fAbs, fIx, isNon, a1, y1, y2, z1, z2]
   ·have y2 := hb.mpr z2
    simp [mostA, rng2, eDd, opI, fitD, mLcL, fAbs, fIx, isNon, a1, y1, y2, z1, z2]
  ·have y1 : 31 < a := by omega
   by_cases y2 : 999 < if b < 0 then -b else b <;> simp [mostA, rng2, eDd, opI, fitD, mLcL, fAbs, fIx, isNon, a1, y1, y2, z1]
 | @iff a b h1 h2 =>
  have a1 : ¬ a < 0 := by omega
  cases b with
  | none =>
   by_cases z1 : a ≤ 31
   ·have y1 : ¬ 31 < a := by omega
    simp [mostA, rng2, eDd, opI, fitD, mLcL, fAbs, fIx, isNon, a1, y1, z1]
   ·have y1 : 31 < a := by omega
    simp [mostA, rng2, eDd, opI, fitD, mLcL, fAbs, fIx, isNon, a1, y1, z1]
  | some b =>
   have hb := h2 b rfl
   have b1 : ¬ b < 0 := by omega
   have b9 : -999 ≤ b := by omega
   by_cases z1 : a ≤ 31
   ·have y1 : ¬ 31 < a := by omega
    by_cases z2 : b ≤ 999
    ·have y2 : ¬ 999 < b := by omega
     simp [mostA, rng2, eDd, opI, fitD, mLcL, fAbs, fIx, isNon, a1, b1, b9, y1, y2, z1, z2]
    ·have y2 : 999 < b := by omega
     simp [mostA, rng2, eDd, opI, fitD, mLcL, fAbs, fIx, isNon, a1, b1, b9, y1, y2, z1, z2]
   ·have y1 : 31 < a := by omega
    by_cases y2 : 999 < b <;> simp [mostA, rng2, eDd, opI, fitD, mLcL, fAbs, fIx, isNon, a1, b1, b9, y1, y2, z1]
end N
end
section
namespace N
open PySem PySem.Spec PyProof.Rows L2 Cm W TL
def eLs (p : Option (Option Int)) : A := .lst (lsP p)
def dLs : Option (Option Int) → PyData
 | none => .list []
 | some v => .list [dI v]
theorem toD_eLs (p : Option (Option Int)) : toD (eLs p) = some (dLs p) := by
 cases p with
 | none => rfl
 | some v => cases v <;> rfl
theorem in_eLs {l : List (Option (Option Int))} (hl : l.length ≤ 100000) : fInD (.lst []) (.lst (l.map eLs)) = some (.bl (decide (none ∈ l))) := by
 rw [fInD_of (z' := .list []) (f' := dLs) rfl (by decide) hl fun x _ => ⟨toD_eLs x, by
  cases x with
  | none => exact ⟨by decide, nofun⟩
  | some v =>
   refine ⟨by show 1 ≤ 100000; omega, fun y hy => ?_⟩
   rw [List.mem_singleton.mp hy]
   exact dnI _ _, by
  cases x with
  | none => rfl
  | some v => cases v <;> rfl⟩]
 congr 2
 rw [Bool.eq_iff_iff]
 simp only [List.any_eq_true, decide_eq_true_eq]
 constructor
 ·rintro ⟨x, hx, h⟩
  cases x with
  | none => exact hx
  | some i => cases i <;> simp [dLs, PyData.eqv, PyData.eqvAll] at h
 ·intro h
  exact ⟨none, h, by decide⟩
theorem fIx_k {ks : List Kd} {i : Int} (h0 : 0 ≤ i) (h : i < ks.length) : fIx (.lst (ks.map fun k => A.str k.l)) (.int i) = some (.str (ks.getD i.toNat .n).l) := by
 have := atI_nat (ks.map fun k => A.str k.l) i.toNat
 rw [show ((i.toNat : Nat) : Int) = i by omega] at this
 show atI _ _ = _
 have h2 : i.toNat < ks.length := by omega
 rw [this, List.getElem?_map, List.getElem?_eq_getElem h2, List.getD_eq_getElem?_getD, List.getElem?_eq_getElem h2]
 rfl
@[simp] theorem fIx_lawK (z : Str) : fIx (.dic lawK) (.str z) = (kdsOf z).map fun ks => .lst (ks.map fun k => .str k.l) := by
 rw [← lawK_get]
 rfl
@[simp] theorem fNotIn_lawK (z : Str) : fNotIn (.str z) (.dic lawK) = some (.bl (!(kdsOf z).isSome)) := by
 show some (A.bl (!(getK lawK (.inr z)).isSome)) = _
 rw [lawK_get, Option.isSome_map]
theorem lc_parts2 {ks : List Kd} {ws : List Str} {s0 s1 s2 s3 s5 s6 s8 s10 : Option Fv} (hk : kdsOf (wAt ws 0) = some ks) (hl : ws.length = ks.length + 1) (h3 : ks.length ≤ 3) (hmem : ∀ p ∈ ws, p.length ≤ 100000) (g : G) :
  mLcL (gN 9) (mQT fun _ _ => some true) (mFrz (mCall 2 m_part_ (maCons (mQ (o2 fIx (qVar 7) (o2 fAdd (qVar 9) (qC (.int 1))))) (maCons (mQ (o2 fIx (o2 fIx (qVar 4) (o2 fIx (qVar 7) (qC (.int 0)))) (qVar 9))) maNil))))
   [s0, s1, s2, s3, some (.val (.dic lawK)), s5, s6, some (.val (.lst (ws.map A.str))), s8, none, s10] ((rng ks.length).map A.int) [] g = .ok ((prts ks ws).map eLs) g := by
 have := lc_eq (mg := gN 9) (mt := mQT fun _ _ => some true) (me := mFrz (mCall 2 m_part_ (maCons (mQ (o2 fIx (qVar 7) (o2 fAdd (qVar 9) (qC (.int 1))))) (maCons (mQ (o2 fIx (o2 fIx (qVar 4) (o2 fIx (qVar 7) (qC (.int 0)))) (qVar 9))) maNil))))
  (σ := [s0, s1, s2, s3, some (.val (.dic lawK)), s5, s6, some (.val (.lst (ws.map A.str))), s8, none, s10]) (g := g) (enc := A.int) (tt := fun _ => true) (ee := fun y => eLs (prt ks ws y)) (rng ks.length) [] (fun y hy => by
   obtain ⟨y0, y1⟩ := mem_rng.mp hy
   have e0 := fIx_w (ws := ws) (i := 0) (by decide) (by omega)
   simp only [Int.toNat_zero] at e0
   have e1 := fIx_w (ws := ws) (i := y + 1) (by omega) (by omega)
   have e2 := fIx_k (ks := ks) y0 y1
   obtain ⟨f, e3, e5⟩ := part_eq (wAt ws (y + 1).toNat) (wAt_len hmem _) (ks.getD y.toNat .n) g
   have e4 : (y + 1).toNat = y.toNat + 1 := by omega
   refine ⟨by simp, fun _ => ?_⟩
   unfold prt eLs
   rw [e4] at e1 e3 e5
   simp only [List.getD_eq_getElem?_getD] at e2 e3 e5 ⊢
   simp [e0, e1, e2, e3, e5, hk, lawK_get]) (by simp [rng_len]; omega)
 rw [this]
 simp [prts]
theorem lc_vals2 {s0 s1 s2 s3 s4 s5 s6 s7 s8 s9 : Option Fv} (vs : List (Option Int)) (h3 : vs.length ≤ 3) (g : G) :
  mLcL (gN 10) (mQT fun _ _ => some true) (mQ (o2 fIx (qVar 10) (qC (.int 0)))) [s0, s1, s2, s3, s4, s5, s6, s7, s8, s9, none] (vs.map (eLs ∘ some)) [] g = .ok (vs.map opI) g := by
 have := lc_eq (mg := gN 10) (mt := mQT fun _ _ => some true) (me := mQ (o2 fIx (qVar 10) (qC (.int 0)))) (σ := [s0, s1, s2, s3, s4, s5, s6, s7, s8, s9, none]) (g := g) (enc := eLs ∘ some) (tt := fun _ => true) (ee := opI) vs [] (fun p _ => by
   simp [eLs, lsP, fIx]) (by simp; omega)
 refine this.trans ?_
 simp
theorem row_body {s0 s1 s2 s3 x7 x8 : Option Fv} {acc : List A} {p : Str} (hp : p.length ≤ 90000) (ha : acc.length < 100000) (h7 : okS (some x7) = some ()) (h8 : okS (some x8) = some ()) (g : G) :
  ∃ o, row_6_1 [s0, s1, s2, s3, some (.val (.dic lawK)), some (.own false (.lst acc)), some (.val (.str p)), x7, x8, none, none] g = .ok o g ∧ match deedO p with
   | none => o = .rt (.val .non)
   | some d => ∃ y7 y8, okS (some y7) = some () ∧ okS (some y8) = some () ∧ o = .nx [s0, s1, s2, s3, some (.val (.dic lawK)), some (.own false (.lst (acc ++ [eDd d]))), some (.val (.str p)), y7, y8, none, none] := by
 unfold row_6_1 row_6_2 row_6_3 row_6_4 row_6_5 deedO
 have hn := nSplit_eq sep_sp (x := p) (by omega)
 obtain ⟨hne, hsum, hcnt⟩ := split_len sep_sp p
 have hmem : ∀ q ∈ Txt.split p " ", q.length ≤ 100000 := fun q hq => Nat.le_trans (split_mem sep_sp hq) (by omega)
 generalize Txt.split p " " = ws at hn hne hcnt hmem
 have hpos : 0 < ws.length := List.length_pos_iff.mpr hne
 have h0 := fIx_w (ws := ws) (i := 0) (by decide) (by omega)
 simp only [Int.toNat_zero] at h0
 cases hk : kdsOf (wAt ws 0) with
 | none => simp [hn, h0, hk, lawK_get, h7, h8]
 | some ks =>
  obtain ⟨k1, k3⟩ := kds_pos hk
  by_cases hl : ws.length = ks.length + 1
  ·have hl' : (ws.length : Int) = (ks.length : Int) + 1 := by omega
   have hr : (ks.length : Int) < 4611686018427387904 := by omega
   have hr2 : -4611686018427387904 ≤ (ks.length : Int) := by omega
   have hp3 : (prts ks ws).length ≤ 3 := by unfold prts; rw [List.length_map, rng_len]; exact k3
   have hin := in_eLs (l := prts ks ws) (by omega)
   simp [hn, h0, hk, lawK_get, h7, h8, hl, hl', vsOk, noOwn, wipeA, rngA_eq, hr, hr2, lc_parts2 hk hl k3 hmem]
   cases ha2 : allS (prts ks ws) with
   | none =>
    rw [decide_eq_true (allS_none.mp ha2)] at hin
    simp [hin]
   | some vs =>
    have e := allS_some ha2
    have e3 : none ∉ prts ks ws := by rw [e]; simp
    have hv3 : vs.length ≤ 3 := by rw [e, List.length_map] at hp3; exact hp3
    have e4 : (prts ks ws).map eLs = vs.map (eLs ∘ some) := by rw [e, List.map_map]
    rw [e4, decide_eq_false e3] at hin
    have hv4 : 1 + vs.length ≤ 100000 := by omega
    simp [hin, e4, h0, vsOk, noOwn, wipeA, lc_vals2 vs hv3, hv4, ha, eDd]
  ·have hl' : ¬ (ws.length : Int) = (ks.length : Int) + 1 := by omega
   simp [hn, h0, hk, lawK_get, h7, h8, hl, hl']
theorem row_for {s0 s1 s2 s3 : Option Fv} (g : G) : ∀ (ps : List Str) (acc : List A) (x6 x7 x8 : Option Fv), (∀ p ∈ ps, p.length ≤ 90000) → acc.length + ps.length ≤ 100000 → okS (some x6) = some () → okS (some x7) = some () → okS (some x8) = some () →
  ∃ o, mForL (gN 6) row_6_1 (ps.map A.str) [s0, s1, s2, s3, some (.val (.dic lawK)), some (.own false (.lst acc)), x6, x7, x8, none, none] g = .ok o g ∧ match allS (ps.map deedO) with
   | none => o = .rt (.val .non)
   | some ds => ∃ y6 y7 y8, o = .nx [s0, s1, s2, s3, some (.val (.dic lawK)), some (.own false (.lst (acc ++ ds.map eDd))), y6, y7, y8, none, none]
 | [], acc, x6, x7, x8, _, _, _, _, _ => ⟨_, rfl, x6, x7, x8, by rw [List.map_nil, List.append_nil]⟩
 | p :: ps, acc, x6, x7, x8, hm, hl, h6, h7, h8 => by
  simp only [List.length_cons] at hl
  obtain ⟨o, e1, e2⟩ := row_body (s0 := s0) (s1 := s1) (s2 := s2) (s3 := s3) (acc := acc) (hm p List.mem_cons_self) (by omega) h7 h8 g
  rw [List.map_cons, ap_forC]
  have eg : gN 6 (.str p) [s0, s1, s2, s3, some (.val (.dic lawK)), some (.own false (.lst acc)), x6, x7, x8, none, none] = some [s0, s1, s2, s3, some (.val (.dic lawK)), some (.own false (.lst acc)), some (.val (.str p)), x7, x8, none, none] := by simp [h6]
  rw [eg, ofO_some, bind_ok, kBody_ap, e1, bind_ok]
  have el : allS ((p :: ps).map deedO) = (deedO p).bind fun d => (allS (ps.map deedO)).map (d :: ·) := by
   rw [List.map_cons]
   cases deedO p <;> rfl
  rw [el]
  cases hd : deedO p with
  | none =>
   rw [hd] at e2
   have e2 : o = .rt (.val .non) := e2
   subst e2
   exact ⟨_, rfl, rfl⟩
  | some d =>
   rw [hd] at e2
   obtain ⟨y7, y8, k7, k8, rfl⟩ := e2
   obtain ⟨o2, e3, e4⟩ := row_for (s0 := s0) (s1 := s1) (s2 := s2) (s3 := s3) g ps (acc ++ [eDd d]) (some (.val (.str p))) y7 y8 (fun q hq => hm q (List.mem_cons_of_mem _ hq)) (by simp; omega) rfl k7 k8
   refine ⟨o2, e3, ?_⟩
   rw [Option.bind_some]
   cases ha : allS (ps.map deedO) with
   | none => rw [ha] at e4; exact e4
   | some ds =>
    rw [ha] at e4
    obtain ⟨z6, z7, z8, e4⟩ := e4
    refine ⟨z6, z7, z8, ?_⟩
    rw [e4]
    simp
end N
end
section
namespace N
open PySem PySem.Spec PyProof.Rows L2 Cm W TL
theorem lc_nums3 {hs : List Str} {s0 s1 s2 s4 s5 s6 s7 s8 s9 s10 : Option Fv} (hl : hs.length ≤ 100000) (hm : ∀ p ∈ hs, p.length ≤ 100000) (g : G) :
  mLcL (gN 3) (mQT fun _ _ => some true) (mFrz (mCall 1 m_number_ (maCons (mQ (qVar 3)) maNil))) [s0, s1, s2, none, s4, s5, s6, s7, s8, s9, s10] (hs.map A.str) [] g = .ok ((hs.map numO).map opI) g := by
 have := lc_eq (mg := gN 3) (mt := mQT fun _ _ => some true) (me := mFrz (mCall 1 m_number_ (maCons (mQ (qVar 3)) maNil))) (σ := [s0, s1, s2, none, s4, s5, s6, s7, s8, s9, s10]) (g := g) (enc := A.str) (tt := fun _ => true) (ee := fun p => opI (numO p)) hs [] (fun p hp => by
  simp [number_eq p (hm p hp)]) (by simpa using hl)
 rw [this]
 simp
theorem lc_nums4 {w0 w1 : Str} {s0 s1 s2 s4 s5 s6 s7 s8 s9 s10 : Option Fv} (hm : ∀ p ∈ [w0, w1], p.length ≤ 100000) (g : G) :
  mLcL (gN 3) (mQT fun _ _ => some true) (mFrz (mCall 1 m_number_ (maCons (mQ (qVar 3)) maNil))) [s0, s1, s2, none, s4, s5, s6, s7, s8, s9, s10] [.str w0, .str w1] [] g = .ok [opI (numO w0), opI (numO w1)] g :=
 lc_nums3 (hs := [w0, w1]) (by simp) hm g
theorem in_flat {l : List (Option Int)} : fIn .non (.lst (l.map opI)) = some (.bl (decide (none ∈ l))) := by
 have h1 : (l.map opI).all flA = true := by
  rw [List.all_eq_true]
  intro x hx
  obtain ⟨v, _, rfl⟩ := List.mem_map.mp hx
  cases v <;> rfl
 show (if flA .non && (l.map opI).all flA then some ((l.map opI).any fun y => eqF y .non) else none).map A.bl = _
 rw [h1]
 show some (A.bl _) = _
 congr 2
 rw [List.any_map, Bool.eq_iff_iff]
 simp only [List.any_eq_true, decide_eq_true_eq, Function.comp]
 constructor
 ·rintro ⟨x, hx, h⟩
  cases x with
  | none => exact hx
  | some i => cases h
 ·intro h
  exact ⟨none, h, by decide⟩
theorem fIntT_num {w : Str} {n : Int} (h : numO w = some n) : fIntT [.str w] = some (.int n) := by
 unfold numO at h
 split at h
 ·rename_i z
  cases h
  exact fIntT_dig z.1 z.2.1 z.2.2.1
 ·cases h
theorem mrg_lawK : mrgK [] lawK = lawK := by rfl
theorem row_eq (r : Str) (hr : r.length ≤ 90000) (g : G) : m_row_ [.str r] g = .ok (.val (opL (dealO r))) g := by
 rw [row_cut]
 unfold row_1 row_2 row_3 row_4 row_5 row_6 row_7 dealO hdsOf dsOf
 rw [ap_mFun]
 have hn := nSplit_eq sep_cl (x := r) (by omega)
 obtain ⟨hne, hsum, hcnt⟩ := split_len sep_cl r
 have hmem : ∀ p ∈ Txt.split r ": ", p.length ≤ 90000 := fun p hp => Nat.le_trans (split_mem sep_cl hp) hr
 generalize Txt.split r ": " = ps at hn hne hcnt hmem
 have hpos : 0 < ps.length := List.length_pos_iff.mpr hne
 have h0 := fIx_w (ws := ps) (i := 0) (by decide) (by omega)
 simp only [Int.toNat_zero] at h0
 have hp0 : (wAt ps 0).length ≤ 90000 := by
  unfold wAt
  rw [List.getD_eq_getElem?_getD, List.getElem?_eq_getElem hpos]
  exact hmem _ (List.getElem_mem _)
 have hn2 := nSplit_eq sep_sp (x := wAt ps 0) (by omega)
 obtain ⟨hne2, _, hcnt2⟩ := split_len sep_sp (wAt ps 0)
 have hmem2 : ∀ p ∈ Txt.split (wAt ps 0) " ", p.length ≤ 100000 := fun p hp => Nat.le_trans (split_mem sep_sp hp) (by omega)
 generalize Txt.split (wAt ps 0) " " = hs at hn2 hne2 hcnt2 hmem2
 by_cases hl : ps.length = 2
 ·by_cases hl2 : hs.length = 2
  ·obtain ⟨p0, p1, rfl⟩ := len2 hl
   obtain ⟨w0, w1, rfl⟩ := len2 hl2
   have hp1 : p1.length ≤ 90000 := hmem p1 (by simp)
   have hn3 := nSplit_eq sep_sc (x := p1) (by omega)
   obtain ⟨_, _, hcnt3⟩ := split_len sep_sc p1
   have hmem3 : ∀ p ∈ Txt.split p1 "; ", p.length ≤ 90000 := fun p hp => Nat.le_trans (split_mem sep_sc hp) hp1
   have e1 : wAt [p0, p1] 1 = p1 := rfl
   rw [e1]
   generalize Txt.split p1 "; " = qs at hn3 hcnt3 hmem3
   have e2 : wAt [p0, p1] 0 = p0 := rfl
   rw [e2] at h0 hn2
   have hq : qs.length ≤ 100000 := by omega
   simp only [List.map_cons, List.map_nil] at h0 hn hn2
   have h1 : fIx (.lst [A.str p0, A.str p1]) (.int 1) = some (.str p1) := by simp [fIx]
   have hin : fIn .non (.lst [opI (numO w0), opI (numO w1)]) = some (.bl (decide (none ∈ [numO w0, numO w1]))) := in_flat (l := [numO w0, numO w1])
   have w00 : wAt [w0, w1] 0 = w0 := rfl
   have w11 : wAt [w0, w1] 1 = w1 := rfl
   rw [w00, w11]
   simp [startA, hn, h0, h1, hn2, hl, hl2, hn3, vsOk, noOwn, wipeA, lc_nums4 hmem2, hin]
   cases ha : numO w0 with
   | none => simp [mkD, opL]
   | some a =>
    cases hb : numO w1 with
    | none => simp [mkD, opL]
    | some b =>
     have hk : mrgK [] [((.inr "put" : Key), A.lst [.str "key", .str "key", .str "key"]), (.inr "drop", .lst [.str "key"]), (.inr "add", .lst [.str "key", .str "more"]), (.inr "if", .lst [.str "key", .str "worth"])] = lawK := mrg_lawK
     have g0 : fIx (.lst [A.str w0, A.str w1]) (.int 0) = some (.str w0) := by simp [fIx]
     have g1 : fIx (.lst [A.str w0, A.str w1]) (.int 1) = some (.str w1) := by simp [fIx]
     simp [hk, h1, hn3]
     obtain ⟨o, e3, e4⟩ := row_for (s0 := some (.val (.str r))) (s1 := some (.val (.lst [A.str p0, A.str p1]))) (s2 := some (.val (.lst [A.str w0, A.str w1]))) (s3 := none) g qs [] none none none hmem3 (by simp; exact hq) rfl rfl rfl
     rw [e3]
     cases hd : allS (qs.map deedO) with
     | none =>
      rw [hd] at e4
      have e4 : o = .rt (.val .non) := e4
      subst e4
      simp [mkD, opL]
     | some ds =>
      rw [hd] at e4
      obtain ⟨y6, y7, y8, rfl⟩ := e4
      simp [g0, g1, fIntT_num ha, fIntT_num hb, mkD, opL, eDl]
  ·have hl2' : ¬ (hs.length : Int) = 2 := by omega
   simp [startA, hn, h0, hn2, hl, hl2, hl2', opL]
 ·have hl' : ¬ (ps.length : Int) = 2 := by omega
  simp [startA, hn, h0, hn2, hl, hl', opL]
end N
end
section
namespace N
open PySem PySem.Spec PyProof.Rows L2 Cm W TL
theorem eDl_2 (d : Dl) : fIx (eDl d) (.int 2) = some (.tup (d.ds.map eDd)) := by simp [eDl, fIx]
theorem eDl_0 (d : Dl) : fIx (eDl d) (.int 0) = some (.int d.h) := by simp [eDl, fIx]
theorem eDd_0 (d : Str × List (Option Int)) : fIx (eDd d) (.int 0) = some (.str d.1) := by simp [eDd, fIx]
theorem fault_for {d : Dl} (g : G) : ∀ (r : List (Str × List (Option Int))) (n : Nat) (x1 x2 x3 x4 : Option Fv), d.ds.drop n = r → (∀ e ∈ r, Rd4 e) → okS (some x1) = some () → okS (some x2) = some () → okS (some x3) = some () → okS (some x4) = some () →
  ∃ o, mForL (gN 1) fault_2_1 ((List.range' n r.length).map fun i : Nat => A.int (i : Int)) [some (.val (eDl d)), x1, x2, x3, x4, none] g = .ok o g ∧ match badP n r with
   | some p => o = .rt (.val (opF (some ("BadDeal", p))))
   | none => ∃ y1 y2 y3 y4, o = .nx [some (.val (eDl d)), y1, y2, y3, y4, none]
 | [], n, x1, x2, x3, x4, _, _, _, _, _, _ => ⟨_, rfl, x1, x2, x3, x4, rfl⟩
 | e :: r, n, x1, x2, x3, x4, hr, hd, h1, h2, h3, h4 => by
  have hn : n < d.ds.length := by
   by_cases h : n < d.ds.length
   ·exact h
   ·rw [List.drop_eq_nil_of_le (by omega)] at hr; cases hr
  have hg : d.ds[n]? = some e := by
   rw [List.drop_eq_getElem_cons hn] at hr
   injection hr with h5 _
   rw [List.getElem?_eq_getElem hn, h5]
  have hr2 : d.ds.drop (n + 1) = r := by
   rw [List.drop_eq_getElem_cons hn] at hr
   injection hr
  have hrd := hd e List.mem_cons_self
  have e5 : fIx (.tup (d.ds.map eDd)) (.int (n : Int)) = some (eDd e) := by
   show atI (d.ds.map eDd) (n : Int) = _
   rw [atI_nat, List.getElem?_map, hg]
   rfl
  obtain ⟨fs, f1, f2⟩ := far_eq hrd (s0 := some (.val (eDl d))) (s1 := some (.val (.int n))) (s4 := x4) g
  have hml : (mostA e).length ≤ 3 := by
   unfold mostA
   split
   ·decide
   ·split <;> decide
  have hr1 : ((mostA e).length : Int) < 4611686018427387904 := by omega
  have hr0 : -4611686018427387904 ≤ ((mostA e).length : Int) := by omega
  have hk : mrgK [] [((.inr "put" : Key), A.tup [.int 31, .int 999, .int 1000]), (.inr "drop", .tup [.int 31]), (.inr "add", .tup [.int 31, .int 999]), (.inr "if", .tup [.int 31, .int 999])] = mostK := mrg_mostK
  simp only [List.length_cons, List.range'_succ, List.map_cons]
  rw [ap_forC]
  have eg : gN 1 (.int (n : Int)) [some (.val (eDl d)), x1, x2, x3, x4, none] = some [some (.val (eDl d)), some (.val (.int n)), x2, x3, x4, none] := by simp [h1]
  rw [eg, ofO_some, bind_ok, kBody_ap]
  unfold badP fitB
  by_cases h9 : n < 4
  ·have h9' : ¬ (3 : Int) < n := by omega
   cases hf : fitD e with
   | true =>
    obtain ⟨o, e1, e2⟩ := fault_for g r (n + 1) (some (.val (.int n))) (some (.val (eDd e))) (some (.val (.tup ((mostA e).map A.int)))) (some (.val (.lst fs))) hr2 (fun x hx => hd x (List.mem_cons_of_mem _ hx)) rfl rfl rfl rfl
    have f3 : fs = [] := by rw [f2]; exact hf
    refine ⟨o, ?_, ?_⟩
    ·rw [← e1]
     simp [fault_2_1, fault_2_2, fault_2_3, fault_2_4, eDl_2, e5, eDd_0, h2, h3, h4, hk, most_get hrd, vsOk, noOwn, wipeA, rngA_eq, hr0, hr1, f1, f3, h9']
    ·simp only [h9, decide_true, Bool.true_and, if_true]
     exact e2
   | false =>
    have f3 : ¬ fs = [] := by rw [f2, hf]; decide
    refine ⟨.rt (.val (opF (some ("BadDeal", (n : Int))))), ?_, ?_⟩
    ·simp [fault_2_1, fault_2_2, fault_2_3, fault_2_4, eDl_2, e5, eDd_0, h2, h3, h4, hk, most_get hrd, vsOk, noOwn, wipeA, rngA_eq, hr0, hr1, f1, f3, h9', opF]
    ·simp [h9]
  ·have h9' : (3 : Int) < n := by omega
   refine ⟨.rt (.val (opF (some ("BadDeal", (n : Int))))), ?_, ?_⟩
   ·simp [fault_2_1, fault_2_2, fault_2_3, fault_2_4, eDl_2, e5, eDd_0, h2, h3, h4, hk, most_get hrd, vsOk, noOwn, wipeA, rngA_eq, hr0, hr1, f1, h9', opF]
   ·simp [h9]
structure DlOk (d : Dl) : Prop where
 h0 : 0 ≤ d.h
 ne : d.ds ≠ []
 rd : ∀ e ∈ d.ds, Rd4 e
 ln : d.ds.length ≤ 100000
theorem fault_eq {d : Dl} (h : DlOk d) (g : G) : m_fault_ [eDl d] g = .ok (.val (opF (faultO d))) g := by
 rw [fault_cut]
 unfold fault_1 fault_2 fault_3 faultO
 rw [ap_mFun]
 by_cases h3 : 3 < d.h
 ·simp [startA, eDl_0, h3, opF]
 ·have hl := h.ln
  have hr1 : (d.ds.length : Int) < 4611686018427387904 := by omega
  have hr0 : -4611686018427387904 ≤ (d.ds.length : Int) := by omega
  have hr : (rng d.ds.length).map A.int = (List.range' 0 d.ds.length).map fun i : Nat => A.int (i : Int) := by
   unfold rng
   rw [List.range_eq_range', List.map_map]
   rfl
  obtain ⟨o, e1, e2⟩ := fault_for (d := d) g d.ds 0 none none none none rfl h.rd rfl rfl rfl rfl
  simp [startA, eDl_0, eDl_2, h3, rngA_eq, hr0, hr1, hr, e1]
  cases hb : badP 0 d.ds with
  | some p =>
   rw [hb] at e2
   have e2 : o = _ := e2
   subst e2
   simp
  | none =>
   rw [hb] at e2
   obtain ⟨y1, y2, y3, y4, rfl⟩ := e2
   simp [opF]
end N
end
section
namespace N
open PySem PySem.Spec PyProof.Rows L2 Cm W TL
theorem nhd_eq {h : Int} (h0 : 0 ≤ h) (g : G) : m_need_hand [.int h] g = if 3 < h then .err ⟨"BadHand", none⟩ g else .ok (.val .non) g := by
 unfold m_need_hand
 rw [ap_mFun]
 by_cases h3 : 3 < h
 ·have h4 : ¬ h ≤ 3 := by omega
  simp [startA, h0, h3, h4, trA]
 ·have h4 : h ≤ 3 := by omega
  simp [startA, h0, h3, h4, trA]
theorem lockL_s {a : Option Fv} {xs : List A} {r : List (Option Fv)} {ms : MS} {g : G} : mLockL (pVar 1) ms (a :: some (.own false (.lst xs)) :: r) g = (ms (a :: some (.own true (.lst xs)) :: r) g).fin (unO true (.slot 1)) (unGL (.slot 1)) := rfl
theorem unO_s {a : Option Fv} {xs : List A} {r : List (Option Fv)} {g : G} : unO true (.slot 1) (.nx (a :: some (.own true (.lst xs)) :: r)) g = .ok (.nx (a :: some (.own false (.lst xs)) :: r)) g := rfl
theorem iLp_s {a : Option Fv} {xs : List A} {r : List (Option Fv)} {g : G} : iLp (pVar 1) (a :: some (.own true (.lst xs)) :: r) g = .ok xs g := rfl
def erF (p : Str × Int) : Ex := if p.1 = "BadHand" then ⟨"BadHand", none⟩ else ⟨"BadDeal", some ("place", p.2)⟩
def firstF : List Dl → Option (Str × Int)
 | [] => none
 | d :: ds => match faultO d with
  | some p => some p
  | none => firstF ds
theorem fault_cases {d : Dl} {p : Str × Int} (h : faultO d = some p) : (3 < d.h ∧ p = (("BadHand" : Str), (0 : Int))) ∨ (¬ 3 < d.h ∧ ∃ i, badP 0 d.ds = some i ∧ p = (("BadDeal" : Str), i)) := by
 unfold faultO at h
 split at h
 ·rename_i z; cases h; exact .inl ⟨z, rfl⟩
 ·rename_i z
  obtain ⟨i, h1, rfl⟩ := Option.map_eq_some_iff.mp h
  exact .inr ⟨z, i, h1, rfl⟩
theorem needs_for (g : G) {s0 s2 s3 s4 : Option Fv} {L : List A} : ∀ (ds : List Dl) (x5 x6 x7 : Option Fv), (∀ d ∈ ds, DlOk d) → okS (some x5) = some () → okS (some x6) = some () → okS (some x7) = some () →
  match firstF ds with
  | some p => mForL (gT 3 (gsC (gN 5) (gsC (gN 6) (gsC (gN 7) gs0)))) read_deals_3_1 (ds.map eDl) [s0, some (.own true (.lst L)), s2, s3, s4, x5, x6, x7] g = .err (erF p) g
  | none => ∃ y5 y6 y7, mForL (gT 3 (gsC (gN 5) (gsC (gN 6) (gsC (gN 7) gs0)))) read_deals_3_1 (ds.map eDl) [s0, some (.own true (.lst L)), s2, s3, s4, x5, x6, x7] g = .ok (.nx [s0, some (.own true (.lst L)), s2, s3, s4, y5, y6, y7]) g
 | [], x5, x6, x7, _, _, _, _ => ⟨x5, x6, x7, rfl⟩
 | d :: ds, x5, x6, x7, hd, h5, h6, h7 => by
  have hk := hd d List.mem_cons_self
  have ih := needs_for g (s0 := s0) (s2 := s2) (s3 := s3) (s4 := s4) (L := L) ds (some (.val (.int d.h))) (some (.val (.int d.l))) (some (.val (.tup (d.ds.map eDd)))) (fun x hx => hd x (List.mem_cons_of_mem _ hx)) rfl rfl rfl
  unfold firstF
  rw [List.map_cons, ap_forC]
  have eg : gT 3 (gsC (gN 5) (gsC (gN 6) (gsC (gN 7) gs0))) (eDl d) [s0, some (.own true (.lst L)), s2, s3, s4, x5, x6, x7] = some [s0, some (.own true (.lst L)), s2, s3, s4, some (.val (.int d.h)), some (.val (.int d.l)), some (.val (.tup (d.ds.map eDd)))] := by simp [eDl, h5, h6, h7]
  rw [eg, ofO_some, bind_ok, kBody_ap]
  cases hf : faultO d with
  | some p =>
   dsimp only
   rcases fault_cases hf with ⟨h3, rfl⟩ | ⟨h3, i, hb, rfl⟩
   ·simp [read_deals_3_1, nhd_eq hk.h0, h3, erF]
   ·have hn := need_deal_eq hk.ne hk.rd g
    rw [hb] at hn
    have hw : ((("BadDeal" : Str) = "BadHand") : Prop) = False := by simp only [eq_iff_iff, iff_false]; decide
    simp [read_deals_3_1, read_deals_3_2, nhd_eq hk.h0, h3, hn, erF, hw]
  | none =>
   dsimp only
   unfold faultO at hf
   split at hf
   ·cases hf
   ·rename_i h3
    have hb := Option.map_eq_none_iff.mp hf
    have hn := need_deal_eq hk.ne hk.rd g
    rw [hb] at hn
    have e1 : read_deals_3_1 [s0, some (.own true (.lst L)), s2, s3, s4, some (.val (.int d.h)), some (.val (.int d.l)), some (.val (.tup (d.ds.map eDd)))] g = .ok (.nx [s0, some (.own true (.lst L)), s2, s3, s4, some (.val (.int d.h)), some (.val (.int d.l)), some (.val (.tup (d.ds.map eDd)))]) g := by
     simp [read_deals_3_1, read_deals_3_2, nhd_eq hk.h0, h3, hn]
    rw [e1, bind_ok, kLoop_nx]
    exact ih
theorem dealO_ok {r : Str} {d : Dl} (hr : r.length ≤ 90000) (h : dealO r = some d) : DlOk d := by
 unfold dealO at h
 split at h
 ·cases h1 : numO (wAt (hdsOf r) 0) with
  | none => rw [h1] at h; cases h
  | some a =>
   rw [h1] at h
   cases h2 : numO (wAt (hdsOf r) 1) with
   | none => rw [h2] at h; cases h
   | some b =>
    rw [h2] at h
    cases h3 : allS (dsOf r) with
    | none => rw [h3] at h; cases h
    | some ds =>
     rw [h3] at h
     cases h
     have e := allS_some h3
     have hl := congrArg List.length e
     unfold dsOf at e hl
     simp only [List.length_map] at hl
     obtain ⟨hne, _, hcnt⟩ := split_len sep_sc (wAt (Txt.split r ": ") 1)
     have hw : (wAt (Txt.split r ": ") 1).length ≤ 90000 := by
      unfold wAt
      rw [List.getD_eq_getElem?_getD]
      cases hq : (Txt.split r ": ")[1]? with
      | none => exact Nat.zero_le _
      | some q => exact Nat.le_trans (split_mem sep_cl (List.mem_of_getElem? hq)) hr
     refine ⟨(numO_le h1).1, fun z => ?_, fun x hx => ?_, by show ds.length ≤ _; omega⟩
     ·have z : ds = [] := z
      rw [z] at hl
      exact hne (List.eq_nil_of_length_eq_zero hl)
     ·have : some x ∈ (Txt.split (wAt (Txt.split r ": ") 1) "; ").map deedO := by rw [e]; exact List.mem_map_of_mem hx
      obtain ⟨p, _, hp⟩ := List.mem_map.mp this
      exact deedO_rd hp
 ·cases h
theorem rows_for (g : G) {s0 : Option Fv} : ∀ (ps : List Str) (n : Nat) (acc : List A) (x2 x3 x4 : Option Fv), (∀ p ∈ ps, p.length ≤ 90000) → acc.length + ps.length ≤ 100000 → okS (some x2) = some () → okS (some x3) = some () → okS (some x4) = some () →
  match (ps.map dealO).findIdx? Option.isNone with
  | some i => mForL (gT 2 (gsC (gN 2) (gsC (gN 3) gs0))) read_deals_2_1 (((ps.map A.str).zipIdx n).map fun q => .tup [.int (q.2 : Nat), q.1]) [s0, some (.own false (.lst acc)), x2, x3, x4, none, none, none] g = .err ⟨"BadText", some ("row", ((n + i : Nat) : Int))⟩ g
  | none => ∃ y2 y3 y4, mForL (gT 2 (gsC (gN 2) (gsC (gN 3) gs0))) read_deals_2_1 (((ps.map A.str).zipIdx n).map fun q => .tup [.int (q.2 : Nat), q.1]) [s0, some (.own false (.lst acc)), x2, x3, x4, none, none, none] g = .ok (.nx [s0, some (.own false (.lst (acc ++ (ps.map dealO).map opL))), y2, y3, y4, none, none, none]) g
 | [], n, acc, x2, x3, x4, _, _, _, _, _ => ⟨x2, x3, x4, by simp [mForL]⟩
 | p :: ps, n, acc, x2, x3, x4, hm, hl, h2, h3, h4 => by
  simp only [List.length_cons] at hl
  simp only [List.map_cons, List.zipIdx_cons]
  rw [ap_forC]
  have eg : gT 2 (gsC (gN 2) (gsC (gN 3) gs0)) (.tup [.int (n : Nat), .str p]) [s0, some (.own false (.lst acc)), x2, x3, x4, none, none, none] = some [s0, some (.own false (.lst acc)), some (.val (.int n)), some (.val (.str p)), x4, none, none, none] := by simp [h2, h3]
  rw [eg, ofO_some, bind_ok, kBody_ap, List.findIdx?_cons]
  cases hd : dealO p with
  | none =>
   simp [read_deals_2_1, read_deals_2_2, deal_of_eq p (hm p List.mem_cons_self), hd, h4, opL, isNon]
  | some d =>
   have ih := rows_for g (s0 := s0) ps (n + 1) (acc ++ [opL (some d)]) (some (.val (.int n))) (some (.val (.str p))) (some (.val (opL (some d)))) (fun q hq => hm q (List.mem_cons_of_mem _ hq)) (by simp; omega) rfl rfl rfl
   have hla : acc.length < 100000 := by omega
   have e1 : read_deals_2_1 [s0, some (.own false (.lst acc)), some (.val (.int n)), some (.val (.str p)), x4, none, none, none] g = .ok (.nx [s0, some (.own false (.lst (acc ++ [opL (some d)]))), some (.val (.int n)), some (.val (.str p)), some (.val (opL (some d))), none, none, none]) g := by
    simp [read_deals_2_1, read_deals_2_2, read_deals_2_3, deal_of_eq p (hm p List.mem_cons_self), hd, h4, opL, eDl, isNon, hla]
   rw [e1, bind_ok, kLoop_nx]
   simp only [Option.isNone_some, Bool.false_eq_true, if_false]
   cases hi : (ps.map dealO).findIdx? Option.isNone with
   | some i =>
    rw [hi] at ih
    dsimp only [Option.map_some] at ih ⊢
    rw [ih]
    congr 3
    congr 2
    omega
   | none =>
    rw [hi] at ih
    dsimp only [Option.map_none] at ih ⊢
    obtain ⟨y2, y3, y4, ih⟩ := ih
    refine ⟨y2, y3, y4, ?_⟩
    rw [ih]
    simp
end N
end
section
namespace N
open PySem PySem.Spec PyProof.Rows L2 Cm W TL
def rowsOf (t : Str) : List Str := if t = "" then [] else Txt.split t "\n"
theorem rowsOf_len {t : Str} (ht : t.length ≤ 89000) : (∀ p ∈ rowsOf t, p.length ≤ 90000) ∧ (rowsOf t).length ≤ 90000 := by
 unfold rowsOf
 split
 ·exact ⟨nofun, Nat.zero_le _⟩
 ·have := (split_len sep_nl t).2.2
  exact ⟨fun p hp => Nat.le_trans (split_mem sep_nl hp) (by omega), by omega⟩
theorem all_some {α : Type} : ∀ {l : List (Option α)}, l.findIdx? Option.isNone = none → ∃ ds : List α, l = ds.map some
 | [], _ => ⟨[], rfl⟩
 | none :: l, h => by rw [List.findIdx?_cons] at h; cases h
 | some a :: l, h => by
  rw [List.findIdx?_cons] at h
  simp at h
  obtain ⟨ds, rfl⟩ := all_some (l := l) (by simpa using h)
  exact ⟨a :: ds, rfl⟩
theorem told_text (i : Int) : toldE ⟨"BadText", some ("row", i)⟩ = some (("BadText" : Str), i) := by
 unfold toldE
 rw [if_pos (show ("BadText" : Str) ∈ kinds by decide)]
 dsimp only
 rw [if_pos (show (("BadText" : Str), ("row" : Str)) ∈ xfs by decide)]
theorem told_deal (i : Int) : toldE ⟨"BadDeal", some ("place", i)⟩ = some (("BadDeal" : Str), i) := by
 unfold toldE
 rw [if_pos (show ("BadDeal" : Str) ∈ kinds by decide)]
 dsimp only
 rw [if_pos (show (("BadDeal" : Str), ("place" : Str)) ∈ xfs by decide)]
theorem told_hand : toldE ⟨"BadHand", none⟩ = some (("BadHand" : Str), (0 : Int)) := by
 unfold toldE
 rw [if_pos (by decide)]
 dsimp only
 rw [if_pos (by decide)]
theorem firstF_p {ds : List Dl} {p : Str × Int} (h : firstF ds = some p) : ∃ d ∈ ds, faultO d = some p := by
 induction ds with
 | nil => cases h
 | cons d ds ih =>
  unfold firstF at h
  cases hf : faultO d with
  | some q => rw [hf] at h; cases h; exact ⟨d, List.mem_cons_self, hf⟩
  | none =>
   rw [hf] at h
   obtain ⟨e, h1, h2⟩ := ih h
   exact ⟨e, List.mem_cons_of_mem _ h1, h2⟩
theorem toldF {ds : List Dl} {p : Str × Int} (h : firstF ds = some p) : toldE (erF p) = some p := by
 obtain ⟨d, _, hf⟩ := firstF_p h
 rcases fault_cases hf with ⟨_, rfl⟩ | ⟨_, i, _, rfl⟩
 ·exact told_hand
 ·have hw : ¬ (("BadDeal" : Str) = "BadHand") := by decide
  unfold erF
  rw [if_neg hw]
  exact told_deal i
theorem rdl_eq {t : Str} (ht : t.length ≤ 89000) (g : G) : match ((rowsOf t).map dealO).findIdx? Option.isNone with
  | some i => m_read_deals [.str t] g = .err ⟨"BadText", some ("row", (i : Int))⟩ g
  | none => ∃ ds, (rowsOf t).map dealO = ds.map some ∧ (∀ d ∈ ds, DlOk d) ∧ match firstF ds with
   | some p => m_read_deals [.str t] g = .err (erF p) g
   | none => m_read_deals [.str t] g = .ok (.own false (.lst (ds.map eDl))) g := by
 obtain ⟨hm, hl⟩ := rowsOf_len ht
 have hr := rows_for g (s0 := some (.val (.str t))) (rowsOf t) 0 [] none none none hm (by simp; omega) rfl rfl rfl
 have e0 : (mFor (iE seqA (maCons (mFrz (mIf (mQT (o1 tB (o2 fNe (qVar 0) (qC (.str ""))))) (mM1 (fun x => (nSplit "\n" x).map (Fv.own false)) (mQ (qVar 0))) (mNew (oL fLst aNil)))) maNil)) (gT 2 (gsC (gN 2) (gsC (gN 3) gs0))) read_deals_2_1) [some (.val (.str t)), some (.own false (.lst [])), none, none, none, none, none, none] g
   = mForL (gT 2 (gsC (gN 2) (gsC (gN 3) gs0))) read_deals_2_1 ((((rowsOf t).map A.str).zipIdx 0).map fun q => A.tup [.int (q.2 : Nat), q.1]) [some (.val (.str t)), some (.own false (.lst [])), none, none, none, none, none, none] g := by
  unfold rowsOf
  by_cases h : t = ""
  ·simp [h, enumA_zip]
  ·have hn := nSplit_eq sep_nl (x := t) (by omega)
   simp [h, hn, enumA_zip]
 have e1 : m_read_deals [.str t] g = ((mForL (gT 2 (gsC (gN 2) (gsC (gN 3) gs0))) read_deals_2_1 ((((rowsOf t).map A.str).zipIdx 0).map fun q => A.tup [.int (q.2 : Nat), q.1]) [some (.val (.str t)), some (.own false (.lst [])), none, none, none, none, none, none] g).bind (kSeq read_deals_3)).bind kFun := by
  rw [read_deals_cut, ← e0]
  unfold read_deals_1
  rw [ap_mFun]
  have e2 : read_deals_2 [some (.val (.str t)), some (.own false (.lst [])), none, none, none, none, none, none] g = ((mFor (iE seqA (maCons (mFrz (mIf (mQT (o1 tB (o2 fNe (qVar 0) (qC (.str ""))))) (mM1 (fun x => (nSplit "\n" x).map (Fv.own false)) (mQ (qVar 0))) (mNew (oL fLst aNil)))) maNil)) (gT 2 (gsC (gN 2) (gsC (gN 3) gs0))) read_deals_2_1) [some (.val (.str t)), some (.own false (.lst [])), none, none, none, none, none, none] g).bind (kSeq read_deals_3) := by
   unfold read_deals_2
   rw [ap_mSeq]
  rw [← e2]
  simp [startA]
 rw [e1]
 cases hi : ((rowsOf t).map dealO).findIdx? Option.isNone with
 | some i =>
  rw [hi] at hr
  dsimp only at hr ⊢
  rw [Nat.zero_add] at hr
  rw [hr]
  rfl
 | none =>
  rw [hi] at hr
  dsimp only at hr ⊢
  obtain ⟨y2, y3, y4, hr⟩ := hr
  obtain ⟨ds, e⟩ := all_some hi
  have hok : ∀ d ∈ ds, DlOk d := fun d hd => by
   have : some d ∈ (rowsOf t).map dealO := by rw [e]; exact List.mem_map_of_mem hd
   obtain ⟨p, hp, hp2⟩ := List.mem_map.mp this
   exact dealO_ok (hm p hp) hp2
  have e3 : ((rowsOf t).map dealO).map opL = ds.map eDl := by
   rw [e, List.map_map]
   rfl
  rw [e3, List.nil_append] at hr
  rw [hr, bind_ok, kSeq_nx]
  refine ⟨ds, e, hok, ?_⟩
  unfold read_deals_3 read_deals_4
  have hn := needs_for g (s0 := some (.val (.str t))) (s2 := y2) (s3 := y3) (s4 := y4) (L := ds.map eDl) ds none none none hok rfl rfl rfl
  rw [ap_mSeq, lockL_s, ap_mFor, iLp_s, bind_ok, kFor_ap]
  cases hf : firstF ds with
  | some p =>
   rw [hf] at hn
   dsimp only at hn ⊢
   rw [hn]
   rfl
  | none =>
   rw [hf] at hn
   obtain ⟨y5, y6, y7, hn⟩ := hn
   dsimp only
   rw [hn, fin_ok, unO_s]
   simp
end N
end
section
namespace N
open PySem PySem.Spec PyProof.Rows L2 Cm W TL
def dL : Option Dl → PyData
 | none => .none
 | some d => .tuple [.int d.h, .int d.l, .tuple (d.ds.map fun e => dD (some e))]
theorem toD_opL (d : Option Dl) : toD (opL d) = some (dL d) := by
 cases d with
 | none => rfl
 | some d =>
  show (toDs [A.int d.h, A.int d.l, .tup (d.ds.map eDd)]).map PyData.tuple = _
  have e : toD (.tup (d.ds.map eDd)) = some (.tuple (d.ds.map fun e => dD (some e))) := by
   show (toDs (d.ds.map eDd)).map PyData.tuple = _
   rw [toDs_mp (f := eDd) (f' := fun e => dD (some e)) fun x _ => toD_opD (some x)]
   rfl
  simp only [toDs, toD] at e ⊢
  rw [e]
  rfl
theorem rd_dok {d : Str × List (Option Int)} (h : Rd4 d) : DOk d := by
 cases h <;> refine ⟨⟨_, rfl, rfl⟩, by simp⟩
theorem dnL {d : Option Dl} (h : ∀ e, d = some e → DlOk e) : Dn 5 (dL d) ∧ (dL d).canLay0 = true := by
 cases d with
 | none => exact ⟨Dn.none, rfl⟩
 | some d =>
  have hk := h d rfl
  have hx : ∀ x ∈ (d.ds.map fun e => dD (some e)), Dn 3 x ∧ x.canLay0 = true := fun x hx => by
   obtain ⟨e, he, rfl⟩ := List.mem_map.mp hx
   exact dnD (fun y hy => by cases hy; exact rd_dok (hk.rd e he)) 2
  refine ⟨⟨by show 3 ≤ 100000; omega, fun x hm => ?_⟩, ?_⟩
  ·rcases List.mem_cons.mp hm with rfl | hm
   ·exact Dn.int
   ·rcases List.mem_cons.mp hm with rfl | hm
    ·exact Dn.int
    ·rw [List.mem_singleton.mp hm]
     exact ⟨by rw [List.length_map]; exact hk.ln, fun x hm2 => (hx x hm2).1⟩
  ·show PyData.canLayAll0 [.int d.h, .int d.l, .tuple (d.ds.map fun e => dD (some e))] = true
   refine canL fun x hm => ?_
   rcases List.mem_cons.mp hm with rfl | hm
   ·rfl
   ·rcases List.mem_cons.mp hm with rfl | hm
    ·rfl
    ·rw [List.mem_singleton.mp hm]
     exact canL fun x hm2 => (hx x hm2).2
theorem eqv_none (x : Option Dl) : PyData.eqv (dL x) .none = x.isNone := by
 cases x with
 | none => decide
 | some d => simp [dL, PyData.eqv]
theorem in_opL {l : List (Option Dl)} (hl : l.length ≤ 100000) (hk : ∀ x ∈ l, ∀ e, x = some e → DlOk e) : fInD .non (.lst (l.map opL)) = some (.bl (l.findIdx? Option.isNone).isSome) := by
 rw [fInD_of (f' := dL) rfl noneShaped hl fun x hx => ⟨toD_opL x, (dnL (hk x hx)).1, (dnL (hk x hx)).2⟩]
 congr 2
 rw [Bool.eq_iff_iff]
 simp [eqv_none]
theorem idx_opL {l : List (Option Dl)} (hl : l.length ≤ 100000) (hk : ∀ x ∈ l, ∀ e, x = some e → DlOk e) : fIdxD (.lst (l.map opL)) .non = (l.findIdx? Option.isNone).map fun i => .int (i : Nat) := by
 have e : toD (.lst (l.map opL)) = some (.list (l.map dL)) := by
  show (toDs (l.map opL)).map PyData.list = _
  rw [toDs_mp fun x _ => toD_opL x]
  rfl
 have hs : SeqAt.shaped (.list (l.map dL)) = true := by
  refine shaped_of (n := 6) ⟨by rw [List.length_map]; exact hl, fun d hd => ?_⟩ (by decide) ?_
  ·obtain ⟨x, hx, rfl⟩ := List.mem_map.mp hd
   exact (dnL (hk x hx)).1
  ·show PyData.canLayAll0 (l.map dL) = true
   refine canL fun d hd => ?_
   obtain ⟨x, hx, rfl⟩ := List.mem_map.mp hd
   exact (dnL (hk x hx)).2
 unfold fIdxD
 rw [e]
 show (match some (PyData.list (l.map dL)), some PyData.none with
  | some (.list ds), some d => if SeqAt.shaped (.list ds) && SeqAt.shaped d then (ds.findIdx? fun z => PyData.eqv z d).map fun j => A.int (j : Nat) else none
  | _, _ => none) = _
 dsimp only
 rw [hs, noneShaped]
 simp only [Bool.and_self, if_true]
 rw [List.findIdx?_map]
 have : ((fun z => PyData.eqv z PyData.none) ∘ dL) = Option.isNone := by
  funext x
  exact eqv_none x
 rw [this]
theorem lc_rows {ps : List Str} {s0 s1 s3 s4 : Option Fv} (hl : ps.length ≤ 100000) (hm : ∀ p ∈ ps, p.length ≤ 90000) (g : G) :
  mLcL (gN 2) (mQT fun _ _ => some true) (mFrz (mCall 1 m_row_ (maCons (mQ (qVar 2)) maNil))) [s0, s1, none, s3, s4] (ps.map A.str) [] g = .ok ((ps.map dealO).map opL) g := by
 have := lc_eq (mg := gN 2) (mt := mQT fun _ _ => some true) (me := mFrz (mCall 1 m_row_ (maCons (mQ (qVar 2)) maNil))) (σ := [s0, s1, none, s3, s4]) (g := g) (enc := A.str) (tt := fun _ => true) (ee := fun p => opL (dealO p)) ps [] (fun p hp => by
  simp [row_eq p (hm p hp)]) (by simpa using hl)
 rw [this]
 simp
theorem notNo_opF (p : Option (Str × Int)) : isNon (opF p) = p.isNone := by cases p <;> rfl
theorem lc_faults {ds : List Dl} {s0 s1 s2 s3 : Option Fv} (hl : ds.length ≤ 100000) (hd : ∀ d ∈ ds, DlOk d) (g : G) :
  mLcL (gN 4) (mTest (m2 fNotNo (mFrz (mCall 1 m_fault_ (maCons (mQ (qVar 4)) maNil))) (mQ (qC .non)))) (mFrz (mCall 1 m_fault_ (maCons (mQ (qVar 4)) maNil))) [s0, s1, s2, s3, none] (ds.map eDl) [] g = .ok ((ds.filter fun d => (faultO d).isSome).map fun d => opF (faultO d)) g := by
 have := lc_eq (mg := gN 4) (mt := mTest (m2 fNotNo (mFrz (mCall 1 m_fault_ (maCons (mQ (qVar 4)) maNil))) (mQ (qC .non)))) (me := mFrz (mCall 1 m_fault_ (maCons (mQ (qVar 4)) maNil))) (σ := [s0, s1, s2, s3, none]) (g := g) (enc := eDl) (tt := fun d => (faultO d).isSome) (ee := fun d => opF (faultO d)) ds [] (fun d hm => by
  simp [fault_eq (hd d hm), notNo_opF]) (by simpa using hl)
 rw [this]
 simp
theorem firstF_fil : ∀ ds : List Dl, firstF ds = (ds.filter fun d => (faultO d).isSome).head?.bind faultO
 | [] => rfl
 | d :: ds => by
  unfold firstF
  rw [List.filter_cons]
  cases h : faultO d with
  | some p => simp [h]
  | none => simp [firstF_fil ds]
theorem due_eq {t : Str} (ht : t.length ≤ 89000) (g : G) : match ((rowsOf t).map dealO).findIdx? Option.isNone with
  | some i => m_due_ [.str t] g = .ok (.val (.tup [.str "BadText", .int (i : Nat)])) g
  | none => ∀ ds, (rowsOf t).map dealO = ds.map some → (∀ d ∈ ds, DlOk d) → match firstF ds with
   | some p => m_due_ [.str t] g = .ok (.val (.tup [.str p.1, .int p.2])) g
   | none => m_due_ [.str t] g = .ok (.val (.lst (ds.map eDl))) g := by
 obtain ⟨hm, hl⟩ := rowsOf_len ht
 have hk : ∀ x ∈ (rowsOf t).map dealO, ∀ e, x = some e → DlOk e := fun x hx e he => by
  obtain ⟨p, hp, rfl⟩ := List.mem_map.mp hx
  exact dealO_ok (hm p hp) he
 have hin := in_opL (l := (rowsOf t).map dealO) (by simp; omega) hk
 have hix := idx_opL (l := (rowsOf t).map dealO) (by simp; omega) hk
 have e1 : m_due_ [.str t] g = (due_2 [some (.val (.str t)), some (.val (.lst (((rowsOf t).map dealO).map opL))), none, none, none] g).bind kFun := by
  rw [due_cut]
  unfold due_1
  rw [ap_mFun]
  by_cases h : t = ""
  ·simp [startA, h, rowsOf]
  ·have hn := nSplit_eq sep_nl (x := t) (by omega)
   have hr : rowsOf t = Txt.split t "\n" := if_neg h
   rw [hr] at hm hl
   rw [hr]
   have := lc_rows (s0 := some (.val (.str t))) (s1 := none) (s3 := none) (s4 := none) (ps := Txt.split t "\n") (by omega) hm g
   simp [startA, h, hn, vsOk, noOwn, wipeA, this]
 rw [e1]
 have hrl : ((rowsOf t).map dealO).length ≤ 90000 := by rw [List.length_map]; exact hl
 generalize (rowsOf t).map dealO = rs at hin hix hk hrl
 unfold due_2 due_3 due_4
 cases hi : rs.findIdx? Option.isNone with
 | some i =>
  rw [hi] at hin hix
  simp [hin, hix]
 | none =>
  rw [hi] at hin
  intro ds e hd
  have e3 : rs.map opL = ds.map eDl := by
   rw [e, List.map_map]
   rfl
  rw [e3] at hin ⊢
  have hlc := lc_faults (ds := ds) (s0 := some (.val (.str t))) (s1 := some (.val (.lst (ds.map eDl)))) (s2 := none) (s3 := none) (by have := congrArg List.length e; rw [List.length_map] at this; omega) hd g
  have hff := firstF_fil ds
  cases hq : ds.filter fun d => (faultO d).isSome with
  | nil =>
   rw [hq] at hlc hff
   rw [hff]
   simp [hin, vsOk, noOwn, wipeA, hlc]
  | cons d r =>
   rw [hq] at hlc hff
   have hd2 : d ∈ ds.filter fun d => (faultO d).isSome := by rw [hq]; exact List.mem_cons_self
   obtain ⟨p, hp⟩ := Option.isSome_iff_exists.mp (List.mem_filter.mp hd2).2
   rw [hff]
   simp [hin, vsOk, noOwn, wipeA, hlc, hp, opF, fIx]
end N
end
section
namespace N
open PySem PySem.Spec PyProof.Rows L2 Cm W TL
theorem bind_id {α : Type} : ∀ r : R α, (r.bind fun a g => .ok a g) = r
 | .ok _ _ => rfl
 | .err _ _ => rfl
 | .no => rfl
 | .all T k => by
  show R.all T _ = R.all T _
  congr 1
  funext t
  exact bind_id (k t)
theorem told_eq0 (t : Str) (g : G) : m_told_ [.str t] g = ((m_read_deals [.str t] g).refB).bind fun x g1 => (if isNon x then m_read_deals [.str t] g1 else .ok (.val x) g1) := by
 unfold m_told_
 rw [ap_mFun]
 simp [startA, mCallX]
 rw [bind_assoc, bind_assoc, bind_assoc]
 refine eta_b fun x g1 => ?_
 cases h : isNon x with
 | false => simp [h]
 | true =>
  simp [h]
  rw [bind_assoc]
  exact (eta_b fun a g => by simp).trans (bind_id _)
theorem seqO_all {α β : Type} {f : α → Option β} : ∀ {l : List α}, (∀ x ∈ l, (f x).isSome) → ∃ ys, seqO f l = some ys
 | [], _ => ⟨[], rfl⟩
 | x :: l, h => by
  obtain ⟨y, hy⟩ := Option.isSome_iff_exists.mp (h x List.mem_cons_self)
  obtain ⟨ys, hys⟩ := seqO_all fun z hz => h z (List.mem_cons_of_mem _ hz)
  refine ⟨y :: ys, ?_⟩
  show (match f x with
   | some d => (seqO f l).map (d :: ·)
   | none => none) = _
  rw [hy, hys]
  rfl
theorem resL {g : G} {n : Nat} {xs : List A} (hl : xs.length ≤ 100000) (h : ∀ x ∈ xs, (res g n x).isSome) : ∃ d, res g (n + 1) (.lst xs) = some d := by
 obtain ⟨ys, e⟩ := seqO_all h
 refine ⟨.list ys, ?_⟩
 show (if xs.length ≤ 100000 then (seqO (res g n) xs).map PyData.list else none) = _
 rw [if_pos hl, e]
 rfl
theorem resT {g : G} {n : Nat} {xs : List A} (hl : xs.length ≤ 100000) (h : ∀ x ∈ xs, (res g n x).isSome) : (res g (n + 1) (.tup xs)).isSome := by
 obtain ⟨ys, e⟩ := seqO_all h
 show (if xs.length ≤ 100000 then (seqO (res g n) xs).map PyData.tuple else none).isSome
 rw [if_pos hl, e]
 rfl
theorem alL (ds : List Dl) (hd : ∀ d ∈ ds, DlOk d) (hl : ds.length ≤ 100000) (g : G) : alA g (.lst (ds.map eDl)) (.lst (ds.map eDl)) := by
 have r1 : ∀ (e : Str × List (Option Int)), Rd4 e → (res g 5 (eDd e)).isSome := fun e he => by
  cases he with
  | put => rfl
  | drop => rfl
  | add => rfl
  | @iff a b h1 h2 => cases b <;> rfl
 have r2 : ∀ d ∈ ds, (res g 7 (eDl d)).isSome := fun d hm => by
  refine resT (n := 6) (show 3 ≤ 100000 by omega) fun x hx => ?_
  simp only [List.mem_cons, List.not_mem_nil, or_false] at hx
  rcases hx with rfl | rfl | rfl
  ·rfl
  ·rfl
  ·refine resT (n := 5) (by rw [List.length_map]; exact (hd d hm).ln) fun x hx => ?_
   obtain ⟨e, he, rfl⟩ := List.mem_map.mp hx
   exact r1 e ((hd d hm).rd e he)
 obtain ⟨x, hx⟩ := resL (g := g) (n := 7) (xs := ds.map eDl) (by rw [List.length_map]; exact hl) (fun x hx => by
  obtain ⟨d, hm, rfl⟩ := List.mem_map.mp hx
  exact r2 d hm)
 exact ⟨x, hx, hx⟩
theorem tell {t : Str} (ht : t.length ≤ 89000) : ∃ v : A, (∀ g, alA g v v) ∧ (∀ g, ∃ f, m_told_ [.str t] g = .ok f g ∧ toA f = v) ∧ (∀ g, m_due_ [.str t] g = .ok (.val v) g) := by
 have hal : ∀ (w : Str) (i : Int) (g : G), alA g (.tup [.str w, .int i]) (.tup [.str w, .int i]) := fun w i g => ⟨.tuple [.str w, .int i], rfl, rfl⟩
 have her : ∀ (e : Ex) (p : Str × Int) (g : G), toldE e = some p → ((R.err e g : R Fv).refB) = .ok (A.tup [A.str p.1, A.int p.2]) g := fun e p g h => by
  show (match toldE e with
   | some p => R.ok (A.tup [A.str p.1, A.int p.2]) g
   | none => .no) = _
  rw [h]
 cases hi : ((rowsOf t).map dealO).findIdx? Option.isNone with
 | some i =>
  refine ⟨.tup [.str "BadText", .int (i : Nat)], hal _ _, fun g => ?_, fun g => ?_⟩
  ·have h1 := rdl_eq ht g
   rw [hi] at h1
   dsimp only at h1
   rw [told_eq0, h1, her _ _ _ (told_text _)]
   exact ⟨.val _, rfl, rfl⟩
  ·have h2 := due_eq ht g
   rw [hi] at h2
   exact h2
 | none =>
  have h0 := rdl_eq ht g0
  rw [hi] at h0
  obtain ⟨ds, e, hok, _⟩ := h0
  have hinj : ∀ {l l' : List Dl}, l.map some = l'.map some → l = l' := fun {l l'} h => (List.map_inj_right fun a b hab => Option.some.inj hab).mp h
  have hdl : ds.length ≤ 100000 := by
   have := congrArg List.length e
   rw [List.length_map, List.length_map] at this
   have := (rowsOf_len ht).2
   omega
  cases hf : firstF ds with
  | some p =>
   refine ⟨.tup [.str p.1, .int p.2], hal _ _, fun g => ?_, fun g => ?_⟩
   ·have h1 := rdl_eq ht g
    rw [hi] at h1
    obtain ⟨ds', e', _, h1⟩ := h1
    have := hinj (e'.symm.trans e)
    subst this
    rw [hf] at h1
    dsimp only at h1
    rw [told_eq0, h1, her _ _ _ (toldF hf)]
    exact ⟨.val _, rfl, rfl⟩
   ·have h2 := due_eq ht g
    rw [hi] at h2
    have h2 := h2 ds e hok
    rw [hf] at h2
    exact h2
  | none =>
   refine ⟨.lst (ds.map eDl), alL ds hok hdl, fun g => ?_, fun g => ?_⟩
   ·have h1 := rdl_eq ht g
    rw [hi] at h1
    obtain ⟨ds', e', _, h1⟩ := h1
    have := hinj (e'.symm.trans e)
    subst this
    rw [hf] at h1
    dsimp only at h1
    rw [told_eq0, h1]
    refine ⟨.own false (.lst (ds'.map eDl)), ?_, rfl⟩
    show (if isNon A.non = true then m_read_deals [.str t] g else R.ok (Fv.val A.non) g) = _
    rw [if_pos (show isNon A.non = true from rfl), h1]
   ·have h2 := due_eq ht g
    rw [hi] at h2
    have h2 := h2 ds e hok
    rw [hf] at h2
    exact h2
end N
end
section
namespace N
open PySem PySem.Spec PyProof.Rows L2 Cm W TL
def wA : A → Str
 | .non => "-"
 | .int i => toString i
 | .str s => s
 | _ => ""
def PtA (a : A) : Prop := a = .non ∨ (∃ i, a = .int i ∧ -10000 < i ∧ i < 10000) ∨ (∃ s, a = .str s ∧ s.length ≤ 5)
def dParts : Deed → List A
 | .put k w l => [.str "put", .int k, .int w, .int l]
 | .drop k => [.str "drop", .int k]
 | .add k m => [.str "add", .int k, .int m]
 | .iff k w => [.str "if", .int k, eO w]
theorem eDeed_parts (d : Deed) : eDeed d = .tup (dParts d) := by cases d <;> rfl
theorem dParts_ok {d : Deed} (h : d.Ok) : (∀ a ∈ dParts d, PtA a) ∧ (dParts d).length ≤ 4 := by
 cases d with
 | put k w l =>
  obtain ⟨h1, h2, h3⟩ := h
  refine ⟨fun a ha => ?_, by simp [dParts]⟩
  simp only [dParts, List.mem_cons, List.not_mem_nil, or_false] at ha
  rcases ha with rfl | rfl | rfl | rfl
  ·exact .inr (.inr ⟨_, rfl, by decide⟩)
  ·exact .inr (.inl ⟨_, rfl, by omega, by omega⟩)
  ·exact .inr (.inl ⟨_, rfl, by omega, by omega⟩)
  ·exact .inr (.inl ⟨_, rfl, by omega, by omega⟩)
 | drop k =>
  have h : 0 ≤ k ∧ k < 32 := h
  refine ⟨fun a ha => ?_, by simp [dParts]⟩
  simp only [dParts, List.mem_cons, List.not_mem_nil, or_false] at ha
  rcases ha with rfl | rfl
  ·exact .inr (.inr ⟨_, rfl, by decide⟩)
  ·exact .inr (.inl ⟨_, rfl, by omega, by omega⟩)
 | add k m =>
  obtain ⟨h1, h2⟩ := h
  refine ⟨fun a ha => ?_, by simp [dParts]⟩
  simp only [dParts, List.mem_cons, List.not_mem_nil, or_false] at ha
  rcases ha with rfl | rfl | rfl
  ·exact .inr (.inr ⟨_, rfl, by decide⟩)
  ·exact .inr (.inl ⟨_, rfl, by omega, by omega⟩)
  ·exact .inr (.inl ⟨_, rfl, by omega, by omega⟩)
 | iff k w =>
  obtain ⟨h1, h2⟩ := h
  refine ⟨fun a ha => ?_, by simp [dParts]⟩
  simp only [dParts, List.mem_cons, List.not_mem_nil, or_false] at ha
  rcases ha with rfl | rfl | rfl
  ·exact .inr (.inr ⟨_, rfl, by decide⟩)
  ·exact .inr (.inl ⟨_, rfl, by omega, by omega⟩)
  ·cases w with
   | none => exact .inl rfl
   | some i =>
    have := h2 i rfl
    exact .inr (.inl ⟨_, rfl, by omega, by omega⟩)
theorem tl_neg {n : Nat} (h : 0 < n) : tl (Str.ofString (toString (-(n : Int)))) = 45 :: numL n := by
 obtain ⟨m, rfl⟩ : ∃ m, n = m + 1 := ⟨n - 1, by omega⟩
 have e : (toString (-((m + 1 : Nat) : Int)) : String) = "-" ++ toString ((m + 1 : Nat) : Int) := rfl
 have e2 := tl_num (m + 1)
 rw [tl_ofString] at e2 ⊢
 rw [e, String.toList_append, List.map_append, e2]
 rfl
theorem tostr_len {i : Int} (h1 : -10000 < i) (h2 : i < 10000) : (Str.ofString (toString i)).length ≤ 5 := by
 rw [len_tl]
 by_cases h : 0 ≤ i
 ·obtain ⟨n, rfl⟩ := Int.eq_ofNat_of_zero_le h
  rw [tl_num]
  have := numL_len (n := n) (k := 4) (by decide) (by omega)
  omega
 ·obtain ⟨n, rfl⟩ : ∃ n : Nat, i = -(n : Int) := ⟨(-i).toNat, by omega⟩
  rw [tl_neg (by omega)]
  have := numL_len (n := n) (k := 4) (by decide) (by omega)
  simp only [List.length_cons]
  omega
theorem fStr1_int {i : Int} (h1 : -10000 < i) (h2 : i < 10000) : fStr1 [.int i] = some (.str (toString i)) := by
 refine if_pos ?_
 by_cases h0 : i.natAbs = 0
 ·rw [h0]; decide
 ·exact Nat.lt_trans ((Nat.log2_lt h0).mpr (show i.natAbs < 2 ^ 14 by omega)) (by decide)
theorem wA_len {a : A} (h : PtA a) : (wA a).length ≤ 5 := by
 rcases h with rfl | ⟨i, rfl, h1, h2⟩ | ⟨s, rfl, h⟩
 ·decide
 ·exact tostr_len h1 h2
 ·exact h
theorem strsOf_map : ∀ l : List Str, strsOf (l.map A.str) = some l
 | [] => rfl
 | s :: l => by
  show (strsOf (l.map A.str)).map (s :: ·) = _
  rw [strsOf_map l]
  rfl
theorem fJoin_eq {y : Str} {l : List Str} (h : (l.map Str.length).sum + l.length * y.length ≤ 16777216) : fJoin y (.lst (l.map A.str)) = some (.str (Txt.join y l)) := by
 unfold fJoin
 dsimp only
 rw [strsOf_map]
 exact if_pos h
theorem sum_le {α : Type} {f : α → Nat} {b : Nat} : ∀ {l : List α}, (∀ x ∈ l, f x ≤ b) → (l.map f).sum ≤ l.length * b
 | [], _ => by simp
 | x :: l, h => by
  rw [List.map_cons, List.sum_cons, List.length_cons, Nat.succ_mul]
  have := sum_le fun y hy => h y (List.mem_cons_of_mem _ hy)
  have := h x List.mem_cons_self
  omega
theorem join_len (y : Str) (l : List Str) : (Txt.join y l).length ≤ (l.map Str.length).sum + l.length * y.length := by
 rw [join_eq]
 exact StrLaws.join_length_le y l
def deedT (d : Deed) : Str := Txt.join " " ((dParts d).map wA)
def deedsT (ds : List Deed) : Str := Txt.join "; " (ds.map deedT)
structure Rw where
 h : Int
 l : Int
 ds : List Deed
def eRw (r : Rw) : A := .tup [.int r.h, .int r.l, eDeal r.ds]
structure RwOk (r : Rw) : Prop where
 h0 : 0 ≤ r.h
 h4 : r.h < 4
 l0 : 0 ≤ r.l
 l9 : r.l < 10000
 ok : ∀ d ∈ r.ds, d.Ok
 n1 : 1 ≤ r.ds.length
 n4 : r.ds.length ≤ 4
def rowT (r : Rw) : Str := (toString r.h : Str) ++ " " ++ (toString r.l : Str) ++ ": " ++ deedsT r.ds
def textT (rs : List Rw) : Str := Txt.join "\n" (rs.map rowT)
theorem len_app (a b : Str) : (a ++ b).length = a.length + b.length := by
 rw [len_tl, tl_append, List.length_append, ← len_tl, ← len_tl]
theorem len_sp : (" " : Str).length = 1 := by decide
theorem len_sc : ("; " : Str).length = 2 := by decide
theorem len_cl : (": " : Str).length = 2 := by decide
theorem len_nl : ("\n" : Str).length = 1 := by decide
theorem deedT_sum {d : Deed} (h : d.Ok) : (((dParts d).map wA).map Str.length).sum + ((dParts d).map wA).length * (" " : Str).length ≤ 24 := by
 obtain ⟨h1, h2⟩ := dParts_ok h
 have := sum_le (f := fun a => (wA a).length) (b := 5) (l := dParts d) fun a ha => wA_len (h1 a ha)
 rw [List.map_map, List.length_map, len_sp]
 have e : (dParts d).map (Str.length ∘ wA) = (dParts d).map fun a => (wA a).length := rfl
 rw [e]
 omega
theorem deedT_len {d : Deed} (h : d.Ok) : (deedT d).length ≤ 24 := Nat.le_trans (join_len _ _) (deedT_sum h)
theorem deedsT_sum {ds : List Deed} (h : ∀ d ∈ ds, d.Ok) (h4 : ds.length ≤ 4) : ((ds.map deedT).map Str.length).sum + (ds.map deedT).length * ("; " : Str).length ≤ 104 := by
 have := sum_le (f := fun d => (deedT d).length) (b := 24) (l := ds) fun d hd => deedT_len (h d hd)
 rw [List.map_map, List.length_map, len_sc]
 have e : ds.map (Str.length ∘ deedT) = ds.map fun a => (deedT a).length := rfl
 rw [e]
 omega
theorem deedsT_len {ds : List Deed} (h : ∀ d ∈ ds, d.Ok) (h4 : ds.length ≤ 4) : (deedsT ds).length ≤ 104 := Nat.le_trans (join_len _ _) (deedsT_sum h h4)
theorem rowT_len {r : Rw} (h : RwOk r) : (rowT r).length ≤ 117 := by
 unfold rowT
 have h1 := tostr_len (i := r.h) (by have := h.h0; omega) (by have := h.h4; omega)
 have h2 := tostr_len (i := r.l) (by have := h.l0; omega) (by have := h.l9; omega)
 have h3 := deedsT_len h.ok h.n4
 rw [len_app, len_app, len_app, len_app, len_sp, len_cl]
 omega
theorem textT_sum {rs : List Rw} (h : ∀ r ∈ rs, RwOk r) (hn : rs.length ≤ 12) : ((rs.map rowT).map Str.length).sum + (rs.map rowT).length * ("\n" : Str).length ≤ 1416 := by
 have := sum_le (f := fun d => (rowT d).length) (b := 117) (l := rs) fun d hd => rowT_len (h d hd)
 rw [List.map_map, List.length_map, len_nl]
 have e : rs.map (Str.length ∘ rowT) = rs.map fun a => (rowT a).length := rfl
 rw [e]
 omega
theorem textT_len {rs : List Rw} (h : ∀ r ∈ rs, RwOk r) (hn : rs.length ≤ 12) : (textT rs).length ≤ 1416 := Nat.le_trans (join_len _ _) (textT_sum h hn)
end N
end
section
namespace N
open PySem PySem.Spec PyProof.Rows L2 Cm W TL
theorem lc_words {as : List A} {s0 s1 s2 s3 s4 s5 s7 : Option Fv} (ha : ∀ a ∈ as, PtA a) (h4 : as.length ≤ 4) (g : G) :
  mLcL (gN 6) (mQT fun _ _ => some true) (mQ (qIf (o1 tB (o2 fIsNo (qVar 6) (qC .non))) (qC (.str "-")) (oL fStr1 (aCons (qVar 6) aNil)))) [s0, s1, s2, s3, s4, s5, none, s7] as [] g = .ok ((as.map wA).map A.str) g := by
 have := lc_eq (mg := gN 6) (mt := mQT fun _ _ => some true) (me := mQ (qIf (o1 tB (o2 fIsNo (qVar 6) (qC .non))) (qC (.str "-")) (oL fStr1 (aCons (qVar 6) aNil)))) (σ := [s0, s1, s2, s3, s4, s5, none, s7]) (g := g) (enc := fun a : A => a) (tt := fun _ => true) (ee := fun a => .str (wA a)) as [] (fun a hm => by
  refine ⟨by simp, fun _ => ?_⟩
  rcases ha a hm with rfl | ⟨i, rfl, h1, h2⟩ | ⟨s, rfl, h⟩
  ·simp [wA, isNon]
  ·have := fStr1_int h1 h2
   simp [wA, isNon, this]
  ·simp [wA, isNon, fStr1]) (by simp; omega)
 rw [List.map_id'] at this
 rw [this]
 simp
theorem lc_deedT {ds : List Deed} {s0 s1 s2 s3 s4 s5 : Option Fv} (hd : ∀ d ∈ ds, d.Ok) (h4 : ds.length ≤ 4) (g : G) :
  mLcL (gN 7) (mQT fun _ _ => some true) (mM1 (fJoin " ") (mFrz (mLc (iSq (qVar 7)) (gN 6) (mQT fun _ _ => some true) (mQ (qIf (o1 tB (o2 fIsNo (qVar 6) (qC .non))) (qC (.str "-")) (oL fStr1 (aCons (qVar 6) aNil)))) [6]))) [s0, s1, s2, s3, s4, s5, none, none] (ds.map eDeed) [] g = .ok ((ds.map deedT).map A.str) g := by
 have := lc_eq (mg := gN 7) (mt := mQT fun _ _ => some true) (me := mM1 (fJoin " ") (mFrz (mLc (iSq (qVar 7)) (gN 6) (mQT fun _ _ => some true) (mQ (qIf (o1 tB (o2 fIsNo (qVar 6) (qC .non))) (qC (.str "-")) (oL fStr1 (aCons (qVar 6) aNil)))) [6]))) (σ := [s0, s1, s2, s3, s4, s5, none, none]) (g := g) (enc := eDeed) (tt := fun _ => true) (ee := fun d => .str (deedT d)) ds [] (fun d hm => by
  refine ⟨by simp, fun _ => ?_⟩
  obtain ⟨p1, p2⟩ := dParts_ok (hd d hm)
  have e1 := lc_words (as := dParts d) (s0 := s0) (s1 := s1) (s2 := s2) (s3 := s3) (s4 := s4) (s5 := s5) (s7 := some (.val (.tup (dParts d)))) p1 p2 g
  have e2 := fJoin_eq (y := " ") (l := (dParts d).map wA) (Nat.le_trans (deedT_sum (hd d hm)) (by decide))
  rw [eDeed_parts]
  simp only [List.map_map] at e1 e2
  simp [vsOk, noOwn, wipeA, e1, e2, deedT]) (by simp; omega)
 rw [this]
 simp
theorem lc_deedsJ {ds : List Deed} (hd : ∀ d ∈ ds, d.Ok) (h4 : ds.length ≤ 4) : fJoin "; " (.lst ((ds.map deedT).map A.str)) = some (.str (deedsT ds)) :=
 fJoin_eq (Nat.le_trans (deedsT_sum hd h4) (by decide))
theorem text_body {r : Rw} (h : RwOk r) {s0 x5 : Option Fv} {acc : List A} (ha : acc.length < 100000) (h5 : okS (some x5) = some ()) (g : G) :
  text_2_1 [s0, some (.own false (.lst acc)), some (.val (.int r.h)), some (.val (.int r.l)), some (.val (eDeal r.ds)), x5, none, none] g = .ok (.nx [s0, some (.own false (.lst (acc ++ [.str (rowT r)]))), some (.val (.int r.h)), some (.val (.int r.l)), some (.val (eDeal r.ds)), some (.val (.lst ((r.ds.map deedT).map A.str))), none, none]) g := by
 have e1 := lc_deedT (ds := r.ds) (s0 := s0) (s1 := some (.own false (.lst acc))) (s2 := some (.val (.int r.h))) (s3 := some (.val (.int r.l))) (s4 := some (.val (eDeal r.ds))) (s5 := x5) h.ok h.n4 g
 have e2 := lc_deedsJ h.ok h.n4
 have t1 := fStr1_int (i := r.h) (by have := h.h0; omega) (by have := h.h4; omega)
 have t2 := fStr1_int (i := r.l) (by have := h.l0; omega) (by have := h.l9; omega)
 have l1 := tostr_len (i := r.h) (by have := h.h0; omega) (by have := h.h4; omega)
 have l2 := tostr_len (i := r.l) (by have := h.l0; omega) (by have := h.l9; omega)
 have l3 := deedsT_len h.ok h.n4
 have ad : ∀ x y : Str, x.length + y.length ≤ 100000 → fAdd (.str x) (.str y) = some (.str (x ++ y)) := fun x y z => if_pos z
 have a1 := ad (toString r.h : Str) " " (by rw [len_sp]; omega)
 have a2 := ad ((toString r.h : Str) ++ " ") (toString r.l : Str) (by rw [len_app, len_sp]; omega)
 have a3 := ad ((toString r.h : Str) ++ " " ++ (toString r.l : Str)) ": " (by rw [len_app, len_app, len_sp, len_cl]; omega)
 have a4 := ad ((toString r.h : Str) ++ " " ++ (toString r.l : Str) ++ ": ") (deedsT r.ds) (by rw [len_app, len_app, len_app, len_sp, len_cl]; omega)
 unfold text_2_1 text_2_2 rowT
 simp only [List.map_map] at e1 e2
 unfold eDeal at e1 ⊢
 generalize (toString r.h : Str) = th at *
 generalize (toString r.l : Str) = tll at *
 simp [vsOk, noOwn, wipeA, h5, e1, e2, t1, t2, a1, a2, a3, a4, ha]
theorem text_for (g : G) {s0 : Option Fv} : ∀ (rs : List Rw) (acc : List A) (x2 x3 x4 x5 : Option Fv), (∀ r ∈ rs, RwOk r) → acc.length + rs.length ≤ 100000 → okS (some x2) = some () → okS (some x3) = some () → okS (some x4) = some () → okS (some x5) = some () →
  ∃ y2 y3 y4 y5, mForL (gT 3 (gsC (gN 2) (gsC (gN 3) (gsC (gN 4) gs0)))) text_2_1 (rs.map eRw) [s0, some (.own false (.lst acc)), x2, x3, x4, x5, none, none] g = .ok (.nx [s0, some (.own false (.lst (acc ++ (rs.map rowT).map A.str))), y2, y3, y4, y5, none, none]) g
 | [], acc, x2, x3, x4, x5, _, _, _, _, _, _ => ⟨x2, x3, x4, x5, by simp [mForL]⟩
 | r :: rs, acc, x2, x3, x4, x5, hr, hl, h2, h3, h4, h5 => by
  simp only [List.length_cons] at hl
  rw [List.map_cons, ap_forC]
  have eg : gT 3 (gsC (gN 2) (gsC (gN 3) (gsC (gN 4) gs0))) (eRw r) [s0, some (.own false (.lst acc)), x2, x3, x4, x5, none, none] = some [s0, some (.own false (.lst acc)), some (.val (.int r.h)), some (.val (.int r.l)), some (.val (eDeal r.ds)), x5, none, none] := by simp [eRw, h2, h3, h4]
  rw [eg, ofO_some, bind_ok, kBody_ap, text_body (hr r List.mem_cons_self) (by omega) h5 g, bind_ok, kLoop_nx]
  obtain ⟨y2, y3, y4, y5, e⟩ := text_for g (s0 := s0) rs (acc ++ [.str (rowT r)]) (some (.val (.int r.h))) (some (.val (.int r.l))) (some (.val (eDeal r.ds))) (some (.val (.lst ((r.ds.map deedT).map A.str)))) (fun x hx => hr x (List.mem_cons_of_mem _ hx)) (by simp; omega) rfl rfl rfl rfl
  refine ⟨y2, y3, y4, y5, ?_⟩
  rw [e]
  simp
theorem text_eq {rs : List Rw} (h : ∀ r ∈ rs, RwOk r) (hn : rs.length ≤ 12) (g : G) : m_text_ [.lst (rs.map eRw)] g = .ok (.val (.str (textT rs))) g := by
 rw [text_cut]
 unfold text_1 text_2 text_3
 rw [ap_mFun]
 obtain ⟨y2, y3, y4, y5, e⟩ := text_for g (s0 := some (.val (.lst (rs.map eRw)))) rs [] none none none none h (by simp; omega) rfl rfl rfl rfl
 have e2 := fJoin_eq (y := "\n") (l := rs.map rowT) (Nat.le_trans (textT_sum h hn) (by decide))
 simp only [List.map_map, List.nil_append] at e e2
 simp [startA, e, e2, textT]
end N
end
section
namespace N
open PySem PySem.Spec PyProof.Rows L2 Cm W TL
section
variable {g g' : G} {b : Nat} {Q : Fv → G → Prop} {E : Ex → G → Prop}
theorem dealsL_sp (hb : g.o b = some .box) (hl : b < g.n) (hQ : ∀ (rs : List Rw) (g' : G), (∀ r ∈ rs, RwOk r) → rs.length ≤ 12 → g'.o b = some .box → b < g'.n → g'.fz = g.fz → Q (.own false (.lst (rs.map eRw))) g') : (m_deals_ [.ref b] g).sat Q E := by
 rw [deals_cut]
 unfold deals_1 deals_2 deals_3
 rw [ap_mFun]
 simp [startA]
 (try simp only [sat_bind])
 refine take_box hb (by decide) (by decide) (fun k k0 k1 => ?_)
 have hk1 : k < 4611686018427387904 := by omega
 have hk0 : -4611686018427387904 ≤ k := by omega
 simp [hk0, hk1, rngA_eq]
 (try simp only [sat_bind])
 refine sat_for (fun i σ g1 => ∃ (rs : List Rw) (x2 x3 : Option Fv), σ = [some (.val (.ref b)), some (.own false (.lst (rs.map eRw))), x2, x3] ∧ okS (some x2) = some () ∧ okS (some x3) = some () ∧ rs.length = i ∧ (∀ r ∈ rs, RwOk r) ∧ g1.o b = some .box ∧ b < g1.n ∧ g1.fz = g.fz) (n := 0) ⟨[], none, none, rfl, rfl, rfl, rfl, nofun, hb, hl, rfl⟩ (fun i x σ g1 hx hP Q' hq' => ?_) (fun σ g1 hP => ?_)
 ·obtain ⟨rs, x2, x3, rfl, h2, h3, hn, hr, hb1, hl1, hz1⟩ := hP
  rw [List.getElem?_map] at hx
  obtain ⟨z, hz, rfl⟩ := Option.map_eq_some_iff.mp hx
  have hi : i < k.toNat := by
   have := (List.getElem?_eq_some_iff.mp hz).1
   rwa [rng_len] at this
  unfold deals_2_1 deals_2_2
  simp [h2, h3]
  (try simp only [sat_bind])
  refine take_box hb1 (by decide) (by decide) (fun l1 a0 a1 => ?_)
  simp
  (try simp only [sat_bind])
  refine take_box hb1 (by decide) (by decide) (fun l2 b0 b1 => ?_)
  simp
  (try simp only [sat_bind])
  refine take_box hb1 (by decide) (by decide) (fun l3 c0 c1 => ?_)
  obtain ⟨x, hx, hx2⟩ := at_2 (a := .int (1 + l1)) (b := .int l2) c0 c1
  obtain ⟨le, rfl, hle⟩ : ∃ m : Int, x = .int m ∧ (0 ≤ m ∧ m < 10000) := by rcases hx2 with rfl | rfl <;> exact ⟨_, rfl, by omega⟩
  simp [hx, h3]
  (try simp only [sat_bind])
  refine take_box hb1 (by decide) (by decide) (fun ha d0 d1 => ?_)
  simp
  (try simp only [sat_bind])
  with_reducible refine store_sp (fun g2 hst hfr hgn => ?_)
  have hb2 : g2.o b = some .box := by rw [hfr.o b hl1 id]; exact hb1
  have hl2 : b < g2.n := by omega
  simp
  (try simp only [sat_bind])
  with_reducible refine drawn_sp hb2 hst (fun ds hds hn1 hn4 => ?_)
  have hla : (rs.map eRw).length < 100000 := by rw [List.length_map]; omega
  simp
  rw [if_pos (by omega)]
  simp
  refine hq' (.nx _) _ ⟨rs ++ [⟨ha, le, ds⟩], some (.val (.int z)), some (.val (.int le)), ?_, rfl, rfl, by simp; omega, fun r hr2 => ?_, hb2, hl2, hfr.fz.trans hz1⟩
  ·simp [eRw]
  ·rcases List.mem_append.mp hr2 with h | h
   ·exact hr r h
   ·rw [List.mem_singleton.mp h]
    exact ⟨d0, d1, hle.1, hle.2, hds, hn1, hn4⟩
 ·obtain ⟨rs, x2, x3, rfl, h2, h3, hn, hr, hb1, hl1, hz1⟩ := hP
  simp
  refine hQ rs g1 hr ?_ hb1 hl1 hz1
  rw [hn]
  simp [rng_len]
  omega
end
end N
end
section
namespace N
open PySem PySem.Spec PyProof.Rows L2 Cm W TL
theorem cut_to {α : Type} {xs : List α} {i : Int} (h : 0 ≤ i) : cutL xs none (some i) = xs.take i.toNat := by
 unfold cutL
 have h0 : ¬ i < 0 := by omega
 simp only [HT.sIx, h0, if_false, List.drop_zero, Nat.sub_zero]
 by_cases hl : i.toNat ≤ xs.length
 ·rw [Nat.min_eq_left hl]
 ·rw [Nat.min_eq_right (by omega), List.take_length, List.take_of_length_le (by omega)]
theorem cut_from {α : Type} {xs : List α} {i : Int} (h : 0 ≤ i) : cutL xs (some i) none = xs.drop i.toNat := by
 unfold cutL
 have h0 : ¬ i < 0 := by omega
 simp only [HT.sIx, h0, if_false]
 by_cases hl : i.toNat ≤ xs.length
 ·rw [Nat.min_eq_left hl, List.take_of_length_le (by rw [List.length_drop]; omega)]
 ·rw [Nat.min_eq_right (by omega), List.drop_length, List.drop_eq_nil_of_le (by omega)]
  simp
def rsum (l : List Str) : Nat := (l.map Str.length).sum
theorem rsum_app (a b : List Str) : rsum (a ++ b) = rsum a + rsum b := by simp [rsum]
theorem rsum_cut (l : List Str) (i : Nat) : rsum (l.take i) + rsum (l.drop i) = rsum l := by rw [← rsum_app, List.take_append_drop]
theorem rsum_take (l : List Str) (i : Nat) : rsum (l.take i) ≤ rsum l := by have := rsum_cut l i; omega
theorem rsum_drop (l : List Str) (i : Nat) : rsum (l.drop i) ≤ rsum l := by have := rsum_cut l i; omega
theorem rsum_mid {l : List Str} {i : Nat} {p : Str} (h : l[i]? = some p) : rsum (l.take i) + p.length + rsum (l.drop (i + 1)) = rsum l := by
 obtain ⟨hl, rfl⟩ := List.getElem?_eq_some_iff.mp h
 have := rsum_cut l i
 rw [List.drop_eq_getElem_cons hl] at this
 have e : rsum (l[i] :: l.drop (i + 1)) = l[i].length + rsum (l.drop (i + 1)) := by simp only [rsum, List.map_cons, List.sum_cons]
 omega
theorem fJoin_nl {l : List Str} (h : rsum l + l.length ≤ 1000000) : ∃ t : Str, fJoin "\n" (.lst (l.map A.str)) = some (.str t) ∧ t.length ≤ rsum l + l.length := by
 refine ⟨_, fJoin_eq (by rw [len_nl]; unfold rsum at h; omega), ?_⟩
 have := join_len "\n" l
 rw [len_nl] at this
 unfold rsum
 omega
theorem fJoin_sp {l : List Str} (h : rsum l + l.length ≤ 1000000) : ∃ t : Str, fJoin " " (.lst (l.map A.str)) = some (.str t) ∧ t.length ≤ rsum l + l.length := by
 refine ⟨_, fJoin_eq (by rw [len_sp]; unfold rsum at h; omega), ?_⟩
 have := join_len " " l
 rw [len_sp] at this
 unfold rsum
 omega
theorem at_str {xs : List A} {n : Nat} {v : Int} (h : ∀ a ∈ xs, ∃ s : Str, a = .str s ∧ s.length ≤ n) (h0 : 0 ≤ v) (h1 : v < xs.length) : ∃ s : Str, atI xs v = some (.str s) ∧ s.length ≤ n := by
 have := atI_nat xs v.toNat
 rw [show ((v.toNat : Nat) : Int) = v by omega] at this
 have hl : v.toNat < xs.length := by omega
 obtain ⟨s, e, hs⟩ := h xs[v.toNat] (List.getElem_mem _)
 exact ⟨s, by rw [this, List.getElem?_eq_getElem hl, e], hs⟩
theorem fIxT_of {z : Str} {v : Int} (h0 : 0 ≤ v) (h1 : v < z.length) (hz : z.length ≤ 100000) : ∃ c, fIxT (.str z) (.int v) = some (.str ⟨#[c]⟩) := by
 have hl : v.toNat < z.cps.toList.length := by
  have : z.cps.toList.length = z.length := Array.length_toList
  omega
 have := atI_nat z.cps.toList v.toNat
 rw [show ((v.toNat : Nat) : Int) = v by omega] at this
 refine ⟨z.cps.toList[v.toNat], ?_⟩
 show (if z.length ≤ sizeLine then (atI z.cps.toList v).map fun c => A.str ⟨#[c]⟩ else none) = _
 rw [if_pos (by rw [sizeLine_eq]; omega), this, List.getElem?_eq_getElem hl]
 rfl
theorem sat_subE {σ : Sl} {g : G} {pl : Sl → G → Option P0} {mi mv : ME} {l : Nat} {Q : O → G → Prop} {E : Ex → G → Prop} (hpl : ∀ g1, pl σ g1 = some (.lab l))
  (h : (mv σ g).sat (fun v g1 => l < g1.n ∧ (mi σ g1).sat (fun i g2 => ∃ xs c', g2.o l = some (.con false (.lst xs)) ∧ setI (.lst xs) i v = some c' ∧ Q (.nx σ) (g2.set l (.con false c'))) E) E) : (mSubE pl mi mv σ g).sat Q E := by
 unfold mSubE
 rw [sat_bind]
 refine sat_mono (fun v g1 hv => ?_) (fun _ _ z => z) h
 obtain ⟨hl, hi⟩ := hv
 rw [hpl, sat_bind]
 show ((if l < g1.n then _ else _ : R O)).sat _ _
 rw [if_pos hl, sat_bind]
 refine sat_mono (fun i g2 hi2 => ?_) (fun _ _ z => z) hi
 obtain ⟨xs, c', e1, e2, hq⟩ := hi2
 have e3 : unlk (getP σ g2 (.lab l)) = some (.lst xs) := by
  show unlk (cO (g2.o l)) = _
  rw [e1]
  rfl
 rw [e3, Option.bind_some, e2]
 exact hq
theorem set_len_sum {ws : List Str} {i : Nat} {s : Str} : rsum (ws.set i s) ≤ rsum ws + s.length := by
 induction ws generalizing i with
 | nil => simp [rsum]
 | cons w ws ih =>
  cases i with
  | zero => simp [rsum]; omega
  | succ i =>
   have := ih (i := i)
   simp only [rsum, List.set_cons_succ, List.map_cons, List.sum_cons] at this ⊢
   omega
def signsT : Str := "0123456789 -;:\nabcdefghijklmnopqrstuvwxyz!#$&'()*+,./<=>?@ABCDEFGHIJKLMNOPQRSTUVWXYZ[]^_`{|}~"
theorem signsT_len : 15 ≤ signsT.length ∧ signsT.length ≤ 100 := by decide +kernel
section
variable {g g' : G} {b : Nat} {Q : Fv → G → Prop} {E : Ex → G → Prop}
theorem spoilt_8_sp (hb : g.o b = some .box) {t : Str} (ht : t.length ≤ 30000) {d p : Int} {s4 s5 s6 s7 s8 : Option Fv} (d0 : 4 ≤ d) (d1 : d < 7) (p0 : 0 ≤ p) (hQ : ∀ t' : Str, t'.length ≤ 3 * t.length + 20 → Q (.val (.str t')) g) :
  ((spoilt_8 [some (.val (.ref b)), some (.val (.str t)), some (.val (.int d)), some (.val (.int p)), s4, s5, s6, s7, s8, none, none] g).bind kFun).sat Q E := by
 obtain ⟨z1, z2⟩ := signsT_len
 have hS : fLen (.str signsT) = some (.int signsT.length) := fLen_str _ (by omega)
 unfold spoilt_8 spoilt_9 spoilt_10
 have es : ("0123456789 -;:\nabcdefghijklmnopqrstuvwxyz!#$&'()*+,./<=>?@ABCDEFGHIJKLMNOPQRSTUVWXYZ[]^_`{|}~" : Str) = signsT := rfl
 rw [es]
 generalize signsT = S at hS z1 z2
 simp [hS]
 (try simp only [sat_bind])
 refine take_box hb (by omega) (by omega) (fun v v0 v1 => ?_)
 obtain ⟨c, hc⟩ := fIxT_of v0 v1 (by omega)
 simp [hc]
 (try simp only [sat_bind])
 refine take_box hb (by decide) (by decide) (fun w w0 w1 => ?_)
 obtain ⟨c2, hc2⟩ := fIxT_of (z := S) w0 (by omega) (by omega)
 obtain ⟨x, hx, hx2⟩ := at_3 (a := .str ⟨#[c]⟩) (b := .str "") (c := .str ⟨#[c2]⟩) (v := d - 4) (by omega) (by omega)
 obtain ⟨sg, rfl, hsg⟩ : ∃ s : Str, x = .str s ∧ s.length ≤ 1 := by
  rcases hx2 with rfl | rfl | rfl
  ·exact ⟨_, rfl, Nat.le_refl _⟩
  ·exact ⟨_, rfl, by decide⟩
  ·exact ⟨_, rfl, Nat.le_refl _⟩
 have f1 := fSlT_str (z := t) (lo := none) (hi := some p) (by omega)
 have l1 := slice_le2 (x := t) p0
 obtain ⟨j, hj, hj0⟩ : ∃ j : Int, p + (if 4 < d then 1 else 0) = j ∧ 0 ≤ j := ⟨_, rfl, by split <;> omega⟩
 have f2 := fSlT_str (z := t) (lo := some j) (hi := none) (by omega)
 have l2 := slice_le (x := t) hj0
 have a1 : fAdd (.str (Txt.slice t none (some p))) (.str sg) = some (.str (Txt.slice t none (some p) ++ sg)) := if_pos (by omega)
 have a2 : fAdd (.str (Txt.slice t none (some p) ++ sg)) (.str (Txt.slice t (some j) none)) = some (.str (Txt.slice t none (some p) ++ sg ++ Txt.slice t (some j) none)) := if_pos (by rw [len_app]; omega)
 have e4 : fInt1 (.bl (decide (4 < d))) = some (.int (if 4 < d then 1 else 0)) := by by_cases h : 4 < d <;> simp [fInt1, h]
 simp [hc2, hx, f1, a1, e4, hj, f2, a2]
 refine hQ _ ?_
 rw [len_app, len_app]
 omega
end
end N
end
section
namespace N
open PySem PySem.Spec PyProof.Rows L2 Cm W TL
section
variable {g g' : G} {b : Nat} {Q : Fv → G → Prop} {E : Ex → G → Prop}
theorem wrong_sp (hb : g.o b = some .box) {t : Str} (ht : t.length ≤ 40000) (hQ : ∀ t' : Str, t'.length ≤ 2 * t.length + 200 → Q (.val (.str t')) g) : (m_wrong_ [.ref b, .str t] g).sat Q E := by
 have e1 : m_wrong_ [.ref b, .str t] g = (wrong_2 [some (.val (.ref b)), some (.val (.str t)), some (.val (.lst ((rowsOf t).map A.str))), none, none, none] g).bind kFun := by
  rw [wrong_cut]
  unfold wrong_1
  rw [ap_mFun]
  by_cases h : t = ""
  ·simp [startA, h, rowsOf]
  ·have hn := nSplit_eq sep_nl (x := t) (by omega)
   have hr : rowsOf t = Txt.split t "\n" := if_neg h
   rw [hr]
   simp [startA, h, hn]
 have hrows : rsum (rowsOf t) ≤ t.length ∧ (rowsOf t).length ≤ t.length + 1 := by
  unfold rowsOf
  split
  ·exact ⟨Nat.zero_le _, Nat.zero_le _⟩
  ·exact ⟨(split_len sep_nl t).2.1, (split_len sep_nl t).2.2⟩
 rw [e1]
 generalize rowsOf t = rs0 at hrows
 unfold wrong_2 wrong_3 wrong_4 wrong_5
 simp
 (try simp only [sat_bind])
 refine take_box hb (by decide) (by decide) (fun v v0 v1 => ?_)
 have hk1 : 2 + v < 4611686018427387904 := by omega
 have hk0 : -4611686018427387904 ≤ 2 + v := by omega
 simp [hk0, hk1, rngA_eq]
 (try simp only [sat_bind])
 refine sat_for (fun i σ g1 => g1 = g ∧ ∃ (rs : List Str) (x4 x5 : Option Fv), σ = [some (.val (.ref b)), some (.val (.str t)), some (.val (.lst (rs.map A.str))), some (.val (.lst [A.str "0 1: drop 32", A.str "9 1: drop 0", A.str "4 12: drop 3", A.str "7 2: put 0 1000 0", A.str "3 3: if 4 1000", A.str "2 2: add 5 1000", A.str "1 1: drop 1; drop 2; drop 3; drop 4; drop 5", A.str "2 0: put 31 999 1001", A.str "0 9: drop 1; drop 99"])), x4, x5] ∧ okS (some x4) = some () ∧ okS (some x5) = some () ∧ rsum rs ≤ t.length + 45 * i ∧ rs.length ≤ t.length + 1 + i) (n := 0) ⟨rfl, rs0, none, none, rfl, rfl, rfl, by omega, by omega⟩ (fun i x σ g1 hx hP Q' hq' => ?_) (fun σ g1 hP => ?_)
 ·obtain ⟨rfl, rs, x4, x5, rfl, h4, h5, hs, hn⟩ := hP
  rw [List.getElem?_map] at hx
  obtain ⟨z, hz, rfl⟩ := Option.map_eq_some_iff.mp hx
  have hi : i < 4 := by
   have := (List.getElem?_eq_some_iff.mp hz).1
   rw [rng_len] at this
   omega
  unfold wrong_4_1 wrong_4_2
  simp [h4, h5]
  (try simp only [sat_bind])
  refine take_box hb (by omega) (by omega) (fun k k0 k1 => ?_)
  simp [h5]
  (try simp only [sat_bind])
  refine take_box hb (by decide) (by decide) (fun w w0 w1 => ?_)
  obtain ⟨s, hs2, hsl⟩ := at_str (n := 45) (xs := [A.str "0 1: drop 32", A.str "9 1: drop 0", A.str "4 12: drop 3", A.str "7 2: put 0 1000 0", A.str "3 3: if 4 1000", A.str "2 2: add 5 1000", A.str "1 1: drop 1; drop 2; drop 3; drop 4; drop 5", A.str "2 0: put 31 999 1001", A.str "0 9: drop 1; drop 99"]) (v := w) (fun a ha => by
   simp only [List.mem_cons, List.not_mem_nil, or_false] at ha
   rcases ha with rfl | rfl | rfl | rfl | rfl | rfl | rfl | rfl | rfl <;> exact ⟨_, rfl, by decide +kernel⟩) w0 w1
  have c1 := cut_to (xs := rs.map A.str) k0
  have c2 := cut_from (xs := rs.map A.str) k0
  have hc := rsum_cut rs k.toNat
  have a1 : min k.toNat rs.length + 1 ≤ 100000 := by omega
  have a2 : min k.toNat rs.length + 1 + (rs.length - k.toNat) ≤ 100000 := by omega
  simp [hs2, c1, c2, a1, a2]
  refine hq' (.nx _) _ ⟨rfl, rs.take k.toNat ++ [s] ++ rs.drop k.toNat, some (.val (.int z)), some (.val (.int k)), ?_, rfl, rfl, ?_, ?_⟩
  ·simp
  ·have e6 : rsum [s] = s.length := by simp [rsum]
   rw [rsum_app, rsum_app, e6]
   omega
  ·simp only [List.length_append, List.length_take, List.length_drop, List.length_singleton]
   omega
 ·obtain ⟨rfl, rs, x4, x5, rfl, h4, h5, hs, hn⟩ := hP
  have hv : (0 + ((rng (2 + v).toNat).map A.int).length) ≤ 3 := by
   rw [List.length_map, rng_len]
   omega
  obtain ⟨t', j1, j2⟩ := fJoin_nl (l := rs) (by omega)
  simp [j1]
  exact hQ t' (by omega)
end
end N
end
section
namespace N
open PySem PySem.Spec PyProof.Rows L2 Cm W TL
section
variable {g g' : G} {b : Nat} {Q : Fv → G → Prop} {E : Ex → G → Prop}
theorem spoilt_sp (hb : g.o b = some .box) (hl : b < g.n) {t : Str} (ht : t.length ≤ 30000) (hQ : ∀ (t' : Str) (g' : G), t'.length ≤ 3 * t.length + 20 → g'.o b = some .box → b < g'.n → Q (.val (.str t')) g') : (m_spoilt_ [.ref b, .str t] g).sat Q E := by
 rw [spoilt_cut]
 unfold spoilt_1 spoilt_2 spoilt_3 spoilt_4
 rw [ap_mFun]
 have hn := nSplit_eq sep_nl (x := t) (by omega)
 obtain ⟨hne, hsum, hcnt⟩ := split_len sep_nl t
 have hmem : ∀ p ∈ Txt.split t "\n", p.length ≤ t.length := fun p hp => split_mem sep_nl hp
 generalize Txt.split t "\n" = rs at hn hne hcnt hmem hsum
 have hsum : rsum rs ≤ t.length := hsum
 have hpos : 0 < rs.length := List.length_pos_iff.mpr hne
 simp [startA]
 (try simp only [sat_bind])
 refine take_box hb (by decide) (by decide) (fun d d0 d1 => ?_)
 have hlt := fLen_str t (by omega)
 simp [hlt]
 (try simp only [sat_bind])
 refine take_box hb (by omega) (by omega) (fun p p0 p1 => ?_)
 simp [hn]
 (try simp only [sat_bind])
 refine take_box hb (by omega) (by omega) (fun k k0 k1 => ?_)
 simp
 unfold spoilt_5
 by_cases h2 : d < 2
 ·have c1 := cut_to (xs := rs.map A.str) (i := k + d) (by omega)
  have c2 := cut_from (xs := rs.map A.str) (i := k + 1 - d) (by omega)
  have q1 := rsum_take rs (k + d).toNat
  have q2 := rsum_drop rs (k + 1 - d).toNat
  have q3 : (rs.take (k + d).toNat ++ rs.drop (k + 1 - d).toNat).length ≤ rs.length + 1 := by
   rw [List.length_append, List.length_take, List.length_drop]
   omega
  obtain ⟨t', j1, j2⟩ := fJoin_nl (l := rs.take (k + d).toNat ++ rs.drop (k + 1 - d).toNat) (by rw [rsum_app]; omega)
  rw [rsum_app] at j2
  have a1 : min (k + d).toNat rs.length + (rs.length - (k + 1 - d).toNat) ≤ 100000 := by omega
  simp only [List.map_append, List.map_take, List.map_drop] at j1
  simp [h2, c1, c2, a1, j1]
  exact hQ t' g (by omega) hb hl
 ·simp [h2]
  unfold spoilt_6
  obtain ⟨p', hp', hpl⟩ : ∃ p', rs[k.toNat]? = some p' ∧ p'.length ≤ t.length := ⟨_, List.getElem?_eq_getElem (show k.toNat < rs.length by omega), hmem _ (List.getElem_mem _)⟩
  have hix : fIx (.lst (rs.map A.str)) (.int k) = some (.str p') := by
   have e := fIx_w (ws := rs) k0 k1
   unfold wAt at e
   rw [List.getD_eq_getElem?_getD, hp'] at e
   exact e
  have c1 := cut_to (xs := rs.map A.str) k0
  have c2 := cut_from (xs := rs.map A.str) (i := k + 1) (by omega)
  have ek : (k + 1).toNat = k.toNat + 1 := by omega
  rw [ek] at c2
  have hmid := rsum_mid hp'
  have hkl : k.toNat < rs.length := by omega
  by_cases h3 : d = 2
  ·subst h3
   unfold spoilt_6a_1 spoilt_6a_2 spoilt_6a_3 spoilt_6a_4
   have hn2 := nSplit_eq sep_sp (x := p') (by omega)
   obtain ⟨hne2, hsum2, hcnt2⟩ := split_len sep_sp p'
   generalize Txt.split p' " " = ws at hn2 hne2 hsum2 hcnt2
   have hsum2 : rsum ws ≤ p'.length := hsum2
   have hpos2 : 0 < ws.length := List.length_pos_iff.mpr hne2
   have hb1 : ∀ o : AO, (g.add o).o b = some .box := fun o => by rw [add_old g o (by omega)]; exact hb
   simp [hix, hn2]
   simp only [sat_bind]
   refine sat_subE (l := g.n) (fun _ => rfl) ?_
   simp
   (try simp only [sat_bind])
   refine take_box (hb1 _) (by decide) (by decide) (fun v v0 v1 => ?_)
   obtain ⟨s, hs, hsl⟩ := at_str (n := 5) (xs := [A.str "", A.str "put", A.str "drop", A.str "add", A.str "if", A.str "take", A.str "0", A.str "00", A.str "07", A.str "-1", A.str "-", A.str "-0", A.str "9999", A.str "10000", A.str "32", A.str "4:", A.str "5;", A.str ";", A.str "x", A.str "1001", A.str "--1"]) (v := v) (fun a ha => by
    simp only [List.mem_cons, List.not_mem_nil, or_false] at ha
    rcases ha with rfl | rfl | rfl | rfl | rfl | rfl | rfl | rfl | rfl | rfl | rfl | rfl | rfl | rfl | rfl | rfl | rfl | rfl | rfl | rfl | rfl <;> exact ⟨_, rfl, by decide⟩) v0 v1
   have hsl5 := hsl
   simp [hs, add_new]
   (try simp only [sat_bind])
   refine take_box (hb1 _) (by omega) (by omega) (fun w w0 w1 => ?_)
   have e5 : setI (.lst (ws.map A.str)) (toA (.val (.int w))) (.str s) = some (.lst ((ws.set w.toNat s).map A.str)) := by
    show setI (.lst _) (.int w) _ = _
    rw [setI_lst, List.length_map, ixN_ok w0 w1, Option.map_some, List.map_set]
   refine ⟨ws.map A.str, add_new g _, _, e5, ?_⟩
   have q5 := set_len_sum (ws := ws) (i := w.toNat) (s := s)
   obtain ⟨tw, jw1, jw2⟩ := fJoin_sp (l := ws.set w.toNat s) (by rw [List.length_set]; omega)
   rw [List.length_set] at jw2
   obtain ⟨t', j1, j2⟩ := fJoin_nl (l := rs.take k.toNat ++ [tw] ++ rs.drop (k.toNat + 1)) (by
    have e6 : rsum [tw] = tw.length := by simp [rsum]
    rw [rsum_app, rsum_app, e6]
    simp only [List.length_append, List.length_take, List.length_drop, List.length_singleton]
    omega)
   have j3 : t'.length ≤ 3 * t.length + 20 := by
    rw [rsum_app, rsum_app] at j2
    have e6 : rsum [tw] = tw.length := by simp [rsum]
    rw [e6] at j2
    simp only [List.length_append, List.length_take, List.length_drop, List.length_singleton] at j2
    omega
   simp only [List.map_append, List.map_take, List.map_drop, List.map_cons, List.map_nil, List.append_assoc, List.cons_append, List.nil_append] at j1
   have a1 : min k.toNat rs.length + 1 ≤ 100000 := by omega
   have a2 : min k.toNat rs.length + 1 + (rs.length - (k.toNat + 1)) ≤ 100000 := by omega
   simp only [List.map_set] at jw1
   simp [jw1, c1, c2, a1, a2, j1]
   refine hQ t' _ j3 ?_ (Nat.lt_succ_of_lt hl)
   rw [G.set_o, if_neg (by omega)]
   exact hb1 _
  ·simp [h3]
   unfold spoilt_7
   by_cases h4 : d = 3
   ·subst h4
    unfold spoilt_7a_1 spoilt_7a_2
    simp [hix]
    (try simp only [sat_bind])
    refine take_box hb (by decide) (by decide) (fun v v0 v1 => ?_)
    obtain ⟨s, hs, hsl⟩ := at_str (n := 11) (xs := [A.str "; drop 2", A.str "; put 1 2", A.str "; add 3 -", A.str "; if 2 -3", A.str "; drop -1", A.str ";", A.str "; ", A.str ": drop 1"]) (v := v) (fun a ha => by
     simp only [List.mem_cons, List.not_mem_nil, or_false] at ha
     rcases ha with rfl | rfl | rfl | rfl | rfl | rfl | rfl | rfl <;> exact ⟨_, rfl, by decide⟩) v0 v1
    have a0 : fAdd (.str p') (.str s) = some (.str (p' ++ s)) := if_pos (by omega)
    have lp : (p' ++ s).length ≤ p'.length + 11 := by rw [len_app]; omega
    obtain ⟨t', j1, j2⟩ := fJoin_nl (l := rs.take k.toNat ++ [p' ++ s] ++ rs.drop (k.toNat + 1)) (by
     have e6 : rsum [p' ++ s] = (p' ++ s).length := by simp [rsum]
     rw [rsum_app, rsum_app, e6]
     simp only [List.length_append, List.length_take, List.length_drop, List.length_singleton]
     omega)
    have j3 : t'.length ≤ 3 * t.length + 20 := by
     have e6 : rsum [p' ++ s] = (p' ++ s).length := by simp [rsum]
     rw [rsum_app, rsum_app, e6] at j2
     simp only [List.length_append, List.length_take, List.length_drop, List.length_singleton] at j2
     omega
    simp only [List.map_append, List.map_take, List.map_drop, List.map_cons, List.map_nil, List.append_assoc, List.cons_append, List.nil_append] at j1
    have a1 : min k.toNat rs.length + 1 ≤ 100000 := by omega
    have a2 : min k.toNat rs.length + 1 + (rs.length - (k.toNat + 1)) ≤ 100000 := by omega
    simp [hs, hix, a0, c1, c2, a1, a2, j1]
    exact hQ t' g j3 hb hl
   ·have d4 : 4 ≤ d := by omega
    generalize hm8 : spoilt_8 = M8
    simp [h4]
    rw [← sat_bind, ← hm8]
    with_reducible refine spoilt_8_sp hb ht d4 d1 p0 fun t' h => hQ t' g h hb hl
end
end N
end
section
namespace N
open PySem PySem.Spec PyProof.Rows L2 Cm W TL
def oddT : List Str := ["", " ", "\n", "0 1", "0 1:", "0 1: ", "0 1:drop 2", "0 1: drop 2\n", "0 1: if 2 -", "0 1: add 2 -5", "4 1: drop 0", "0 1: put 1 -2 0", " 0 1: drop 2", "0 1: drop 2;drop 3", Txt.mul "0 1: drop 1; " 2, "0 1: drop 32"]
def odA : List A := oddT.map A.str
theorem odA_eq : [A.str "", A.str " ", A.str "\n", A.str "0 1", A.str "0 1:", A.str "0 1: ", A.str "0 1:drop 2", A.str "0 1: drop 2\n", A.str "0 1: if 2 -", A.str "0 1: add 2 -5", A.str "4 1: drop 0", A.str "0 1: put 1 -2 0", A.str " 0 1: drop 2", A.str "0 1: drop 2;drop 3", A.str (Txt.mul "0 1: drop 1; " 2), A.str "0 1: drop 32"] = odA := rfl
theorem oddT_ok : ∀ a ∈ odA, ∃ s : Str, a = .str s ∧ s.length ≤ 40 := by
 intro a ha
 obtain ⟨s, hs, rfl⟩ := List.mem_map.mp ha
 refine ⟨s, rfl, ?_⟩
 have : oddT.all (fun s => decide (s.length ≤ 40)) = true := by decide +kernel
 exact of_decide_eq_true (List.all_eq_true.mp this s hs)
theorem mul_odd : fMulT (.str "0 1: drop 1; ") (.int 2) = some (.str (Txt.mul "0 1: drop 1; " 2)) := by
 have h : MulOk ("0 1: drop 1; " : Str) 2 := by decide +kernel
 unfold fMulT
 dsimp only
 rw [if_pos h]
theorem alike_ok {g : G} {v : A} (h : alA g v v) : p_alike [v, v] g = .ok (.val (.bl true)) g := if_pos h
section
variable {g g' : G} {b : Nat} {E : Ex → G → Prop}
theorem law_54_sp {Q : O → G → Prop} {t : Str} (ht : t.length ≤ 89000) {s0 s1 s2 s3 s5 x6 : Option Fv} (h6 : okS (some x6) = some ()) (hQ : ∀ y6, okS (some y6) = some () → Q (.nx [s0, s1, s2, s3, some (.val (.str t)), s5, y6]) g) :
  (law_5_4 [s0, s1, s2, s3, some (.val (.str t)), s5, x6] g).sat Q E := by
 obtain ⟨v, ha, hT, hD⟩ := tell ht
 obtain ⟨f, h1, h2⟩ := hT g
 unfold law_5_4 law_5_5
 simp [hD g, h1, h2, h6, alike_ok (ha g), trA]
 exact hQ _ rfl
end
def RPt (b : Nat) (s0 s2 : Option Fv) (σ : Sl) (g : G) : Prop := ∃ (x3 x4 x5 x6 : Option Fv), σ = [s0, some (.val (.ref b)), s2, x3, x4, x5, x6] ∧ okS (some x3) = some () ∧ okS (some x4) = some () ∧ okS (some x5) = some () ∧ okS (some x6) = some () ∧ g.o b = some .box ∧ b < g.n
theorem law_53_sp {Q : O → G → Prop} {g : G} {b : Nat} {E : Ex → G → Prop} {t : Str} (hb : g.o b = some .box) (hl : b < g.n) (ht : t.length ≤ 40000) {s0 s2 x3 x5 x6 : Option Fv} (h3 : okS (some x3) = some ()) (h5 : okS (some x5) = some ()) (h6 : okS (some x6) = some ()) (hQ : ∀ σ, RPt b s0 s2 σ g → Q (.nx σ) g) :
  (law_5_3 [s0, some (.val (.ref b)), s2, x3, some (.val (.str t)), x5, x6] g).sat Q E := by
 unfold law_5_3
 simp
 (try simp only [sat_bind])
 refine take_box hb (by decide) (by decide) (fun v v0 v1 => ?_)
 by_cases h : v = 0
 ·simp [h]
  (try simp only [sat_bind])
  refine wrong_sp hb ht fun t' ht' => ?_
  simp
  exact law_54_sp (by omega) h6 fun y6 k6 => hQ _ ⟨_, _, _, _, rfl, h3, rfl, h5, k6, hb, hl⟩
 ·simp [h]
  exact law_54_sp (by omega) h6 fun y6 k6 => hQ _ ⟨_, _, _, _, rfl, h3, rfl, h5, k6, hb, hl⟩
theorem law_52_sp {Q : O → G → Prop} {g : G} {b : Nat} {E : Ex → G → Prop} {t : Str} (hb : g.o b = some .box) (hl : b < g.n) (ht : t.length ≤ 1416) {s0 s2 x3 x5 x6 : Option Fv} (h3 : okS (some x3) = some ()) (h5 : okS (some x5) = some ()) (h6 : okS (some x6) = some ()) (hQ : ∀ σ g', RPt b s0 s2 σ g' → Q (.nx σ) g') :
  (law_5_2 [s0, some (.val (.ref b)), s2, x3, some (.val (.str t)), x5, x6] g).sat Q E := by
 unfold law_5_2
 simp
 (try simp only [sat_bind])
 refine take_box hb (by decide) (by decide) (fun v v0 v1 => ?_)
 have hk1 : v < 4611686018427387904 := by omega
 have hk0 : -4611686018427387904 ≤ v := by omega
 simp [hk0, hk1, rngA_eq]
 (try simp only [sat_bind])
 refine sat_for (fun i σ g1 => ∃ (t1 : Str) (y5 : Option Fv), σ = [s0, some (.val (.ref b)), s2, x3, some (.val (.str t1)), y5, x6] ∧ okS (some y5) = some () ∧ t1.length + 10 ≤ 1426 * 3 ^ i ∧ g1.o b = some .box ∧ b < g1.n) (n := 0) ⟨t, x5, rfl, h5, by omega, hb, hl⟩ (fun i x σ g1 hx hP Q' hq' => ?_) (fun σ g1 hP => ?_)
 ·obtain ⟨t1, y5, rfl, k5, hn, hb1, hl1⟩ := hP
  rw [List.getElem?_map] at hx
  obtain ⟨z, hz, rfl⟩ := Option.map_eq_some_iff.mp hx
  have hi : i < 3 := by
   have := (List.getElem?_eq_some_iff.mp hz).1
   rw [rng_len] at this
   omega
  have hp : 3 ^ (0 + i) ≤ 9 := by
   have : i = 0 ∨ i = 1 ∨ i = 2 := by omega
   rcases this with rfl | rfl | rfl <;> decide
  have hp2 : 3 ^ (0 + i + 1) = 3 * 3 ^ (0 + i) := by rw [Nat.pow_succ, Nat.mul_comm]
  simp [k5]
  (try simp only [sat_bind])
  refine spoilt_sp hb1 hl1 (by omega) fun t' g' ht' hb' hl' => ?_
  simp
  exact hq' (.nx _) _ ⟨t', some (.val (.int z)), rfl, rfl, by rw [hp2]; omega, hb', hl'⟩
 ·obtain ⟨t1, y5, rfl, k5, hn, hb1, hl1⟩ := hP
  have hv : (0 + ((rng v.toNat).map A.int).length) ≤ 3 := by
   rw [List.length_map, rng_len]
   omega
  have hp : 3 ^ (0 + ((rng v.toNat).map A.int).length) ≤ 27 := Nat.pow_le_pow_right (by decide) hv
  simp
  exact law_53_sp hb1 hl1 (by omega) h3 k5 h6 fun σ h => hQ σ g1 h
theorem law_51_sp {Q : O → G → Prop} {g : G} {b : Nat} {E : Ex → G → Prop} (hb : g.o b = some .box) (hl : b < g.n) {s0 x3 x4 x5 x6 : Option Fv} (h3 : okS (some x3) = some ()) (h4 : okS (some x4) = some ()) (h5 : okS (some x5) = some ()) (h6 : okS (some x6) = some ()) (hQ : ∀ σ g', RPt b s0 (some (.val (.lst odA))) σ g' → Q (.nx σ) g') :
  (law_5_1 [s0, some (.val (.ref b)), some (.val (.lst odA)), x3, x4, x5, x6] g).sat Q E := by
 unfold law_5_1
 have ho := oddT_ok
 have hol : odA.length = 16 := rfl
 generalize odA = od at ho hol hQ
 simp
 (try simp only [sat_bind])
 refine dealsL_sp hb hl fun rs g2 hr hn hb2 hl2 _ => ?_
 simp [text_eq hr hn]
 (try simp only [sat_bind])
 refine take_box hb2 (by decide) (by decide) (fun v v0 v1 => ?_)
 obtain ⟨s, hs, hsl⟩ := at_str ho v0 (by rw [hol]; exact v1)
 simp [fIx, hs]
 (try simp only [sat_bind])
 refine take_box hb2 (by decide) (by decide) (fun w w0 w1 => ?_)
 obtain ⟨x, hx, hx2⟩ := at_2 (a := .str (textT rs)) (b := .str s) (v := w / 2) (by omega) (by omega)
 obtain ⟨t, rfl, ht⟩ : ∃ t : Str, x = .str t ∧ t.length ≤ 1416 := by
  rcases hx2 with rfl | rfl
  ·exact ⟨_, rfl, textT_len hr hn⟩
  ·exact ⟨_, rfl, by omega⟩
 simp [cDiv, fIx, hx, h4]
 exact law_52_sp hb2 hl2 ht h3 h5 h6 hQ
theorem law_pure (ns : List Int) (hns : ns.length ≤ 63) : LawHolds m_law ns := by
 unfold LawHolds
 rw [law_cut, ap_mFun]
 unfold law_1
 generalize hli : law_2 = A2
 simp [startA, p_begun, hns]
 have hb1 : (g0.add .box).o g0.n = some .box := add_new g0 _
 have hl1 : g0.n < (g0.add .box).n := Nat.lt_succ_self _
 generalize g0.add .box = g1 at hb1 hl1
 generalize g0.n = b at hb1 hl1
 rw [← hli]
 unfold law_2 law_3 law_4 law_5 law_6
 simp [mul_odd, odA_eq]
 have e5 : rngA 0 5 = (rng 5).map A.int := rngA_eq 5
 rw [e5]
 simp only [sat_bind]
 with_reducible refine sat_for (fun i σ g1 => RPt b (some (.val (.scr ns))) (some (.val (.lst odA))) σ g1) (n := 0) ?_ (fun i x σ g1 hx hP Q' hq' => ?_) (fun σ g1 hP => ?_)
 ·exact ⟨none, none, none, none, rfl, rfl, rfl, rfl, rfl, hb1, hl1⟩
 ·obtain ⟨x3, x4, x5, x6, rfl, h3, h4, h5, h6, hb2, hl2⟩ := hP
  rw [List.getElem?_map] at hx
  obtain ⟨z, hz, rfl⟩ := Option.map_eq_some_iff.mp hx
  simp [h3]
  with_reducible refine law_51_sp hb2 hl2 ?_ h4 h5 h6 fun σ g' h => hq' (.nx σ) g' ?_
  ·rfl
  ·rw [Rnd_nx]
   exact h
 ·simp
end N
end
section
end
section
namespace W
open PySem PySem.Spec PyProof.Rows L2 Cm
theorem noX {P : Program} {w : World} {outer : List Env} {H : Hp} {s : Shared} {e : Value} {s' : Shared} (z : L2N.CX P w outer H s (fun _ _ _ => False) e s') : False := by
 obtain ⟨_, _, _, _, _, _, _, _, _, _, _, _, z⟩ := z
 exact z
end W
namespace W
open PySem PySem.Spec PyProof.Rows L2 Cm
theorem law_at {w : World} {h : Heap} {K : PySem.W.Frag} {mg : Str → Option Value} {f : Addr} (KX : K.In h) (G : h.Ns mainGlobals mg) (hmg : mg "law" = some (.ref f)) (c : He.SaysX fa fn ts tf exf w h K) : LamX.LawAtS PySem.Challenge.rw_stillcopy_k19_texts_refused w K (L2N.CX (PySem.Challenge.rw_stillcopy_k19_texts_refused).prog w) 11 63 "_law_script" mg f h := by
 have T : Tx w K mg := ⟨h, KX, G, c⟩
 have e : f = He.fAd K ("law", none) := by
  have z := hmg.symm.trans T.g_law
  injection z with z
  injection z
 subst e
 obtain ⟨fd, F⟩ := T.dfn 38 (d := d_law) rfl
 refine ⟨fd, tf.map (He.cT K), S_law K, ?_, ?_, ?_, fun s u => F.bindsA (ps := ["_law_script"]) (fun _ _ _ _ _ _ us hl => match us, hl with | [_], _ => rfl) s [u] rfl, fun H a ns hl _ hT hS => N.law_sp hl hT hS (N.law_pure ns hl), fun base hK hN TB => ?_⟩
 ·intro p hp
  obtain ⟨d, hd, rfl⟩ := List.mem_map.mp hp
  exact c.empty d hd
 ·intro p hp
  obtain ⟨d, hd, rfl⟩ := List.mem_map.mp hp
  exact c.out d hd
 ·intro p hp
  obtain ⟨d, hd, rfl⟩ := List.mem_map.mp hp
  exact PySem.W.codeHd_of_K KX (c.hd d hd)
 ·obtain ⟨fd', _, _, ok, oc, od, osl, lk⟩ := ok_law (P := (PySem.Challenge.rw_stillcopy_k19_texts_refused).prog) (base := base) T (fun p hp => TB _ (List.mem_map.mpr ⟨p, hp, rfl⟩))
  obtain ⟨oc', od', dV, kV, doc, pm, an, cdv, ct, osl', e, lk', _⟩ := F.ex
  have z := lk.symm.trans lk'
  injection z with z
  injection z with _ _ z
  injection z with z
  rw [← z]
  exact ok
end W
theorem PySem.Challenge.cw_stillcopy_k19_texts_refused_holds : PySem.Challenge.rw_stillcopy_k19_texts_refused.Holds := by
 w_on; o_law
 refine HandSHeadRun.head_any (r := W.R) (q := PySem.W.view W.R.prog [61]) (H := W.hk) (ob := W.ob) (M := 10000) (loose := W.loose) (d := HandSHeadRun.topDef W.R.prog 61) (kwd := []) W.ob_eq
  (by kernel_rfl) (fun s => by kernel_rfl) W.run (by kernel_rfl) (by kernel_rfl) (by kernel_rfl) (by rfl) (by first | assumption | decide +kernel) (by decide +kernel) ⟨rfl, rfl, rfl, rfl, rfl, by decide +kernel⟩ ?hw ?hc
 case hw => w_witness2
 case hc =>
  refine LamX.walk_ofTsE (l := PySem.Challenge.rw_stillcopy_k19_texts_refused) (n := 63) (k := 11) (x := "_law_script") (CX := fun w => L2N.CX (PySem.Challenge.rw_stillcopy_k19_texts_refused).prog w) rfl (by decide) (by kernel_rfl) ⟨rfl, by decide, by decide⟩ ?F (fun _ _ _ _ _ z => W.noX z)
  intro w mg fa h Y G hmg0
  have hmg : mg ("law" : PySem.Str) = some (.ref fa) := by
   have e : (HandSHeadRun.topDef W.R.prog 61).name = ("law" : PySem.Str) := by kernel_rfl
   rw [← e]
   exact hmg0
  obtain ⟨K, KX, c⟩ := Y
  exact ⟨K, KX, W.law_at KX G hmg c⟩
end
