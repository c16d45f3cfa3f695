import PyProof.Rows.All
import Wide.All
import OpenK.AllK
import Wide.FinOn
import KE.KxBytes
import PyProof.ExcClass2
import PyProof.ExcClass3
import PyProof.ExcBaseAll.Exception
import PyProof.InstStoreFacts
import PyProof.ExcArgsOwn
import PyProof.ExcAttrAll.Exception
import PyProof.Rows.TupTab
import KE.KDictSum
import Open.Line
import Open.TreeImp
import Open.Pieces
import PySem.Challenge.RW_nt0072_01
open PySem PySem.W PySem.Calls PyProof.Rows
set_option genSizeOf false
set_option genInjectivity false
set_option Elab.async false
set_option maxRecDepth 100000
set_option maxHeartbeats 0
set_option bootstrap.genMatcherCode false
set_option tactic.hygienic false
set_option compiler.extract_closed false
set_option linter.all false
namespace Mine.Internal
theorem A00 {p : Prop} [Decidable p] (h : decide p = true) : p := of_decide_eq_true h
theorem A01 {p : Prop} [Decidable p] (h : p) : decide p = true := decide_eq_true h
theorem A02 {α : Type _} {a b : α} (h : some a = some b) : a = b := Option.some.inj h
theorem A03 {α : Type _} {a b : α} {l : List α} (h : a ∈ b :: l) : a = b ∨ a ∈ l := List.mem_cons.mp h
theorem A04 {α : Type _} {a b : α} (h : a ∈ [b]) : a = b := List.mem_singleton.mp h
theorem A05 {α : Type _} [BEq α] [LawfulBEq α] {a b : α} (h : a ≠ b) : (a == b) = false := beq_eq_false_iff_ne.mpr h
theorem A06 {α : Type _} {p : α → Bool} {l : List α} (h : l.all p = true) : ∀ x, x ∈ l → p x = true := List.all_eq_true.mp h
theorem A07 {a b : Bool} (h : (a && b) = true) : a = true ∧ b = true := Bool.and_eq_true_iff.mp h
theorem A08 {α : Type _} {l : List α} (h : l.isEmpty = true) : l = [] := List.isEmpty_iff.mp h
theorem A09 {α : Type _} {a : α} {s l : List α} (h : a ∈ s ++ l) : a ∈ s ∨ a ∈ l := List.mem_append.mp h
theorem A10 {α β : Type _} {f : α → β} {l : List α} {b : β} (h : b ∈ l.map f) : ∃ a, a ∈ l ∧ f a = b := List.mem_map.mp h
theorem A11 {α β : Type _} {f : α → β} {l : List α} {b : β} (h : ∃ a, a ∈ l ∧ f a = b) : b ∈ l.map f := List.mem_map.mpr h
theorem A12 {α : Type _} {o : Option α} (h : o.isSome = true) : ∃ a, o = some a := Option.isSome_iff_exists.mp h
theorem bJ{α:Type _}{x:α}{C:Prop}(h:none=some x):C:=nomatch h
theorem dJ{C:Prop}(h:false=true):C:=nomatch h
theorem cu{α:Type _}{a:α}{C:Prop}(h:a∈[]):C:=nomatch h
theorem qF{α:Type _}{x:α}{C:Prop}(h:some x=none):C:=nomatch h
theorem tm{C:Prop}(h:true=false):C:=nomatch h
theorem bK{a b c:Nat}(h:a<=b)(e:Nat.ble b c=true:=by rfl):a<=c:=Nat.le_trans h (Nat.le_of_ble_eq_true e)
theorem ti{a b c:Nat}(h:a<=b)(e:Nat.ble (b+1) c=true:=by rfl):a<c:=Nat.lt_of_le_of_lt h (Nat.le_of_ble_eq_true e)
theorem GP{a b c:Nat}(h:a<b)(e:Nat.ble b c=true:=by rfl):a<c:=bK h e
theorem o8{a c k:Nat}(h:a<=c):a-k<=c:=Nat.le_trans (Nat.sub_le _ _) h
theorem D9{a c k:Nat}(h:a<=c):min k a<=c:=Nat.le_trans (Nat.min_le_right _ _) h
theorem Po{a c k:Nat}(h:a<=c):min a k<=c:=Nat.le_trans (Nat.min_le_left _ _) h
theorem Bf{a b c k:Nat}(h:a<=k*b)(g:b<=c):a<=k*c:=Nat.le_trans h (Nat.mul_le_mul_left k g)
theorem GQ{a b c:Nat}(h:a+b<=c):a<=c:=Nat.le_trans (Nat.le_add_right a b) h
theorem O8{a b c:Nat}(h:a+b<=c):b<=c:=Nat.le_trans (Nat.le_add_left b a) h
theorem Lx{a b c:Nat}(h:a+(b+1)<=c):a<c:=Nat.le_trans (Nat.add_le_add_left (Nat.le_add_left 1 b) a) h
theorem Ki{a b c:Nat}(h:a+(b+1)<=c):a+1+b<=c:=by rw[Nat.add_right_comm];exact h
theorem Pp{a b c:Nat}(h:a+(b+1)=c):a+1+b=c:=by rw[Nat.add_right_comm];exact h
theorem Pq{a b c:Nat}(h:a+(b+1)=c):a<c:=Lx (Nat.le_of_eq h)
theorem tj{a b:Nat}(h:(a:Int)=b):a=b:=Int.ofNat.inj h
theorem Kj{a b:Nat}(h:a<b):(a:Int)<b:=Int.ofNat_lt.mpr h
theorem Pw{a b:Nat}(h:a<=b):(a:Int)<=b:=Int.ofNat_le.mpr h
theorem Rz{a b:Nat}(h:(a:Int)<b):a<b:=Int.ofNat_lt.mp h
theorem Od{a b c:Int}(h:a<=b)(e:decide (b<=c)=true:=by rfl):a<=c:=Int.le_trans h (A00 e)
theorem Ts{a b c:Int}(h:b<=c)(e:decide (a<=b)=true:=by rfl):a<=c:=Int.le_trans (A00 e) h
theorem pN{a b:Int}(h:a<b):a<=b-1:=Int.le_sub_one_of_lt h
theorem Kh{n i:Nat}(h:i<n):n-(i+1)<n-i:=by lia
theorem Pz{u k L:Nat}(h:u+12*k+8<L):u<L:=by lia
theorem Py{u k L:Nat}(h:u+12*k+8<L):u+4<L:=by lia
theorem Px{u k L:Nat}(h:u+12*k+8<L):u+1+4<L:=by lia
theorem Td{d k K R:Nat}(g:k+1<=K)(h:d+K<R):d+1+k<R:=by lia
theorem Tc{d k K R:Nat}(g:k+1<=K)(h:d+K<R):d+1+(K-1)<R:=by lia
theorem Tb{d K R:Nat}(g:0<K)(h:d+K<R):d+1<R:=by lia
theorem Ta{u k K L:Nat}(g:k+1<=K)(h:u+12*K+8<L):u+3+12*k+8<L:=by lia
theorem aj{p q:Prop}{G:Prop}(h:p/\q)(k:p->q->G):G:=k h.1 h.2
theorem cI  {p q r:Prop}{G:Prop}(h:p/\q/\r)(k:p->q->r->G):G:=k h.1 h.2.1 h.2.2
theorem kU  {p q r s:Prop}{G:Prop}(h:p/\q/\r/\s)(k:p->q->r->s->G):G:=k h.1 h.2.1 h.2.2.1 h.2.2.2
theorem PO  {p q r s t u:Prop}{G:Prop}(h:p/\q/\r/\s/\t/\u)(k:p->q->r->s->t->u->G):G:=k h.1 h.2.1 h.2.2.1 h.2.2.2.1 h.2.2.2.2.1 h.2.2.2.2.2
theorem HF  {p q r s t u v:Prop}{G:Prop}(h:p/\q/\r/\s/\t/\u/\v)(k:p->q->r->s->t->u->v->G):G:=k h.1 h.2.1 h.2.2.1 h.2.2.2.1 h.2.2.2.2.1 h.2.2.2.2.2.1 h.2.2.2.2.2.2
theorem aS{α:Sort _}{p:α->Prop}{G:Prop}(h:∃a,p a)(k:∀a,p a->G):G:=by obtain⟨a,h1⟩:=h;exact k a h1
theorem ad{α:Sort _}{p q:α->Prop}(a:α)(h0:p a)(h1:q a):∃a,p a/\q a:=⟨a,h0,h1⟩
theorem dW{α:Sort _}{p q r:α->Prop}(a:α)(h0:p a)(h1:q a)(h2:r a):∃a,p a/\q a/\r a:=⟨a,h0,h1,h2⟩
theorem MU{α:Sort _}{p q r s:α->Prop}(a:α)(h0:p a)(h1:q a)(h2:r a)(h3:s a):∃a,p a/\q a/\r a/\s a:=⟨a,h0,h1,h2,h3⟩
theorem iB{α:Sort _}{β:Sort _}{p:α->β->Prop}(a:α)(b:β)(h0:p a b):∃a b,p a b:=⟨a,b,h0⟩
theorem gJ{α:Sort _}{β:Sort _}{p q:α->β->Prop}(a:α)(b:β)(h0:p a b)(h1:q a b):∃a b,p a b/\q a b:=⟨a,b,h0,h1⟩
theorem MT{α:Sort _}{β:Sort _}{p q r:α->β->Prop}(a:α)(b:β)(h0:p a b)(h1:q a b)(h2:r a b):∃a b,p a b/\q a b/\r a b:=⟨a,b,h0,h1,h2⟩
theorem MS{α:Sort _}{β:Sort _}{p q r s:α->β->Prop}(a:α)(b:β)(h0:p a b)(h1:q a b)(h2:r a b)(h3:s a b):∃a b,p a b/\q a b/\r a b/\s a b:=⟨a,b,h0,h1,h2,h3⟩
theorem zO{α:Sort _}{β:Sort _}{p q r s t:α->β->Prop}(a:α)(b:β)(h0:p a b)(h1:q a b)(h2:r a b)(h3:s a b)(h4:t a b):∃a b,p a b/\q a b/\r a b/\s a b/\t a b:=⟨a,b,h0,h1,h2,h3,h4⟩
theorem QU{α:Sort _}{β:Sort _}{γ:Sort _}{p:α->β->γ->Prop}(a:α)(b:β)(c:γ)(h0:p a b c):∃a b c,p a b c:=⟨a,b,c,h0⟩
theorem MQ{α:Sort _}{β:Sort _}{γ:Sort _}{p q:α->β->γ->Prop}(a:α)(b:β)(c:γ)(h0:p a b c)(h1:q a b c):∃a b c,p a b c/\q a b c:=⟨a,b,c,h0,h1⟩
theorem sR{α:Sort _}{β:Sort _}{γ:Sort _}{p q r:α->β->γ->Prop}(a:α)(b:β)(c:γ)(h0:p a b c)(h1:q a b c)(h2:r a b c):∃a b c,p a b c/\q a b c/\r a b c:=⟨a,b,c,h0,h1,h2⟩
theorem v5{α:Sort _}{β:Sort _}{γ:Sort _}{p q r s:α->β->γ->Prop}(a:α)(b:β)(c:γ)(h0:p a b c)(h1:q a b c)(h2:r a b c)(h3:s a b c):∃a b c,p a b c/\q a b c/\r a b c/\s a b c:=⟨a,b,c,h0,h1,h2,h3⟩
theorem QT{α:Sort _}{β:Sort _}{γ:Sort _}{δ:Sort _}{p q r:α->β->γ->δ->Prop}(a:α)(b:β)(c:γ)(d:δ)(h0:p a b c d)(h1:q a b c d)(h2:r a b c d):∃a b c d,p a b c d/\q a b c d/\r a b c d:=⟨a,b,c,d,h0,h1,h2⟩
theorem eN{p q r:Prop}(h0:p)(h1:q)(h2:r):p/\q/\r:=⟨h0,h1,h2⟩
theorem jF{p q r s:Prop}(h0:p)(h1:q)(h2:r)(h3:s):p/\q/\r/\s:=⟨h0,h1,h2,h3⟩
theorem QV{p q r s t:Prop}(h0:p)(h1:q)(h2:r)(h3:s)(h4:t):p/\q/\r/\s/\t:=⟨h0,h1,h2,h3,h4⟩
theorem sj{α:Type _}{a b:α}{G:Prop}(h:some a=some b)(k:a=b->G):G:=k (A02 h)
theorem aD{α:Sort _}{p q:α->Prop}{G:Prop}(h:∃a,p a/\q a)(k:∀a,p a->q a->G):G:=by obtain⟨a,h1,h2⟩:=h;exact k a h1 h2
theorem cG{α:Sort _}{p q r:α->Prop}{G:Prop}(h:∃a,p a/\q a/\r a)(k:∀a,p a->q a->r a->G):G:=by obtain⟨a,h1,h2,h3⟩:=h;exact k a h1 h2 h3
theorem fS{α:Sort _}{β:Sort _}{p:α->β->Prop}{G:Prop}(h:∃a b,p a b)(k:∀a b,p a b->G):G:=by obtain⟨a,b,h1⟩:=h;exact k a b h1
theorem dP{α:Sort _}{β:Sort _}{p q:α->β->Prop}{G:Prop}(h:∃a b,p a b/\q a b)(k:∀a b,p a b->q a b->G):G:=by obtain⟨a,b,h1,h2⟩:=h;exact k a b h1 h2
theorem je{α:Sort _}{β:Sort _}{p q r:α->β->Prop}{G:Prop}(h:∃a b,p a b/\q a b/\r a b)(k:∀a b,p a b->q a b->r a b->G):G:=by obtain⟨a,b,h1,h2,h3⟩:=h;exact k a b h1 h2 h3
theorem Bl{α:Sort _}{β:Sort _}{p q r s:α->β->Prop}{G:Prop}(h:∃a b,p a b/\q a b/\r a b/\s a b)(k:∀a b,p a b->q a b->r a b->s a b->G):G:=by obtain⟨a,b,h1,h2,h3,h4⟩:=h;exact k a b h1 h2 h3 h4
theorem PN{α:Sort _}{β:Sort _}{p q r s t:α->β->Prop}{G:Prop}(h:∃a b,p a b/\q a b/\r a b/\s a b/\t a b)(k:∀a b,p a b->q a b->r a b->s a b->t a b->G):G:=by obtain⟨a,b,h1,h2,h3,h4,h5⟩:=h;exact k a b h1 h2 h3 h4 h5
theorem PK{α:Sort _}{β:Sort _}{γ:Sort _}{p:α->β->γ->Prop}{G:Prop}(h:∃a b c,p a b c)(k:∀a b c,p a b c->G):G:=by obtain⟨a,b,c,h1⟩:=h;exact k a b c h1
theorem LD{α:Sort _}{β:Sort _}{γ:Sort _}{p q:α->β->γ->Prop}{G:Prop}(h:∃a b c,p a b c/\q a b c)(k:∀a b c,p a b c->q a b c->G):G:=by obtain⟨a,b,c,h1,h2⟩:=h;exact k a b c h1 h2
theorem gH{α:Sort _}{β:Sort _}{γ:Sort _}{p q r:α->β->γ->Prop}{G:Prop}(h:∃a b c,p a b c/\q a b c/\r a b c)(k:∀a b c,p a b c->q a b c->r a b c->G):G:=by obtain⟨a,b,c,h1,h2,h3⟩:=h;exact k a b c h1 h2 h3
theorem kT{α:Sort _}{β:Sort _}{γ:Sort _}{p q r s:α->β->γ->Prop}{G:Prop}(h:∃a b c,p a b c/\q a b c/\r a b c/\s a b c)(k:∀a b c,p a b c->q a b c->r a b c->s a b c->G):G:=by obtain⟨a,b,c,h1,h2,h3,h4⟩:=h;exact k a b c h1 h2 h3 h4
theorem LC{α:Sort _}{β:Sort _}{γ:Sort _}{p q r s t:α->β->γ->Prop}{G:Prop}(h:∃a b c,p a b c/\q a b c/\r a b c/\s a b c/\t a b c)(k:∀a b c,p a b c->q a b c->r a b c->s a b c->t a b c->G):G:=by obtain⟨a,b,c,h1,h2,h3,h4,h5⟩:=h;exact k a b c h1 h2 h3 h4 h5
theorem LB{α:Sort _}{β:Sort _}{γ:Sort _}{δ:Sort _}{p:α->β->γ->δ->Prop}{G:Prop}(h:∃a b c d,p a b c d)(k:∀a b c d,p a b c d->G):G:=by obtain⟨a,b,c,d,h1⟩:=h;exact k a b c d h1
theorem PJ{α:Sort _}{β:Sort _}{γ:Sort _}{δ:Sort _}{p q:α->β->γ->δ->Prop}{G:Prop}(h:∃a b c d,p a b c d/\q a b c d)(k:∀a b c d,p a b c d->q a b c d->G):G:=by obtain⟨a,b,c,d,h1,h2⟩:=h;exact k a b c d h1 h2
theorem PI{α:Sort _}{β:Sort _}{γ:Sort _}{δ:Sort _}{p q r:α->β->γ->δ->Prop}{G:Prop}(h:∃a b c d,p a b c d/\q a b c d/\r a b c d)(k:∀a b c d,p a b c d->q a b c d->r a b c d->G):G:=by obtain⟨a,b,c,d,h1,h2,h3⟩:=h;exact k a b c d h1 h2 h3
theorem PH{α:Sort _}{β:Sort _}{γ:Sort _}{δ:Sort _}{p q r s:α->β->γ->δ->Prop}{G:Prop}(h:∃a b c d,p a b c d/\q a b c d/\r a b c d/\s a b c d)(k:∀a b c d,p a b c d->q a b c d->r a b c d->s a b c d->G):G:=by obtain⟨a,b,c,d,h1,h2,h3,h4⟩:=h;exact k a b c d h1 h2 h3 h4
noncomputable def JU:List Str:=["bounds","default","starts","values","codes","strings","octets","data","at","ranges","whole","is_behind_set"]
noncomputable def bh(x:Nat):Str:=JU.getD x "?"
theorem oA{x y:Nat}(hx:x<12)(hy:y<12)(h:bh x=bh y):x=y:=by
 have:∀x:Fin 12,∀y:Fin 12,bh x.1=bh y.1->x=y:=by decide +kernel
 exact congrArg Fin.val (this ⟨x,hx⟩ ⟨y,hy⟩ h)
set_option genCtorIdx false
inductive D where
 |none | bool (b:Bool) | int (i:Int) | str (l:List Nat) | bytes (l:List UInt8)
 |tup (l:List D) | list (l:List D)
 |inst (c:Addr) (fs:List (Nat×D))
 |ref (a:Addr) | ty (n:String) | bi (id:String)
 |rng (a b c:Int)
 |dict (ks:List Int)
noncomputable def D.ctorIdx(t:D):Nat:=D.casesOn (motive_1:=λ _=>Nat) t 0 (λ _=>1) (λ _=>2) (λ _=>3) (λ _=>4) (λ _=>5) (λ _=>6) (λ _ _=>7) (λ _=>8) (λ _=>9) (λ _=>10) (λ _ _ _=>11) (λ _=>12)
inductive MO where
 |list (l:List D)
 |inst (c dx:Addr) (fs:List (Nat×D))
noncomputable def MO.ctorIdx(t:MO):Nat:=MO.casesOn (motive:=λ _=>Nat) t (λ _=>0) (λ _ _ _=>1)
noncomputable def rk(a b c:Int)(t u v:Tok):Obj:={ cls:=.type "range",data:=.fields #[.int a t,.int b u,.int c v] }
noncomputable abbrev aN:=List (Addr×MO)
noncomputable abbrev XT:=Addr->Option Obj
noncomputable abbrev YT:=Addr->Option (Value×Data)
mutual
inductive bz (P:Params)(X:XT):Value->D->Prop where
 |none:bz P X .none .none
 |bool (b:Bool):bz P X (.bool b) (.bool b)
 |int (i:Int) (t:Tok):bz P X (.int i t) (.int i)
 |str (l:List Nat) (t:Tok):bz P X (.str ⟨l.toArray⟩ t) (.str l)
 |bytes (l:List UInt8) (t:Tok):bz P X (.bytes l.toArray t) (.bytes l)
 |tup {a:Addr}{vs:List Value}{n:Nat}{ds:List D} (h:X a=some (seqObj "tuple" vs.toArray n)) (r:bG P X vs ds):bz P X (.ref a) (.tup ds)
 |list {a:Addr}{vs:List Value}{n:Nat}{ds:List D} (h:X a=some (seqObj "list" vs.toArray n)) (r:bG P X vs ds):bz P X (.ref a) (.list ds)
 |inst {a C dx:Addr}{es:List DictEntry}{n:Nat}{fs:List (Nat×D)} (h:X a=some (instObj C dx)) (hd:X dx=some (dictOf es n)) (r:du P X es fs):bz P X (.ref a) (.inst C fs)
 |ref (a:Addr):bz P X (.ref a) (.ref a)
 |ty (n:String):bz P X (.type n) (.ty n)
 |bi (n:String):bz P X (.builtin n) (.bi n)
 |rng {x:Addr}{a b c:Int}{t u v:Tok} (h:X x=some (rk a b c t u v)):bz P X (.ref x) (.rng a b c)
 |dict {a:Addr}{o:Obj}{es:Array DictEntry}{ep:Nat}{ks:List Int} (h:X a=some o) (hc:o.ExactDict) (hd:o.data=.dict es ep) (hk:IntKeys es) (hf:∀k,(findBy Value.isInt es k).isSome=ks.contains k) (hm:a≠1):bz P X (.ref a) (.dict ks)
inductive bG (P:Params)(X:XT):List Value->List D->Prop where
 |nil:bG P X [] []
 |cons {v:Value}{d:D}{vs:List Value}{ds:List D} (h:bz P X v d) (r:bG P X vs ds):bG P X (v::vs) (d::ds)
inductive du (P:Params)(X:XT):List DictEntry->List (Nat×D)->Prop where
 |nil:du P X [] []
 |cons {x:Nat} (hx:x<12){t:Tok}{v:Value}{d:D}{es:List DictEntry}{fs:List (Nat×D)} (h:bz P X v d) (r:du P X es fs):du P X (⟨PyData.keyHash P (bh x),.str (bh x) t,v⟩::es) ((x,d)::fs)
end
def fE(X X':XT):Prop:=∀b o,X b=some o->X' b=some o
theorem fE.refl(X:XT):fE X X:=λ _ _ e=>e
theorem fE.trans{X Y Z:XT}(a:fE X Y)(b:fE Y Z):fE X Z:=λ c o e=>b c o (a c o e)
section
variable {X X':XT}
inductive mn (P:Params)(X:XT)(T:String)(ds:List D)(v:Value):Prop where
 |mk (a:Addr) (vs:List Value) (n:Nat) (e:v=.ref a) (h:X a=some (seqObj T vs.toArray n)) (r:bG P X vs ds)
inductive K5 (P:Params)(X:XT)(C:Addr)(fs:List (Nat×D))(v:Value):Prop where
 |mk (a dx:Addr) (es:List DictEntry) (n:Nat) (e:v=.ref a) (h:X a=some (instObj C dx)) (hd:X dx=some (dictOf es n)) (r:du P X es fs)
inductive OO (X:XT)(a b c:Int)(v:Value):Prop where
 |mk (x:Addr) (t u w:Tok) (e:v=.ref x) (h:X x=some (rk a b c t u w))
inductive K6 (X:XT)(ks:List Int)(v:Value):Prop where
 |mk (a:Addr) (o:Obj) (es:Array DictEntry) (ep:Nat) (e:v=.ref a) (h:X a=some o) (hc:o.ExactDict) (hd:o.data=.dict es ep) (hk:IntKeys es) (hf:∀k,(findBy Value.isInt es k).isSome=ks.contains k) (hm:a≠1)
inductive K7 (P:Params)(X:XT)(d:D)(ds:List D)(vs:List Value):Prop where
 |mk (v:Value) (ws:List Value) (e:vs=v::ws) (h:bz P X v d) (r:bG P X ws ds)
inductive Ff (P:Params)(X:XT)(x:Nat)(d:D)(fs:List (Nat×D))(es:List DictEntry):Prop where
 |mk (t:Tok) (v:Value) (ws:List DictEntry) (e:es=⟨PyData.keyHash P (bh x),.str (bh x) t,v⟩::ws) (hx:x<12) (h:bz P X v d) (r:du P X ws fs)
noncomputable def Rb(P:Params)(X:XT)(v:Value):D->Prop
 |.none=>v=.none
 |.bool b=>v=.bool b
 |.int i=>∃t,v=.int i t
 |.str l=>∃t,v=.str ⟨l.toArray⟩ t
 |.bytes l=>∃t,v=.bytes l.toArray t
 |.tup ds=>mn P X "tuple" ds v
 |.list ds=>mn P X "list" ds v
 |.inst C fs=>K5 P X C fs v
 |.ref a=>v=.ref a
 |.ty n=>v=.type n
 |.bi n=>v=.builtin n
 |.rng a b c=>OO X a b c v
 |.dict ks=>K6 X ks v
noncomputable def OQ(P:Params)(X:XT)(vs:List Value):List D->Prop
 |[]=>vs=[]
 |d::ds=>K7 P X d ds vs
noncomputable def OR(P:Params)(X:XT)(es:List DictEntry):List (Nat×D)->Prop
 |[]=>es=[]
 |(x,d)::fs=>Ff P X x d fs es
theorem bz.inv{v:Value}{d:D}(h:bz P X v d):Rb P X v d :=
 h.casesOn rfl (λ _=>rfl) (λ _ t=>⟨t,rfl⟩) (λ _ t=>⟨t,rfl⟩) (λ _ t=>⟨t,rfl⟩) (λ h r=>⟨_,_,_,rfl,h,r⟩) (λ h r=>⟨_,_,_,rfl,h,r⟩) (λ h hd r=>⟨_,_,_,_,rfl,h,hd,r⟩)
  (λ _=>rfl) (λ _=>rfl) (λ _=>rfl) (λ h=>⟨_,_,_,_,rfl,h⟩) λ h hc hd hk hf hm=>⟨_,_,_,_,rfl,h,hc,hd,hk,hf,hm⟩
theorem bG.inv{vs:List Value}{ds:List D}(h:bG P X vs ds):OQ P X vs ds:=h.casesOn rfl λ h r=>⟨_,_,rfl,h,r⟩
theorem du.inv{es:List DictEntry}{fs:List (Nat×D)}(h:du P X es fs):OR P X es fs:=h.casesOn rfl λ hx _ _ _ _ _ h r=>⟨_,_,_,rfl,hx,h,r⟩
def j8(o:Obj):Prop:=(∃c,o.cls=.type c/\c≠"list"/\c≠"tuple"/\c≠"range")/\∃fs,o.data=.fields fs
def OH(X X':XT):Prop:=∀b o,X b=some o->¬j8 o->X' b=some o
theorem bz.keep(k:OH X X'){v:Value}{d:D}(h:bz P X v d):bz P X' v d :=
 h.rec (motive_1:=λ v d _=>bz P X' v d) (motive_2:=λ v d _=>bG P X' v d) (motive_3:=λ v d _=>du P X' v d) .none .bool .int .str .bytes
  (λ h _ r=>.tup (k _ _ h λ⟨_,_,e⟩=>nomatch e) r) (λ h _ r=>.list (k _ _ h λ⟨_,_,e⟩=>nomatch e) r) (λ h hd _ r=>.inst (k _ _ h λ⟨⟨_,e,_⟩,_⟩=>nomatch e) (k _ _ hd λ⟨_,_,e⟩=>nomatch e) r) .ref .ty .bi
  (λ h=>.rng (k _ _ h λ⟨⟨_,e,_,_,n⟩,_⟩=>n (Value.type.inj e).symm))
  (λ h hc hd hk hf hm=>.dict (k _ _ h λ⟨_,_,e⟩=>nomatch hd.symm.trans e) hc hd hk hf hm) .nil (λ _ _ a b=>.cons a b) .nil (λ hx _ _ _ _ _ _ _ a b=>.cons hx a b)
theorem bG.keep(k:OH X X'):∀{vs:List Value}{ds:List D},bG P X vs ds->bG P X' vs ds
 |vs,[],h=>by rw[show vs=[]from h.inv];exact .nil
 |vs,d::ds,h=>let ⟨_,_,e,a,r⟩:=h.inv;e▸.cons (a.keep k) (r.keep k)
theorem du.keep(k:OH X X'):∀{es:List DictEntry}{fs:List (Nat×D)},du P X es fs->du P X' es fs
 |es,[],h=>by rw[show es=[]from h.inv];exact .nil
 |es,(x,d)::fs,h=>let ⟨_,_,_,e,hx,a,r⟩:=h.inv;e▸.cons hx (a.keep k) (r.keep k)
theorem fE.kp(k:fE X X'):OH X X':=λ b o e _=>k b o e
theorem bz.mono(k:fE X X'){v:Value}{d:D}(h:bz P X v d):bz P X' v d:=h.keep k.kp
theorem bG.mono(k:fE X X'){vs:List Value}{ds:List D}(h:bG P X vs ds):bG P X' vs ds:=h.keep k.kp
theorem du.mono(k:fE X X'){es:List DictEntry}{fs:List (Nat×D)}(h:du P X es fs):du P X' es fs:=h.keep k.kp
theorem bG.length:∀{vs:List Value}{ds:List D},bG P X vs ds->vs.length=ds.length
 |vs,[],h=>by rw[show vs=[]from h.inv];rfl
 |vs,d::ds,h=>let ⟨_,_,e,a,r⟩:=h.inv;e▸congrArg (·+1) r.length
theorem bG.append{ws:List Value}{es:List D}:∀{vs:List Value}{ds:List D},bG P X vs ds->bG P X ws es->bG P X (vs++ws) (ds++es)
 |vs,[],h,k=>by rw[show vs=[]from h.inv];exact k
 |vs,d::ds,h,k=>let ⟨_,_,e,a,r⟩:=h.inv;e▸.cons a (r.append k)
theorem bG.get:∀{vs:List Value}{ds:List D},bG P X vs ds->∀(i:Nat){d:D},ds[i]?=some d->∃v,vs[i]?=some v/\bz P X v d
 |vs,[],h,i,_,e=>nomatch e
 |vs,d::ds,h,0,_,e=>let ⟨v,_,e',a,r⟩:=h.inv;e'▸⟨v,rfl,A02 e▸a⟩
 |vs,d::ds,h,i+1,_,e=>let ⟨_,_,e',a,r⟩:=h.inv;e'▸r.get i e
end
set_option genCtorIdx true
inductive SK where | loc | glb
noncomputable abbrev Rh:=List (Str×SK×Option D)
set_option genCtorIdx false
class inductive Lk:Rh->Str->D->Prop where
 |here {x:Str}{k:SK}{d:D}{r:Rh}:Lk ((x,k,some d)::r) x d
 |there {x:Str}{d:D}{p:Str×SK×Option D}{r:Rh} (h:Lk r x d):Lk (p::r) x d
class inductive i9:Rh->Str->D->Rh->Prop where
 |here {x:Str}{o:Option D}{d:D}{r:Rh}:i9 ((x,.loc,o)::r) x d ((x,.loc,some d)::r)
 |there {x:Str}{d:D}{p:Str×SK×Option D}{r r':Rh} (h:i9 r x d r'):i9 (p::r) x d (p::r')
theorem Lk.mem(h:Lk r x d):∃k,(x,k,some d)∈ r:=by
 induction h with
 |here=>exact⟨_,.head _⟩
 |there _ ih=>refine aS ih λ k m=>?_;exact⟨k,.tail _ m⟩
structure c8 where
 prog:Program
 w:World
 K:Frag
 mg:Str->Option Value
 mb:Str->Option Value
 aBad:Addr
 tab:List (Str×D)
 ex:XT
def GV(g:c8)(base:Heap)(x:Str)(d:D):Prop:=∃v,bz g.w.params base.get? v d/\(g.mg x=some v\/(g.mg x=none/\g.mb x=some v))
structure bO where
 name:Str
 qual:Str
 params:Arguments
 body:List Stmt
 scope:Scope
 dflt:Bool
inductive nT (K:Frag)(a:Addr)(r:bO):Prop where
 |mk (oc:Value) (od:Option Addr) (osl:Array (Option Value)) (dV kV doc pm:Value) (an:Option Addr) (cdv ct:Value) (h:K.lookup a=some ⟨oc,od,.func (fnOf r.name r.qual r.params r.body r.scope dV kV doc pm an cdv ct),osl⟩) (c:codeIn K cdv r.qual=true)
  (d:if r.dflt then ∃T o n,dV=.ref T/\K.lookup T=some o/\o.data=.seq #[.none] n else dV=.none)
structure GD (g:c8)(base:Heap):Prop where
 kin:g.K.In base
 ns:base.Ns mainGlobals g.mg
 nb:base.Ns builtinsNs g.mb
 nl:base.NoLimit
 nm:∀x d,g.tab.lookup x=some d->GV g base x d
structure Cx where
 A:Around
 env:Env
 own:List (Str×Addr)
 frs:List Env
 k:Nat
noncomputable def Cx.os(c:Cx):List Addr:=c.env.locals::c.own.map (·.2)
structure Ok (g:c8)(c:Cx):Prop where
 frames:c.A.frames=some c.frs
 kind:c.env.scope.kind=.function
 glob:c.env.globals=mainGlobals
 blt:c.env.builtins=builtinsNs
 room:c.A.depth+c.k<recursionLimit
 units:c.A.units+12*c.k+8<cLine
 hand:0<c.k->c.A.handled=none
 ownc:∀p∈c.own,c.env.cells.lookup p.1=some p.2
 frame:∃e r L,c.frs=e::r/\c.env.frame=e.frame/\e.frame=some L
noncomputable abbrev M(g:c8):Model:=model g.prog g.w
noncomputable abbrev Pm(g:c8):Params:=g.w.params
noncomputable def mz(g:c8)(c:Cx)(base:Heap)(Y:YT)(X:XT)(m:Str->Option Value)(h:Heap):Str×SK×Option D->Prop
 |(x,.loc,o)=>(x==("__debug__":Str))=false /\
   ((c.env.kindOf x=some .local/\∀d,o=some d->∃v,m x=some v/\bz (Pm g) X v d)\/
   (c.env.kindOf x=some .cell/\∃a ez,(x,a)∈ c.own/\h.IsCell a ez/\∀d,o=some d->∃v,ez=some v/\bz (Pm g) X v d))
 |(x,.glb,o)=>(x==("__debug__":Str))=false /\
   ((c.env.kindOf x=some .globalImplicit/\∀d,o=some d->GV g base x d)\/
   ((c.env.kindOf x=some .cell\/c.env.kindOf x=some .free)/\(x==("__classdict__":Str))=false/\∀d,o=some d->∃a cl v,c.env.cells.lookup x=some a/\Y a=some (cl,.cell (some v))/\bz (Pm g) X v d))
noncomputable def jO:Addr×MO->List Addr
 |(a,.list _)=>[a]
 |(a,.inst _ dx _)=>[a,dx]
noncomputable def eD(σ:aN):List Addr:=σ.flatMap jO
noncomputable def gA(P:Params)(X:XT)(h:Heap):Addr×MO->Prop
 |(a,.list ds)=>∃vs n,h.get? a=some (seqObj "list" vs.toArray n)/\bG P X vs ds
 |(a,.inst C dx fs)=>h.get? a=some (instObj C dx)/\∃es n,h.get? dx=some (dictOf es n)/\du P X es fs
structure aG (g:c8)(c:Cx)(base:Heap)(Y:YT)(X:XT)(ρ:Rh)(σ:aN)(h:Heap):Prop where
 gd:GD g base
 ok:Ok g c
 bx:∀b o,base.get? b=some o->X b=some o
 x:∀b o,X b=some o->h.get? b=some o
 y:∀b cl d,Y b=some (cl,d)->∃o,h.get? b=some o/\o.cls=cl/\o.data=d
 yx:∀b p,Y b=some p->X b=none
 fr:∀e∈c.frs,e.scope.kind≠.module/\∃L,e.frame=some L/\(L=c.env.locals\/∃cl d,Y L=some (cl,d)/\∀vs,d≠.fields vs)
 ow:∀a∈c.os,(∃o,h.get? a=some o/\∀vs,o.data≠.fields vs)/\X a=none/\Y a=none/\a∉eD σ
 nd:c.os.Nodup
 sr:∀p∈σ,gA (Pm g) X h p
 sn:(eD σ).Nodup
 sx:∀a∈eD σ,X a=none/\Y a=none
 loc:∃m,h.Ns c.env.locals m/\∀p∈ρ,mz g c base Y X m h p
 abv:base.objs.size<=c.env.locals
 nn:(ρ.map (·.1)).Nodup
 xe:∀b o,g.ex b=some o->X b=some o
 yf:∀b p,Y b=some p->∀vs,p.2≠.fields vs
def TI(h:Heap)(b:Addr):Prop:=∃o,h.get? b=some o/\∀vs,o.data≠.fields vs
structure dR (O:List Addr)(Y:YT)(s s':Shared):Prop where
 sm:∃h t,s'={ s with heap:=h,toks:=t }
 ko:∀b∈O,(∀m,s.heap.Ns b m->s'.heap.Ns b m)/\(∀v,s.heap.IsCell b v->s'.heap.IsCell b v)/\(TI s.heap b->TI s'.heap b)
 ky:∀b o,(∃p,Y b=some p)->s.heap.get? b=some o->(∀vs,o.data≠.fields vs)->∃o',s'.heap.get? b=some o'/\o'.cls=o.cls/\o'.data=o.data
theorem dR.ext(k:∀b o,s.heap.get? b=some o->h.get? b=some o):dR O Y s { s with heap:=h,toks:=t } :=
 ⟨⟨h,t,rfl⟩,λ b _=>⟨λ m hn=>hn.keeps k,λ v hc=>hc.keeps k,λ⟨o,e,n⟩=>⟨o,k b o e,n⟩⟩,λ b o _ e _=>⟨o,k b o e,rfl,rfl⟩⟩
theorem dR.refl(O:List Addr)(Y:YT)(s:Shared):dR O Y s s:=.ext λ _ _ e=>e
theorem dR.trans(a:dR O Y s aB)(b:dR O Y aB aP):dR O Y s aP:=by
 refine⟨?_,λ x h=>⟨λ m hn=>(b.ko x h).1 m ((a.ko x h).1 m hn),λ v hc=>(b.ko x h).2.1 v ((a.ko x h).2.1 v hc),λ n=>(b.ko x h).2.2 ((a.ko x h).2.2 n)⟩,λ x o h e n=>?_⟩
 .refine fS a.sm λ h t dz=>?_;subst dz
  refine fS b.sm λ h' t' dz=>?_;subst dz
  exact iB h' t' rfl
 .refine cG (a.ky x o h e n) λ eX mM kD bB=>cG (b.ky x eX h mM (by rw[bB];exact n)) λ cq gK Ef bn=>dW cq gK (Ef.trans kD) (bn.trans bB)
theorem dR.toks(O:List Addr)(Y:YT)(s:Shared)(t:Nat):dR O Y s { s with toks:=t }:=.ext λ _ _ e=>e
theorem dR.sub(a:dR O Y s s')(h:∀x∈O',x∈O):dR O' Y s s':=⟨a.sm,λ b m=>a.ko b (h b m),a.ky⟩
theorem sG{h:Heap}(x:h.Ns b m)(y:h.Ns b m'):m=m':=by
 refine kT x λ o es ep e ed _ f=>kT y λ o' rM Ul e' vk _ f'=>?_
 rw[e]at e';(refine sj e' λ zq=>?_;subst zq)
 rw[ed]at vk;(injection vk with zq;subst zq)
 exact funext λ n=>(f n).symm.trans (f' n)
inductive Re (base:Heap)(ex:XT)(h:Heap)(e:Addr)(vs:Array Value):Prop
 |no (k:vs[1]?=some .none)
 |tb (T:Addr) (tc:Value) (td:Option Addr) (ts:Array Value) (tl:Array (Option Value)) (fl:Value) (k1:vs[1]?=some (.ref T)) (k2:base.get? T=none/\ex T=none) (k3:T≠e) (k4:h.get? T=some ⟨tc,td,.fields ts,tl⟩) (k5:ts[3]?=some fl)
inductive Kb (g:c8)(base:Heap)(frs:List Env)(e dx:Addr)(told:D)(h:Heap):Prop
 |mk (vs:Array Value) (sl:Array (Option Value)) (od:Obj) (v:Value) (he:h.get? e=some ⟨.ref g.aBad,some dx,.fields vs,sl⟩) (jK:base.get? dx=none) (mx:h.get? dx=some od) (wP:dx∉frs.filterMap (·.frame))
  (qV:∃es n,od.data=.dict es n) (qU:lookIn "told" od=some (some v)) (hr:bz (Pm g) base.get? v told) (wO:5<vs.size) (hh:Re base g.ex h e vs)
structure lG (g:c8)(base:Heap)(frs:List Env)(e dx:Addr)(told:D)(h:Heap):Prop where
 stays:base.StaysIn h
 new:base.get? e=none/\g.ex e=none
 ff:h.FunFrames base frs
 xs:∀b o,g.ex b=some o->h.get? b=some o
 nx:∀L∈frs.filterMap (·.frame),g.ex L=none
 ob:Kb g base frs e dx told h
inductive EP (g:c8)(c:Cx)(O:List Addr)(base:Heap)(Y:YT)(s:Shared)(E:D->Prop)(v:Value)(s':Shared):Prop where
 |mk (e dx:Addr) (told:D) (h1:v=.ref e) (h2:lG g base c.frs e dx told s'.heap) (h3:dR O Y s s') (h4:E told) (h5:∀b∈[e,dx],b∉O/\Y b=none/\g.ex b=none)
theorem EP.cx(e:kD.frs=c.frs)(h:EP g kD O base Y s E v s'):EP g c O base Y s E v s' :=
 by obtain⟨x,dx,t,h1,h2,h3,h4,h5⟩:=h;exact⟨x,dx,t,h1,e▸h2,h3,h4,h5⟩
theorem EP.back(a:dR O Y s aB)(h:EP g c O base Y aB E v s'):EP g c O base Y s E v s' :=
 by obtain⟨e,dx,t,h1,h2,h3,h4,h5⟩:=h;exact⟨e,dx,t,h1,h2,a.trans h3,h4,h5⟩
inductive PV (g:c8)(c:Cx)(base:Heap)(Y:YT)(X:XT)(ρ:Rh)(s:Shared)(Q:D->aN->Prop)(v:Value)(s':Shared):Prop where
 |mk (X':XT) (d:D) (σ':aN) (h1:fE X X') (h2:aG g c base Y X' ρ σ' s'.heap) (h3:dR c.os Y s s') (h4:bz (Pm g) X' v d) (h5:Q d σ')
inductive PB (g:c8)(c:Cx)(base:Heap)(Y:YT)(X:XT)(ρ:Rh)(s:Shared)(Q:Bool->aN->Prop)(b:Bool)(s':Shared):Prop where
 |mk (X':XT) (σ':aN) (h1:fE X X') (h2:aG g c base Y X' ρ σ' s'.heap) (h3:dR c.os Y s s') (h4:Q b σ')
inductive PL (g:c8)(c:Cx)(base:Heap)(Y:YT)(X:XT)(ρ:Rh)(s:Shared)(Q:List D->aN->Prop)(vs:List Value)(s':Shared):Prop where
 |mk (X':XT) (ds:List D) (σ':aN) (h1:fE X X') (h2:aG g c base Y X' ρ σ' s'.heap) (h3:dR c.os Y s s') (h4:bG (Pm g) X' vs ds) (h5:Q ds σ')
inductive PU (g:c8)(c:Cx)(base:Heap)(Y:YT)(X:XT)(ρ:Rh)(s:Shared)(Q:aN->Prop)(u:Unit)(s':Shared):Prop where
 |mk (X':XT) (σ':aN) (h1:fE X X') (h2:aG g c base Y X' ρ σ' s'.heap) (h3:dR c.os Y s s') (h4:Q σ')
def AE(g:c8)(c:Cx)(ρ:Rh)(σ:aN)(e:Expr)(Q:D->aN->Prop)(E:D->Prop):Prop :=
 ∀base Y X s,aG g c base Y X ρ σ s.heap->wpAny (M g) c.A (eval e c.env) (PV g c base Y X ρ s Q) (EP g c c.os base Y s E) s
def AT(g:c8)(c:Cx)(ρ:Rh)(σ:aN)(e:Expr)(Q:Bool->aN->Prop)(E:D->Prop):Prop :=
 ∀base Y X s,aG g c base Y X ρ σ s.heap->wpAny (M g) c.A (isTrue e c.env (eval e c.env)) (PB g c base Y X ρ s Q) (EP g c c.os base Y s E) s
def wL(g:c8)(c:Cx)(ρ:Rh)(σ:aN)(pos:Pos)(es:List Expr)(Q:List D->aN->Prop)(E:D->Prop):Prop :=
 ∀base Y X s,aG g c base Y X ρ σ s.heap->wpAny (M g) c.A (spliced (backTo pos (starEach es c.env))) (PL g c base Y X ρ s Q) (EP g c c.os base Y s E) s
def Oy(g:c8)(t:Value->Sem Value)(d:D)(σ:aN)(Q:D->aN->Prop)(E:D->Prop):Prop :=
 ∀c base Y X ρ s v,aG g c base Y X ρ σ s.heap->bz (Pm g) X v d->wpAny (M g) c.A (t v) (PV g c base Y X ρ s Q) (EP g c c.os base Y s E) s
def cy(g:c8)(t:Value->Value->Sem Value)(bB bn:D)(σ:aN)(Q:D->aN->Prop)(E:D->Prop):Prop :=
 ∀c base Y X ρ s bI bU,aG g c base Y X ρ σ s.heap->bz (Pm g) X bI bB->bz (Pm g) X bU bn->wpAny (M g) c.A (t bI bU) (PV g c base Y X ρ s Q) (EP g c c.os base Y s E) s
def AC(g:c8)(k:Nat)(f:D)(ds:List D)(σ:aN)(Q:D->aN->Prop)(E:D->Prop):Prop :=
 ∀c base Y X ρ s fv vs,k<=c.k->aG g c base Y X ρ σ s.heap->bz (Pm g) X fv f->bG (Pm g) X vs ds->wpAny (M g) c.A (call fv vs) (PV g c base Y X ρ s Q) (EP g c c.os base Y s E) s
def CR(Q:Value->Shared->Prop)(E:Value->Shared->Prop)(r:Result)(s':Shared):Prop:=match r with
 |.ok (.ret v)=>Q v s'
 |.ok _=>False
 |.error e=>E e s'
def wR(g:c8)(k:Nat)(f:D)(ds:List D)(σ:aN)(Q:D->aN->Prop)(E:D->Prop):Prop :=
 ∀c base Y X ρ s fv vs,k<=c.k->aG g c base Y X ρ σ s.heap->bz (Pm g) X fv f->bG (Pm g) X vs ds->codeAny (M g) c.A (.call fv ⟨vs,[]⟩) (CR (PV g c base Y X ρ s Q) (EP g c c.os base Y s E)) s
theorem wR.ac(h:wR g k f ds σ Q E):AC g k f ds σ Q E:=λ c base Y X ρ s fv vs hk H r1 r2=>wpAny_call (h c base Y X ρ s fv vs hk H r1 r2)
def Oz(g:c8)(d:D)(σ:aN)(Q:Bool->aN->Prop):Prop :=
 ∀c base Y X ρ s v E,aG g c base Y X ρ σ s.heap->bz (Pm g) X v d->wpAny (M g) c.A (truthy v) (PB g c base Y X ρ s Q) (EP g c c.os base Y s E) s
section
variable {s s':Shared}
theorem PV.back(l:fE X X')(a:dR c.os Y s aB)(h:PV g c base Y X' ρ aB Q v s'):PV g c base Y X ρ s Q v s' :=
 by obtain⟨az,d,σ',h1,h2,h3,h4,h5⟩:=h;exact⟨az,d,σ',l.trans h1,h2,a.trans h3,h4,h5⟩
theorem PB.back(l:fE X X')(a:dR c.os Y s aB)(h:PB g c base Y X' ρ aB Q v s'):PB g c base Y X ρ s Q v s' :=
 by obtain⟨az,σ',h1,h2,h3,h4⟩:=h;exact⟨az,σ',l.trans h1,h2,a.trans h3,h4⟩
theorem PL.back(l:fE X X')(a:dR c.os Y s aB)(h:PL g c base Y X' ρ aB Q v s'):PL g c base Y X ρ s Q v s' :=
 by obtain⟨az,d,σ',h1,h2,h3,h4,h5⟩:=h;exact⟨az,d,σ',l.trans h1,h2,a.trans h3,h4,h5⟩
theorem bH(H:aG g c base Y X ρ σ s.heap)(r:bz (Pm g) X v d)(q:Q d σ):PV g c base Y X ρ s Q v { s with toks:=t } :=
 ⟨X,d,σ,.refl X,H,.toks c.os Y s t,r,q⟩
theorem bM(H:aG g c base Y X ρ σ s.heap)(r:bz (Pm g) X v d)(q:Q d σ):PV g c base Y X ρ s Q v s :=
 ⟨X,d,σ,.refl X,H,.refl c.os Y s,r,q⟩
theorem kn(H:aG g c base Y X ρ σ s.heap)(q:Q b σ):PB g c base Y X ρ s Q b s :=
 ⟨X,σ,.refl X,H,.refl c.os Y s,q⟩
end
section
variable {E:D->Prop}
theorem lE(h:AE g c ρ σ e Q E)(hq:∀d σ,Q d σ->Q' d σ)(he:∀d,E d->E' d):AE g c ρ σ e Q' E':=λ base Y X s H=>
 wpAny_mono (h base Y X s H) (λ _ _ iM=>by obtain⟨X',d,σ',h1,h2,h3,h4,h5⟩:=iM;exact⟨X',d,σ',h1,h2,h3,h4,hq _ _ h5⟩) λ _ _ ⟨e,dx,t,h1,h2,h3,h4,h5⟩=>⟨e,dx,t,h1,h2,h3,he _ h4,h5⟩
theorem tJ(h:Q (.int i) σ):AE g c ρ σ (.Constant (.int i) k pos) Q E:=λ _ _ _ _ H=>
 wpAny_Constant_int (bH H (.int _ _) h)
theorem uf(h:Q .none σ):AE g c ρ σ (.Constant .none k pos) Q E:=λ _ _ _ _ H=>
 wpAny_Constant_none (bM H .none h)
theorem Fa(h:Q (.bool b) σ):AE g c ρ σ (.Constant (.bool b) k pos) Q E:=λ _ _ _ _ H=>
 wpAny_Constant_bool (bM H (.bool b) h)
theorem KX(h:Q (.str x.cps.toList) σ):AE g c ρ σ (.Constant (.str x) k pos) Q E:=λ _ _ _ _ H=>
 wpAny_Constant_str (bH H (by obtain⟨a⟩:=x;exact .str a.toList _) h)
theorem B1(h:Q (.bytes b) σ):AE g c ρ σ (.Constant (.bytes b) k pos) Q E:=λ _ _ _ s H=>
 show wpAny _ _ (mkTextBytes b.toArray) _ _ s from wpAny_mkTextBytes (bH H (.bytes b _) h)
theorem B2
  (h:AE g c ρ σ l (λ bB aM=>AE g c ρ aM r (λ bn a9=>cy g (binaryOp op) bB bn a9 Q E) E) E) :
  AE g c ρ σ (.BinOp l op r pos) Q E:=λ base Y X s H=>by
 refine wpAny_BinOp (wpAny_mono (h base Y X s H) ?_ λ _ _ h=>h)
 rintro bI aB ⟨bA,bB,aM,aY,aZ,aJ,aL,a7⟩
 refine wpAny_mono (a7 base Y bA aB aZ) ?_ λ _ _ h=>h.back aJ
 rintro bU aP ⟨az,bn,a9,aU,am,au,aa,a8⟩
 exact wpAny_mono (a8 c base Y az ρ aP bI bU am (aL.mono aU) aa) (λ _ _ z=>z.back (aY.trans aU) (aJ.trans au)) λ _ _ z=>z.back (aJ.trans au)
end
section
variable {E:D->Prop}
theorem aG.fr_of(H:aG g c base Y X ρ σ h):∃m,Fr base c.env.locals h m/\∀p∈ρ,mz g c base Y X m h p :=
 let ⟨m,hn,hb⟩:=H.loc
 ⟨m,⟨hn,λ b o e=>H.x b o (H.bx b o e),H.abv⟩,hb⟩
theorem gu(hl:Lk ρ x d)(H:aG g c base Y X ρ σ s.heap):(x==("__debug__":Str))=false/\wpAny (M g) c.A (loadName c.env x) (λ v s'=>s'=s/\bz (Pm g) X v d) (λ _ _=>False) s:=by
 refine aS hl.mem λ k hm=>aD H.loc λ m hn hb=>?_
 have B:=hb _ hm
 cases k with
 |loc=>
  obtain⟨hd,⟨hk,hv⟩|⟨hk,a,ez,ha,hc,hv⟩⟩:=B
  .refine aD (hv d rfl) λ v e r=>⟨hd,wpAny_loadName_local H.ok.kind hk hn e ⟨rfl,r⟩⟩
  .refine aD (hv d rfl) λ v ak r=>?_;subst ak
   exact⟨hd,wpAny_loadName_cell H.ok.kind hk (H.ok.ownc _ ha) hc ⟨rfl,r⟩⟩
 |glb=>
  obtain⟨hd,⟨hk,hv⟩|⟨hk,nN,hv⟩⟩:=B
  .refine aD (hv d rfl) λ v r e=>?_
   have kb:∀b o,base.get? b=some o->s.heap.get? b=some o:=λ b o e=>H.x b o (H.bx b o e)
   have gn:s.heap.Ns c.env.globals g.mg:=by rw[H.ok.glob];exact H.gd.ns.keeps kb
   refine⟨hd,?_⟩
   rw[loadName_read H.ok.kind hk]
   rcases e with e|⟨e,e'⟩
   .exact loadGlobal_global gn e ⟨rfl,r.mono H.bx⟩
   .exact loadGlobal_builtin gn e (by rw[H.ok.blt];exact H.gd.nb.keeps kb) e' ⟨rfl,r.mono H.bx⟩
  .refine gH (hv d rfl) λ a cl v ha hy r=>cG (H.y _ _ _ hy) λ o ho _ sU=>?_
   rcases hk with hk|hk
   .exact⟨hd,wpAny_loadName_cell H.ok.kind hk ha ⟨o,ho,sU⟩ ⟨rfl,r⟩⟩
   .exact⟨hd,wpAny_loadName_free H.ok.kind hk ha ⟨o,ho,sU⟩ ⟨rfl,r⟩ nN⟩
theorem ca(hl:Lk ρ x d)(q:Q d σ):AE g c ρ σ (.Name x pos) Q E:=λ base Y X s H=>by
 refine aj (gu hl H) λ hd L=>wpAny_Name (wpAny_mono L (λ v s' z=>by refine aj z λ il r=>?_;subst il;exact bM H r q) λ _ _ z=>z.elim) hd
theorem aG.turn(H:aG g c base Y X ρ σ h)(ha:a∈c.os)(hs:Heap.SameBut a h h')
  (hn:∃o,h'.get? a=some o/\∀vs,o.data≠.fields vs) (hl:∃m,h'.Ns c.env.locals m/\∀p∈ρ',mz g c base Y X m h' p) (nn:(ρ'.map (·.1)).Nodup):aG g c base Y X ρ' σ h':=by
 refine kU (H.ow a ha) λ h1 h2 h3 h4=>?_
 have nx:∀b o,X b=some o->b≠a:=λ b o e q=>by simp only[q,h2]at e;exact bJ e
 have ny:∀b p,Y b=some p->b≠a:=λ b o e q=>by simp only[q,h3]at e;exact bJ e
 refine{ gd:=H.gd,ok:=H.ok,bx:=H.bx,x:=λ b o e=>(hs.2 b (nx b o e)).trans (H.x b o e),y:=λ b cl d e=>?_,yx:=H.yx,fr:=H.fr,ow:=λ b hb=>?_,nd:=H.nd,sr:=λ p hp=>?_,sn:=H.sn,sx:=H.sx,loc:=hl,abv:=H.abv,nn:=nn,xe:=H.xe,yf:=H.yf }
 .refine aD (H.y b cl d e) λ o ho r=>ad o ((hs.2 b (ny b _ e)).trans ho) r
 .obtain⟨⟨o,ho,pP⟩,r⟩:=H.ow b hb
  by_cases q:b=a
  .exact⟨q▸hn,r⟩
  .exact⟨⟨o,(hs.2 b q).trans ho,pP⟩,r⟩
 .have R:=H.sr p hp
  have nf:∀b∈jO p,b≠a:=λ b hb q=>h4 (q▸List.mem_flatMap.mpr ⟨p,hp,hb⟩)
  obtain⟨b,mo⟩:=p
  cases mo with
  |list ds=>refine dP R λ vs n e r=>?_;exact gJ vs n ((hs.2 b (nf b (.head _))).trans e) r
  |inst C dx fs=>
   obtain⟨e,es,n,e',r⟩:=R
   exact⟨(hs.2 b (nf b (.head _))).trans e,es,n,(hs.2 dx (nf dx (.tail _ (.head _)))).trans e',r⟩
theorem i9.names(h:i9 ρ x d ρ'):ρ'.map (·.1)=ρ.map (·.1):=by
 induction h with
 |here=>rfl
 |there _ ih=>simp[ih]
theorem i9.mem(h:i9 ρ x d ρ'):∃o,(x,SK.loc,o)∈ ρ:=by
 induction h with
 |here=>exact⟨_,.head _⟩
 |there _ ih=>refine aS ih λ o m=>?_;exact⟨o,.tail _ m⟩
theorem i9.cases(h:i9 ρ x d ρ')(nn:(ρ.map (·.1)).Nodup):∀p∈ρ',(p=(x,.loc,some d))\/(p∈ρ/\p.1≠x):=by
 induction h with
 |@here x o d r=>
  intro p hp
  rcases A03 hp with rfl|hp
  .exact .inl rfl
  .refine .inr ⟨.tail _ hp,λ q=>?_⟩
   simp only[List.map_cons,List.nodup_cons]at nn
   exact nn.1 (A11 ⟨p,hp,q⟩)
 |@there x d T6 r r' h ih=>
  intro p hp
  simp only[List.map_cons,List.nodup_cons]at nn
  rcases A03 hp with rfl|hp
  .refine .inr ⟨.head _,λ q=>nn.1 ?_⟩
   refine aS h.mem λ o m=>A11 ⟨_,m,q.symm⟩
  .rcases ih nn.2 p hp with e|⟨e,n⟩
   .exact .inl e
   .exact .inr ⟨.tail _ e,n⟩
theorem eU(H:aG g c base Y X ρ σ s.heap)(r:bz (Pm g) X v d)(hp:i9 ρ x d ρ')
  (q:∀h' t,aG g c base Y X ρ' σ h'->Q () { s with heap:=h',toks:=t }):wpAny (M g) A (storeName c.env x v) Q Ev s:=by
 refine aS hp.mem λ o hm=>aD H.loc λ m hn hb=>?_
 have cl:(c.env.scope.kind==.class||(c.env.scope.kind==.module&&c.env.locals !=c.env.globals))=false:=by rw[H.ok.kind];rfl
 obtain⟨hd,⟨hk,hv⟩|⟨hk,a,ez,ha,hc,hv⟩⟩:=hb _ hm
 .refine wpAny_storeName_local hk hn (λ h' lu hs=>q h' _ ?_) cl
  refine H.turn (.head _) hs (by refine gH lu λ o es ep e ed _=>?_;exact ad o e (λ vs q=>by rw[ed]at q;cases q)) ⟨_,lu,λ p lm=>?_⟩ (hp.names▸H.nn)
  rcases hp.cases H.nn p lm with rfl|⟨Qd,g7⟩
  .exact⟨hd,.inl ⟨hk,λ d' e=>⟨v,by simp,by(refine sj e λ zq=>?_;subst zq);exact r⟩⟩⟩
  .have B:=hb p Qd
   obtain⟨y,k,o'⟩:=p
   cases k with
   |loc=>
    obtain⟨ig,⟨mw,v7⟩|⟨mw,a',wW,My,v8,v7⟩⟩:=B
    .refine⟨ig,.inl ⟨mw,λ d' e=>?_⟩⟩
     refine aD (v7 d' e) λ v' e' r'=>ad v' ((if_neg g7).trans e') r'
    .refine⟨ig,.inr ⟨mw,a',wW,My,v8.sameBut hs (λ q=>?_),v7⟩⟩
     have:=H.nd
     simp only[Cx.os,List.nodup_cons]at this
     exact this.1 (A11 ⟨_,My,q⟩)
   |glb=>exact B
 .refine wpAny_storeName_cell H.ok.kind hk (H.ok.ownc _ ha) hc (λ h' v8 hs=>q h' s.toks ?_)
  have hLa:c.env.locals≠a:=λ q=>by
   have:=H.nd
   simp only[Cx.os,List.nodup_cons]at this
   exact this.1 (A11 ⟨_,ha,q.symm⟩)
  refine H.turn (.tail _ (A11 ⟨_,ha,rfl⟩)) hs (by refine aD v8 λ o e ed=>?_;exact ad o e (λ vs q=>by rw[ed]at q;cases q)) ⟨m,hn.sameBut hs hLa,λ p lm=>?_⟩ (hp.names▸H.nn)
  rcases hp.cases H.nn p lm with rfl|⟨Qd,g7⟩
  .exact⟨hd,.inr ⟨hk,a,some v,ha,v8,λ d' e=>⟨v,rfl,by(refine sj e λ zq=>?_;subst zq);exact r⟩⟩⟩
  .have B:=hb p Qd
   obtain⟨y,k,o'⟩:=p
   cases k with
   |loc=>
    obtain⟨ig,⟨mw,v7⟩|⟨mw,a',wW,My,U9,v7⟩⟩:=B
    .exact⟨ig,.inl ⟨mw,v7⟩⟩
    .refine⟨ig,.inr ⟨mw,a',wW,My,U9.sameBut hs (λ q=>g7 ?_),v7⟩⟩
     subst q
     have nd:=H.nd
     simp only[Cx.os,List.nodup_cons]at nd
     exact own_inj nd.2 My ha
   |glb=>exact B
where
 own_inj {l:List (Str×Addr)}{y x:Str}{a:Addr} (nd:(l.map (·.2)).Nodup) (h1:(y,a)∈ l) (h2:(x,a)∈ l):y=x:=by
  induction l with
  |nil=>exact cu h1
  |cons p r ih=>
   simp only[List.map_cons,List.nodup_cons]at nd
   rcases A03 h1 with e1|e1<;>rcases A03 h2 with e2|e2
   .simp only[<-e2]at e1;exact congrArg Prod.fst e1
   .exact absurd (A11 ⟨_,e2,by simp only[<-e1]⟩) nd.1
   .exact absurd (A11 ⟨_,e1,by simp only[<-e2]⟩) nd.1
   .exact ih nd.2 e1 e2
end
def NF(h h':Heap):Prop:=∀b o,h.get? b=some o->(∀vs,o.data≠.fields vs)->∃sl,h'.get? b=some { o with slots:=sl }
theorem NF.refl(h:Heap):NF h h:=λ _ o e _=>⟨o.slots,e⟩
theorem NF.trans(a:NF h a7)(b:NF a7 a8):NF h a8:=λ x o e n=>by
 refine aS (a x o e n) λ sl mM=>aS (b x _ mM n) λ O5 gK=>⟨O5,gK⟩
theorem NF.stp(a:NF s.heap h):dR O Y s { s with heap:=h } :=
 ⟨⟨h,s.toks,rfl⟩,λ b _=>⟨λ m ⟨o,es,ep,e,ed,r⟩=>by
   obtain⟨sl,e'⟩:=a b o e λ vs q=>by rw[ed]at q;cases q
   exact⟨_,es,ep,e',ed,r⟩,λ v ⟨o,e,ed⟩=>by
   obtain⟨sl,e'⟩:=a b o e λ vs q=>by rw[ed]at q;cases q
   exact⟨_,e',ed⟩,λ⟨o,e,n⟩=>by obtain⟨sl,e'⟩:=a b o e n;exact ad _ e' n⟩,λ b o _ e n=>by obtain⟨sl,e'⟩:=a b o e n;exact dW _ e' rfl rfl⟩
section
variable {s:Shared}
def Hd(e:Addr)(h:Heap):Prop:=∃c d vs sl T,h.get? e=some ⟨c,d,.fields vs,sl⟩/\vs[1]?=some (.ref T)
theorem vg(F:lG g base frs e dx told h)(k:∀b,b∉frs.filterMap (·.frame)->a7.get? b=h.get? b)(k2:∀b o,h.get? b=some o->∃sl,a7.get? b=some { o with slots:=sl }):lG g base frs e dx told a7/\NF h a7:=by
 have nfr:∀{b c d ws sl},h.get? b=some ⟨c,d,.fields ws,sl⟩->a7.get? b=some ⟨c,d,.fields ws,sl⟩:=λ{b c d ws sl} ho=>(k b λ hm=>by
  obtain⟨_,o',nr,pP⟩:=F.ff.mem hm
  rw[ho]at nr;(refine sj nr λ zq=>?_;subst zq)
  exact pP ws rfl).trans ho
 refine⟨⟨λ b o ol=>(k b λ hm=>by rw[(F.ff.mem hm).1]at ol;exact bJ ol).trans (F.stays b o ol),F.new,F.ff.of_keeps λ b o hb _=>?_,λ b o q=>(k b λ hm=>by rw[F.nx b hm]at q;exact bJ q).trans (F.xs b o q),F.nx,?_⟩,λ b o e _=>k2 b o e⟩
 .refine aS (k2 b o hb) λ sl hs=>ad _ hs rfl
 .obtain⟨vs,sl,od,v,he,jK,mx,wP,qV,qU,hr,wO,hh⟩:=F.ob
  refine⟨vs,sl,od,v,nfr he,jK,(k dx wP).trans mx,wP,qV,qU,hr,wO,?_⟩
  cases hh with
  |no hh=>exact .no hh
  |tb T tc td ts tl fl k1 k2 k3 k4 k5=>exact .tb T tc td ts tl fl k1 k2 k3 (nfr k4) k5
theorem lG.xfresh(F:lG g base frs e dx told h):g.ex h.objs.size=none:=by
 cases q:g.ex h.objs.size with
 |none=>rfl
 |some o=>exact absurd (Heap.lt_size (F.xs _ _ q)) (Nat.lt_irrefl _)
theorem zs(F:lG g base frs e dx told h)(hc:ob.data=.fields ts)(Oi:ob.isFreed=false)(h3:ts[3]?=some fl) :
  lG g base frs e dx told ((h.push ob).update e (Obj.mapFields (·.setIfInBounds 1 (.ref h.objs.size))))/\NF h ((h.push ob).update e (Obj.mapFields (·.setIfInBounds 1 (.ref h.objs.size))))/\Hd e ((h.push ob).update e (Obj.mapFields (·.setIfInBounds 1 (.ref h.objs.size)))):=by
 obtain⟨vs,sl,od,v,he,jK,mx,wP,qV,qU,hr,wO,_⟩:=F.ob
 obtain⟨tc,td,tt,tl⟩:=ob
 subst hc
 have h1:1<vs.size:=by exact O8 ‹_›
 have hv:(vs.setIfInBounds 1 (.ref h.objs.size))[1]?=some (.ref h.objs.size):=by rw[Array.getElem?_setIfInBounds_self,if_pos h1]
 have self:=Heap.get?_update_self (Obj.mapFields (·.setIfInBounds 1 (Value.ref h.objs.size))) (Heap.get?_push_of_some (h:=h) ⟨tc,td,.fields ts,tl⟩ he) rfl
 have keep:∀b o,b≠e->h.get? b=some o->((h.push ⟨tc,td,.fields ts,tl⟩).update e (Obj.mapFields (·.setIfInBounds 1 (.ref h.objs.size)))).get? b=some o:=λ b o Ua hb=>(Heap.get?_update_other _ _ (Ne.symm Ua)).trans (Heap.get?_push_of_some _ hb)
 have ne:∀{b o},h.get? b=some o->(∀vs,o.data≠.fields vs)->b≠e:=λ hb pP q=>by rw[q,he]at hb;(refine sj hb λ zq=>?_;subst zq);exact pP vs rfl
 have hTe:h.objs.size≠e:=Nat.ne_of_gt (Heap.lt_size he)
 have hT:((h.push ⟨tc,td,.fields ts,tl⟩).update e (Obj.mapFields (·.setIfInBounds 1 (.ref h.objs.size)))).get? h.objs.size=some ⟨tc,td,.fields ts,tl⟩:=(Heap.get?_update_other _ _ (Ne.symm hTe)).trans (Heap.get?_push_size _ Oi)
 generalize ((h.push ⟨tc,td,.fields ts,tl⟩).update e (Obj.mapFields (·.setIfInBounds 1 (.ref h.objs.size))))=a8 at *
 refine eN ⟨λ b o ol=>keep b o (λ q=>by rw[q,F.new.1]at ol;exact bJ ol) (F.stays b o ol),F.new,F.ff.of_keeps λ b o hb pP=>⟨o,keep b o (ne hb pP) hb,rfl⟩,λ b o ol=>keep b o (λ q=>by rw[q,F.new.2]at ol;exact bJ ol) (F.xs b o ol),F.nx,?_⟩ (λ b o hb pP=>⟨o.slots,keep b o (ne hb pP) hb⟩) ⟨_,_,_,_,_,self,hv⟩
 exact⟨_,sl,od,v,self,jK,keep dx od (ne mx λ ws q=>by refine fS qV λ es n hd=>?_;rw[hd]at q;cases q) mx,wP,qV,qU,hr,by simp only[Array.size_setIfInBounds];exact wO,.tb h.objs.size tc td ts tl fl hv ⟨F.stays.fresh,F.xfresh⟩ hTe hT h3⟩
theorem oD(rL:A.frames=some (env::outer))(hf:env.frame=some L)(F:lG g base (env::outer) e dx told s.heap)
  (h:∀h',lG g base (env::outer) e dx told h'->NF s.heap h'->Hd e h'->Q () { s with heap:=h' }) :
  wpAny (M g) A (do let a<-frameOf env;let pl<-entryPlaceOf L hadNext;let b<-EntryCells.newEntry head a .none (rawInt L) .none pl;setField (.ref e) 1 b) Q Ev s:=by
 refine wpAny_bind (wpAny_frameOf_fun rL F.ff hf λ a7 aV=>?_)
 refine aj (vg F aV.2.1 aV.2.2) λ rG sF=>wpAny_bind (wpAny_entryPlaceOf λ pl zS=>?_)
 refine wpAny_bind (wpAny_newObj_type ?_ (zS.sizeOk5 _ _ _ _ _))
 refine cI (zs (ob:={ cls:=.type "traceback",dict:=none,data:=.fields ([head,.ref L,.none,rawInt L,.none]++ (if pl.isEmpty then List.replicate 6 Value.none else pl)).toArray }) (fl:=rawInt L) rG rfl rfl (by
  first|(simp;done)|(rcases zS with rfl|⟨_,_,_,_,_,_,_,rfl⟩<;>simp))) λ ib sE bn=>?_
 obtain⟨vs,sl,od,v,he,_,_,_,_,_,_,wO,_⟩:=rG.ob
 exact wpAny_setField (Heap.get?_push_of_some _ he) rfl (by exact O8 ‹_›) (h _ ib (sF.trans sE) bn)
theorem uE(F:lG g base frs e dx told h)(hTe:T≠e)(hnT:base.get? T=none/\g.ex T=none)(hT:h.get? T=some ⟨tc,td,.fields ts,tl⟩)(h3:3<ts.size) :
  lG g base frs e dx told (h.update T (Obj.mapFields (·.setIfInBounds 3 x)))/\NF h (h.update T (Obj.mapFields (·.setIfInBounds 3 x))):=by
 have other:∀b,b≠T->(h.update T (Obj.mapFields (·.setIfInBounds 3 x))).get? b=h.get? b:=λ b hb=>Heap.get?_update_other _ _ (Ne.symm hb)
 have self:=Heap.get?_update_self (Obj.mapFields (·.setIfInBounds 3 x)) hT rfl
 have noRec:∀b o,h.get? b=some o->(∀vs,o.data≠.fields vs)->b≠T:=λ b o hb pP q=>by simp only[q,hT]at hb;(refine sj hb λ zq=>?_;subst zq);exact pP ts rfl
 obtain⟨vs,sl,od,v,he,jK,mx,wP,⟨es,n,qV⟩,qU,hr,wO,hh⟩:=F.ob
 refine⟨⟨λ b o ol=>(other b λ q=>by simp only[q,hnT.1]at ol;exact bJ ol).trans (F.stays b o ol),F.new,F.ff.of_keeps λ b o hb pP=>⟨o,(other b (noRec b o hb pP)).trans hb,rfl⟩,λ b o ol=>(other b λ q=>by simp only[q,hnT.2]at ol;exact bJ ol).trans (F.xs b o ol),F.nx,?_⟩,λ b o hb pP=>⟨o.slots,(other b (noRec b o hb pP)).trans hb⟩⟩
 refine⟨vs,sl,od,v,(other e (Ne.symm hTe)).trans he,jK,(other dx (noRec dx od mx λ ws q=>by rw[qV]at q;cases q)).trans mx,wP,⟨es,n,qV⟩,qU,hr,wO,?_⟩
 rcases hh with hh|⟨T',TX,TW,TU,TV,Ui,k1,k2,k3,k4,k5⟩
 .exact .no hh
 .by_cases q:T'=T
  .subst q
   rw[hT]at k4;cases k4
   exact .tb T' _ _ _ _ x k1 k2 k3 self (by rw[Array.getElem?_setIfInBounds_self,if_pos h3])
  .exact .tb T' TX TW TU TV Ui k1 k2 k3 ((other T' q).trans k4) k5
theorem mH(rL:A.frames=some (env::outer))(hf:env.frame=some L)(F:lG g base (env::outer) e dx told s.heap)
  (h:∀h',lG g base (env::outer) e dx told h'->NF s.heap h'->Hd e h'->Q () { s with heap:=h' }):wpAny (M g) A (noteFrame (.ref e) env) Q Ev s:=by
 obtain⟨vs,sl,od,v,he,jK,mx,wP,qV,qU,hr,wO,hh⟩:=F.ob
 delta noteFrame
 rw[hf]
 rcases hh with hh|⟨T,tc,td,ts,tl,fl,k1,k2,k3,k4,k5⟩
 .refine wpAny_bind (wpAny_field he rfl hh ?_)
  exact oD rL hf F h
 .refine wpAny_bind (wpAny_field he rfl k1 ?_)
  refine wpAny_bind (wpAny_field k4 rfl k5 ?_)
  have h3:3<ts.size:=(Array.getElem?_eq_some_iff.mp k5).1
  by_cases q:(fl==rawInt L)=true
  .rw[if_pos q]
   exact wpAny_pure (h s.heap F (NF.refl _) ⟨_,_,_,_,T,he,k1⟩)
  .rw[if_neg q]
   refine wpAny_bind (wpAny_setField k4 rfl h3 ?_)
   refine aj (uE (x:=Value.none) F k3 k2 k4 h3) λ F' n'=>oD (s:={ s with heap:=s.heap.update T (Obj.mapFields (·.setIfInBounds 3 Value.none)) }) rL hf F' λ h' f' n hd=>h h' f' (n'.trans n) hd
theorem ft(F:lG g base frs e dx told s.heap)(hd:Hd e s.heap)
  (h:∀h',lG g base frs e dx told h'->NF s.heap h'->Hd e h'->Q () { s with heap:=h' }):wpAny (M g) A (setFlight (.ref e) fr) Q Ev s:=by
 obtain⟨vs,sl,od,v,he,jK,mx,wP,qV,qU,hr,wO,hh⟩:=F.ob
 obtain⟨c',d',cZ,O5,T',Mq,Mz⟩:=hd
 rw[he]at Mq;cases Mq
 rcases hh with hh|⟨T,tc,td,ts,tl,fl,k1,k2,k3,k4,k5⟩
 .rw[hh]at Mz;cases Mz
 .refine wpAny_bind (wpAny_field he rfl k1 ?_)
  have h3:3<ts.size:=(Array.getElem?_eq_some_iff.mp k5).1
  refine aj (uE (x:=fr.elim .none λ f=>rawInt f) F k3 k2 k4 h3) λ F' n'=>wpAny_setField k4 rfl h3 (h _ F' n' ⟨_,_,_,_,T,(Heap.get?_update_other _ _ k3).trans he,k1⟩)
theorem lG.out(F:lG g base (env::outer) e dx told s.heap):lG g base outer e dx told s.heap:=by
 obtain⟨vs,sl,od,v,he,jK,mx,wP,r1,r2,r3,r4,r5⟩:=F.ob
 exact⟨F.stays,F.new,F.ff.2.2,F.xs,λ L hL=>F.nx L (by
  rw[List.filterMap_cons]
  cases env.frame with
  |none=>exact hL
  |some _=>exact List.mem_cons_of_mem _ hL),vs,sl,od,v,he,jK,mx,λ q=>wP (by
  rw[List.filterMap_cons]
  cases env.frame with
  |none=>exact q
  |some _=>exact List.mem_cons_of_mem _ q),r1,r2,r3,r4,r5⟩
theorem qc(rL:A.frames=some (env::outer))(hf:env.frame=some L)(F:lG g base (env::outer) e dx told s.heap)
  (h:∀h',lG g base outer e dx told h'->NF s.heap h'->Q () { s with heap:=h' }):wpAny (M g) A (leaving env (.ref e)) Q Ev s:=by
 refine wpAny_bind (mH rL hf F λ a7 rG sF bB=>?_)
 exact ft (s:={ s with heap:=a7 }) rG bB λ a8 ib sE _=>h a8 (lG.out (s:={ s with heap:=a8 }) ib) (sF.trans sE)
theorem zp(rL:A.frames=some (env::outer))(hf:env.frame=some L)(F:lG g base (env::outer) e dx told s.heap)
  (h:∀h',lG g base (env::outer) e dx told h'->NF s.heap h'->E (.ref e) { s with heap:=h' }):notedBy (M g) A env (cameBackBy (M g) A' env E) (.ref e) s:=by
 refine mH rL hf F λ a7 rG sF bB=>?_
 obtain⟨c',d',cZ,O5,T',Mq,Mz⟩:=bB
 refine wpAny_bind (wpAny_field Mq rfl Mz ?_)
 exact ft (s:={ s with heap:=a7 }) rG ⟨c',d',cZ,O5,T',Mq,Mz⟩ λ a8 ib sE _=>h a8 ib (sF.trans sE)
end
set_option genCtorIdx false
inductive Fl where | nx | brk | cont | ret (d:D)
noncomputable def Fl.ctorIdx(t:Fl):Nat:=Fl.casesOn (motive:=λ _=>Nat) t 0 1 2 (λ _=>3)
noncomputable def FR(P:Params)(X:XT):Flow->Fl->Prop
 |.next,.nx=>True
 |.brk,.brk=>True
 |.cont,.cont=>True
 |.ret v,.ret d=>bz P X v d
 |_,_=>False
inductive PF (g:c8)(c:Cx)(base:Heap)(Y:YT)(X:XT)(s:Shared)(Q:Fl->Rh->aN->Prop)(f:Flow)(s':Shared):Prop where
 |mk (X':XT) (f':Fl) (ρ':Rh) (σ':aN) (h1:fE X X') (h2:aG g c base Y X' ρ' σ' s'.heap) (h3:dR [] Y s s') (h4:FR (Pm g) X' f f') (h5:Q f' ρ' σ')
inductive PA (g:c8)(c:Cx)(base:Heap)(Y:YT)(X:XT)(s:Shared)(Q:Rh->aN->Prop)(u:Unit)(s':Shared):Prop where
 |mk (X':XT) (ρ':Rh) (σ':aN) (h1:fE X X') (h2:aG g c base Y X' ρ' σ' s'.heap) (h3:dR [] Y s s') (h4:Q ρ' σ')
def AX(g:c8)(c:Cx)(ρ:Rh)(σ:aN)(st:Stmt)(Q:Fl->Rh->aN->Prop)(E:D->Prop):Prop :=
 ∀base Y X s,aG g c base Y X ρ σ s.heap->wpAny (M g) c.A (exec st c.env) (PF g c base Y X s Q) (EP g c [] base Y s E) s
def pR(g:c8)(c:Cx)(ρ:Rh)(σ:aN)(sts:List Stmt)(Q:Fl->Rh->aN->Prop)(E:D->Prop):Prop :=
 ∀base Y X s,aG g c base Y X ρ σ s.heap->wpAny (M g) c.A (execs sts c.env) (PF g c base Y X s Q) (EP g c [] base Y s E) s
def AA(g:c8)(c:Cx)(ρ:Rh)(σ:aN)(t:Expr)(d:D)(Q:Rh->aN->Prop)(E:D->Prop):Prop :=
 ∀base Y X s v,aG g c base Y X ρ σ s.heap->bz (Pm g) X v d->wpAny (M g) c.A (assign t c.env v) (PA g c base Y X s Q) (EP g c [] base Y s E) s
section
variable {s s':Shared}
theorem PF.back(l:fE X X')(a:dR [] Y s aB)(h:PF g c base Y X' aB Q f s'):PF g c base Y X s Q f s' :=
 by obtain⟨az,f',ρ',σ',h1,h2,h3,h4,h5⟩:=h;exact⟨az,f',ρ',σ',l.trans h1,h2,a.trans h3,h4,h5⟩
theorem PA.back(l:fE X X')(a:dR [] Y s aB)(h:PA g c base Y X' aB Q u s'):PA g c base Y X s Q u s' :=
 by obtain⟨az,ρ',σ',h1,h2,h3,h4⟩:=h;exact⟨az,ρ',σ',l.trans h1,h2,a.trans h3,h4⟩
theorem dR.nil(a:dR O Y s s'):dR [] Y s s':=a.sub λ _ h=>nomatch h
theorem EP.nil(h:EP g c O base Y s E v s'):EP g c [] base Y s E v s' :=
 by obtain⟨e,dx,t,h1,h2,h3,h4,h5⟩:=h;exact⟨e,dx,t,h1,h2,h3.nil,h4,λ b hb=>⟨nofun,(h5 b hb).2⟩⟩
theorem aG.stpY(H:aG g c base Y X ρ σ s.heap)(H':aG g c base Y X' ρ' σ s'.heap)(hm:∃h t,s'={ s with heap:=h,toks:=t }):dR [] Y s s' :=
 ⟨hm,λ _ q=>absurd q List.not_mem_nil,λ b o hb e n=>by
  obtain⟨⟨cl,d⟩,hb⟩:=hb
  refine cG (H.y _ _ _ hb) λ eX mM kD bB=>cG (H'.y _ _ _ hb) λ cq gK Ef bn=>?_
  rw[e]at mM;(refine sj mM λ zq=>?_;subst zq)
  exact dW cq gK (Ef.trans kD.symm) (bn.trans bB.symm)⟩
end
section
variable {E:D->Prop}
theorem u6(h:Q .nx ρ σ):pR g c ρ σ [] Q E:=λ _ Y X s H=>
 wpAny_execs_nil ⟨X,.nx,ρ,σ,.refl X,H,.refl [] Y s,trivial,h⟩
noncomputable def SQ(g:c8)(c:Cx)(aI:List Stmt)(Q:Fl->Rh->aN->Prop)(E:D->Prop):Fl->Rh->aN->Prop
 |.nx,ρ,σ=>pR g c ρ σ aI Q E
 |f,ρ,σ=>Q f ρ σ
theorem Ft(h:pR g c ρ σ aI Q E):SQ g c aI Q E .nx ρ σ:=h
theorem wk(h:Q (.ret d) ρ σ):SQ g c aI Q E (.ret d) ρ σ:=h
noncomputable def LQ(P:Rh->aN->Prop)(Q:Fl->Rh->aN->Prop):Fl->Rh->aN->Prop
 |.nx,ρ,σ=>P ρ σ
 |.cont,ρ,σ=>P ρ σ
 |.brk,ρ,σ=>Q .nx ρ σ
 |.ret d,ρ,σ=>Q (.ret d) ρ σ
theorem yi(h:Q (.ret d) ρ σ):LQ P Q (.ret d) ρ σ:=h
theorem m5{st:Stmt}(h:AX g c ρ σ st (SQ g c aI Q E) E):pR g c ρ σ (st::aI) Q E:=λ base Y X s H=>by
 refine wpAny_execs_cons (wpAny_mono (h base Y X s H) ?_ λ _ _ h=>h)
 rintro f aB ⟨bA,f',bY,aM,aY,aZ,aJ,aL,q⟩
 cases f<;>cases f'<;>first | exact aL.elim | skip
 .exact wpAny_mono (q base Y bA aB aZ) (λ _ _ z=>z.back aY aJ) λ _ _ z=>z.back aJ
 .exact⟨bA,.brk,bY,aM,aY,aZ,aJ,trivial,q⟩
 .exact⟨bA,.cont,bY,aM,aY,aZ,aJ,trivial,q⟩
 .exact⟨bA,.ret _,bY,aM,aY,aZ,aJ,aL,q⟩
theorem kF(h:AE g c ρ σ value (λ d σ'=>∃ρ',i9 ρ x d ρ'/\Q .nx ρ' σ') E)
  (hs:swapsWith value (some (.Name x p')) pos.line c.env=pure false:=by rfl):AX g c ρ σ (.Assign [.Name x p'] value pos) Q E:=λ base Y X s H=>by
 refine wpAny_Assign_Name (wpAny_mono (h base Y X s H) ?_ λ _ _ h=>h.nil) hs
 rintro v aB ⟨bA,d,aM,aY,aZ,aJ,aL,bY,hp,q⟩
 refine eU aZ aL hp λ h' t H'=>⟨bA,.nx,bY,aM,aY,H',aJ.nil.trans ?_,trivial,q⟩
 exact aZ.stpY (s':={ aB with heap:=h',toks:=t }) H' ⟨h',t,rfl⟩
theorem Fc{Q:Rh->aN->Prop}(hp:i9 ρ x d ρ')(q:Q ρ' σ):AA g c ρ σ (.Name x pos) d Q E:=λ base Y X s v H r=>by
 refine wpAny_assign_Name (eU H r hp λ h' t H'=>⟨X,ρ',σ,.refl X,H',?_,q⟩)
 exact H.stpY (s':={ s with heap:=h',toks:=t }) H' ⟨h',t,rfl⟩
theorem oN(h:AE g c ρ σ e (λ d σ'=>Q (.ret d) ρ σ') E):AX g c ρ σ (.Return (some e) pos) Q E:=λ base Y X s H=>by
 refine wpAny_Return_some (wpAny_mono (h base Y X s H) ?_ λ _ _ h=>h.nil)
 rintro v aB ⟨bA,d,aM,aY,aZ,aJ,aL,q⟩
 exact⟨bA,.ret d,ρ,aM,aY,aZ,aJ.nil,aL,q⟩
noncomputable def D.flat:D->Bool
 |.none | .bool _ | .int _ | .str _ | .bytes _=>true
 |_=>false
theorem qd(h:d.flat=true)(r:bz P X v d):∀a,v≠.ref a:=by
 intro a q
 cases d with
 |none=>exact nomatch q.symm.trans r.inv
 |bool b=>exact nomatch q.symm.trans r.inv
 |int i=>refine aS r.inv λ t e=>?_;exact nomatch q.symm.trans e
 |str i=>refine aS r.inv λ t e=>?_;exact nomatch q.symm.trans e
 |bytes i=>refine aS r.inv λ t e=>?_;exact nomatch q.symm.trans e
 |_=>exact dJ h
theorem FT(h:AE g c ρ σ e (λ d σ'=>d.flat=true/\Q .nx ρ σ') E)(hs:swapsWith e none pos.line c.env=pure false:=by rfl):AX g c ρ σ (.Expr e pos) Q E:=λ base Y X s H=>by
 have hi:interactive c.env=false:=by unfold interactive;rw[H.ok.kind];rfl
 refine wpAny_Expr (wpAny_mono (h base Y X s H) ?_ λ _ _ h=>h.nil) hi hs
 rintro v aB ⟨bA,d,aM,aY,aZ,aJ,aL,hf,q⟩
 have:=qd hf aL
 cases v<;>first | exact⟨bA,.nx,ρ,aM,aY,aZ,aJ.nil,trivial,q⟩ | exact absurd rfl (this _)
theorem OD(h:AT g c ρ σ test (λ b σ'=>(b=true->pR g c ρ σ' body Q E)/\(b=false->pR g c ρ σ' orelse Q E)) E):AX g c ρ σ (.If test body orelse pos) Q E:=λ base Y X s H=>by
 refine wpAny_If (wpAny_mono (h base Y X s H) ?_ λ _ _ h=>h.nil)
 rintro b aB ⟨bA,aM,aY,aZ,aJ,q⟩
 cases b
 .exact wpAny_mono (q.2 rfl base Y bA aB aZ) (λ _ _ z=>z.back aY aJ.nil) λ _ _ z=>z.back aJ.nil
 .exact wpAny_mono (q.1 rfl base Y bA aB aZ) (λ _ _ z=>z.back aY aJ.nil) λ _ _ z=>z.back aJ.nil
section
variable (Mo:Model)(A:Around)(env:Env)(R:Result->Shared->Prop)
def tN:Value->Shared->Prop:=notedBy Mo A env λ e s'=>R (.error e) s'
variable (I:Nat->Shared->Prop)(n:Nat)
def O1(s:Shared):Prop:=∃m,m<n/\I m s
def TM(f:Flow)(s:Shared):Prop:=match f with
 |.next | .cont=>O1 I n s
 |.brk=>R (.ok .next) s
 |.ret v=>R (.ok (.ret v)) s
variable (body:List Stmt)
def VO(b:Bool)(s:Shared):Prop:=if b then wpAny Mo A (execs body env) (TM R I n) (tN Mo A env R) s else wpAny Mo A (execs [] env) (λ f bu=>R (.ok f) bu) (tN Mo A env R) s
end
theorem rN(I:Nat->Shared->Prop)
  (turn:∀n s,I n s->wpAny (model prog w) A (isTrue test env (eval test env)) (VO (model prog w) A env R I n body) (tN (model prog w) A env R) s)
  (n:Nat) (h:I n s):codeAny (model prog w) A (.whileLoop test body [] env) R s:=codeAny_whileLoop I turn n h
inductive OT (g:c8)(X:XT)(P:Rh->aN->Prop)(Q:Fl->Rh->aN->Prop)(ρ:Rh)(σ:aN):Flow->Prop
 |nx (h:P ρ σ):OT g X P Q ρ σ .next
 |cont (h:P ρ σ):OT g X P Q ρ σ .cont
 |brk (h:Q .nx ρ σ):OT g X P Q ρ σ .brk
 |ret {v:Value} (d:D) (r:bz (Pm g) X v d) (h:Q (.ret d) ρ σ):OT g X P Q ρ σ (.ret v)
theorem SG(r:FR (Pm g) X f f')(q:LQ P Q f' ρ σ):OT g X P Q ρ σ f:=by
 cases f<;>cases f'<;>first | exact r.elim | skip
 .exact .nx q
 .exact .brk q
 .exact .cont q
 .exact .ret _ r q
theorem lc(ok:Ok g c)(fr:c.env.frame.isSome=true)(hE:EP g c [] base Y aB E v s')(m:dR [] Y s aB)(hh:∃r,c.frs=c.env::r) :
  notedBy (M g) c.A c.env (cameBackBy (M g) A' c.env (EP g c [] base Y s E)) v s':=by
 obtain⟨e,dx,t,rfl,F,st,ht,h5⟩:=hE
 refine aS hh λ r hr=>aS (A12 fr) λ L hL=>?_
 have rL:=ok.frames
 rw[hr]at rL F
 refine zp rL hL F λ h' F' n=>⟨e,dx,t,rfl,hr▸F',m.trans (st.trans n.stp),ht,h5⟩
inductive VN (g:c8)(c:Cx)(base:Heap)(Y:YT)(X:XT)(I:Nat->Rh->aN->Prop)(s:Shared)(n:Nat)(s':Shared):Prop
 |mk (bA:XT) (bY:Rh) (aM:aN) (l:fE X bA) (H:aG g c base Y bA bY aM s'.heap) (m:dR [] Y s s') (i:I n bY aM)
theorem BL(I:Nat->Rh->aN->Prop)(n:Nat)(h0:I n ρ σ)(hh:∃r,c.frs=c.env::r)
  (step:∀n ρ σ,I n ρ σ->AT g c ρ σ test (λ b σ'=>(b=true->pR g c ρ σ' body (LQ (λ ρ'' σ''=>∃m,m<n/\I m ρ'' σ'') Q) E)/\(b=false->Q .nx ρ σ')) E) :
  AX g c ρ σ (.While test body [] pos) Q E:=λ base Y X s H=>by
 have fr:c.env.frame.isSome=true:=by
  refine gH H.ok.frame λ e r L h1 h2 h3=>aS hh λ r' hr=>?_
  rw[h1]at hr;(injection hr with zq;subst zq)
  rw[h3];rfl
 refine wpAny_While (rN (VN g c base Y X I s) ?_ n (.mk X ρ σ (.refl X) H (.refl [] Y s) h0))
 intro n aB z
 obtain⟨bA,bY,aM,aY,aZ,aJ,QQ⟩:=z
 refine wpAny_mono (step n bY aM QQ base Y bA aB aZ) ?_ (λ v s' z=>lc H.ok fr z.nil aJ hh)
 rintro b aP ⟨az,a9,aU,am,au,q⟩
 have l:=aY.trans aU
 have m:=aJ.trans au.nil
 cases b
 .exact wpAny_execs_nil ⟨az,.nx,bY,a9,l,am,m,trivial,q.2 rfl⟩
 .refine wpAny_mono (q.1 rfl base Y az aP am) ?_ (λ v s' z=>lc H.ok fr z m hh)
  rintro f bu ⟨dH,f',ij,bb,bt,cD,c9,eA,pt⟩
  have l:=l.trans bt
  have m:=m.trans c9
  have z:=SG eA pt
  clear eA pt
  cases z with
  |nx h=>refine aD h λ k hk hi=>?_;exact⟨k,hk,dH,ij,bb,l,cD,m,hi⟩
  |cont h=>refine aD h λ k hk hi=>?_;exact⟨k,hk,dH,ij,bb,l,cD,m,hi⟩
  |brk h=>exact⟨dH,.nx,ij,bb,l,cD,m,trivial,h⟩
  |ret d r h=>exact⟨dH,.ret d,ij,bb,l,cD,m,r,h⟩
end
section
variable {E:D->Prop}
def QB(Q:Bool->aN->Prop)(d:D)(σ:aN):Prop:=match d with
 |.bool b=>Q b σ
 |_=>False
inductive VQ (Q:Bool->aN->Prop)(v:Value)(σ:aN):Prop where
 |mk (b:Bool) (e:v=.bool b) (q:Q b σ)
theorem tZ(h:QB Q d σ)(r:bz P X v d):VQ Q v σ:=by
 cases d with
 |bool b=>exact⟨b,r.inv,h⟩
 |_=>exact h.elim
theorem qb(h:Q b σ):QB Q (.bool b) σ:=h
theorem KT
  (h:AE g c ρ σ l (λ bB aM=>AE g c ρ aM r (λ bn a9=>cy g (compareOp op) bB bn a9 (QB Q) E) E) E) (hm:behindInMarks op r=false:=by with_unfolding_all rfl):AT g c ρ σ (.Compare l [op] [r] pos) Q E:=λ base Y X s H=>by
 refine wpAny_isTrue_Compare1 (wpAny_mono (h base Y X s H) ?_ λ _ _ h=>h) hm
 rintro bI aB ⟨bA,bB,aM,aY,aZ,aJ,aL,a7⟩
 refine wpAny_mono (a7 base Y bA aB aZ) ?_ λ _ _ h=>h.back aJ
 rintro bU aP ⟨az,bn,a9,aU,am,au,aa,a8⟩
 refine wpAny_mono (a8 c base Y az ρ aP bI bU am (aL.mono aU) aa) ?_ λ _ _ z=>z.back (aJ.trans au)
 rintro nE bu ⟨dH,i5,bb,bt,cD,c9,eA,cB⟩
 obtain⟨b,rfl,q⟩:=tZ cB eA
 exact wpAny_truthy_bool ⟨dH,bb,aY.trans (aU.trans bt),cD,aJ.trans (au.trans c9),q⟩
theorem B0
  (h:AE g c ρ σ l (λ bB aM=>AE g c ρ aM r (λ bn a9=>cy g (compareOp op) bB bn a9 Q E) E) E) (hm:behindInMarks op r=false:=by with_unfolding_all rfl):AE g c ρ σ (.Compare l [op] [r] pos) Q E:=λ base Y X s H=>by
 refine wpAny_Compare1 (wpAny_mono (h base Y X s H) ?_ λ _ _ h=>h) hm
 rintro bI aB ⟨bA,bB,aM,aY,aZ,aJ,aL,a7⟩
 refine wpAny_mono (a7 base Y bA aB aZ) ?_ λ _ _ h=>h.back aJ
 rintro bU aP ⟨az,bn,a9,aU,am,au,aa,a8⟩
 exact wpAny_mono (a8 c base Y az ρ aP bI bU am (aL.mono aU) aa) (λ _ _ z=>z.back (aY.trans aU) (aJ.trans au)) λ _ _ z=>z.back (aJ.trans au)
theorem KS(h:AT g c ρ σ x (λ b σ'=>Q (!b) σ') E):AT g c ρ σ (.UnaryOp .Not x pos) Q E:=λ base Y X s H=>by
 refine wpAny_isTrue_Not (wpAny_mono (h base Y X s H) ?_ λ _ _ h=>h)
 rintro b aB ⟨bA,aM,aY,aZ,aJ,q⟩
 exact⟨bA,aM,aY,aZ,aJ,q⟩
theorem KQ(h:AE g c ρ σ e (λ d σ'=>Oz g d σ' Q) E)
  (he:isTrue e c.env (eval e c.env)=(do let v<-eval e c.env;standAt e.pos;holding [v] (truthy v)):=by rfl):AT g c ρ σ e Q E:=λ base Y X s H=>by
 refine wpAny_isTrue_value (wpAny_mono (h base Y X s H) ?_ λ _ _ h=>h) he
 rintro v aB ⟨bA,d,aM,aY,aZ,aJ,aL,q⟩
 exact wpAny_mono (q c base Y bA ρ aB v E aZ aL) (λ _ _ z=>z.back aY aJ) λ _ _ z=>z.back aJ
theorem gk(q:Q b σ):Oz g (.bool b) σ Q:=λ c base Y X ρ s v E H r=>by
 obtain rfl:=r.inv
 exact wpAny_truthy_bool (kn H q)
def Gw(g:c8)(c:Cx)(ρ:Rh)(σ:aN)(op:BoolOp)(es:List Expr)(Q:Bool->aN->Prop)(E:D->Prop):Prop :=
 ∀base Y X s,aG g c base Y X ρ σ s.heap->wpAny (M g) c.A (allTrue op es c.env) (PB g c base Y X ρ s Q) (EP g c c.os base Y s E) s
theorem FX(h:Gw g c ρ σ op es Q E):AT g c ρ σ (.BoolOp op es pos) Q E:=λ base Y X s H=>
 wpAny_isTrue_BoolOp (h base Y X s H)
theorem rB(q:Q true σ):Gw g c ρ σ .And [] Q E:=λ base Y X s H=>wpAny_allTrue_And_nil (kn H q)
theorem tH(q:Q false σ):Gw g c ρ σ .Or [] Q E:=λ base Y X s H=>wpAny_allTrue_Or_nil (kn H q)
theorem u7(h:AT g c ρ σ x (λ b σ'=>(b=true->Gw g c ρ σ' .And es Q E)/\(b=false->Q false σ')) E):Gw g c ρ σ .And (x::es) Q E:=λ base Y X s H=>by
 refine wpAny_allTrue_And_cons (wpAny_mono (h base Y X s H) ?_ λ _ _ h=>h)
 rintro b aB ⟨bA,aM,aY,aZ,aJ,q⟩
 cases b
 .exact⟨bA,aM,aY,aZ,aJ,q.2 rfl⟩
 .exact wpAny_mono (q.1 rfl base Y bA aB aZ) (λ _ _ z=>z.back aY aJ) λ _ _ z=>z.back aJ
theorem BO(h:AT g c ρ σ x (λ b σ'=>(b=true->Q true σ')/\(b=false->Gw g c ρ σ' .Or es Q E)) E):Gw g c ρ σ .Or (x::es) Q E:=λ base Y X s H=>by
 refine wpAny_allTrue_Or_cons (wpAny_mono (h base Y X s H) ?_ λ _ _ h=>h)
 rintro b aB ⟨bA,aM,aY,aZ,aJ,q⟩
 cases b
 .exact wpAny_mono (q.2 rfl base Y bA aB aZ) (λ _ _ z=>z.back aY aJ) λ _ _ z=>z.back aJ
 .exact⟨bA,aM,aY,aZ,aJ,q.1 rfl⟩
theorem BZ(h:AT g c ρ σ test (λ b σ'=>(b=true->AE g c ρ σ' body Q E)/\(b=false->AE g c ρ σ' orelse Q E)) E):AE g c ρ σ (.IfExp test body orelse pos) Q E:=λ base Y X s H=>by
 refine wpAny_IfExp (wpAny_mono (h base Y X s H) ?_ λ _ _ h=>h)
 rintro b aB ⟨bA,aM,aY,aZ,aJ,q⟩
 cases b
 .exact wpAny_mono (q.2 rfl base Y bA aB aZ) (λ _ _ z=>z.back aY aJ) λ _ _ z=>z.back aJ
 .exact wpAny_mono (q.1 rfl base Y bA aB aZ) (λ _ _ z=>z.back aY aJ) λ _ _ z=>z.back aJ
theorem md(h:AE g c ρ σ x (λ d σ'=>Oy g (unaryOp op) d σ' Q E) E):AE g c ρ σ (.UnaryOp op x pos) Q E:=λ base Y X s H=>by
 refine wpAny_UnaryOp (wpAny_mono (h base Y X s H) ?_ λ _ _ h=>h)
 rintro v aB ⟨bA,d,aM,aY,aZ,aJ,aL,q⟩
 exact wpAny_mono (q c base Y bA ρ aB v aZ aL) (λ _ _ z=>z.back aY aJ) λ _ _ z=>z.back aJ
theorem j5(q:Q [] σ):wL g c ρ σ pos [] Q E:=λ base Y X s H=>
 wpAny_items_nil ⟨X,[],σ,.refl X,H,.refl c.os Y s,.nil,q⟩
theorem et(h:AE g c ρ σ e (λ d σ'=>wL g c ρ σ' pos aI (λ ds σ''=>Q (d::ds) σ'') E) E)
  (he:starEach (e::aI) c.env=(false,eval e c.env)::starEach aI c.env:=by rfl):wL g c ρ σ pos (e::aI) Q E:=λ base Y X s H=>by
 refine wpAny_items_cons (wpAny_mono (h base Y X s H) ?_ λ _ _ h=>h) he
 rintro v aB ⟨bA,d,aM,aY,aZ,aJ,aL,q⟩
 refine wpAny_mono (q base Y bA aB aZ) ?_ λ _ _ z=>z.back aJ
 rintro vs aP ⟨az,ds,a9,aU,am,au,aa,dD⟩
 exact⟨az,d::ds,a9,aY.trans aU,am,aJ.trans au,.cons (aL.mono aU) aa,dD⟩
end
class inductive Tk:aN->(Addr×MO)->aN->Prop where
 |here {p:Addr×MO}{σ:aN}:Tk (p::σ) p σ
 |there {p q:Addr×MO}{σ σ':aN} (h:Tk σ p σ'):Tk (q::σ) p (q::σ')
inductive Fi:D->aN->D->aN->Prop where
 |id {d:D}{σ σ':aN} (h:σ'.Sublist σ):Fi d σ d σ'
 |list {a:Addr}{ds:List D}{σ aM σ':aN} (h:Tk σ (a,.list ds) aM) (k:σ'.Sublist aM):Fi (.ref a) σ (.list ds) σ'
 |inst {a C dx:Addr}{fs:List (Nat×D)}{σ aM σ':aN} (h:Tk σ (a,.inst C dx fs) aM) (k:σ'.Sublist aM):Fi (.ref a) σ (.inst C fs) σ'
theorem Tk.mem(h:Tk σ p σ'):p∈σ:=by
 induction h with
 |here=>exact .head _
 |there _ ih=>exact .tail _ ih
theorem Tk.sub(h:Tk σ p σ'):σ'.Sublist σ:=by
 induction h with
 |here=>exact .cons _ (.refl _)
 |there _ ih=>exact .cons_cons _ ih
theorem jN(h:σ'.Sublist σ):(eD σ').Sublist (eD σ):=by
 induction h with
 |slnil=>exact .refl _
 |cons a _ ih=>exact ih.trans (List.sublist_append_right _ _)
 |cons_cons a _ ih=>exact(List.Sublist.refl _).append ih
theorem Tk.apart(h:Tk σ p σ')(nd:(eD σ).Nodup):∀a∈jO p,a∉eD σ':=by
 induction h with
 |@here p σ=>
  intro a ha hb
  dsimp only[eD,List.flatMap_cons]at nd
  exact(List.nodup_append.mp nd).2.2 a ha a hb rfl
 |@there p q σ σ' h ih=>
  intro a ha hb
  dsimp only[eD,List.flatMap_cons]at nd hb
  rcases A09 hb with hb|hb
  .exact(List.nodup_append.mp nd).2.2 a hb a (List.mem_flatMap.mpr ⟨p,h.mem,ha⟩) rfl
  .exact ih (List.nodup_append.mp nd).2.1 a ha hb
section
variable {h:Heap}
theorem gA.mono(k:fE X X')(r:gA P X h p):gA P X' h p:=by
 obtain⟨a,mo⟩:=p
 cases mo with
 |list ds=>refine dP r λ vs n e q=>?_;exact gJ vs n e (q.mono k)
 |inst C dx fs=>obtain⟨e,es,n,e',q⟩:=r;exact⟨e,es,n,e',q.mono k⟩
theorem mz.mono(k:fE X X')(r:mz g c base Y X m h p):mz g c base Y X' m h p:=by
 obtain⟨x,sk,o⟩:=p
 cases sk with
 |loc=>
  obtain⟨hd,⟨hk,hv⟩|⟨hk,a,ez,ha,hc,hv⟩⟩:=r
  .exact⟨hd,.inl ⟨hk,λ d e=>let ⟨v,e',r⟩:=hv d e;⟨v,e',r.mono k⟩⟩⟩
  .exact⟨hd,.inr ⟨hk,a,ez,ha,hc,λ d e=>let ⟨v,e',r⟩:=hv d e;⟨v,e',r.mono k⟩⟩⟩
 |glb=>
  obtain⟨hd,hv|⟨hk,nN,hv⟩⟩:=r
  .exact⟨hd,.inl hv⟩
  .exact⟨hd,.inr ⟨hk,nN,λ d e=>let ⟨a,cl,v,h1,h2,h3⟩:=hv d e;⟨a,cl,v,h1,h2,h3.mono k⟩⟩⟩
theorem aG.drop(H:aG g c base Y X ρ σ h)(k:σ'.Sublist σ):aG g c base Y X ρ σ' h :=
 { H with
  ow:=λ a ha=>let ⟨h1,h2,h3,h4⟩:=H.ow a ha;⟨h1,h2,h3,λ q=>h4 ((jN k).subset q)⟩
  sr:=λ p hp=>H.sr p (k.subset hp)
  sn:=H.sn.sublist (jN k)
  sx:=λ a ha=>H.sx a ((jN k).subset ha) }
theorem aG.more(H:aG g c base Y X ρ σ h)(hx:fE X X')(hh:∀b o,X' b=some o->h.get? b=some o)(hy:∀b p,Y b=some p->X' b=none)(ho:∀a∈c.os,X' a=none)(hs:∀a∈eD σ,X' a=none):aG g c base Y X' ρ σ h :=
 { H with
  bx:=λ b o e=>hx b o (H.bx b o e)
  x:=hh
  yx:=hy
  xe:=λ b o e=>hx b o (H.xe b o e)
  ow:=λ a ha=>let ⟨h1,_,h3,h4⟩:=H.ow a ha;⟨h1,ho a ha,h3,h4⟩
  sr:=λ p hp=>(H.sr p hp).mono hx
  sx:=λ a ha=>⟨hs a ha,(H.sx a ha).2⟩
  loc:=let ⟨m,hn,hb⟩:=H.loc;⟨m,hn,λ p hp=>(hb p hp).mono hx⟩ }
theorem aG.freeze(H:aG g c base Y X ρ σ h)(F:Fi d σ d' σ')(r:bz (Pm g) X v d):∃X',fE X X'/\aG g c base Y X' ρ σ' h/\bz (Pm g) X' v d':=by
 have go:∀(p:Addr×MO) (aM:aN),Tk σ p aM->σ'.Sublist aM->fE X (λ b=>if b∈jO p then h.get? b else X b)/\aG g c base Y (λ b=>if b∈jO p then h.get? b else X b) ρ σ' h:=by
  intro p aM hT k
  have hp:∀a∈jO p,a∈eD σ:=λ a ha=>List.mem_flatMap.mpr ⟨p,hT.mem,ha⟩
  have lx:fE X (λ b=>if b∈jO p then h.get? b else X b):=λ b o e=>by
   have:b∉jO p:=λ q=>by rw[(H.sx b (hp b q)).1]at e;exact bJ e
   exact(if_neg this).trans (e)
  refine⟨lx,(H.drop (k.trans hT.sub)).more lx (λ b o e=>?_) (λ b p' e=>?_) (λ a ha=>?_) λ a ha=>?_⟩
  .by_cases q:b∈jO p
   .exact(if_pos q).symm.trans e
   .exact H.x b o ((if_neg q).symm.trans e)
  .have:b∉jO p:=λ q=>by rw[(H.sx b (hp b q)).2]at e;exact bJ e
   exact(if_neg this).trans (H.yx b p' e)
  .have:a∉jO p:=λ q=>(H.ow a ha).2.2.2 (hp a q)
   exact(if_neg this).trans ((H.ow a ha).2.1)
  .have:a∉jO p:=λ q=>hT.apart H.sn a q ((jN k).subset ha)
   exact(if_neg this).trans ((H.sx a ((jN (k.trans hT.sub)).subset ha)).1)
 cases F with
 |id k=>exact dW X (.refl X) (H.drop k) r
 |@list a ds _ aM _ hT k=>
  refine aj (go _ _ hT k) λ lx H'=>dP (H.sr _ hT.mem) λ vs n e q=>?_
  obtain rfl:=r.inv
  exact dW _ lx H' (.list (n:=n) (vs:=vs) ((if_pos (.head _)).trans e) (q.mono lx))
 |@inst a C dx fs _ aM _ hT k=>
  refine aj (go _ _ hT k) λ lx H'=>?_
  obtain⟨e,es,n,e',q⟩:=H.sr _ hT.mem
  obtain rfl:=r.inv
  exact dW _ lx H' (.inst (dx:=dx) (es:=es) (n:=n) ((if_pos (.head _)).trans e) ((if_pos (.tail _ (.head _))).trans e') (q.mono lx))
end
noncomputable def RQ(Q:D->aN->Prop):Fl->Rh->aN->Prop
 |.ret d,_,σ=>∃d' σ',Fi d σ d' σ'/\Q d' σ'
 |.nx,_,σ=>∃σ',σ'.Sublist σ/\Q .none σ'
 |_,_,_=>False
noncomputable def iT(tab:List (Str×D))(bs:List (Str×D)):List (Str×NameKind)->Rh
 |[]=>[]
 |(x,.local)::r=>(x,.loc,bs.lookup x)::iT tab bs r
 |(x,.cell)::r=>(x,.loc,bs.lookup x)::iT tab bs r
 |(x,.globalImplicit)::r=>(x,.glb,tab.lookup x)::iT tab bs r
 |_::r=>iT tab bs r
noncomputable def eK(sc:Scope):Bool:=sc.kind==.function&&!sc.isCoroutine&&!sc.isGenerator&&decide (sc.names.map (·.1)).Nodup&&sc.names.all (λ p=>p.1 != "__debug__")
inductive Ra (sc:Scope):Prop where
 |mk (k1:sc.kind=.function) (k2:sc.isCoroutine=false) (k3:sc.isGenerator=false) (nd:(sc.names.map (·.1)).Nodup) (db:(sc.names.all λ p=>p.1 != "__debug__")=true)
theorem Cb(h:eK sc=true):Ra sc:=by
 simp only[eK,Bool.and_eq_true,beq_iff_eq,Bool.not_eq_true',decide_eq_true_eq]at h
 exact⟨h.1.1.1.1,h.1.1.1.2,h.1.1.2,h.1.2,h.2⟩
theorem fy:bindL kf ((n,v)::r) m=bindL kf r (if kf n=some .local then λ y=>if y=n then some v else m y else m):=rfl
theorem m3:bindC kf ((n,v)::r) m=bindC kf r (if kf n=some .local then m else λ y=>if y=n then some v else m y):=rfl
theorem qy:∀(b:List (Str×Value))(m:Str->Option Value),x∉b.map (·.1)->bindL kf b m x=m x:=by
 intro zl
 induction zl with
 |nil=>
  intro m _
  exact rfl
 |cons zx r ih=>
  obtain⟨n,v⟩:=zx
  intro m h
  rw[List.map_cons,List.mem_cons,not_or]at h
  rw[fy,ih _ h.2]
  by_cases q:kf n=some .local
  .rw[if_pos q];exact if_neg h.1
  .rw[if_neg q]
theorem qz:∀(b:List (Str×Value))(m:Str->Option Value),x∉b.map (·.1)->bindC kf b m x=m x:=by
 intro zl
 induction zl with
 |nil=>
  intro m _
  exact rfl
 |cons zx r ih=>
  obtain⟨n,v⟩:=zx
  intro m h
  rw[List.map_cons,List.mem_cons,not_or]at h
  rw[m3,ih _ h.2]
  by_cases q:kf n=some .local
  .rw[if_pos q]
  .rw[if_neg q];exact if_neg h.1
theorem jd{α:Type}:∀{ns:List Str}{vs:List α}{x:Str},x∈(ns.zip vs).map (·.1)->x∈ns:=by
 intro zl
 induction zl with
 |nil=>
  intro bc cM cT
  simp at cT
 |cons zh zt ih=>
  intro bc cM cT
  cases bc with
  |nil=>
   simp at cT
  |cons zh1 zt1=>
   simp only[List.zip_cons_cons,List.map_cons,List.mem_cons]at cT
   rcases cT with cT|cT
   .exact cT▸.head _
   .exact .tail _ (ih cT)
theorem ch{α:Type}{a:α}{ns:List Str}{r:List α}:((n::ns).zip (a::r)).lookup x=if x=n then some a else(ns.zip r).lookup x:=by
 rw[List.zip_cons_cons,List.lookup_cons]
 by_cases h:x=n
 .subst h;simp
 .rw[if_neg h,show(x==n)=false from A05 h]
theorem jZ{P:Params}{X:XT}{kf:Str->Option NameKind}{x:Str}{d:D}:∀{ns:List Str}{vs:List Value}{ds:List D}(m:Str->Option Value),bG P X vs ds->ns.Nodup->(ns.zip ds).lookup x=some d ->
  ∃v,bz P X v d/\(kf x=some .local->bindL kf (ns.zip vs) m x=some v)/\(kf x≠some .local->bindC kf (ns.zip vs) m x=some v)
 |[],_,_,m,_,_,h=>by simp at h
 |n::ns,_,_,m,.nil,_,h=>by simp at h
 |n::ns,v::vs,d'::ds,m,.cons hr r,nd,h=>by
  rw[ch]at h
  rw[List.nodup_cons]at nd
  by_cases q:x=n
  .subst q
   rw[if_pos rfl]at h;(refine sj h λ zq=>?_;subst zq)
   have nx:x∉(ns.zip vs).map (·.1):=λ q=>nd.1 (jd q)
   refine dW v hr (λ k=>?_) (λ k=>?_)
   .rw[List.zip_cons_cons,fy,qy _ _ nx,if_pos k];exact if_pos rfl
   .rw[List.zip_cons_cons,m3,qz _ _ nx,if_neg k];exact if_pos rfl
  .rw[if_neg q]at h
   refine cG (jZ (kf:=kf) (if kf n=some .local then λ y=>if y=n then some v else m y else m) r nd.2 h) λ v' r' h1 _=>cG (jZ (kf:=kf) (if kf n=some .local then m else λ y=>if y=n then some v else m y) r nd.2 h) λ TR T4 _ h2=>?_
   by_cases k:kf x=some .local
   .exact dW v' r' (λ k=>by exact h1 k) (λ n=>absurd k n)
   .exact dW TR T4 (λ k'=>absurd k' k) (λ k=>by exact h2 k)
theorem yW:∀{ns:List (Str×NameKind)}{p:Str×SK×Option D},p∈iT tab bs ns ->
  (p.2.1=.loc/\p.2.2=bs.lookup p.1/\((p.1,.local)∈ ns\/(p.1,.cell)∈ ns))\/(p.2.1=.glb/\p.2.2=tab.lookup p.1/\(p.1,.globalImplicit)∈ ns):=by
 intro zl
 induction zl with
 |nil=>
  intro p h
  exact cu h
 |cons zx r ih=>
  obtain⟨x,k⟩:=zx
  intro p h
  have up:∀{p:Str×SK×Option D},p∈iT tab bs r->(p.2.1=.loc/\p.2.2=bs.lookup p.1/\((p.1,.local)∈ (x,k)::r\/(p.1,.cell)∈ (x,k)::r))\/(p.2.1=.glb/\p.2.2=tab.lookup p.1/\(p.1,.globalImplicit)∈ (x,k)::r):=λ h=>
   (ih h).imp (λ iM=>by refine cI iM λ a b c=>?_;exact eN a b (c.imp (.tail _) (.tail _))) λ⟨a,b,c⟩=>⟨a,b,.tail _ c⟩
  cases k with
  |«local»=>
   rcases A03 h with rfl|h
   .exact .inl ⟨rfl,rfl,.inl (.head _)⟩
   .exact up h
  |cell=>
   rcases A03 h with rfl|h
   .exact .inl ⟨rfl,rfl,.inr (.head _)⟩
   .exact up h
  |globalImplicit=>
   rcases A03 h with rfl|h
   .exact .inr ⟨rfl,rfl,.head _⟩
   .exact up h
  |free=>exact up (h)
  |globalExplicit=>exact up (h)
theorem l8:∀{ns:List (Str×NameKind)},((iT tab bs ns).map (·.1)).Sublist (ns.map (·.1)):=by
 intro zl
 induction zl with
 |nil=>
  exact .slnil
 |cons zx r ih=>
  obtain⟨x,k⟩:=zx
  have ih:=ih
  cases k with
  |«local»=>exact .cons_cons _ ih
  |cell=>exact .cons_cons _ ih
  |globalImplicit=>exact .cons_cons _ ih
  |free=>exact show((iT tab bs r).map (·.1)).Sublist _ from .cons _ ih
  |globalExplicit=>exact show((iT tab bs r).map (·.1)).Sublist _ from .cons _ ih
theorem bW{α:Type}:∀{l:List (Str×α)}{x:Str}{a:α},(l.map (·.1)).Nodup->(x,a)∈ l->l.lookup x=some a:=by
 intro zl
 induction zl with
 |nil=>
  intro bc cM cT gm
  exact cu gm
 |cons zh zt ih=>
  intro bc cM cT gm
  obtain⟨y,b⟩:=zh
  rw[List.map_cons,List.nodup_cons]at cT
  rw[List.lookup_cons]
  rcases A03 gm with e|gm
  ·(injection e with zq zr;subst zq zr);simp
  .have:bc≠y:=λ q=>cT.1 (A11 ⟨_,gm,q⟩)
   rw[show(bc==y)=false from A05 this]
   exact ih cT.2 gm
theorem gG:∀{n:Nat}{acc:List (Str×Addr)},(ns.map (·.1)).Nodup->(acc.map (·.1)).Nodup->(∀x∈ns.map (·.1),x∉acc.map (·.1))->((cellsFrom n ns acc).map (·.1)).Nodup:=by
 induction ns with
 |nil=>intro n acc _ h _;exact h
 |cons p r ih=>
  obtain⟨x,k⟩:=p
  intro n acc h1 h2 h3
  rw[List.map_cons,List.nodup_cons]at h1
  unfold cellsFrom
  split
  .refine ih h1.2 ?_ λ y hy=>?_
   .rw[List.map_cons,List.nodup_cons];exact⟨h3 x (.head _),h2⟩
   .rw[List.map_cons,List.mem_cons,not_or]
    exact⟨λ q=>h1.1 (q▸hy),h3 y (.tail _ hy)⟩
  .exact ih h1.2 h2 λ y hy=>h3 y (.tail _ hy)
set_option tactic.hygienic true in
theorem nP:∀{ns:List (Str×NameKind)}{n:Nat}{acc:List (Str×Addr)}{x:Str},((x,NameKind.cell)∈ ns\/x∈acc.map (·.1))->x∈(cellsFrom n ns acc).map (·.1):=by
 intro zl
 induction zl with
 |nil=>
  intro n acc x h
  exact h.elim (λ q=>cu q) id
 |cons zx r ih=>
  obtain⟨y,k⟩:=zx
  intro n acc x h
  unfold cellsFrom
  split
  .refine ih (h.elim (λ q=>?_) λ q=>.inr (.tail _ q))
   rcases A03 q with e|e
   ·(injection e with zq;subst zq);exact .inr (.head _)
   .exact .inl e
  .rename_i hk
   refine ih (h.imp (λ q=>?_) id)
   rcases A03 q with e|e
   ·(injection e with zq zr;subst zq zr);exact absurd rfl hk
   .exact e
set_option tactic.hygienic true in
theorem pS{α:Type}:∀{ns:List Str}{vs:List α},ns.length=vs.length->∀n∈ns,((ns.zip vs).lookup n).isSome=true
 |n::ns,v::vs,h,x,hx=>by
  rw[ch]
  split
  .rfl
  .rename_i q;exact pS (Nat.succ.inj h) x ((A03 hx).resolve_left q)
theorem zn{α β:Type}{f f':α->Option β}:∀{l:List α},(∀x∈l,f x=f' x)->l.filterMap f=l.filterMap f':=by
 intro zl
 induction zl with
 |nil=>
  intro _
  exact rfl
 |cons x l ih=>
  intro h
  rw[List.filterMap_cons,List.filterMap_cons,h x (.head _),ih λ y hy=>h y (.tail _ hy)]
theorem jY{α:Type}:∀{ns:List Str}{vs:List α},ns.length=vs.length->ns.Nodup->(ns.filterMap λ n=>((ns.zip vs).lookup n).map (n,·))=ns.zip vs
 |[],[],_,_=>rfl
 |n::ns,v::vs,h,nd=>by
  rw[List.nodup_cons]at nd
  rw[List.filterMap_cons,ch,if_pos rfl]
  dsimp only[Option.map]
  rw[List.zip_cons_cons]
  congr 1
  refine(zn λ x hx=>?_).trans (jY (Nat.succ.inj h) nd.2)
  rw[List.lookup_cons]
  have:(x==n)=false:=by rw[beq_eq_false_iff_ne];rintro rfl;exact nd.1 hx
  rw[this]
  cases(ns.zip vs).lookup x<;>rfl
theorem vX{ε σ:Type}{slots:List (Str×Value)}:∀{l:List (Str×Value)},(∀p∈l,(slots.lookup p.1).isNone=false)->
  (forIn l slots λ(x:Str×Value) (r:List (Str×Value))=>(match x with
   |(name,d)=>if(r.lookup name).isNone=true then pure (ForInStep.yield (r++[(name,d)]))else pure (ForInStep.yield r):Sem (ForInStep (List (Str×Value)))))=pure slots:=by
 intro zl
 induction zl with
 |nil=>
  intro _
  exact rfl
 |cons p l ih=>
  intro h
  rw[List.forIn_cons]
  dsimp only
  rw[if_neg (by rw[h p (.head _)];exact Bool.false_ne_true),pure_bind]
  exact ih λ q hq=>h q (.tail _ hq)
noncomputable def Os(nms:List Str)(vs ds:List Value):Sem (List (Str×Value)) :=
 (forIn ((nms.drop (nms.length-(ds.drop (ds.length-nms.length)).length)).zip (ds.drop (ds.length-nms.length))) (nms.zip vs) λ(x:Str×Value) (r:List (Str×Value))=>(match x with
   |(name,d)=>if(r.lookup name).isNone=true then pure (ForInStep.yield (r++[(name,d)]))else pure (ForInStep.yield r):Sem (ForInStep (List (Str×Value)))))>>=λ slots=>pure ((nms++([]:List Str)).filterMap λ n=>(slots.lookup n).map (n,·))
theorem FN{fd:FuncData}{as:List Arg}{dfs:List Expr}{vs:List Value}(h:fd.params=⟨[],as,none,[],[],none,dfs⟩) :
  ∃F,bindArgs fd ⟨vs,[]⟩=(seqItems? fd.defaults >>=F)/\∀(o:Option (Array Value)) (nms:List Str) (ds:List Value),as.map (·.arg)=nms->(o.getD #[]).toList=ds->¬vs.length>nms.length ->
   ((nms.take (nms.length-(ds.drop (ds.length-nms.length)).length)).filter λ n=>((nms.zip vs).lookup n).isNone)=[]->F o=Os nms vs ds:=by
 obtain⟨_,_,_,_,_,_,_,_,_,_,_,_,_,_⟩:=fd
 subst h
 refine ad _ rfl (λ o nms ds e1 e2 h1 h2=>?_)
 subst e1
 subst e2
 refine(if_neg (λ h=>h1 (A00 (A07 h).1))).trans ((if_neg (λ h=>?_)).trans ?_)
 .exact absurd ((congrArg (λ l:List Str=>!l.isEmpty) h2).symm.trans h) Bool.false_ne_true
 .rfl
theorem jE{α:Type}{o:Option α}(h:o.isSome=true):o.isNone=false:=by
 cases o with
 |none=>exact dJ h
 |some _=>rfl
theorem KL{nms:List Str}{vs ds:List Value}(h:nms.length=vs.length)(nd:nms.Nodup):((nms.take (nms.length-(ds.drop (ds.length-nms.length)).length)).filter λ n=>((nms.zip vs).lookup n).isNone)=[]/\Os nms vs ds=pure (nms.zip vs):=by
 have hs:=pS h
 refine⟨List.filter_eq_nil_iff.mpr λ n q=>by rw[jE (hs n (List.mem_of_mem_take q))];exact Bool.false_ne_true,?_⟩
 unfold Os
 simp only[vX (ε:=Unit) (σ:=Unit) λ p hp=>jE (hs _ (List.mem_of_mem_drop (List.of_mem_zip hp).1)),pure_bind,List.append_nil,jY h nd]
theorem KK{a b:Str}{v:Value}(h:b≠a):([a].filter λ n=>(([(a,v)]:List (Str×Value)).lookup n).isNone)=[]/\Os [a,b] [v] [.none]=pure [(a,v),(b,.none)]:=by
 have e0:(a==a)=true:=beq_self_eq_true a
 have e2:(b==a)=false:=A05 h
 have l1:([(a,v)]:List (Str×Value)).lookup a=some v:=by simp only[List.lookup_cons,e0]
 have l2:([(a,v)]:List (Str×Value)).lookup b=none:=by simp only[List.lookup_cons,e2];rfl
 have l3:([(a,v),(b,.none)]:List (Str×Value)).lookup a=some v:=by simp only[List.lookup_cons,e0]
 have l4:([(a,v),(b,.none)]:List (Str×Value)).lookup b=some .none:=by rw[List.lookup_cons,e2];simp only[List.lookup_cons,beq_self_eq_true b]
 refine⟨by rw[List.filter_cons,l1];rfl,?_⟩
 refine(?_:((forIn [(b,Value.none)] [(a,v)] _:Sem (List (Str×Value)))>>=_)=_)
 rw[List.forIn_cons]
 dsimp only
 rw[if_pos (by rw[l2];rfl),pure_bind]
 refine(?_:(pure (([a,b]:List Str).filterMap λ n=>(([(a,v),(b,Value.none)]:List (Str×Value)).lookup n).map (n,·)):Sem _)=_)
 rw[List.filterMap_cons,List.filterMap_cons,l3,l4];rfl
theorem Do{α:Type}{l:List α}(h:l.length=1):∃a,l=[a]:=List.length_eq_one_iff.mp h
theorem Dn{α:Type}{l:List α}(h:l.length=2):∃a b,l=[a,b]:=by
 match l,h with
 |[a,b],_=>exact iB a b rfl
theorem s9{α:Type}{l:List α}(h:l.isEmpty=true):l=[]:=A08 h
theorem yO{α:Type}{o:Option α}(h:o.isNone=true):o=none:=Option.isNone_iff_eq_none.mp h
noncomputable def gU(p:Arguments):Option (List Str):=match p.posonlyargs.isEmpty&&(p.vararg.isNone&&(p.kwonlyargs.isEmpty&&(p.kw_defaults.isEmpty&&p.kwarg.isNone)))with
 |true=>some (p.args.map (·.arg))
 |false=>none
theorem ry{p:Arguments}{nms:List Str}(h:gU p=some nms):p=⟨[],p.args,none,[],[],none,p.defaults⟩/\nms=p.args.map (·.arg):=by
 obtain⟨a,as,va,ko,kd,kw,dfs⟩:=p
 unfold gU at h
 cases q:(a.isEmpty&&(va.isNone&&(ko.isEmpty&&(kd.isEmpty&&kw.isNone))))with
 |false=>dsimp only at h;rw[q]at h;exact bJ h
 |true=>
  dsimp only at h;rw[q]at h;(refine sj h λ zq=>?_;subst zq)
  simp only[Bool.and_eq_true,Bool.and_eq_true,Bool.and_eq_true,Bool.and_eq_true]at q
  cases s9 q.1;cases yO q.2.1;cases s9 q.2.2.1;cases s9 q.2.2.2.1;cases yO q.2.2.2.2
  exact⟨rfl,rfl⟩
noncomputable def pz(df:Bool)(n k:Nat):Bool:=k==n||(df&&(n==2&&k==1))
noncomputable def vV(n k:Nat):List D:=if k=n then[]else[.none]
noncomputable def vU(n k:Nat):List Value:=if k=n then[]else[.none]
theorem m2{r:bO}{nms:List Str}{s:Shared}{dV kV:Value}{doc pm:Value}{an:Option Addr}{cdv ct:Value}{vs:List Value}(hp:gU r.params=some nms)(nd:nms.Nodup)
  (my:if r.dflt then ∃T o n,dV=.ref T/\s.heap.get? T=some o/\o.data=.seq #[.none] n else dV=.none) (hk:pz r.dflt nms.length vs.length=true) :
  BindsTo s (fnOf r.name r.qual r.params r.body r.scope dV kV doc pm an cdv ct) ⟨vs,[]⟩ (nms.zip (vs++vU nms.length vs.length)):=by
 refine aj (ry hp) λ e ak=>?_;subst ak
 refine aD (FN (fd:=fnOf r.name r.qual r.params r.body r.scope dV kV doc pm an cdv ct) (vs:=vs) e) λ F hb hF=>?_
 have key:∀o:Option (Array Value),(r.dflt=true->(o.getD #[]).toList=[.none])->F o=pure ((r.params.args.map (·.arg)).zip (vs++vU (r.params.args.map (·.arg)).length vs.length)):=λ o U6=>by
  have hF:=hF o _ _ rfl rfl
  generalize r.params.args.map (·.arg)=nms at *
  generalize (o.getD #[]).toList=ds at *
  by_cases h:vs.length=nms.length
  .simp only[vU,if_pos h,List.append_nil]
   refine aj (KL (ds:=ds) h.symm nd) λ k1 k2=>(hF (by exact Nat.not_lt.mpr (Nat.le_of_eq ‹_›)) k1).trans k2
  .simp only[pz,Bool.or_eq_true,Bool.and_eq_true,Bool.and_eq_true]at hk
   rcases hk with q|⟨q1,q2,q3⟩
   .exact absurd (eq_of_beq q) h
   .cases U6 q1
    refine fS (Dn (eq_of_beq q2)) λ a b dz=>?_;subst dz
    refine aS (Do (eq_of_beq q3)) λ v ak=>?_;subst ak
    refine aj (KK (v:=v) (a:=a) (b:=b) λ e=>(List.nodup_cons.mp nd).1 (by rw[e];exact .head _)) λ k1 k2=>(hF (by decide:¬1>2) k1).trans k2
 cases hd:r.dflt with
 |false=>
  rw[hd,if_neg Bool.false_ne_true]at my
  subst my
  exact BindsTo.of_eq (hb.trans (key none (λ q=>by rw[hd]at q;exact dJ q)))
 |true=>
  rw[hd,if_pos rfl]at my
  refine gH my λ T o n ux e1 e2=>?_;subst ux
  exact BindsTo.of_defaults (k:=F) rfl e1 e2 hb (key _ (λ _=>rfl))
section
variable {X:XT}
theorem gA.keep{p:Addr×MO}(k:∀b∈jO p,∀o,h.get? b=some o->h'.get? b=some o)(r:gA P X h p):gA P X h' p:=by
 obtain⟨a,mo⟩:=p
 cases mo with
 |list ds=>refine dP r λ vs n e q=>?_;exact gJ vs n (k a (.head _) _ e) q
 |inst C dx fs=>obtain⟨e,es,n,e',q⟩:=r;exact⟨k a (.head _) _ e,es,n,k dx (.tail _ (.head _)) _ e',q⟩
end
section
variable {s s':Shared}
theorem aG.fresh(H:aG g c base Y X ρ σ h)(ha:h.get? a=none):X a=none/\Y a=none/\a∉c.os/\a∉eD σ:=by
 refine jF ?_ ?_ (λ q=>?_) (λ q=>?_)
 .cases q:X a with
  |none=>rfl
  |some o=>rw[H.x a o q]at ha;exact qF ha
 .cases q:Y a with
  |none=>rfl
  |some p=>refine aD (H.y a p.1 p.2 q) λ o ho _=>?_;rw[ho]at ha;exact qF ha
 .obtain⟨⟨o,ho,_⟩,_⟩:=H.ow a q;rw[ho]at ha;exact qF ha
 .refine aD (List.mem_flatMap.mp q) λ p hp mB=>?_
  have R:=H.sr p hp
  obtain⟨a',mo⟩:=p
  cases mo with
  |list ds=>
   refine dP R λ cZ n e _=>?_
   rcases A03 mB with rfl|mB
   .rw[e]at ha;exact qF ha
   .cases mB
  |inst C dx fs=>
   obtain⟨e,es,n,e',_⟩:=R
   rcases A03 mB with rfl|mB
   .rw[e]at ha;exact qF ha
   .rcases A03 mB with rfl|mB
    .rw[e']at ha;exact qF ha
    .cases mB
noncomputable def tO(c:Cx)(Y:YT)(h:Heap):YT:=λ b=>if b∈c.os then(h.get? b).map λ o=>(o.cls,o.data)else Y b
theorem aG.back(H:aG g c base Y X ρ σ s.heap)(l:fE X X')(H':aG g c' base (tO c Y s.heap) X' ρ' σ' h'):aG g c base Y X' ρ σ' h':=by
 have yb:∀b p,Y b=some p->tO c Y s.heap b=some p:=λ b p e=>by
  have:b∉c.os:=λ q=>by rw[(H.ow b q).2.2.1]at e;exact bJ e
  exact(if_neg this).trans e
 have yo:∀b∈c.os,∃o,s.heap.get? b=some o/\(∀vs,o.data≠.fields vs)/\tO c Y s.heap b=some (o.cls,o.data):=λ b hb=>by
  refine aj (H.ow b hb) λ il _=>?_;obtain⟨o,ho,hn⟩:=il
  exact dW o ho hn ((if_pos hb).trans (by rw[ho];rfl))
 refine{ gd:=H.gd,ok:=H.ok,bx:=H'.bx,x:=H'.x,y:=λ b cl d e=>H'.y b cl d (yb _ _ e),yx:=λ b p e=>H'.yx b p (yb _ _ e),fr:=H.fr,ow:=λ a ha=>?_,nd:=H.nd,sr:=H'.sr,sn:=H'.sn,sx:=λ a ha=>?_,loc:=?_,abv:=H.abv,nn:=H.nn,xe:=H'.xe,yf:=H.yf }
 .refine cG (yo a ha) λ o ho hn hy=>cG (H'.y _ _ _ hy) λ o' nr _ hd=>jF ⟨o',nr,by rw[hd];exact hn⟩ (H'.yx _ _ hy) ((H.ow a ha).2.2.1) (λ q=>by rw[(H'.sx a q).2]at hy;exact bJ hy)
 .refine aj (H'.sx a ha) λ h1 h2=>⟨h1,?_⟩
  cases q:Y a with
  |none=>rfl
  |some p=>rw[yb _ _ q]at h2;exact qF h2
 .refine aD H.loc λ m ak hb=>?_;obtain⟨o,es,ep,ho,hd,hk,hf⟩:=ak
  refine cG (yo c.env.locals (.head _)) λ eX G3 _ hy=>?_
  rw[ho]at G3;(refine sj G3 λ zq=>?_;subst zq)
  refine cG (H'.y _ _ _ hy) λ o' nr _ ig=>ad m ⟨o',es,ep,nr,ig.trans hd,hk,hf⟩ (λ p hp=>?_)
  have B:=(hb p hp).mono l
  obtain⟨x,sk,ov⟩:=p
  cases sk with
  |glb=>exact B
  |loc=>
   obtain⟨hd,hk|⟨hk,a,ez,ha,⟨oc,JM,Qy⟩,hv⟩⟩:=B
   .exact⟨hd,.inl hk⟩
   .refine cG (yo a (.tail _ (A11 ⟨_,ha,rfl⟩))) λ cq jI _ M8=>?_
    rw[JM]at jI;(refine sj jI λ zq=>?_;subst zq)
    refine cG (H'.y _ _ _ M8) λ DU jH _ Mr=>⟨hd,.inr ⟨hk,a,ez,ha,⟨DU,jH,Mr.trans Qy⟩,hv⟩⟩
theorem aG.offY(H:aG g c base Y X ρ σ s.heap)(h:tO c Y s.heap b=none/\P):b∉c.os/\Y b=none/\P:=by
 have q:b∉c.os:=λ q=>by
  obtain⟨⟨o,ho,-⟩,-⟩:=H.ow b q
  have h:=h.1
  unfold tO at h
  rw[if_pos q,ho]at h;exact qF h
 exact eN q ((if_neg q).symm.trans h.1) h.2
theorem aG.callee(H:aG g c base Y X ρ σ s.heap)(ok:Ok g c')(kp:∀b o,s.heap.get? b=some o->h'.get? b=some o)
  (frs:∀e∈c'.frs,e∈c.frs\/(e.scope.kind≠.module/\e.frame=some c'.env.locals))
  (nw:∀b∈c'.os,s.heap.get? b=none/\∃o,h'.get? b=some o/\∀vs,o.data≠.fields vs) (nd:c'.os.Nodup)
  (loc:∃m,h'.Ns c'.env.locals m/\∀p∈ρ',mz g c' base (tO c Y s.heap) X m h' p) (abv:base.objs.size<=c'.env.locals) (nn:(ρ'.map (·.1)).Nodup):aG g c' base (tO c Y s.heap) X ρ' σ h':=by
 have yu:∀b∈c.os,∃o,s.heap.get? b=some o/\(∀vs,o.data≠.fields vs)/\tO c Y s.heap b=some (o.cls,o.data):=λ b hb=>by
  refine aj (H.ow b hb) λ il _=>?_;obtain⟨o,ho,hn⟩:=il
  exact dW o ho hn ((if_pos hb).trans (by rw[ho];rfl))
 refine{ gd:=H.gd,ok:=ok,bx:=H.bx,x:=λ b o e=>kp b o (H.x b o e),y:=λ b cl d e=>?_,yx:=λ b p e=>?_,fr:=λ e he=>?_,ow:=λ b hb=>?_,nd:=nd,sr:=λ p hp=>gA.keep (λ b _ o e=>kp b o e) (H.sr p hp),sn:=H.sn,sx:=λ b hb=>?_,loc:=loc,abv:=abv,nn:=nn,xe:=H.xe,yf:=λ b p e=>?_ }
 .by_cases q:b∈c.os
  .refine cG (yu b q) λ o ho _ h=>?_
   rw[h]at e;cases e
   exact dW o (kp b o ho) rfl rfl
  .refine aD (H.y b cl d ((if_neg q).symm.trans e)) λ o ho r'=>ad o (kp b o ho) r'
 .by_cases q:b∈c.os
  .exact(H.ow b q).2.1
  .exact H.yx b p ((if_neg q).symm.trans e)
 .rcases frs e he with he|⟨h1,h2⟩
  .obtain⟨h1,L,h2,h3⟩:=H.fr e he
   refine⟨h1,L,h2,.inr ?_⟩
   by_cases q:L∈c.os
   .refine cG (yu L q) λ o _ hn h=>gJ _ _ h hn
   .rcases h3 with rfl|⟨cl,d,h3,h4⟩
    .exact absurd (.head _) q
    .exact gJ cl d ((if_neg q).trans h3) h4
  .exact⟨h1,_,h2,.inl rfl⟩
 .refine aj (nw b hb) λ hn o=>kU (H.fresh hn) λ f1 f2 f3 f4=>jF o f1 ((if_neg f3).trans f2) f4
 .refine aj (H.sx b hb) λ h1 h2=>⟨h1,(if_neg λ q=>(H.ow b q).2.2.2 hb).trans h2⟩
 .by_cases q:b∈c.os
  .refine cG (yu b q) λ o _ hn h=>?_
   rw[h]at e;(refine sj e λ zq=>?_;subst zq);exact hn
  .exact H.yf b p ((if_neg q).symm.trans e)
theorem lL(H:aG g c base Y X ρ σ s.heap){aB:Shared}(aJ:∃h t,aB={ s with heap:=h,toks:=t })(cL:∀b o,s.heap.get? b=some o->aB.heap.get? b=some o)
  (m:dR [] (tO c Y s.heap) aB s'):dR c.os Y s s':=by
 have up:∀b o,(b∈c.os\/∃p,Y b=some p)->s.heap.get? b=some o->(∀vs,o.data≠.fields vs)->∃o',s'.heap.get? b=some o'/\o'.cls=o.cls/\o'.data=o.data:=λ b o hb e hn=>by
  refine m.ky b o ?_ (cL b o e) hn
  by_cases q:b∈c.os
  .exact⟨_,(if_pos q).trans (by rw[e];rfl)⟩
  .rcases hb with hb|⟨p,hb⟩
   .exact absurd hb q
   .exact⟨p,(if_neg q).trans hb⟩
 refine⟨?_,λ b hb=>⟨λ mm ⟨o,es,ep,e,ed,r⟩=>?_,λ v ⟨o,e,ed⟩=>?_,λ⟨o,e,n⟩=>?_⟩,λ b o hb e hn=>up b o (.inr hb) e hn⟩
 .refine fS aJ λ h t dz=>?_;subst dz
  refine fS m.sm λ h' t' dz=>?_;subst dz
  exact iB h' t' rfl
 .obtain⟨o',e',_,vk⟩:=up b o (.inl hb) e λ vs q=>by rw[ed]at q;cases q
  exact sR o' es ep e' (vk.trans ed) r
 .obtain⟨o',e',_,vk⟩:=up b o (.inl hb) e λ vs q=>by rw[ed]at q;cases q
  exact ad o' e' (vk.trans ed)
 .refine cG (up b o (.inl hb) e n) λ o' e' _ vk=>ad o' e' (vk▸n)
theorem gg
  (qS:A.depth<recursionLimit) (ho:s.heap.get? a=some o) (Mu:o.data=.func fd) (JN:s.heap.NoLimit) (nN:s.heap.CodeRec fd.code fd.qualname)
  (Mw:fd.body=.stmts body) (jL:BindsTo s fd ⟨vals,[]⟩ binds) (RA:fd.closure=[])
  (eC:∀x∈binds,fd.scope.names.lookup x.1=some .local\/(fd.scope.names.lookup x.1=some .cell/\((cellsFrom (s.heap.objs.size+1) fd.scope.names []).lookup x.1).isSome=true))
  (h:∀aB,InCallC s (callEnvC fd s.heap.objs.size a).locals (bindL (callEnvC fd s.heap.objs.size a).kindOf binds λ _=>none) (callEnvC fd s.heap.objs.size a).cells
    (bindC (callEnvC fd s.heap.objs.size a).kindOf binds λ _=>none) aB ->
   wpAny (model prog w) (A.deeper (callEnvC fd s.heap.objs.size a)) (execs body (callEnvC fd s.heap.objs.size a)) (λ f s'=>R (.ok (.ret (match f with | .ret v=>v | _=>.none))) s')
    (λ e s'=>wpAny (model prog w) (A.deeper (callEnvC fd s.heap.objs.size a)) (leaving (callEnvC fd s.heap.objs.size a) e) (λ _ O6=>R (.error e) O6) (λ e' O6=>R (.error e') O6) s') aB)
  (U8:fd.scope.isCoroutine=false) (Qv:fd.scope.isGenerator=false) (hk:fd.scope.kind=.function) :
  codeAny (model prog w) A (.call (.ref a) ⟨vals,[]⟩) R s:=by
 refine codeAny_call_function qS ho Mu U8 Qv Mw nN (jL _ _ _ _ ?_)
 rw[RA]
 refine wpAny_newFunctionEnv_cells hk eC λ env he s' x=>?_
 subst he
 exact⟨JN.keeps x.toInCall.keep,codeAny_func (h s' x)⟩
theorem DR(n:Nat)(r:bG P X vs ds):bG P X (vs++vU n vs.length) (ds++vV n ds.length):=by
 rw[r.length]
 delta vU vV
 split
 .exact r.append .nil
 .exact r.append (.cons .none .nil)
theorem oH{ce:Env}{ml mc:Str->Option Value}(ceL:ce.locals=s.heap.objs.size)(cnd:(ce.cells.map (·.1)).Nodup)(IC:InCallC s ce.locals ml ce.cells mc aB)(b:Addr)(hb:b∈ce.locals::ce.cells.map (·.2)):s.heap.get? b=none/\∃o,aB.heap.get? b=some o/\∀vs,o.data≠.fields vs:=by
 have gone:∀b,ce.locals<=b->s.heap.get? b=none:=λ b hb=>by
  cases q:s.heap.get? b with
  |none=>rfl
  |some o=>exact absurd (Heap.lt_size q) (Nat.not_lt.mpr (ceL▸hb))
 refine(A03 hb).elim (λ zq=>?_) λ hb=>?_
 .subst zq
  refine gH IC.toInCall.ns λ o es ep e ed _=>⟨gone _ (Nat.le_refl _),o,e,λ vs q=>by rw[ed]at q;cases q⟩
 .refine aD (A10 hb) λ p hp dz=>?_;subst dz
  refine aD (IC.cell p.1 p.2 (bW cnd hp)) λ o e ed=>⟨gone _ (Nat.le_of_lt (IC.above p.1 p.2 hp)),o,e,λ vs q=>by rw[ed]at q;cases q⟩
theorem oI{ce:Env}{ml mc:Str->Option Value}(IC:InCallC s ce.locals ml ce.cells mc aB):(ce.locals::ce.cells.map (·.2)).Nodup:=by
 rw[List.nodup_cons]
 refine⟨λ q=>?_,?_⟩
 .refine aD (A10 q) λ p hp e=>absurd (IC.above p.1 p.2 hp) (by rw[e];exact Nat.lt_irrefl _)
 .rw[List.Nodup,List.pairwise_map]
  exact IC.apart
theorem mW{r:bO}{nms:List Str}{ce:Env}{A':Around}{f:List Env}{k:Nat}(gd:GD g base)(ic:(r.scope.names.map (·.1)).Nodup)(jK:∀p∈r.scope.names,(p.1==("__debug__":Str))=false)(hn:nms.Nodup)(rv:bG (Pm g) X vs ds)(ceS:ce.scope=r.scope)(ceC:ce.cells=cellsFrom (s.heap.objs.size+1) r.scope.names [])(cnd:(ce.cells.map (·.1)).Nodup)
  (IC:InCallC s ce.locals (bindL ce.kindOf (nms.zip vs) λ _=>none) ce.cells (bindC ce.kindOf (nms.zip vs) λ _=>none) aB) (p:Str×SK×Option D) (hp:p∈iT g.tab (nms.zip ds) r.scope.names) :
  mz g { A:=A',env:=ce,own:=ce.cells,frs:=f,k:=k } base Y X (bindL ce.kindOf (nms.zip vs) λ _=>none) aB.heap p:=by
 obtain⟨x,sk,ov⟩:=p
 have kind:∀{x sk},(x,sk)∈ r.scope.names->(x==("__debug__":Str))=false/\ce.kindOf x=some sk:=λ{x sk} e=>⟨jK _ e,by simp only[Env.kindOf,ceS];exact bW ic e⟩
 rcases yW hp with⟨e1,e2,e3⟩|⟨e1,e2,e3⟩
 .dsimp only at e1 e2 e3
  subst e1 e2
  rcases e3 with e3|e3
  .refine aj (kind e3) λ k1 k2=>⟨k1,.inl ⟨k2,λ d e=>?_⟩⟩
   refine cG (jZ (kf:=ce.kindOf) (λ _=>none) rv hn e) λ v Pe h1 _=>ad v (h1 k2) Pe
  .refine aj (kind e3) λ k1 k2=>?_
   have hm:x∈ce.cells.map (·.1):=by rw[ceC];exact nP (.inl e3)
   refine aD (A10 hm) λ il S4 dz=>?_;obtain⟨x',a'⟩:=il;subst dz
   refine⟨k1,.inr ⟨k2,a',_,S4,IC.cell x' a' (bW cnd S4),λ d e=>?_⟩⟩
   refine cG (jZ (kf:=ce.kindOf) (λ _=>none) rv hn e) λ v Pe _ h1=>ad v (h1 (by rw[k2];exact λ q=>nomatch q)) Pe
 .dsimp only at e1 e2 e3
  subst e1 e2
  refine aj (kind e3) λ k1 k2=>⟨k1,.inl ⟨k2,λ d e=>gd.nm x d e⟩⟩
theorem Ab{r:bO}{nms:List Str}(H:aG g c base Y X ρ σ s.heap)(rK:r.scope.kind=.function)(ic:(r.scope.names.map (·.1)).Nodup)(jK:∀p∈r.scope.names,(p.1==("__debug__":Str))=false)
  (hn:nms.Nodup) (hρ:iT g.tab (nms.zip ds) r.scope.names=cb) (rv:bG (Pm g) X vs ds) (hk:k+1<=c.k) (ceS:ce.scope=r.scope) (ceG:ce.globals=mainGlobals) (ceB:ce.builtins=builtinsNs) (ceL:ce.locals=s.heap.objs.size) (ceF:ce.frame=some ce.locals) (ceC:ce.cells=cellsFrom (s.heap.objs.size+1) r.scope.names [])
  (IC:InCallC s ce.locals (bindL ce.kindOf (nms.zip vs) λ _=>none) ce.cells (bindC ce.kindOf (nms.zip vs) λ _=>none) aB) :
  aG g { A:=c.A.deeper ce,env:=ce,own:=ce.cells,frs:=ce::c.frs,k:=k } base (tO c Y s.heap) X cb σ aB.heap:=by
 have cnd:(ce.cells.map (·.1)).Nodup:=by rw[ceC];exact gG ic .nil λ _ _ q=>cu q
 refine H.callee ⟨?_,ceS▸rK,ceG,ceB,?_,?_,λ _=>H.ok.hand (by exact O8 ‹_›),λ p hp=>bW cnd hp,⟨ce,c.frs,ce.locals,rfl,rfl,ceF⟩⟩ IC.toInCall.keep (λ e he=>?_) (oH ceL cnd IC) (oI IC) ⟨_,IC.toInCall.ns,λ p hp=>mW H.gd ic jK hn rv ceS ceC cnd IC p (hρ▸hp)⟩ ?_ (by subst hρ;exact ic.sublist l8)
 .simp only[Around.deeper,H.ok.frames];rfl
 .have:=H.ok.room;exact Td ‹_› ‹_›
 .have:=H.ok.units;exact Ta ‹_› ‹_›
 .rcases A03 he with q|he
  .exact .inr ⟨by simp only[q,ceS,rK];decide,by rw[q];exact ceF⟩
  .exact .inl he
 .obtain⟨⟨o,ho,_⟩,_⟩:=H.ow c.env.locals (.head _)
  exact Nat.le_of_lt (Nat.lt_of_le_of_lt H.abv (ceL▸Heap.lt_size ho))
theorem LY(r:FR P X f f')(q:RQ Q f' ρ σ):∃d,bz P X (match f with | .ret v=>v | _=>.none) d/\∃d' σ',Fi d σ d' σ'/\Q d' σ':=by
 cases f<;>cases f'<;>first | exact r.elim | exact q.elim | skip
 .refine aD q λ σ' k' q=>⟨.none,.none,.none,σ',.id k',q⟩
 .exact ad _ r q
set_option tactic.hygienic true in
theorem KZ{a:Addr}{r:bO}(hf:nT g.K a r)(jq:eK r.scope=true)
  (hp:gU r.params=some nms) (Mh:pz r.dflt nms.length ds.length=true)
  (hn:nms.Nodup) (Og:(nms.all λ n=>r.scope.names.lookup n==some .local||r.scope.names.lookup n==some .cell)=true) (hρ:iT g.tab (nms.zip (ds++vV nms.length ds.length)) r.scope.names=cb)
  (h:∀c',c'.k=k->(∃rr,c'.frs=c'.env::rr)->c'.env.scope=r.scope->pR g c' cb σ r.body (RQ Q) E):wR g (k+1) (.ref a) ds σ Q E:=by
 intro c base Y X ρ s fv vs hk H rf GA
 cases rf
 obtain⟨oc,od,osl,dV,kV,doc,pm,an,cdv,ct,hK,nN,my⟩:=hf
 have kb:∀b o,base.get? b=some o->s.heap.get? b=some o:=λ b o e=>H.x b o (H.bx b o e)
 have jL:=m2 (kV:=kV) (doc:=doc) (pm:=pm) (an:=an) (cdv:=cdv) (ct:=ct) hp hn (s:=s) (dV:=dV) (by
  split
  .rename_i q
   rw[if_pos q]at my
   refine gH my λ T o n e1 e2 e3=>sR T o n e1 (kb _ _ (H.gd.kin _ _ e2)) e3
  .rename_i q
   rw[if_neg q]at my
   exact my) (by rw[GA.length];exact Mh)
 have rv:=DR nms.length GA
 generalize v6:vs++vU nms.length vs.length=cZ at jL rv
 obtain⟨rK,G8,G7,ic,jK⟩:=Cb jq
 have kz:∀x∈nms.zip cZ,r.scope.names.lookup x.1=some .local\/(r.scope.names.lookup x.1=some .cell/\((cellsFrom (s.heap.objs.size+1) r.scope.names []).lookup x.1).isSome=true):=λ x hx=>by
  have pO:x.1∈nms:=jd (A11 ⟨x,hx,rfl⟩)
  have:=A06 Og _ pO
  simp only[Bool.or_eq_true,beq_iff_eq,beq_iff_eq]at this
  exact this.imp id λ e=>⟨e,cellsFrom_some _ _ _ (.inl e)⟩
 refine(gg (fd:=fnOf r.name r.qual r.params r.body r.scope dV kV doc pm an cdv ct) (body:=r.body) (binds:=nms.zip cZ) (by have:=H.ok.room;exact Lx ‹_›) (kb _ _ (H.gd.kin _ _ hK)) rfl (H.gd.nl.keeps kb) (codeRec_of (H.gd.kin.keeps kb) nN) rfl jL rfl kz (λ aB IC=>?_) G8 G7 rK)
 have H':=Ab (ce:=callEnvC (fnOf r.name r.qual r.params r.body r.scope dV kV doc pm an cdv ct) s.heap.objs.size a) H rK ic (λ p hp=>by simpa using A06 jK p hp) hn hρ rv hk rfl rfl rfl rfl rfl rfl IC
 have W:=h _ rfl ⟨c.frs,rfl⟩ rfl base (tO c Y s.heap) X aB H'
 have aV:=IC.toInCall.same
 have kQ:=IC.toInCall.keep
 have rL:=H'.ok.frames
 have ceF:(callEnvC (fnOf r.name r.qual r.params r.body r.scope dV kV doc pm an cdv ct) s.heap.objs.size a).frame=some (callEnvC (fnOf r.name r.qual r.params r.body r.scope dV kV doc pm an cdv ct) s.heap.objs.size a).locals:=rfl
 clear IC H' jL kz Mh hp Og
 generalize callEnvC (fnOf r.name r.qual r.params r.body r.scope dV kV doc pm an cdv ct) s.heap.objs.size a=ce at *
 refine wpAny_mono W ?_ ?_
 .rintro f aP ⟨az,f',cJ,a9,aU,am,au,aa,q⟩
  obtain⟨d,rd,d',σ',hz,hq⟩:=LY aa q
  refine cG (am.freeze hz rd) λ dH bt cD eA=>⟨dH,d',σ',aU.trans bt,H.back (aU.trans bt) cD,lL H aV kQ au,eA,hq⟩
 .rintro v aP ⟨e,dx,t,rfl,F,st,ht,h5⟩
  refine qc rL ceF F λ h' F' n=>⟨e,dx,t,rfl,F',lL H aV kQ (st.trans n.stp),ht,λ b hb=>H.offY (h5 b hb).2⟩
end
inductive Bj (K:Frag):D->Prop where
 |bi (id:String):Bj K (.bi id)
 |ty (n:String):Bj K (.ty n)
 |fn {a:Addr}{r:bO} (h:nT K a r):Bj K (.ref a)
 |cls {C:Addr}{oc:Value}{od:Option Addr}{cd:ClassData}{sl:Array (Option Value)} (h:K.lookup C=some ⟨oc,od,.cls cd,sl⟩) (hc:specialIn K (.ref C) "__call__" = some (some (.builtin "type.__call__"))):Bj K (.ref C)
theorem jh(hc:Bj g.K d)(r:bz P X v d)(K:g.K.In s.heap)(q:∀k,Q k s):wpAny (M g) A (keeperOf v) Q Ev s:=by
 cases hc with
 |bi id=>obtain rfl:=r.inv;exact wpAny_pure (q _)
 |ty n=>obtain rfl:=r.inv;exact wpAny_pure (q _)
 |fn h=>
  obtain rfl:=r.inv
  obtain⟨oc,od,osl,dV,kV,doc,pm,an,cdv,ct,hK,_⟩:=h
  exact wpAny_bind (wpAny_load (K _ _ hK) (wpAny_pure (q _)))
 |cls h hc=>
  obtain rfl:=r.inv
  refine wpAny_bind (wpAny_load (K _ _ h) ?_)
  exact wpAny_bind ((looks_specialIn K hc).here (wpAny_pure (q _)))
theorem fF(hp:args.any (·.1)=false)
  (h:wpAny Mo A (spliced args) (λ vs aB=>wpAny Mo A (keeperOf f) (λ _ aP=>wpAny Mo A (call f (first++vs)) Q Ev aP) Ev aB) Ev s):wpAny Mo A (callWith pos f first args []) Q Ev s:=by
 have U5:evalArgs f true args []=(do let vs<-spliced args;holding (vs++[]) (do let kw:=([]:List Str).zip (<-evalAll []);return ⟨vs,kw⟩)):=by
  cases args with
  |nil=>rfl
  |cons p r=>
   obtain⟨b,x⟩:=p
   simp only[List.any_cons,Bool.or_eq_false_iff]at hp
   cases b with
   |true=>cases hp.1
   |false=>rfl
 unfold callWith
 rw[U5]
 refine wpAny_bind (wpAny_holding (wpAny_bind (wpAny_mono h (λ vs aB a7=>?_) λ _ _ z=>z)))
 refine wpAny_holding (wpAny_bind (wpAny_pure (wpAny_pure ?_)))
 refine wpAny_bind (wpAny_standAt ?_)
 have UE:(args.any (·.1)||([]:List (Option Str×Sem Value)).any (·.1.isNone))=false:=by rw[hp];rfl
 rw[UE]
 refine wpAny_bind (wpAny_mono a7 (λ k aP a8=>?_) λ _ _ z=>z)
 have eT:∀(t:Sem Value),wpAny Mo A t Q Ev aP->wpAny Mo A (do let r<-t;holding [r] point;pure r) Q Ev aP:=λ t ht=>wpAny_bind (wpAny_mono ht (λ r bu cB=>wpAny_bind (wpAny_holding (wpAny_point (wpAny_pure cB)))) λ _ _ z=>z)
 cases k
 all_goals dsimp only
 .split
  .exact eT _ a8
  .exact eT _ (wpAny_keep a8)
 .split
  .exact eT _ a8
  .exact eT _ (wpAny_keep a8)
 .exact eT _ a8
 .exact eT _ (wpAny_operateT a8)
section
variable {E:D->Prop}
theorem j6
  (h:AE g c ρ σ func (λ f aM=>Bj g.K f/\wL g c ρ aM pos args (λ ds a9=>AC g k f ds a9 Q E) E) E) (hk:k<=c.k)
  (he:eval (.Call func args [] pos) c.env=(do callWith pos (<-eval func c.env) [] (backTo pos (starEach args c.env)) (backToKw pos (keywordEach [] c.env))):=by rfl)
  (hp:(backTo pos (starEach args c.env)).any (·.1)=false:=by rfl):AE g c ρ σ (.Call func args [] pos) Q E:=λ base Y X s H=>by
 simp only[he]
 refine wpAny_bind (wpAny_mono (h base Y X s H) ?_ λ _ _ z=>z)
 rintro bI aB ⟨bA,bB,aM,aY,aZ,aJ,aL,hc,a7⟩
 refine fF hp (wpAny_mono (a7 base Y bA aB aZ) ?_ λ _ _ z=>z.back aJ)
 rintro vs aP ⟨az,ds,a9,aU,am,au,aa,a8⟩
 refine jh hc aL (am.gd.kin.keeps λ b o e=>am.x b o (am.bx b o e)) λ kp=>wpAny_mono (a8 c base Y az ρ aP bI vs hk am (aL.mono aU) aa) (λ _ _ z=>z.back (aY.trans aU) (aJ.trans au)) λ _ _ z=>z.back (aJ.trans au)
end
section
variable {a b:Int}
theorem fJ(h:∀{c base Y X ρ s}(u w:Tok),aG g c base Y X ρ σ s.heap->wpAny (M g) c.A (t (.int a u) (.int b w)) (PV g c base Y X ρ s Q) (EP g c c.os base Y s E) s):cy g t (.int a) (.int b) σ Q E:=λ c base Y X ρ s bI bU H aL aa=>by
 refine aS aL.inv λ u ak=>?_;subst ak;refine aS aa.inv λ w ak=>?_;subst ak;exact h u w H
theorem BN{a b:List Nat}(h:∀{c base Y X ρ s}(u w:Tok),aG g c base Y X ρ σ s.heap->wpAny (M g) c.A (t (.str ⟨a.toArray⟩ u) (.str ⟨b.toArray⟩ w)) (PV g c base Y X ρ s Q) (EP g c c.os base Y s E) s):cy g t (.str a) (.str b) σ Q E:=λ c base Y X ρ s bI bU H aL aa=>by
 refine aS aL.inv λ u ak=>?_;subst ak;refine aS aa.inv λ w ak=>?_;subst ak;exact h u w H
theorem Gn{a:List Nat}(h:∀{c base Y X ρ s}(u w:Tok),aG g c base Y X ρ σ s.heap->wpAny (M g) c.A (t (.str ⟨a.toArray⟩ u) (.int b w)) (PV g c base Y X ρ s Q) (EP g c c.os base Y s E) s):cy g t (.str a) (.int b) σ Q E:=λ c base Y X ρ s bI bU H aL aa=>by
 refine aS aL.inv λ u ak=>?_;subst ak;refine aS aa.inv λ w ak=>?_;subst ak;exact h u w H
theorem Gp{a b:List UInt8}(h:∀{c base Y X ρ s}(u w:Tok),aG g c base Y X ρ σ s.heap->wpAny (M g) c.A (t (.bytes a.toArray u) (.bytes b.toArray w)) (PV g c base Y X ρ s Q) (EP g c c.os base Y s E) s):cy g t (.bytes a) (.bytes b) σ Q E:=λ c base Y X ρ s bI bU H aL aa=>by
 refine aS aL.inv λ u ak=>?_;subst ak;refine aS aa.inv λ w ak=>?_;subst ak;exact h u w H
theorem OE{a:List UInt8}(h:∀{c base Y X ρ s}(u w:Tok),aG g c base Y X ρ σ s.heap->wpAny (M g) c.A (t (.bytes a.toArray u) (.int b w)) (PV g c base Y X ρ s Q) (EP g c c.os base Y s E) s):cy g t (.bytes a) (.int b) σ Q E:=λ c base Y X ρ s bI bU H aL aa=>by
 refine aS aL.inv λ u ak=>?_;subst ak;refine aS aa.inv λ w ak=>?_;subst ak;exact h u w H
theorem Go{a b:Bool}(h:∀{c base Y X ρ s},aG g c base Y X ρ σ s.heap->wpAny (M g) c.A (t (.bool a) (.bool b)) (PV g c base Y X ρ s Q) (EP g c c.os base Y s E) s):cy g t (.bool a) (.bool b) σ Q E:=λ c base Y X ρ s bI bU H aL aa=>by
 obtain rfl:=aL.inv;obtain rfl:=aa.inv;exact h H
theorem JF(q:Q (.bool (decide (a<=b))) σ):cy g (compareOp .LtE) (.int a) (.int b) σ Q E:=fJ λ u w H=>PyProof.Rows.le_int (bM H (.bool _) q)
theorem QY(q:Q (.bool (decide (a<b))) σ):cy g (compareOp .Lt) (.int a) (.int b) σ Q E:=fJ λ u w H=>PyProof.Rows.lt_int (bM H (.bool _) q)
theorem Q2(q:Q (.bool (decide (b<=a))) σ):cy g (compareOp .GtE) (.int a) (.int b) σ Q E:=fJ λ u w H=>PyProof.Rows.ge_int (bM H (.bool _) q)
theorem Q0(q:Q (.bool (decide (b<a))) σ):cy g (compareOp .Gt) (.int a) (.int b) σ Q E:=fJ λ u w H=>PyProof.Rows.gt_int (bM H (.bool _) q)
theorem QX(q:Q (.bool (a !=b)) σ):cy g (compareOp .NotEq) (.int a) (.int b) σ Q E:=fJ λ u w H=>PyProof.Rows.ne_int (bM H (.bool _) q)
theorem M6(q:Q (.int (a+b)) σ):cy g (binaryOp .Add) (.int a) (.int b) σ Q E:=fJ λ u w H=>PyProof.Rows.add_int (bH H (.int _ _) q)
theorem MV(q:Q (.int (a-b)) σ):cy g (binaryOp .Sub) (.int a) (.int b) σ Q E:=fJ λ u w H=>PyProof.Rows.sub_int (bH H (.int _ _) q)
theorem M1(hb:b≠0)(q:Q (.int (a.fmod b)) σ):cy g (binaryOp .Mod) (.int a) (.int b) σ Q E:=fJ λ u w H=>PyProof.Rows.mod_int' hb (bH H (.int _ _) q)
theorem GY(q:Q (.int (-a)) σ):Oy g (unaryOp .USub) (.int a) σ Q E:=λ c base Y X ρ s v H r=>by refine aS r.inv λ u ak=>?_;subst ak;exact PyProof.Rows.neg_int (bH H (.int _ _) q)
theorem NS(h:Oz g d σ (λ b σ'=>Q (.bool (!b)) σ')):Oy g (unaryOp .Not) d σ Q E:=λ c base Y X ρ s v H r=>
 not_of (wpAny_mono (h c base Y X ρ s v E H r) (λ b s' iM=>by obtain⟨X',σ',h1,h2,h3,h4⟩:=iM;exact⟨X',_,σ',h1,h2,h3,.bool _,h4⟩) λ _ _ z=>z)
noncomputable def D.isNone:D->Bool
 |.none=>true
 |_=>false
theorem nk(r:bz P X v d):(v==Value.none)=d.isNone:=r.casesOn rfl (λ _=>rfl) (λ _ _=>rfl) (λ _ _=>rfl) (λ _ _=>rfl) (λ _ _=>rfl) (λ _ _=>rfl) (λ _ _ _=>rfl) (λ _=>rfl) (λ _=>rfl) (λ _=>rfl) (λ _=>rfl) λ _ _ _ _ _ _=>rfl
theorem NT(q:Q (.bool d.isNone) σ):cy g (compareOp .Is) d .none σ Q E:=λ c base Y X ρ s bI bU H aL aa=>by
 obtain rfl:=aa.inv
 exact is_none (by rw[nk aL];exact bM H (.bool _) q)
theorem Jk(q:Q (.bool (!d.isNone)) σ):cy g (compareOp .IsNot) d .none σ Q E:=λ c base Y X ρ s bI bU H aL aa=>by
 obtain rfl:=aa.inv
 exact isNot_none (by rw[nk aL];exact bM H (.bool _) q)
end
section
variable {E:D->Prop}
theorem nX(h:Q () s):wpAny Mo A (release vs keep) Q Ev s:=λ Γ p _=>by
 simp only[Sem.wp_release];exact h
theorem FV
  (h:AE g c ρ σ l (λ bB aM=>AE g c ρ aM m (λ bn a9=>cy g (compareOp jC) bB bn a9 (QB λ b bb=>(b=true->AE g c ρ bb r (λ i5 bq=>cy g (compareOp jB) bn i5 bq (QB Q) E) E)/\(b=false->Q false bb)) E) E) E)
  (hm:markedEach [jC,jB] [m,r] [eval m c.env,eval r c.env]=[eval m c.env,eval r c.env]:=by with_unfolding_all rfl):AT g c ρ σ (.Compare l [jC,jB] [m,r] pos) Q E:=λ base Y X s H=>by
 refine(?_:wpAny _ _ (do testChain pos (<-eval l c.env) [jC,jB] (markedEach [jC,jB] [m,r] [eval m c.env,eval r c.env])) _ _ _)
 simp only[hm]
 refine wpAny_bind (wpAny_mono (h base Y X s H) ?_ λ _ _ h=>h)
 rintro bI aB ⟨bA,bB,aM,aY,aZ,aJ,aL,a7⟩
 refine wpAny_bind (wpAny_holding (wpAny_mono (a7 base Y bA aB aZ) ?_ λ _ _ h=>h.back aJ))
 rintro bU aP ⟨az,bn,a9,aU,am,au,aa,a8⟩
 refine wpAny_bind (wpAny_standAt (wpAny_bind (wpAny_holding (wpAny_mono (a8 c base Y az ρ aP bI bU am (aL.mono aU) aa) ?_ λ _ _ z=>z.back (aJ.trans au)))))
 rintro nE bu ⟨dH,i5,bb,bt,cD,c9,eA,cB⟩
 have ye:=aY.trans (aU.trans bt)
 have k8:=aJ.trans (au.trans c9)
 obtain⟨b,rfl,pt⟩:=tZ cB eA
 refine wpAny_bind (nX (wpAny_bind (wpAny_holding (wpAny_truthy_bool ?_))))
 cases b
 .exact wpAny_pure ⟨dH,bb,ye,cD,k8,pt.2 rfl⟩
 .refine wpAny_bind (wpAny_holding (wpAny_mono (pt.1 rfl base Y dH bu cD) ?_ λ _ _ h=>h.back k8))
  rintro nB dT ⟨iE,A5,bq,eG,fQ,hU,kX,de⟩
  refine wpAny_bind (wpAny_standAt (wpAny_bind (wpAny_operateT (wpAny_mono (de c base Y iE ρ dT bU nB fQ (aa.mono (bt.trans eG)) kX) ?_ λ _ _ z=>z.back (k8.trans hU)))))
  rintro PT rY ⟨nQ,Um,gO,oa,ja,o9,vL,iC⟩
  obtain⟨b,rfl,Pi⟩:=tZ iC vL
  exact wpAny_holding (wpAny_truthy_bool ⟨nQ,gO,ye.trans (eG.trans oa),ja,k8.trans (hU.trans o9),Pi⟩)
theorem uh
  (h:AE g c ρ σ l (λ bB aM=>AE g c ρ aM m (λ bn a9=>cy g (compareOp jC) bB bn a9 (QB λ b bb=>(b=true->AE g c ρ bb r (λ i5 bq=>cy g (compareOp jB) bn i5 bq Q E) E)/\(b=false->Q (.bool false) bb)) E) E) E)
  (hm:markedEach [jC,jB] [m,r] [eval m c.env,eval r c.env]=[eval m c.env,eval r c.env]:=by with_unfolding_all rfl):AE g c ρ σ (.Compare l [jC,jB] [m,r] pos) Q E:=λ base Y X s H=>by
 refine(?_:wpAny _ _ (do compareChain pos (<-eval l c.env) [jC,jB] (markedEach [jC,jB] [m,r] [eval m c.env,eval r c.env])) _ _ _)
 simp only[hm]
 refine wpAny_bind (wpAny_mono (h base Y X s H) ?_ λ _ _ h=>h)
 rintro bI aB ⟨bA,bB,aM,aY,aZ,aJ,aL,a7⟩
 refine wpAny_bind (wpAny_holding (wpAny_mono (a7 base Y bA aB aZ) ?_ λ _ _ h=>h.back aJ))
 rintro bU aP ⟨az,bn,a9,aU,am,au,aa,a8⟩
 refine wpAny_bind (wpAny_standAt (wpAny_bind (wpAny_holding (wpAny_mono (a8 c base Y az ρ aP bI bU am (aL.mono aU) aa) ?_ λ _ _ z=>z.back (aJ.trans au)))))
 rintro nE bu ⟨dH,i5,bb,bt,cD,c9,eA,cB⟩
 have ye:=aY.trans (aU.trans bt)
 have k8:=aJ.trans (au.trans c9)
 obtain⟨b,rfl,pt⟩:=tZ cB eA
 refine wpAny_bind (nX (wpAny_bind (wpAny_holding (wpAny_truthy_bool ?_))))
 cases b
 .exact wpAny_pure ⟨dH,.bool false,bb,ye,cD,k8,.bool _,pt.2 rfl⟩
 .refine wpAny_bind (wpAny_holding (wpAny_mono (pt.1 rfl base Y dH bu cD) ?_ λ _ _ h=>h.back k8))
  rintro nB dT ⟨iE,A5,bq,eG,fQ,hU,kX,de⟩
  refine wpAny_bind (wpAny_standAt (wpAny_operateT (wpAny_mono (de c base Y iE ρ dT bU nB fQ (aa.mono (bt.trans eG)) kX) ?_ λ _ _ z=>z.back (k8.trans hU))))
  intro PT rY iC
  exact iC.back (ye.trans eG) (k8.trans hU)
end
class inductive Up:aN->(Addr×MO)->(Addr×MO)->aN->Prop where
 |here {p p':Addr×MO}{σ:aN}:Up (p::σ) p p' (p'::σ)
 |there {p p' q:Addr×MO}{σ σ':aN} (h:Up σ p p' σ'):Up (q::σ) p p' (q::σ')
theorem Up.mem(h:Up σ p p' σ'):p∈σ:=by
 induction h with
 |here=>exact .head _
 |there _ ih=>exact .tail _ ih
theorem Up.fp(h:Up σ p p' σ')(hf:jO p'=jO p):eD σ'=eD σ:=by
 induction h with
 |here=>simp only[eD,List.flatMap_cons,hf]
 |there _ ih=>simp only[eD,List.flatMap_cons]at *;rw[ih hf]
theorem Up.cases(h:Up σ p p' σ')(nd:(eD σ).Nodup):∀q∈σ',q=p'\/(q∈σ/\∀a∈jO q,a∉jO p):=by
 induction h with
 |@here p p' σ=>
  intro q hq
  rcases A03 hq with rfl|hq
  .exact .inl rfl
  .refine .inr ⟨.tail _ hq,λ a ha hb=>?_⟩
   dsimp only[eD,List.flatMap_cons]at nd
   exact(List.nodup_append.mp nd).2.2 a hb a (List.mem_flatMap.mpr ⟨q,hq,ha⟩) rfl
 |@there p p' T5 σ σ' h ih=>
  intro q hq
  have V3:=nd
  dsimp only[eD,List.flatMap_cons]at nd
  rcases A03 hq with rfl|hq
  .exact .inr ⟨.head _,λ a ha hb=>(List.nodup_append.mp nd).2.2 a ha a (List.mem_flatMap.mpr ⟨p,h.mem,hb⟩) rfl⟩
  .exact(ih (List.nodup_append.mp nd).2.1 q hq).imp id λ⟨h1,h2⟩=>⟨.tail _ h1,h2⟩
section
variable {m:Str->Option Value}
theorem mz.keep(H:aG g c base Y X ρ σ h){W:List Addr}(hW:∀a∈c.own.map (·.2),a∉W)(k:∀b o,h.get? b=some o->b≠c.env.locals->b∉W->h'.get? b=some o)(B:mz g c base Y X m h p):mz g c base Y X m h' p:=by
 obtain⟨x,sk,o⟩:=p
 cases sk with
 |glb=>exact B
 |loc=>
  obtain⟨hd,hk|⟨hk,a,ez,ha,⟨oc,e,ed⟩,hv⟩⟩:=B
  .exact⟨hd,.inl hk⟩
  .have hm:a∈c.own.map (·.2):=A11 ⟨_,ha,rfl⟩
   have hL:a≠c.env.locals:=λ q=>by
    have:=H.nd
    rw[Cx.os,List.nodup_cons]at this
    exact this.1 (q▸hm)
   exact⟨hd,.inr ⟨hk,a,ez,ha,⟨oc,k a oc e hL (hW a hm),ed⟩,hv⟩⟩
theorem aG.turnS{p p':Addr×MO}(H:aG g c base Y X ρ σ h)(hb:∀q∈ρ,mz g c base Y X m h q)(lu:h'.Ns c.env.locals m)
  (k:∀b o,h.get? b=some o->b≠c.env.locals->b∉jO p->h'.get? b=some o) (U:Up σ p p' σ') (hf:jO p'=jO p) (hr:gA (Pm g) X h' p'):aG g c base Y X ρ σ' h':=by
 have hp:∀a∈jO p,a∈eD σ:=λ a ha=>List.mem_flatMap.mpr ⟨p,U.mem,ha⟩
 have kx:∀b o,X b=some o->h'.get? b=some o:=λ b o e=>k b o (H.x b o e) (λ q=>by simp only[q,(H.ow c.env.locals (.head _)).2.1]at e;exact bJ e) λ q=>by simp only[(H.sx b (hp b q)).1]at e;exact bJ e
 refine{ gd:=H.gd,ok:=H.ok,bx:=H.bx,x:=kx,y:=λ b cl d e=>?_,yx:=H.yx,fr:=H.fr,ow:=λ a ha=>?_,nd:=H.nd,sr:=λ q hq=>?_,sn:=by simp only[U.fp hf];exact H.sn,sx:=λ a ha=>H.sx a (U.fp hf▸ha),loc:=⟨m,lu,λ q hq=>mz.keep H (W:=jO p) (λ a ha q=>(H.ow a (.tail _ ha)).2.2.2 (hp a q)) k (hb q hq)⟩,abv:=H.abv,nn:=H.nn,xe:=H.xe,yf:=H.yf }
 .refine aD (H.y b cl d e) λ o ho r=>ad o (k b o ho (λ q=>by simp only[q,(H.ow c.env.locals (.head _)).2.2.1]at e;exact bJ e) (λ q=>by simp only[(H.sx b (hp b q)).2]at e;exact bJ e)) r
 .refine kU (H.ow a ha) λ il h2 h3 h4=>?_;obtain⟨o,ho,hn⟩:=il
  refine jF ?_ h2 h3 (by rw[U.fp hf];exact h4)
  by_cases q:a=c.env.locals
  .subst q
   refine gH lu λ o' es ep e ed _=>ad o' e (λ vs q=>by rw[ed]at q;cases q)
  .exact ad o (k a o ho q λ q=>h4 (hp a q)) hn
 .rcases U.cases H.sn q hq with rfl|⟨S0,ha⟩
  .exact hr
  .refine gA.keep (λ b mB o e=>k b o e (λ q=>?_) (ha b mB)) (H.sr q S0)
   exact(H.ow c.env.locals (.head _)).2.2.2 (q▸List.mem_flatMap.mpr ⟨_,S0,mB⟩)
theorem aG.ext(H:aG g c base Y X ρ σ h)(hb:∀q∈ρ,mz g c base Y X m h q)(lu:h'.Ns c.env.locals m)(k:∀b o,h.get? b=some o->b≠c.env.locals->h'.get? b=some o):aG g c base Y X ρ σ h':=by
 refine{ gd:=H.gd,ok:=H.ok,bx:=H.bx,x:=λ b o e=>k b o (H.x b o e) (λ q=>by simp only[q,(H.ow c.env.locals (.head _)).2.1]at e;cases e),y:=λ b cl d e=>?_,yx:=H.yx,fr:=H.fr,ow:=λ a ha=>?_,nd:=H.nd,sr:=λ q hq=>?_,sn:=H.sn,sx:=H.sx,loc:=⟨m,lu,λ q hq=>mz.keep H (W:=[]) (λ a ha q=>nomatch q) (λ b o e q _=>k b o e q) (hb q hq)⟩,abv:=H.abv,nn:=H.nn,xe:=H.xe,yf:=H.yf }
 .refine aD (H.y b cl d e) λ o ho r=>ad o (k b o ho (λ q=>by simp only[q,(H.ow c.env.locals (.head _)).2.2.1]at e;exact bJ e)) r
 .refine kU (H.ow a ha) λ il h2 h3 h4=>?_;obtain⟨o,ho,hn⟩:=il
  refine jF ?_ h2 h3 h4
  by_cases q:a=c.env.locals
  .subst q
   refine gH lu λ o' es ep e ed _=>ad o' e (λ vs q=>by simp only[ed]at q;cases q)
  .exact ad o (k a o ho q) hn
 .refine gA.keep (λ b mB o e=>k b o e (λ q'=>?_)) (H.sr q hq)
  exact(H.ow c.env.locals (.head _)).2.2.2 (q'▸List.mem_flatMap.mpr ⟨_,hq,mB⟩)
theorem aG.push(H:aG g c base Y X ρ σ h)(k:∀b o,h.get? b=some o->h'.get? b=some o):aG g c base Y X ρ σ h':=by
 refine aD H.loc λ m hn hb=>H.ext hb (hn.keeps k) λ b o e _=>k b o e
theorem aG.add(H:aG g c base Y X ρ σ h')(hf:∀a∈jO p,X a=none/\Y a=none/\a∉c.os/\a∉eD σ)(nd:(jO p).Nodup)(hr:gA (Pm g) X h' p):aG g c base Y X ρ (p::σ) h' :=
 { H with
  ow:=λ a ha=>let ⟨h1,h2,h3,h4⟩:=H.ow a ha;⟨h1,h2,h3,λ q=>(A09 (show a∈jO p++eD σ from q)).elim (λ q=>(hf a q).2.2.1 ha) h4⟩
  sr:=λ q hq=>by
   rcases A03 hq with rfl|hq
   .exact hr
   .exact H.sr q hq
  sn:=List.nodup_append.mpr ⟨nd,H.sn,λ a ha b hb q=>(hf a ha).2.2.2 (q▸hb)⟩
  sx:=λ a ha=>(A09 (show a∈jO p++eD σ from ha)).elim (λ q=>⟨(hf a q).1,(hf a q).2.1⟩) (H.sx a) }
noncomputable def nA(X:XT)(a:Addr)(o:Obj):XT:=λ b=>if b=a then some o else X b
theorem aG.addX(H:aG g c base Y X ρ σ h')(hf:X a=none/\Y a=none/\a∉c.os/\a∉eD σ)(ho:h'.get? a=some o):fE X (nA X a o)/\aG g c base Y (nA X a o) ρ σ h':=by
 have l:fE X (nA X a o):=λ b o' e=>by
  have:b≠a:=λ q=>by rw[q,hf.1]at e;exact bJ e
  exact(if_neg this).trans e
 refine⟨l,H.more l (λ b o' e=>?_) (λ b p e=>?_) (λ b hb=>?_) λ b hb=>?_⟩
 .by_cases q:b=a
  .subst q
   have:=(if_pos rfl).symm.trans e
   (refine sj this λ zq=>?_;subst zq);exact ho
  .exact H.x b o' ((if_neg q).symm.trans e)
 .have:b≠a:=λ q=>by rw[q,hf.2.1]at e;exact bJ e
  exact(if_neg this).trans (H.yx b p e)
 .have:b≠a:=λ q=>hf.2.2.1 (q▸hb)
  exact(if_neg this).trans (H.ow b hb).2.1
 .have:b≠a:=λ q=>hf.2.2.2 (q▸hb)
  exact(if_neg this).trans (H.sx b hb).1
theorem bT(X:XT)(a:Addr)(o:Obj):nA X a o a=some o:=if_pos rfl
noncomputable def aI(h base:Heap)(ex:List Addr):List (Addr×Obj):=(List.range h.objs.size).filterMap λ b=>match h.get? b with
 |some o=>if b∈ex\/(base.get? b).isSome=true then none else some (b,o)
 |none=>none
theorem gY:(b,o)∈ aI h base ex<->h.get? b=some o/\b∉ex/\base.get? b=none:=by
 unfold aI
 rw[List.mem_filterMap]
 constructor
 .rintro⟨b',_,e⟩
  cases ho:h.get? b' with
  |none=>rw[ho]at e;exact bJ e
  |some o'=>
   rw[ho]at e
   dsimp only at e
   by_cases hn:b'∈ex\/(base.get? b').isSome=true
   .rw[if_pos hn]at e;exact bJ e
   .rw[if_neg hn]at e
    cases e
    rw[not_or]at hn
    refine eN ho hn.1 ?_
    cases q:base.get? b with
    |none=>rfl
    |some _=>rw[q]at hn;exact absurd rfl hn.2
 .rintro⟨ho,hn,hb⟩
  refine ad b (List.mem_range.mpr (Heap.lt_size ho)) ?_
  rw[ho]
  dsimp only
  rw[if_neg]
  rw[not_or]
  exact⟨hn,by rw[hb];simp⟩
theorem gr(hL:L∈ex):News base L h (aI h base ex):=λ p hp=>by
 obtain⟨b,o⟩:=p
 refine cI (gY.mp hp) λ h1 h2 h3=>eN h1 (λ q=>h2 ((show b=L from q).symm▸hL)) h3
theorem gx(F:Fr base L h' m)(N:News base L h' news)(hs:∀p∈aI h base ex,p∈news)(kb:∀b o,base.get? b=some o->h.get? b=some o) :
  ∀b o,h.get? b=some o->b∉ex->h'.get? b=some o:=λ b o e hb=>by
 cases q:base.get? b with
 |some o'=>
  have:=kb b o' q
  rw[e]at this;(refine sj this λ zq=>?_;subst zq)
  exact F.keep b _ q
 |none=>exact(N (b,o) (hs _ (gY.mpr ⟨e,hb,q⟩))).1
end
theorem qO(x y:Str)(t:Tok):(Value.str x t).isStr y=(y==x):=by
 refine(?_:(x==y)=(y==x))
 by_cases h:x=y
 .subst h;rfl
 .rw[A05 h,A05 (Ne.symm h)]
theorem jr(x y:Str)(n:Int)(t:Tok)(v:Value)(es:List DictEntry):getL x (⟨n,.str y t,v⟩::es)=if x==y then some (some v)else getL x es:=by
 unfold getL
 rw[List.find?_cons,qO]
 cases x==y with
 |true=>rfl
 |false=>rfl
theorem n8(hx:x<12):∀{fs:List (Nat×D)}{es:List DictEntry},du P X es fs->fs.lookup x=some d->∃v,getL (bh x) es=some (some v)/\bz P X v d:=by
 intro zl
 induction zl with
 |nil=>
  intro _ _ h
  exact bJ h
 |cons zx fs ih=>
  obtain⟨y,d'⟩:=zx
  intro es fK h
  obtain⟨t,v,es,rfl,hy,hr,r⟩:=fK.inv
  rw[jr]
  rw[List.lookup_cons]at h
  by_cases q:x=y
  .subst q
   rw[beq_self_eq_true]at h ⊢
   exact ad v rfl (A02 h▸hr)
  .rw[A05 q]at h
   rw[A05 λ z=>q (oA hx hy z)]
   exact ih r h
theorem n9:∀{fs:List (Nat×D)}{es:List DictEntry},du P X es fs->(∀p∈fs,p.1<12->bh p.1≠x)->getL x es=some none:=by
 intro zl
 induction zl with
 |nil=>
  intro es r _
  rw[show es=[]from r.inv];rfl
 |cons zx fs ih=>
  obtain⟨y,d'⟩:=zx
  intro es fK h
  obtain⟨t,v,es,rfl,hy,hr,r⟩:=fK.inv
  rw[jr,A05 λ z=>h _ (.head _) hy z.symm]
  exact ih r λ p hp=>h p (.tail _ hp)
theorem DH:∀{fs:List (Nat×D)}{es:List DictEntry},du P X es fs->(getL x es).isSome=true:=by
 intro zl
 induction zl with
 |nil=>
  intro es r
  rw[show es=[]from r.inv];rfl
 |cons zx fs ih=>
  obtain⟨y,d'⟩:=zx
  intro es fK
  obtain⟨t,v,es,rfl,hy,hr,r⟩:=fK.inv
  rw[jr]
  cases x==bh y with
  |true=>rfl
  |false=>exact ih r
noncomputable def nO(x:Nat)(d:D):List (Nat×D)->List (Nat×D)
 |[]=>[(x,d)]
 |(y,d')::r=>match x==y with
  |true=>(y,d)::r
  |false=>(y,d')::nO x d r
theorem js:nO x d ((y,d')::r)=match x==y with | true=>(y,d)::r | false=>(y,d')::nO x d r:=rfl
theorem po(hx:x<12)(hv:bz P X v d):∀{fs:List (Nat×D)}{es:List DictEntry},du P X es fs->du P X (putL (bh x) (PyData.keyHash P (bh x)) (.str (bh x) t) v es) (nO x d fs):=by
 intro zl
 induction zl with
 |nil=>
  intro es r
  rw[show es=[]from r.inv];exact .cons hx hv .nil
 |cons zx fs ih=>
  obtain⟨y,d'⟩:=zx
  intro es fK
  obtain⟨t',v',es,rfl,hy,hr,r⟩:=fK.inv
  unfold putL;rw[js]
  dsimp only
  rw[qO]
  by_cases q:x=y
  .subst q
   rw[beq_self_eq_true,if_pos rfl,beq_self_eq_true]
   exact .cons hy hv r
  .rw[A05 q,A05 (λ z=>q (oA hx hy z))]
   exact .cons hy hr (ih r)
theorem xa:∀{fs:List (Nat×D)}{es:List DictEntry},du P X es fs->es.length=fs.length:=by
 intro zl
 induction zl with
 |nil=>
  intro es r
  rw[show es=[]from r.inv];rfl
 |cons zx fs ih=>
  obtain⟨y,d'⟩:=zx
  intro es fK
  obtain⟨_,_,es,rfl,_,_,r⟩:=fK.inv
  exact congrArg (·+1) (ih r)
theorem zi(x:Nat)(d:D):∀fs:List (Nat×D),(nO x d fs).length<=fs.length+1:=by
 intro zl
 induction zl with
 |nil=>
  exact Nat.le_refl _
 |cons zx r ih=>
  obtain⟨y,d'⟩:=zx
  refine(?_:(match x==y with | true=>(y,d)::r | false=>(y,d')::nO x d r).length<=r.length+1+1)
  cases x==y with
  |true=>exact Nat.le_succ _
  |false=>exact Nat.succ_le_succ (ih)
noncomputable def D.nobi:D->Bool
 |.bi _=>false
 |_=>true
theorem nt(h:d.nobi=true)(r:bz P X v d):handedIn v=true :=
 bz.casesOn (motive_1:=λ v d _=>d.nobi=true->handedIn v=true) r (λ _=>rfl) (λ _ _=>rfl) (λ _ _ _=>rfl) (λ _ _ _=>rfl) (λ _ _ _=>rfl) (λ _ _ _=>rfl) (λ _ _ _=>rfl) (λ _ _ _ _=>rfl) (λ _ _=>rfl) (λ _ _=>rfl) (λ _ h=>dJ h) (λ _ _=>rfl) (λ _ _ _ _ _ _ _=>rfl) h
def Fj(K:Frag)(C:Addr)(x:Str):Prop:=plainGet K C x=true/\hasDictIn K C=true/\∃attr,findIn K (.ref C) x=some attr/\noGet K attr=true
def K3(K:Frag)(C:Addr)(x:Str):Prop:=findIn K (.ref C) "__setattr__" = some (some (.builtin "object.__setattr__"))/\plainOver K C=true/\takerIn K C x=some none/\hasDictIn K C=true
def Fg(K:Frag)(C:Addr)(x:Str)(f:Addr):Prop:=plainGet K C x=true/\findIn K (.ref C) x=some (some (.ref f))/\isFn K (.ref f)=true
def AG(g:c8)(d:D)(x:Str)(σ:aN)(Q:D->aN->Prop)(E:D->Prop):Prop:=Oy g (λ v=>getAttr v x true) d σ Q E
inductive PM (g:c8)(c:Cx)(base:Heap)(Y:YT)(X:XT)(ρ:Rh)(s:Shared)(Q:D->List D->aN->Prop)(r:Value×List Value)(s':Shared):Prop where
 |mk (X':XT) (f:D) (ds:List D) (σ':aN) (h1:fE X X') (h2:aG g c base Y X' ρ σ' s'.heap) (h3:dR c.os Y s s') (h4:bz (Pm g) X' r.1 f) (h5:bG (Pm g) X' r.2 ds) (h6:Q f ds σ')
def AM(g:c8)(d:D)(x:Str)(σ:aN)(Q:D->List D->aN->Prop):Prop :=
 ∀c base Y X ρ s v pl E,aG g c base Y X ρ σ s.heap->bz (Pm g) X v d->wpAny (M g) c.A (getMethod v x pl) (PM g c base Y X ρ s Q) E s
def AS(g:c8)(d:D)(x:Str)(w:D)(σ:aN)(Q:aN->Prop):Prop :=
 ∀c base Y X ρ s v u E,aG g c base Y X ρ σ s.heap->bz (Pm g) X v d->bz (Pm g) X u w->wpAny (M g) c.A (setAttr v x u) (PU g c base Y X ρ s Q) E s
section
variable {r:D}
theorem fo(h1:h.get? a=some (instObj C dx))(h2:h.get? dx=some (dictOf es n)):PySem.W.InstAt h a (instObj C dx) C (some (dictOf es n)):=⟨h1,rfl,rfl,h2⟩
theorem ER(hx:x<12)(ha:Fj g.K C (bh x))(hl:fs.lookup x=some r)(hn:r.nobi=true)(q:Q r σ):AG g (.inst C fs) (bh x) σ Q E:=λ c base Y X ρ s v H rv=>by
 obtain⟨_,_,_,_,rfl,h,hd,rf⟩:=rv.inv
 .refine aD H.fr_of λ m F _=>aD (n8 hx rf hl) λ w e pn=>?_
  obtain⟨a1,a2,attr,a3,a4⟩:=ha
  exact get_own F H.gd.kin (fo (H.x _ _ h) (H.x _ _ hd)) a1 a2 a3 a4 e (nt hn pn) (bH H pn q)
theorem zb(hm:(a,MO.inst C dx fs)∈ σ)(hx:x<12)(ha:Fj g.K C (bh x))(hl:fs.lookup x=some r)(hn:r.nobi=true)(q:Q r σ):AG g (.ref a) (bh x) σ Q E:=λ c base Y X ρ s v H rv=>by
 obtain rfl:=rv.inv
 refine aD H.fr_of λ m F _=>?_
 obtain⟨h1,es,n,h2,rf⟩:=H.sr _ hm
 refine aD (n8 hx rf hl) λ w e pn=>?_
 obtain⟨a1,a2,attr,a3,a4⟩:=ha
 exact get_own F H.gd.kin (fo h1 h2) a1 a2 a3 a4 e (nt hn pn) (bH H pn q)
theorem I7{Q:D->List D->aN->Prop}{x:Str}(ha:Fg g.K C x f)(hl:∀p∈fs,p.1<12->bh p.1≠x)(q:Q (.ref f) [.inst C fs] σ):AM g (.inst C fs) x σ Q:=λ c base Y X ρ s v pl E H rv=>by
 obtain⟨_,_,_,_,e,h,hd,rf⟩:=rv.inv
 .refine aD H.fr_of λ m F _=>?_
  rw[e]at rv ⊢
  exact method_inst F H.gd.kin (fo (H.x _ _ h) (H.x _ _ hd)) ha.1 ha.2.1 ha.2.2 (n9 rf hl) ⟨X,_,_,σ,.refl X,H,.refl _ Y s,.ref f,.cons rv .nil,q⟩
theorem I6{Q:D->List D->aN->Prop}(hm:(a,MO.inst C dx fs)∈ σ){x:Str}(ha:Fg g.K C x f)(hl:∀p∈fs,p.1<12->bh p.1≠x)(q:Q (.ref f) [.ref a] σ):AM g (.ref a) x σ Q:=λ c base Y X ρ s v pl E H rv=>by
 obtain rfl:=rv.inv
 refine aD H.fr_of λ m F _=>?_
 obtain⟨h1,es,n,h2,rf⟩:=H.sr _ hm
 exact method_inst F H.gd.kin (fo h1 h2) ha.1 ha.2.1 ha.2.2 (n9 rf hl) ⟨X,_,_,σ,.refl X,H,.refl _ Y s,.ref f,.cons (.ref a) .nil,q⟩
theorem jt(H:aG g c base Y X ρ σ h)(hp:p∈σ)(hb:b∈jO p):b≠c.env.locals/\base.get? b=none/\X b=none/\Y b=none/\b∉c.os:=by
 have hS:b∈eD σ:=List.mem_flatMap.mpr ⟨p,hp,hb⟩
 have hx:=H.sx b hS
 refine QV (λ q=>(H.ow _ (.head _)).2.2.2 (q▸hS)) ?_ hx.1 hx.2 (λ q=>(H.ow b q).2.2.2 hS)
 cases q:base.get? b with
 |none=>rfl
 |some o=>rw[H.bx b o q]at hx;cases hx.1
theorem gR{s s':Shared}(H:aG g c base Y X ρ σ s.heap)(hn:s.heap.Ns c.env.locals m)(lu:s'.heap.Ns c.env.locals m)(hs:∃h t,s'={ s with heap:=h,toks:=t }){W:List Addr}(hW:∀b∈W,Y b=none/\b∉c.os)
  (k:∀b o,s.heap.get? b=some o->b≠c.env.locals->b∉W->s'.heap.get? b=some o):dR c.os Y s s':=by
 refine⟨hs,λ b hb=>?_,λ b o ⟨p,hp⟩ e pP=>⟨o,k b o e (λ q=>by simp only[q,(H.ow c.env.locals (.head _)).2.2.1]at hp;exact bJ hp) (λ q=>by rw[(hW b q).1]at hp;exact bJ hp),rfl,rfl⟩⟩
 by_cases q:b=c.env.locals
 .subst q
  refine eN (λ m' h=>by rw[sG h hn];exact lu) (λ v ⟨o,e,ed⟩=>?_) (λ _=>?_)
  rotate_left
  .refine gH lu λ o' es ep e' vk _=>ad o' e' (λ vs q=>by rw[vk]at q;cases q)
  refine gH hn λ o' es ep e' vk _=>?_
  rw[e]at e';(refine sj e' λ zq=>?_;subst zq)
  rw[ed]at vk;cases vk
 .have nW:b∉W:=λ h=>(hW b h).2 hb
  exact eN (λ m' ⟨o,es,ep,e,r⟩=>⟨o,es,ep,k b o e q nW,r⟩) (λ v ⟨o,e,ed⟩=>⟨o,k b o e q nW,ed⟩) (λ⟨o,e,n⟩=>⟨o,k b o e q nW,n⟩)
theorem xR{Q:aN->Prop}(U:Up σ (a,.inst C dx fs) (a,.inst C dx (nO x w fs)) σ')(hx:x<12)(hs:K3 g.K C (bh x))(hz:fs.length<=900)(q:Q σ'):AS g (.ref a) (bh x) w σ Q:=λ c base Y X ρ s v u E H rv ru=>by
 obtain rfl:=rv.inv
 refine aD H.loc λ m hn hb=>?_
 have F:Fr base c.env.locals s.heap m:=⟨hn,λ b o e=>H.x b o (H.bx b o e),H.abv⟩
 obtain⟨h1,es,n,h2,rf⟩:=H.sr _ U.mem
 have ap1:=jt H U.mem (b:=a) (.head _)
 have ap2:=jt H U.mem (b:=dx) (.tail _ (.head _))
 have N:News base c.env.locals s.heap ((dx,dictOf es n)::aI s.heap base [c.env.locals,dx]):=λ p hp=>by
  rcases A03 hp with rfl|hp
  .exact eN h2 ap2.1 ap2.2.1
  .exact gr (.head _) p hp
 have UZ:(getL (bh x) es).isSome=true:=DH rf
 refine set_dict F H.gd.kin N (fo h1 h2) rfl hs.1 hs.2.1 hs.2.2.1 hs.2.2.2 UZ rfl (.head λ p hp q=>?_) ?_ λ h' F' N'=>?_
 .obtain⟨b,o⟩:=p
  exact(gY.mp hp).2.1 (by rw[show b=dx from q];exact .tail _ (.head _))
 .have r':=po (t:=s.toks+1) hx ru rf
  have h4:=zi x w fs
  exact Nat.le_trans (Nat.le_of_eq (xa r')) (by lia)
 .have kept:=gx (ex:=[c.env.locals,dx]) F' N' (λ p hp=>.tail _ hp) (λ b o e=>H.x b o (H.bx b o e))
  have k:∀b o,s.heap.get? b=some o->b≠c.env.locals->b∉[dx]->h'.get? b=some o:=λ b o e q1 q2=>kept b o e λ q=>by
   rcases A03 q with q|q
   .exact q1 q
   .exact q2 q
  have RB:a≠dx:=by
   have:=H.sn.sublist (List.sublist_flatten_of_mem (A11 ⟨_,U.mem,rfl⟩))
   simp only[jO,List.nodup_cons,List.mem_cons,List.not_mem_nil,or_false]at this
   exact this.1
  refine⟨X,σ',.refl X,H.turnS (p:=(a,.inst C dx fs)) hb F'.ns (λ b o e q1 q2=>k b o e q1 λ q=>q2 ?_) U rfl ?_,gR (W:=[dx]) H hn F'.ns ⟨h',s.toks+2,rfl⟩ (λ b mB=>?_) k,q⟩
  .rw[A04 q];exact .tail _ (.head _)
  .exact⟨k a _ h1 ap1.1 (λ q=>RB (A04 q)),_,_,(N' _ (.head _)).1,po (t:=s.toks+1) hx ru rf⟩
  .rw[A04 mB];exact⟨ap2.2.2.2.1,ap2.2.2.2.2⟩
end
section
variable {E:D->Prop}
theorem ui(h:AE g c ρ σ value (λ d σ'=>AG g d x σ' Q E) E)
  (he:eval (.Attribute value x pos) c.env=(do let o<-eval value c.env;standAt pos.atName;let r<-holding [o] (getAttr o x true);letTemporaryGo value o r;pure r):=by with_unfolding_all rfl):AE g c ρ σ (.Attribute value x pos) Q E:=λ base Y X s H=>by
 refine Attribute_any_ (wpAny_mono (h base Y X s H) ?_ λ _ _ z=>z) he
 rintro bI aB ⟨bA,bB,aM,aY,aZ,aJ,aL,a7⟩
 exact wpAny_mono (a7 c base Y bA ρ aB bI aZ aL) (λ _ _ z=>z.back aY aJ) λ _ _ z=>z.back aJ
theorem tE(h:AE g c ρ σ value (λ w aM=>AE g c ρ aM o (λ d a9=>AS g d x w a9 (λ bb=>Q .nx ρ bb)) E) E)
  (hs:swapsWith value (some (.Attribute o x p')) pos.line c.env=pure false:=by rfl):AX g c ρ σ (.Assign [.Attribute o x p'] value pos) Q E:=λ base Y X s H=>by
 refine plainObj_wpAny_Assign_Attribute (wpAny_mono (h base Y X s H) ?_ λ _ _ z=>z.nil) hs
 rintro bI aB ⟨bA,bB,aM,aY,aZ,aJ,aL,a7⟩
 refine wpAny_mono (a7 base Y bA aB aZ) ?_ λ _ _ z=>z.nil.back aJ.nil
 rintro bU aP ⟨az,bn,a9,aU,am,au,aa,a8⟩
 refine wpAny_mono (a8 c base Y az ρ aP bU bI (EP g c [] base Y s E) am aa (aL.mono aU)) ?_ λ _ _ z=>z
 rintro _ bu ⟨dH,bb,bt,cD,c9,q⟩
 exact⟨dH,.nx,ρ,bb,aY.trans (aU.trans bt),cD,(aJ.trans (au.trans c9)).nil,trivial,q⟩
theorem tG(h:AE g c ρ σ o (λ d aM=>AG g d x aM (λ old a9=>AE g c ρ a9 value (λ w bb=>cy g (inplaceOp op) old w bb (λ new bq=>AS g d x new bq (λ gO=>Q .nx ρ gO)) E) E) E) E) :
  AX g c ρ σ (.AugAssign (.Attribute o x p') op value pos) Q E:=λ base Y X s H=>by
 refine wpAny_AugAssign_AttributeAny (wpAny_mono (h base Y X s H) ?_ λ _ _ z=>z.nil)
 rintro bI aB ⟨bA,bB,aM,aY,aZ,aJ,aL,a7⟩
 refine wpAny_mono (a7 c base Y bA ρ aB bI aZ aL) ?_ λ _ _ z=>z.nil.back aJ.nil
 rintro bU aP ⟨az,bn,a9,aU,am,au,aa,a8⟩
 refine wpAny_mono (a8 base Y az aP am) ?_ λ _ _ z=>z.nil.back (aJ.trans au).nil
 rintro nE bu ⟨dH,i5,bb,bt,cD,c9,eA,cB⟩
 have m123:=aJ.trans (au.trans c9)
 refine wpAny_mono (cB c base Y dH ρ bu bU nE cD (aa.mono bt) eA) ?_ λ _ _ z=>z.nil.back m123.nil
 rintro nB dT ⟨iE,A5,bq,eG,fQ,hU,kX,de⟩
 refine wpAny_mono (de c base Y iE ρ dT bI nB (EP g c [] base Y s E) fQ (aL.mono (aU.trans (bt.trans eG))) kX) ?_ λ _ _ z=>z
 rintro _ rY ⟨nQ,gO,oa,ja,o9,q⟩
 exact⟨nQ,.nx,ρ,gO,aY.trans (aU.trans (bt.trans (eG.trans oa))),ja,(m123.trans (hU.trans o9)).nil,trivial,q⟩
theorem tF(hl:Lk ρ x old)(h:AE g c ρ σ value (λ w bb=>cy g (inplaceOp op) old w bb (λ new bq=>∃ρ',i9 ρ x new ρ'/\Q .nx ρ' bq) E) E) :
  AX g c ρ σ (.AugAssign (.Name x p') op value pos) Q E:=λ base Y X s H=>by
 have L:=(gu hl H).2
 refine wpAny_AugAssign_Name (wpAny_mono L ?_ λ _ _ z=>z.elim)
 rintro bI aB ⟨rfl,aL⟩
 refine wpAny_mono (h base Y X aB H) ?_ λ _ _ z=>z.nil
 rintro nE bu ⟨dH,i5,bb,bt,cD,c9,eA,cB⟩
 refine wpAny_mono (cB c base Y dH ρ bu bI nE cD (aL.mono bt) eA) ?_ λ _ _ z=>z.nil.back c9.nil
 rintro nB dT ⟨iE,A5,bq,eG,fQ,hU,kX,bY,hp,q⟩
 refine eU fQ kX hp λ h' t H'=>⟨iE,.nx,bY,bq,bt.trans eG,H',(c9.trans hU).nil.trans ?_,trivial,q⟩
 exact fQ.stpY (s':={ dT with heap:=h',toks:=t }) H' ⟨h',t,rfl⟩
theorem ug
  (h:AE g c ρ σ o (λ d aM=>AM g d x aM (λ f ds a9=>Bj g.K f/\wL g c ρ a9 pos args (λ es bb=>AC g k f (ds++es) bb Q E) E)) E) (hk:k<=c.k)
  (hb:attributeBase o x c.env (eval o c.env)=eval o c.env:=by rfl) (Mk:(apos.endLine==pos.line)=true:=by rfl)
  (hp:(backTo pos (starEach args c.env)).any (·.1)=false:=by rfl) (hf:methodCallForm args.length (backTo pos (starEach args c.env)) []=true:=by rfl):AE g c ρ σ (.Call (.Attribute o x apos) args [] pos) Q E:=λ base Y X s H=>by
 have he:eval (.Call (.Attribute o x apos) args [] pos) c.env=(do
   let ov<-attributeBase o x c.env (eval o c.env)
   standAt apos.atName
   methodCall o x apos pos c.env ov args.length (backTo pos (starEach args c.env)) []):=rfl
 simp only[he,hb]
 refine wpAny_bind (wpAny_mono (h base Y X s H) ?_ λ _ _ z=>z)
 rintro bI aB ⟨bA,bB,aM,aY,aZ,aJ,aL,a7⟩
 refine wpAny_bind (wpAny_standAt ?_)
 unfold methodCall
 rw[hf]
 refine wpAny_bind (wpAny_holding ?_)
 refine wpAny_mono (a7 c base Y bA ρ aB bI (do return (<-importBound o c.env).getD true) (EP g c c.os base Y s E) aZ aL) ?_ λ _ _ z=>z
 rintro⟨fv,first⟩ aP ⟨az,f,ds,a9,aU,am,au,rf,rs,hc,a8⟩
 have UP:methodCallPos true o c.env apos pos=pure pos:=by
  unfold methodCallPos
  rw[Mk];rfl
 dsimp only
 rw[UP]
 refine wpAny_bind (wpAny_pure ?_)
 have m12:=aJ.trans au
 refine fF hp (wpAny_mono (a8 base Y az aP am) ?_ λ _ _ z=>z.back m12)
 rintro vs bu ⟨dH,es,bb,bt,cD,c9,eA,cB⟩
 refine jh hc rf (cD.gd.kin.keeps λ b o e=>cD.x b o (cD.bx b o e)) λ kp=>wpAny_mono (cB c base Y dH ρ bu fv (first++vs) hk cD (rf.mono bt) ((rs.mono bt).append eA)) (λ _ _ z=>z.back (aY.trans (aU.trans bt)) (m12.trans c9)) λ _ _ z=>z.back (m12.trans c9)
end
def K9(K:Frag)(C f:Addr):Prop:=makesIn K C=true/\findIn K (.ref C) "__init__" = some (some (.ref f))/\typeIn K (.ref f)=some (.type "function")
theorem im{A:Around}{aI:List Value}:(A.under (.builtin "type.__call__" ⟨.ref C::aI,kw⟩)).frames=A.frames/\(A.under (.builtin "type.__call__" ⟨.ref C::aI,kw⟩)).handled=A.handled /\
  (A.under (.builtin "type.__call__" ⟨.ref C::aI,kw⟩)).depth=A.depth+1/\(A.under (.builtin "type.__call__" ⟨.ref C::aI,kw⟩)).units<=A.units+3:=by
 refine jF ?_ rfl ?_ ?_
 .rfl
 .rfl
 .refine(?_:A.units+Code.cUnits _<=_)
  have:Code.cUnits (.builtin "type.__call__" ⟨.ref C::aI,kw⟩)=1:=rfl
  lia
section
variable {k:Nat}
theorem wF(hm:K9 g.K C f)(h:∀x dx,wR g k (.ref f) (.ref x::ds) ((x,.inst C dx [])::σ) (λ r σ'=>r.isNone=true/\∃d' σ'',Fi (.ref x) σ' d' σ''/\Q d' σ'') E):wR g (k+1) (.ref C) ds σ Q E:=by
 intro c base Y X ρ s fv vs hk H rf rv
 cases rf
 refine aD H.loc λ m hn hb=>?_
 have F:Fr base c.env.locals s.heap m:=⟨hn,λ b o e=>H.x b o (H.bx b o e),H.abv⟩
 have N:=gr (h:=s.heap) (base:=base) (L:=c.env.locals) (ex:=[c.env.locals]) (.head _)
 have kb:∀b o,base.get? b=some o->s.heap.get? b=some o:=λ b o e=>H.x b o (H.bx b o e)
 refine make_K F N (H.gd.kin.keeps kb) hm.1 hm.2.1 hm.2.2 λ x dx h' F' N' gN mx=>?_
 have kept:=gx (ex:=[c.env.locals]) F' N' (λ p hp=>.tail _ (.tail _ hp)) kb
 have k':∀b o,s.heap.get? b=some o->b≠c.env.locals->h'.get? b=some o:=λ b o e q=>kept b o e λ q'=>q (A04 q')
 have aZ:=H.ext hb F'.ns k'
 have jE:∀b,b≠c.env.locals->base.get? b=none->dx<=b->s.heap.get? b=none:=λ b q1 q2 q3=>by
  cases q:s.heap.get? b with
  |none=>rfl
  |some o=>exact absurd (gN (b,o) (gY.mpr ⟨q,λ z=>q1 (A04 z),q2⟩)) (Nat.not_lt.mpr q3)
 have nx:=N' _ (.head _)
 have nd:=N' _ (.tail _ (.head _))
 have fx:=H.fresh (jE x nx.2.1 nx.2.2 (Nat.le_of_lt mx))
 have fd:=H.fresh (jE dx nd.2.1 nd.2.2 (Nat.le_refl _))
 have am:aG g c base Y X ρ ((x,.inst C dx [])::σ) h':=by
  refine aZ.add (p:=(x,.inst C dx [])) (λ a ha=>?_) ?_ ⟨nx.1,[],0,nd.1,.nil⟩
  .rcases A03 ha with rfl|ha
   .exact fx
   .rw[A04 ha];exact fd
  .refine(?_:[x,dx].Nodup)
   simp only[List.nodup_cons,List.mem_singleton,List.not_mem_nil,not_false_eq_true,List.nodup_nil,and_true]
   exact Nat.ne_of_gt mx
 refine kU (im (A:=c.A) (C:=C) (aI:=vs) (kw:=[])) λ u1 u2 u3 u4=>?_
 let kD:Cx:={ c with A:=c.A.under (.builtin "type.__call__" ⟨.ref C::vs,[]⟩),k:=c.k-1 }
 have cD:aG g kD base Y X ρ ((x,.inst C dx [])::σ) h':=by
  have O:=H.ok
  exact{ am with ok:=⟨u1.trans O.frames,O.kind,O.glob,O.blt,by have:=O.room;exact Tc ‹_› ‹_›,by refine(?_:(c.A.under _).units+12*(c.k-1)+ 8<_);have:=O.units;lia,λ q=>u2.trans (O.hand (Nat.lt_of_lt_of_le q (Nat.sub_le _ _))),O.ownc,O.frame⟩ }
 have W:=h x dx kD base Y X ρ { s with heap:=h' } (.ref f) (.ref x::vs) (by lia:k<=c.k-1) cD (.ref f) (.cons (.ref x) rv)
 refine codeAny_mono W λ r s' z=>?_
 have st:dR c.os Y s { s with heap:=h' }:=gR (W:=[]) H hn F'.ns ⟨h',s.toks,rfl⟩ (λ b q=>absurd q List.not_mem_nil) λ b o e q _=>k' b o e q
 have bk:∀{X' σ' h},aG g kD base Y X' ρ σ' h->aG g c base Y X' ρ σ' h:=λ H'=>{ H' with ok:=H.ok }
 rcases r with e|(_|_|_|v)
 .exact EP.back st (EP.cx (kD:=kD) rfl z)
 .assumption
 .assumption
 .assumption
 .obtain⟨X',d,σ',l,H',m',rr,hz,d',σ'',hf,q⟩:=z
  have hv:v=.none:=by cases rr<;>first | rfl | cases hz
  refine⟨hv,?_⟩
  refine cG ((bk H').freeze hf (.ref x)) λ az aU am aa=>⟨az,d',σ'',l.trans aU,am,st.trans m',aa,q⟩
end
inductive LV (σ:aN):D->List D->Prop where
 |frz {ds:List D}:LV σ (.list ds) ds
 |own {a:Addr}{ds:List D} (h:(a,MO.list ds)∈ σ):LV σ (.ref a) ds
inductive ul (σ:aN):D->String->Prop where
 |list {d:D}{ds:List D} (h:LV σ d ds):ul σ d "list"
 |tup {ds:List D}:ul σ (.tup ds) "tuple"
 |str {l:List Nat}:ul σ (.str l) "str"
 |bytes {l:List UInt8}:ul σ (.bytes l) "bytes"
 |dict {ks:List Int}:ul σ (.dict ks) "dict"
section
variable {s s':Shared}{h h':Heap}
inductive K4 (P:Params)(X:XT)(h:Heap)(ds:List D)(v:Value):Prop where
 |mk (l:Addr) (vs:List Value) (n:Nat) (e:v=.ref l) (hl:h.get? l=some (seqObj "list" vs.toArray n)) (r:bG P X vs ds)
theorem LV.opened(H:aG g c base Y X ρ σ h)(r:bz (Pm g) X v d)(L:LV σ d ds):K4 (Pm g) X h ds v:=by
 cases L with
 |frz=>obtain⟨a,vs,n,e,hx,rl⟩:=r.inv;exact⟨a,vs,n,e,H.x _ _ hx,rl⟩
 |own hm=>refine dP (H.sr _ hm) λ vs n e rl=>?_;exact⟨_,vs,n,r.inv,e,rl⟩
theorem aw{vs:List Value}(e:h.get? l=some (seqObj "list" vs.toArray n)):h.IsList l vs.toArray:=⟨_,e,rfl,n,rfl⟩
theorem ul.typeIs(H:aG g c base Y X ρ σ s.heap)(r:bz (Pm g) X v d)(t:ul σ d T):s.TypeIs v T:=by
 cases t with
 |list L=>obtain⟨l,vs,n,e',e,_⟩:=L.opened H r;rw[e'];exact ad _ e rfl
 |tup=>obtain⟨_,_,_,e,hx,_⟩:=r.inv;rw[e];exact ad _ (H.x _ _ hx) rfl
 |str=>refine aS r.inv λ _ e=>?_;rw[e];rfl
 |bytes=>refine aS r.inv λ _ e=>?_;rw[e];rfl
 |dict=>obtain⟨_,_,_,_,e,hx,hc,_⟩:=r.inv;rw[e];exact ad _ (H.x _ _ hx) hc.1
theorem ul.look(t:ul σ d T):∃id,typeLookup (.type T) "__getitem__" = pure (some (Value.builtin id)):=by
 cases t with
 |list L=>exact⟨_,slot_list_getitem.lookup⟩
 |tup=>exact⟨_,slot_tuple_getitem.lookup⟩
 |str=>exact⟨_,slot_str_getitem.lookup⟩
 |bytes=>exact⟨_,FB.slot_bytes_getitem.lookup⟩
 |dict=>exact⟨_,slot_dict_getitem.lookup⟩
theorem aG.pushX(H:aG g c base Y X ρ σ h)(hf:o.isFreed=false):fE X (nA X h.objs.size o)/\aG g c base Y (nA X h.objs.size o) ρ σ (h.push o):=by
 have hn:h.get? h.objs.size=none:=by
  cases q:h.get? h.objs.size with
  |none=>rfl
  |some o=>exact absurd (Heap.lt_size q) (Nat.lt_irrefl _)
 exact(H.push λ _ _ e=>Heap.get?_push_of_some _ e).addX (H.fresh hn) (Heap.get?_push_size _ hf)
theorem aG.pushS(H:aG g c base Y X ρ σ h)(r:bG (Pm g) X vs ds):aG g c base Y X ρ ((h.objs.size,.list ds)::σ) (h.push (seqObj "list" vs.toArray n)):=by
 have hn:h.get? h.objs.size=none:=by
  cases q:h.get? h.objs.size with
  |none=>rfl
  |some o=>exact absurd (Heap.lt_size q) (Nat.lt_irrefl _)
 have H':=H.push (h':=h.push (seqObj "list" vs.toArray n)) λ _ _ e=>Heap.get?_push_of_some _ e
 refine H'.add (p:=(h.objs.size,.list ds)) (λ a ha=>?_) (by simp[jO]) ⟨vs,n,Heap.get?_push_size _ rfl,r⟩
 rw[A04 ha];exact H.fresh hn
theorem cf:dR O Y s { s with heap:=s.heap.push o,toks:=t }:=.ext λ _ _ e=>Heap.get?_push_of_some _ e
end
section
variable {E:D->Prop}
theorem mf(h:wL g c ρ σ pos es (λ ds σ'=>ds.length<=16777216/\Q (.tup ds) σ') E):AE g c ρ σ (.Tuple es k pos) Q E:=λ base Y X s H=>by
 refine wpAny_Tuple (wpAny_mono (h base Y X s H) ?_ λ _ _ z=>z)
 rintro vs aB ⟨bA,ds,aM,aY,aZ,aJ,aL,hz,q⟩
 refine aj (aZ.pushX (o:=seqObj "tuple" vs.toArray 0) rfl) λ aU am=>⟨by simp only[aL.length,sizeLine_eq];exact hz,_,.tup ds,aM,aY.trans aU,am,aJ.trans cf,.tup (bT ..) (aL.mono aU),q⟩
theorem BX(h:wL g c ρ σ pos es (λ ds σ'=>ds.length<=16777216/\Q (.list ds) σ') E):AE g c ρ σ (.List es pos) Q E:=λ base Y X s H=>by
 refine wpAny_List (wpAny_mono (h base Y X s H) ?_ λ _ _ z=>z)
 rintro vs aB ⟨bA,ds,aM,aY,aZ,aJ,aL,hz,q⟩
 refine aj (aZ.pushX (o:=seqObj "list" vs.toArray 0) rfl) λ aU am=>⟨by simp only[aL.length,sizeLine_eq];exact hz,_,.list ds,aM,aY.trans aU,am,aJ.trans cf,.list (bT ..) (aL.mono aU),q⟩
theorem F7(h:wL g c ρ σ pos es (λ ds σ'=>ds.length<=16777216/\∀a,Q (.ref a) ((a,.list ds)::σ')) E):AE g c ρ σ (.List es pos) Q E:=λ base Y X s H=>by
 refine wpAny_List (wpAny_mono (h base Y X s H) ?_ λ _ _ z=>z)
 rintro vs aB ⟨bA,ds,aM,aY,aZ,aJ,aL,hz,q⟩
 exact⟨by simp only[aL.length,sizeLine_eq];exact hz,bA,.ref _,_,aY,aZ.pushS aL,aJ.trans cf,.ref _,q _⟩
theorem KW(h:AE g c ρ σ value (λ d aM=>AE g c ρ aM slice (λ i a9=>(∃T,ul a9 d T)/\cy g getItem d i a9 Q E) E) E)
  (hs:∀o i,subscripted slice false o i=operate [o,i] (getItem o i):=by intro _ _;with_unfolding_all rfl):AE g c ρ σ (.Subscript value slice pos) Q E:=λ base Y X s H=>by
 refine Subscript_ (wpAny_mono (h base Y X s H) ?_ λ _ _ z=>z)
 rintro bI aB ⟨bA,bB,aM,aY,aZ,aJ,aL,a7⟩
 refine wpAny_mono (a7 base Y bA aB aZ) ?_ λ _ _ z=>z.back aJ
 rintro bU aP ⟨az,bn,a9,aU,am,au,aa,⟨T,hT⟩,a8⟩
 have m12:=aJ.trans au
 have W:=wpAny_mono (a8 c base Y az ρ aP bI bU am (aL.mono aU) aa) (λ _ _ z=>z.back (aY.trans aU) m12) λ _ _ z=>z.back m12
 have ty:=hT.typeIs am (aL.mono aU)
 refine aS hT.look λ id hl=>tail_any (prog:=g.prog) (w:=g.w) ty hl W (hs _ _)
theorem Dz{ds:List D}(L:LV σ d ds)(h0:0<=i)(h1:i<9000000000)(hr:ds[i.toNat]?=some r)(q:Q r σ):cy g getItem d (.int i) σ Q E:=λ c base Y X ρ s bI bU H aL aa=>by
 refine aS aa.inv λ _ ak=>?_;subst ak
 obtain⟨l,vs,n,rfl,e,rl⟩:=L.opened H aL
 refine aD (rl.get _ hr) λ v hv rv=>wpAny_getItem_list (aw e) h0 (by exact Od ‹_›) (List.getElem?_toArray.trans hv) (bM H rv q)
theorem Ix{ds:List D}(L:LV σ d ds)(h0:i<0)(h1:-(ds.length:Int)<=i)(h2:-9000000000<=i)(hr:ds[(i+ds.length).toNat]?=some r)(q:Q r σ):cy g getItem d (.int i) σ Q E:=λ c base Y X ρ s bI bU H aL aa=>by
 refine aS aa.inv λ _ ak=>?_;subst ak
 obtain⟨l,vs,n,rfl,e,rl⟩:=L.opened H aL
 refine aD (rl.get _ hr) λ v hv rv=>?_
 have hl:vs.toArray.size=ds.length:=rl.length
 rw[<-hl]at h1 hv
 exact wpAny_getItem_list_neg (aw e) h0 (by lia) (by lia) (List.getElem?_toArray.trans hv) (bM H rv q)
theorem j4(h:a=true)(k:b=true):(a&&b)=true:=by simp only[h,k];rfl
theorem Fx(h0:0<=i)(h:i.toNat<n):seqIndex? i n=some i.toNat:=by
 unfold seqIndex?
 rw[if_neg (Int.not_lt.mpr h0),if_pos (j4 (A01 h0) (A01 (by lia)))]
theorem Iv(h0:0<=i)(h1:i<9000000000)(hr:ds[i.toNat]?=some r)(q:Q r σ):cy g getItem (.tup ds) (.int i) σ Q E:=λ c base Y X ρ s bI bU H aL aa=>by
 refine aS aa.inv λ _ ak=>?_;subst ak
 obtain⟨a,vs,n,rfl,hx,rl⟩:=aL.inv
 refine aD (rl.get _ hr) λ v hv rv=>PyProof.Rows.getItem_tuple ⟨_,H.x _ _ hx,rfl,n,rfl⟩ (by exact Ts ‹_›) (by exact Od ‹_›) (Fx h0 (List.getElem?_eq_some_iff.mp hv).1) (List.getElem?_toArray.trans hv) (bM H rv q)
end
noncomputable def GU(lo hi st:Option Int)(n:Nat):List Nat:=sliceRange (sliceBounds lo hi st n).1 (sliceBounds lo hi st n).2.1 (sliceBounds lo hi st n).2.2
noncomputable def pick{α:Type}(l:List α)(lo hi st:Option Int):List α:=(GU lo hi st l.length).filterMap (l[·]?)
theorem iu(vs:List Value)(lo hi st:Option Int):slicePick vs.toArray lo hi st=(pick vs lo hi st).toArray:=by
 delta slicePick pick GU
 simp
theorem bG.picks(h:bG P X vs ds):∀is:List Nat,bG P X (is.filterMap (vs[·]?)) (is.filterMap (ds[·]?)):=by
 intro zl
 induction zl with
 |nil=>
  exact .nil
 |cons i is ih=>
  cases q:ds[i]? with
  |none=>
   have:vs[i]?=none:=by
    rw[List.getElem?_eq_none_iff]at q ⊢
    rw[h.length];exact q
   simp only[List.filterMap_cons,List.filterMap_cons,q,this]
   exact ih
  |some d=>
   refine aD (h.get i q) λ v hv r=>?_
   simp only[List.filterMap_cons,List.filterMap_cons,q,hv]
   exact .cons r (ih)
theorem bG.pick(h:bG P X vs ds)(lo hi st:Option Int):bG P X (pick vs lo hi st) (pick ds lo hi st):=by
 delta Internal.pick
 simp only[h.length]
 exact h.picks _
theorem fj{α:Type}(l:List α)(lo hi:Option Int):pick l lo hi none=(l.drop (lo.elim 0 (clipAt l.length))).take (hi.elim l.length (clipAt l.length)-lo.elim 0 (clipAt l.length)):=by
 delta pick GU
 rw[sliceBounds_plain]
 rw[sliceRange_one]
 exact(congrArg (λ f=>List.filterMap f _) (funext λ i=>List.getElem?_toArray.symm)).trans (pick_run l.toArray _ _)
theorem gq{α:Type}(l:List α)(a:Nat):pick l (some a) none none=l.drop a:=by
 rw[fj]
 simp only[Option.elim,clipAt_nat]
 rw[List.take_of_length_le (by rw[List.length_drop];exact Nat.le_refl _)]
 rcases Nat.le_total a l.length with h|h
 .rw[Nat.min_eq_left h]
 .rw[Nat.min_eq_right h,List.drop_of_length_le (Nat.le_refl _),List.drop_of_length_le h]
theorem oZ{α:Type}(l:List α)(b:Nat):pick l none (some b) none=l.take b:=by
 rw[fj]
 simp only[Option.elim,clipAt_nat,List.drop_zero,Nat.sub_zero]
 rw[Nat.min_comm,<-List.take_take,List.take_of_length_le (List.length_take_le' _ _)]
theorem pw{α:Type}(l:List α)(a b:Nat):pick l (some a) (some b) none=(l.take b).drop a:=by
 rw[fj]
 simp only[Option.elim,clipAt_nat]
 rw[<-List.drop_take,Nat.min_comm b,<-List.take_take,List.take_of_length_le (List.length_take_le' b l)]
 rcases Nat.le_total a l.length with h|h
 .rw[Nat.min_eq_left h]
 .rw[Nat.min_eq_right h,List.drop_of_length_le (List.length_take_le' _ _),List.drop_of_length_le (Nat.le_trans (List.length_take_le' _ _) h)]
theorem o0{α:Type}(l:List α):pick l none (some (-1)) none=l.dropLast:=by
 simp only[fj]
 simp only[Option.elim,List.drop_zero,Nat.sub_zero]
 simp only[show clipAt l.length (-1)=l.length-1 from clipAt_neg _ 1 (Nat.le_refl _),List.dropLast_eq_take]
theorem xq{α:Type}(l:List α):pick l none none (some (-1))=l.reverse:=by
 have hb:sliceBounds none none (some (-1)) l.length=((l.length:Int)-1,-1,-1):=by delta sliceBounds;simp
 delta pick GU
 simp only[hb]
 delta sliceRange
 rw[if_neg (by decide)]
 have e:(if(l.length:Int)-1>-1 then((l.length:Int)-1 - -1 - -1-1) / (- -1)else 0).toNat=l.length:=by
  cases l with
  |nil=>rfl
  |cons a l=>rw[if_pos (by simp only[List.length_cons];lia),Int.neg_neg,Int.ediv_one];lia
 have m:((List.range l.length).map λ k:Nat=>((l.length:Int)-1+-1*(k:Int)).toNat)=(List.range l.length).reverse:=by
  conv=>rhs;rw[List.range_eq_range',List.reverse_range']
  refine List.map_congr_left λ k _=>?_
  lia
 simp only[e,m,List.filterMap_reverse]
 have:=pick_run l.toArray 0 l.length
 simp only[List.drop_zero,List.take_length]at this
 refine congrArg List.reverse ((congrArg (λ f=>List.filterMap f _) (funext λ i=>List.getElem?_toArray.symm)).trans (Eq.trans ?_ this))
 exact congrArg _ (Eq.symm (List.map_id'' (λ x=>Nat.zero_add x) _))
inductive f7:D->Option Int->Prop where
 |none:f7 .none Option.none
 |int (i:Int):f7 (.int i) (some i)
theorem f7.val(p:f7 d i)(r:bz P X v d):IsPart v i:=by
 cases p with
 |none=>rw[show v=.none from r.inv];exact .none
 |int i=>refine aS r.inv λ t ak=>?_;subst ak;exact .int _ _
def AO(g:c8)(c:Cx)(ρ:Rh)(σ:aN)(o:Option Expr)(Q:D->aN->Prop)(E:D->Prop):Prop:=match o with
 |none=>Q .none σ
 |some e=>AE g c ρ σ e Q E
noncomputable def gS(a b e:Value):Obj:={ cls:=.type "slice",data:=.fields #[a,b,e] }
def Gx(g:c8)(d a b e:D)(σ:aN)(Q:D->aN->Prop)(E:D->Prop):Prop :=
 ∀c base Y X ρ s v va vb ve,aG g c base Y X ρ σ s.heap->bz (Pm g) X v d->bz (Pm g) X va a->bz (Pm g) X vb b->bz (Pm g) X ve e ->
  wpAny (M g) c.A (getItem v (.ref s.heap.objs.size)) (PV g c base Y X ρ s Q) (EP g c c.os base Y s E) { s with heap:=s.heap.push (gS va vb ve) }
section
variable {E:D->Prop}
theorem BS(h:AO g c ρ σ o Q E)(H:aG g c base Y X ρ σ s.heap):wpAny (M g) c.A (valueOrNone (evalOpt o c.env)) (PV g c base Y X ρ s Q) (EP g c c.os base Y s E) s:=by
 cases o with
 |none=>exact wpAny_pure (bM H .none h)
 |some e=>exact h base Y X s H
theorem BW{lo hi st:Option Expr}
  (h:AE g c ρ σ value (λ d aM=>AO g c ρ aM lo (λ a a9=>AO g c ρ a9 hi (λ b bb=>AO g c ρ bb st (λ e bq=>(∃T,ul bq d T)/\Gx g d a b e bq Q E) E) E) E) E):AE g c ρ σ (.Subscript value (.Slice lo hi st sp) pos) Q E:=λ base Y X s H=>by
 refine Subscript_ (wpAny_mono (h base Y X s H) ?_ λ _ _ z=>z)
 rintro bI aB ⟨bA,bB,aM,aY,aZ,aJ,aL,a7⟩
 refine wpAny_bind (wpAny_mono (BS a7 aZ) ?_ λ _ _ z=>z.back aJ)
 rintro bU aP ⟨az,bn,a9,aU,am,au,aa,a8⟩
 refine wpAny_bind (wpAny_holding (wpAny_mono (BS a8 am) ?_ λ _ _ z=>z.back (aJ.trans au)))
 rintro nE bu ⟨dH,i5,bb,bt,cD,c9,eA,cB⟩
 have m123:=aJ.trans (au.trans c9)
 refine wpAny_bind (wpAny_holding (wpAny_mono (BS cB cD) ?_ λ _ _ z=>z.back m123))
 rintro nB dT ⟨iE,A5,bq,eG,fQ,hU,kX,⟨T,hT⟩,de⟩
 have m0:=m123.trans hU
 have l0:=aY.trans (aU.trans (bt.trans eG))
 have r1:=aL.mono (aU.trans (bt.trans eG))
 refine wpAny_newObj_type ?_ (by refine(?_:3<=sizeLine+2);exact Nat.le_add_left _ _)
 have W:=wpAny_mono (de c base Y iE ρ dT bI bU nE nB fQ r1 (aa.mono (bt.trans eG)) (eA.mono eG) kX) (λ _ _ z=>z.back l0 m0) λ _ _ z=>z.back m0
 have Hp:=fQ.push (h':=dT.heap.push (gS bU nE nB)) λ _ _ e=>Heap.get?_push_of_some _ e
 have ty:=hT.typeIs (s:={ dT with heap:=dT.heap.push (gS bU nE nB) }) Hp r1
 refine aS hT.look λ id hl=>?_
 cases st with
 |none=>exact tail_any (prog:=g.prog) (w:=g.w) (ops:=[.ref dT.heap.objs.size,bI]) ty hl W rfl
 |some e=>exact tail_any (prog:=g.prog) (w:=g.w) (ops:=[bI,.ref dT.heap.objs.size]) ty hl W rfl
theorem rh{h:Heap}:(h.push (gS a b e)).IsSliceOf h.objs.size a b e:=⟨_,Heap.get?_push_size _ rfl,rfl,rfl⟩
theorem Ca{d a b e:D}{ds:List D}{lo hi st:Option Int}(L:LV σ d ds)(pa:f7 a lo)(pb:f7 b hi)(pe:f7 e st)(h0:st≠some 0)(hz:ds.length<=16777216)(q:Q (.list (pick ds lo hi st)) σ):Gx g d a b e σ Q E:=λ c base Y X ρ s v va vb ve H r ra rb re=>by
 obtain⟨l,vs,n,rfl,e',rl⟩:=L.opened H r
 have aZ:=H.push (h':=s.heap.push (gS va vb ve)) λ _ _ e=>Heap.get?_push_of_some _ e
 refine wpAny_getItem_list_slice (s:={ s with heap:=s.heap.push (gS va vb ve) }) (aw (Heap.get?_push_of_some _ e')) rh (pa.val ra) (pb.val rb) (pe.val re) h0 ?_ (by simp only[List.size_toArray,rl.length,sizeLine_eq];exact hz)
 rw[iu]
 refine aj (aZ.pushX (o:=seqObj "list" (pick vs lo hi st).toArray 0) rfl) λ aU am=>⟨_,_,σ,aU,am,dR.trans (cf (t:=s.toks)) (cf (t:=s.toks)),.list (bT ..) ((rl.pick lo hi st).mono aU),q⟩
theorem xN{d a b e:D}{ds:List D}{lo hi st:Option Int}(L:LV σ d ds)(pa:f7 a lo)(pb:f7 b hi)(pe:f7 e st)(h0:st≠some 0)(hz:ds.length<=16777216)(q:∀x,Q (.ref x) ((x,.list (pick ds lo hi st))::σ)):Gx g d a b e σ Q E:=λ c base Y X ρ s v va vb ve H r ra rb re=>by
 obtain⟨l,vs,n,rfl,e',rl⟩:=L.opened H r
 have aZ:=H.push (h':=s.heap.push (gS va vb ve)) λ _ _ e=>Heap.get?_push_of_some _ e
 refine wpAny_getItem_list_slice (s:={ s with heap:=s.heap.push (gS va vb ve) }) (aw (Heap.get?_push_of_some _ e')) rh (pa.val ra) (pb.val rb) (pe.val re) h0 ?_ (by simp only[List.size_toArray,rl.length,sizeLine_eq];exact hz)
 rw[iu]
 exact⟨X,_,_,.refl X,aZ.pushS (n:=0) (rl.pick lo hi st),dR.trans (cf (t:=s.toks)) (cf (t:=s.toks)),.ref _,q _⟩
theorem vT(l:List UInt8)(lo hi:Option Int):KBy.picked l.toArray lo hi=(pick l lo hi none).toArray:=by
 delta KBy.picked Builtin.Bytes.sliced pick GU
 simp
theorem xO{a b:D}{l:List UInt8}{lo hi:Option Int}(pa:f7 a lo)(pb:f7 b hi)(hz:l.length<=16777216)(q:Q (.bytes (pick l lo hi none)) σ):Gx g (.bytes l) a b .none σ Q E:=λ c base Y X ρ s v va vb ve H r ra rb re=>by
 obtain rfl:=re.inv
 refine aS r.inv λ t ak=>?_;subst ak
 .refine getItem_meets (s:={ s with heap:=s.heap.push (gS va vb .none) }) (typeIs_bytes _ _ _) (by decide) FB.slot_bytes_getitem FB.entry_bytes_getitem (FB.args_bytes_getitem_2 _ _) (KBc.meets_slice2 l.toArray t _ (pa.val ra) (pb.val rb)) ⟨rh,?_,λ t' k=>?_⟩
  .refine Nat.le_trans (KBc.size_picked_le _ lo hi) ?_
   exact hz
  .simp only[vT]
   exact⟨X,_,σ,.refl X,H.push λ _ _ e=>Heap.get?_push_of_some _ e,cf,.bytes _ _,q⟩
end
section
variable {h h':Heap}
theorem aG.upL(H:aG g c base Y X ρ σ s.heap)(U:Up σ (a,.list ds) (a,.list Bh) σ')(hs:Heap.SameBut a s.heap h')
  (e:h'.get? a=some (seqObj "list" vs.toArray n)) (r:bG (Pm g) X vs Bh):aG g c base Y X ρ σ' h'/\dR c.os Y s { s with heap:=h',toks:=t }:=by
 refine aD H.loc λ m hn hb=>?_
 have ap:=jt H U.mem (b:=a) (.head _)
 have lu:h'.Ns c.env.locals m:=hn.sameBut hs (λ q=>ap.1 q.symm)
 have k:∀b o,s.heap.get? b=some o->b∉[a]->h'.get? b=some o:=λ b o e q=>(hs.2 b λ z=>q (List.mem_singleton.mpr z)).trans e
 exact⟨H.turnS (p:=(a,.list ds)) (p':=(a,.list Bh)) hb lu (λ b o e _ q2=>k b o e q2) U rfl ⟨vs,n,e,r⟩,gR (W:=[a]) H hn lu ⟨h',t,rfl⟩ (λ b mB=>by rw[A04 mB];exact⟨ap.2.2.2.1,ap.2.2.2.2⟩) λ b o e _ q2=>k b o e q2⟩
end
section
variable {a:Addr}
noncomputable def Kp:D->Option Value
 |.bi n=>some (.builtin n)
 |.ty n=>some (.type n)
 |_=>none
theorem bz.fn(hf:Kp f=some fv)(r:bz P X v f):v=fv:=by
 cases f with
 |bi n=>exact r.inv.trans (A02 hf)
 |ty n=>exact r.inv.trans (A02 hf)
 |_=>exact bJ hf
theorem K0(hf:Kp f=some fv)(h:∀{c base Y X ρ s v},k<=c.k->aG g c base Y X ρ σ s.heap->bz (Pm g) X v d->wpAny (M g) c.A (call fv [v]) (PV g c base Y X ρ s Q) (EP g c c.os base Y s E) s):AC g k f [d] σ Q E:=λ c base Y X ρ s fv vs EM H rf rv=>by
 obtain rfl:=rf.fn hf
 obtain⟨v,_,rfl,r,rv1⟩:=rv.inv
 obtain rfl:=rv1.inv
 exact h EM H r
theorem wQ(hf:Kp f=some fv)(h:∀{c base Y X ρ s v},aG g c base Y X ρ σ s.heap->bz (Pm g) X v d->wpAny (M g) c.A (call fv [v]) (PV g c base Y X ρ s Q) (EP g c c.os base Y s E) s):AC g k f [d] σ Q E:=K0 hf λ _=>h
theorem OG{f d e:D}{fv:Value}(hf:Kp f=some fv)(h:∀{c base Y X ρ s v w},k<=c.k->aG g c base Y X ρ σ s.heap->bz (Pm g) X v d->bz (Pm g) X w e->wpAny (M g) c.A (call fv [v,w]) (PV g c base Y X ρ s Q) (EP g c c.os base Y s E) s):AC g k f [d,e] σ Q E:=λ c base Y X ρ s fv vs EM H rf rv=>by
 obtain rfl:=rf.fn hf
 obtain⟨v,_,rfl,r,rv1⟩:=rv.inv
 obtain⟨w,_,rfl,r',rv2⟩:=rv1.inv
 obtain rfl:=rv2.inv
 exact h EM H r r'
theorem Bi(hf:Kp f=some fv)(h:∀{c base Y X ρ s v w},aG g c base Y X ρ σ s.heap->bz (Pm g) X v d->bz (Pm g) X w e->wpAny (M g) c.A (call fv [v,w]) (PV g c base Y X ρ s Q) (EP g c c.os base Y s E) s):AC g k f [d,e] σ Q E:=OG hf λ _=>h
theorem TH{f d e d':D}{fv:Value}(hf:Kp f=some fv)(h:∀{c base Y X ρ s v w x},aG g c base Y X ρ σ s.heap->bz (Pm g) X v d->bz (Pm g) X w e->bz (Pm g) X x d'->wpAny (M g) c.A (call fv [v,w,x]) (PV g c base Y X ρ s Q) (EP g c c.os base Y s E) s):AC g k f [d,e,d'] σ Q E:=λ c base Y X ρ s fv vs _ H rf rv=>by
 obtain rfl:=rf.fn hf
 obtain⟨v,_,rfl,r,rv1⟩:=rv.inv
 obtain⟨w,_,rfl,r',rv2⟩:=rv1.inv
 obtain⟨x,_,rfl,aa,rv3⟩:=rv2.inv
 obtain rfl:=rv3.inv
 exact h H r r' aa
inductive wI (σ:aN):D->Nat->Prop where
 |list {d:D}{ds:List D} (h:LV σ d ds):wI σ d ds.length
 |tup {ds:List D}:wI σ (.tup ds) ds.length
 |str {l:List Nat}:wI σ (.str l) l.length
 |bytes {l:List UInt8}:wI σ (.bytes l) l.length
theorem Gl(L:wI σ d n)(hz:n<=1000000000000)(q:Q (.int n) σ):AC g k (.bi "len") [d] σ Q E:=wQ rfl λ H r=>by
 cases L with
 |list L=>
  obtain⟨l,vs,m,rfl,e,rl⟩:=L.opened H r
  rw[<-rl.length]at hz q
  exact PyProof.Rows.len_list (aw e) (by rw[List.size_toArray];lia) (bH H (.int _ _) q)
 |tup=>
  obtain⟨a,vs,m,rfl,hx,rl⟩:=r.inv
  rw[<-rl.length]at hz q
  exact PyProof.Rows.len_tuple ⟨_,H.x _ _ hx,rfl,_,rfl⟩ (by rw[List.size_toArray];lia) (bH H (.int _ _) q)
 |str=>
  refine aS r.inv λ t ak=>?_;subst ak
  exact PyProof.Rows.len_str (x:=⟨_⟩) (Int.not_le.mpr (by show((_:Nat):Int)<_;simp only[PySem.Str.length,List.size_toArray];lia)) (bH H (.int _ _) q)
 |bytes=>
  refine aS r.inv λ t ak=>?_;subst ak
  exact len_bytes (by exact bK ‹_›) (bH H (.int _ _) q)
theorem oO{T id:String}{Q:D->List D->aN->Prop}(t:ul σ d T)(pa:PlainAttrs T)(slot:Slot T x id)(UC:typeOf (.builtin id)=pure (.type "method_descriptor"))(q:Q (.bi id) [d] σ):AM g d x σ Q:=λ c base Y X ρ s v pl E H r=>by
 refine getMethod_builtin (t.typeIs H r) pa slot UC (λ a e=>?_) ⟨X,_,_,σ,.refl X,H,.refl _ Y s,.bi id,.cons r .nil,q⟩
 cases t with
 |list L=>obtain⟨l,vs,n,e',h,_⟩:=L.opened H r;(injection e.symm.trans e' with zq;subst zq);exact ad _ h rfl
 |tup=>obtain⟨_,_,_,e',hx,_⟩:=r.inv;(injection e.symm.trans e' with zq;subst zq);exact ad _ (H.x _ _ hx) rfl
 |str=>refine aS r.inv λ _ e'=>?_;exact nomatch e.symm.trans e'
 |bytes=>refine aS r.inv λ _ e'=>?_;exact nomatch e.symm.trans e'
 |dict=>obtain⟨_,_,_,_,e',hx,hc,_⟩:=r.inv;(injection e.symm.trans e' with zq;subst zq);exact ad _ (H.x _ _ hx) hc.2.1
theorem qu(U:Up σ (a,.list ds) (a,.list (ds++[w])) σ')(hz:ds.length<=16000000)(q:Q .none σ'):AC g k (.bi "list.append") [.ref a,w] σ Q E:=Bi rfl λ{c base Y X ρ s _ _} H r pn=>by
 obtain rfl:=r.inv
 refine dP (H.sr _ U.mem) λ vs n e rl=>wpAny_list_append_plain (l:=a) ⟨n,e⟩ (λ h' ⟨n',e'⟩ hs=>?_) (by simp only[List.size_toArray,rl.length,sizeLine_eq];exact bK ‹_›)
 rw[List.push_toArray]at e'
 refine aj (H.upL (t:=s.toks) U hs e' (rl.append (.cons pn .nil))) λ H' st=>⟨X,.none,σ',.refl X,H',st,.none,q⟩
theorem bG.last:∀{ds:List D}{vs:List Value},bG P X vs (ds++[w])->∃ws v,vs=ws++[v]/\bG P X ws ds/\bz P X v w:=by
 intro zl
 induction zl with
 |nil=>
  intro vs h
  obtain⟨v,_,rfl,r,h1⟩:=h.inv
  obtain rfl:=h1.inv
  exact MT ([]) v rfl .nil r
 |cons d ds ih=>
  intro vs h
  obtain⟨v,_,rfl,r,h0⟩:=h.inv
  refine je (ih h0) λ ws u dz h1 h2=>?_;subst dz
  exact MT (v::ws) u rfl (.cons r h1) h2
theorem s8(ws:List Value)(v:Value):(ws++[v]).toArray.eraseIdxIfInBounds ((ws++[v]).toArray.size-1)=ws.toArray:=by
 simp only[List.size_toArray,List.length_append,List.length_singleton,Nat.add_sub_cancel,List.eraseIdxIfInBounds_toArray,List.eraseIdx_append_of_length_le (Nat.le_refl _),Nat.sub_self,List.eraseIdx_cons_zero,List.append_nil]
theorem Nc(U:Up σ (a,.list (ds++[w])) (a,.list ds) σ')(hz:ds.length<=16000000)(q:Q w σ'):AC g k (.bi "list.pop") [.ref a] σ Q E:=wQ rfl λ{c base Y X ρ s _} H r=>by
 obtain rfl:=r.inv
 refine dP (H.sr _ U.mem) λ vs n e rl=>?_
 obtain⟨ws,v,rfl,rl,rv⟩:=rl.last
 have hl:(ws++[v]).toArray.size=ds.length+1:=by simp only[List.size_toArray,List.length_append,rl.length];rfl
 refine call_meets PySem.F.slot_list_pop ⟨_,e,rfl⟩ PySem.F.entry_list_pop (PySem.F.args_list_pop_1 _) (PySem.MeetsSeq.list_pop_last a (ws++[v]).toArray n v (by simp only[hl,Nat.add_sub_cancel,<-rl.length,List.getElem?_toArray];exact List.getElem?_concat_length) (by simp only[hl,sizeLine_eq];exact ti ‹_›)) ⟨e,?_⟩
 have e':(s.heap.update a (Obj.mapSeq λ xs=>xs.eraseIdxIfInBounds ((ws++[v]).toArray.size-1))).get? a=some (seqObj "list" ws.toArray (n+1)):=by
  rw[Heap.get?_update_self _ e (by rfl)]
  simp only[Obj.mapSeq,seqObj,s8]
  rw[hl,List.size_toArray,rl.length,if_neg (by rw[beq_iff_eq];lia)]
 refine aj (H.upL (t:=s.toks) U (Heap.SameBut.update ..) e' rl) λ H' st=>⟨X,w,σ',.refl X,H',st,rv,q⟩
end
section
variable {k:Nat}
theorem FM(h:a.natAbs<18446744073709551616):Builtin.Int.intBits a<=64:=intBits_le_iff.mpr (by exact‹_›)
theorem M0(h:a.natAbs<18446744073709551616)(q:Q (.int (a*b)) σ):cy g (binaryOp .Mult) (.int a) (.int b) σ Q E:=fJ λ u w H=>PyProof.Rows.mul_int (bH H (.int _ _) q) (PySem.IntMulOk.of_left (FM h))
theorem JH{a b:Int}(hb:b≠0)(hz:b.natAbs<2 ^ 128)(q:Q (.int (a.fdiv b)) σ):cy g (binaryOp .FloorDiv) (.int a) (.int b) σ Q E:=fJ λ u w H=>by
 refine PyProof.Rows.floordiv_int hb (bH H (.int _ _) q) (.inl (PyProof.noPylong_of_log2 ?_))
 have h0:b.natAbs≠0:=by lia
 have:=(Nat.log2_lt h0 (k:=128)).mpr hz
 exact bK ‹_›
theorem M5(q:Q (.int (Builtin.bitAnd a b)) σ):cy g (binaryOp .BitAnd) (.int a) (.int b) σ Q E:=fJ λ u w H=>PyProof.Rows.and_int (bH H (.int _ _) q)
theorem MX(hb:0<=b)(q:Q (.int (a.fdiv (2 ^ b.toNat))) σ):cy g (binaryOp .RShift) (.int a) (.int b) σ Q E:=fJ λ u w H=>PyProof.Rows.rshift_int hb (bH H (.int _ _) q)
theorem MZ(hb:0<=b)(Ub:b<=1000000)(ha:a.natAbs<2 ^ 64)(q:Q (.int (a ^ b.toNat)) σ):cy g (binaryOp .Pow) (.int a) (.int b) σ Q E:=fJ λ u w H=>PyProof.Rows.pow_int_small hb Ub ha (bH H (.int _ _) q)
theorem JG(q:Q (.int (a+b)) σ):cy g (inplaceOp .Add) (.int a) (.int b) σ Q E:=fJ λ u w H=>PySem.P.iadd_int (bH H (.int _ _) q)
theorem fc(h:x.cps.toList=l):bz P X (.str x t) (.str l):=by
 obtain⟨a⟩:=x
 subst h
 exact .str a.toList t
theorem LS(hz:a.length+b.length<=16777216)(q:Q (.str (a++b)) σ):cy g (binaryOp .Add) (.str a) (.str b) σ Q E:=BN λ u w H=>by
 refine PyProof.Rows.add_str (λ t' tk=>bH H (fc ?_) q) (by exact hz)
 refine(?_:(a.toArray++b.toArray).toList=a++b)
 simp
theorem OA(hz:a.length+b.length<=16777216)(q:Q (.bytes (a++b)) σ):cy g (binaryOp .Add) (.bytes a) (.bytes b) σ Q E:=Gp λ u w H=>by
 refine KBy.add_bytes (by exact hz) λ t' tk=>?_
 simp only[List.append_toArray]
 exact bH H (.bytes _ _) q
theorem nH:typeLookup (.type "bytes") (dunderI "add")=pure none:=by kernel_rfl
theorem KO(hz:a.length+b.length<=16777216)(q:Q (.bytes (a++b)) σ):cy g (inplaceOp .Add) (.bytes a) (.bytes b) σ Q E:=λ c base Y X ρ s bI bU H aL aa=>by
 refine aS aL.inv λ t ak=>?_;subst ak
 refine aS aa.inv λ u ak=>?_;subst ak
 refine iconcat_gives (typeIs_bytes s a.toArray t) (typeIs_bytes s b.toArray u) nH KBy.noFill_bytes_add KBy.seq_bytes_add FB.slot_bytes_add FB.entry_bytes_add (FB.args_bytes_add_2 _ _) (KBy.gives_bytes_add (KBy.tooLong_not (by exact hz))) ?_
 have key:∀t' k,PV g c base Y X ρ s Q (.bytes (a.toArray++b.toArray) t') { s with toks:=k }:=λ t' k=>by
  rw[List.append_toArray];exact bH H (.bytes _ _) q
 by_cases hb:a.toArray.isEmpty=true
 .rw[if_pos hb]
  have e:a.toArray=#[]:=Array.isEmpty_iff.1 hb
  have h':=key u s.toks
  rw[e,Array.empty_append]at h'
  exact h'
 .rw[if_neg hb]
  by_cases hc:b.toArray.isEmpty=true
  .rw[if_pos hc]
   have e:b.toArray=#[]:=Array.isEmpty_iff.1 hc
   have h':=key t s.toks
   simp only[e,Array.append_empty]at h'
   exact h'
  .rw[if_neg hc]
   exact⟨by simp only[Array.size_append,List.size_toArray,List.size_toArray,sizeLine_eq];exact hz,key _ _⟩
theorem MH(Ba:LV σ bB a)(B9:LV σ bn b)(hz:a.length+b.length<=16777216)(q:Q (.list (a++b)) σ):cy g (binaryOp .Add) bB bn σ Q E:=λ c base Y X ρ s bI bU H aL aa=>by
 obtain⟨l,vs,n,rfl,e,rl⟩:=Ba.opened H aL
 obtain⟨l',cZ,n',rfl,e',rl'⟩:=B9.opened H aa
 refine aD H.loc λ m hn hb=>?_
 have F:Fr base c.env.locals s.heap m:=⟨hn,λ b o e=>H.x b o (H.bx b o e),H.abv⟩
 have N:=gr (h:=s.heap) (base:=base) (L:=c.env.locals) (ex:=[c.env.locals]) (.head _)
 refine add_arrays F N (aw e) (aw e') (λ h' F' N'=>?_) (by simp only[List.size_toArray,List.size_toArray,rl.length,rl'.length,sizeLine_eq];exact hz)
 have kept:=gx (ex:=[c.env.locals]) F' N' (λ p hp=>.tail _ hp) (λ b o e=>H.x b o (H.bx b o e))
 have k':∀b o,s.heap.get? b=some o->b≠c.env.locals->h'.get? b=some o:=λ b o e q=>kept b o e λ q'=>q (A04 q')
 have aZ:=H.ext hb F'.ns k'
 have Qj:s.heap.get? s.heap.objs.size=none:=by
  cases q:s.heap.get? s.heap.objs.size with
  |none=>rfl
  |some o=>exact absurd (Heap.lt_size q) (Nat.lt_irrefl _)
 refine aj (aZ.addX (H.fresh Qj) (N' _ (.head _)).1) λ aU am=>⟨_,_,σ,aU,am,gR (W:=[]) H hn F'.ns ⟨h',s.toks,rfl⟩ (λ b q=>absurd q List.not_mem_nil) λ b o e q _=>k' b o e q,.list (n:=0) (vs:=vs++cZ) ?_ ((rl.append rl').mono aU),q⟩
 rw[bT]
end
section
variable {k:Nat}
theorem zC(h0:0<=i)(h1:i<l.length)(hz:l.length<=1000000)(q:Q (.int (l.getD i.toNat 0).toNat) σ):cy g getItem (.bytes l) (.int i) σ Q E:=OE λ u w H=>getItem_bytes (by exact bK ‹_›) h0 h1 (bH H (.int _ _) q)
theorem Iw{i:Int}(h0:0<=i)(h1:l[i.toNat]?=some x)(hz:i<1000000)(q:Q (.str [x]) σ):cy g getItem (.str l) (.int i) σ Q E:=Gn λ u w H=>by
 have gN:i.toNat<l.length:=(List.getElem?_eq_some_iff.mp h1).1
 have hj:seqIndex? i l.toArray.size=some i.toNat:=by
  unfold seqIndex?
  rw[List.size_toArray,if_neg (by exact Int.not_lt.mpr ‹_›:¬i<0),if_pos]
  simp only[Bool.and_eq_true,decide_eq_true_eq,decide_eq_true_eq]
  lia
 refine PyProof.Rows.getItem_str (c:=x) ?_ ?_ (bH H (.str [x] _) q)
 .lia
 .refine(?_:(seqIndex? i l.toArray.size).bind (l.toArray[·]?)=some x)
  rw[hj]
  simpa using h1
theorem P8(q:Q (.bool (a !=b)) σ):cy g (compareOp .NotEq) (.str a) (.str b) σ Q E:=BN λ u w H=>PySem.P.ne_str (bM H (.bool _) (by simpa [bne] using q))
theorem RW(q:Q (.bool (a==b)) σ):cy g (compareOp .Eq) (.bytes a) (.bytes b) σ Q E:=Gp λ u w H=>eq_bytes (bM H (.bool _) (by simpa using q))
theorem Nw(q:Q (.bool (a==b)) σ):cy g (compareOp .Eq) (.bool a) (.bool b) σ Q E:=Go λ H=>SeqAt.RcAt.bool_bool a b _ _ _ _ (bM H (.bool _) q)
theorem Nv(q:Q (.bool (a !=b)) σ):cy g (compareOp .NotEq) (.bool a) (.bool b) σ Q E:=Go λ H=>SeqAt.RcNeAt.bool_bool a b _ _ _ _ (bM H (.bool _) q)
theorem P9(q:Q (.bool (!(Builtin.Str.occurrences ⟨b.toArray⟩ ⟨a.toArray⟩ 0 b.length 1).isEmpty)) σ):cy g (compareOp .In) (.str a) (.str b) σ Q E:=BN λ u w H=>PySem.P.in_str (bM H (.bool _) q)
theorem mE{b:List UInt8}{i:Int}(h0:0<=i)(h1:i<256):Gives (Builtin.«bytes.__contains__» ⟨[.bytes b.toArray t,.int i u],[]⟩) (.val (.bool (b.toArray.contains i.toNat.toUInt8))):=by
 refine .of_wp λ M A E s Q hq=>(?_:wpAny M A (do ret (.bool (<-Builtin.Bytes.containsIn "bytes.__contains__" (.bytes b.toArray t) (.int i u)))) _ E s)
 refine wpAny_bind ?_
 refine wpAny_bind (wpAny_attempt (m:=asIndex (.int i u)) (wpAny_pure ?_))
 refine wpAny_bind (wpAny_of_eq KBy.buffer_eq ?_)
 dsimp only
 have hc:(decide (i<0)||decide (i≥256))=false:=by lia
 rw[hc,if_neg Bool.false_ne_true]
 exact wpAny_pure (wpAny_pure ⟨_,rfl,hq⟩)
theorem RV{b:List UInt8}(h0:0<=i)(h1:i<256)(q:Q (.bool (b.contains i.toNat.toUInt8)) σ):cy g (compareOp .In) (.int i) (.bytes b) σ Q E:=λ c base Y X ρ s bI bU H aL aa=>by
 refine aS aL.inv λ u ak=>?_;subst ak
 obtain⟨t,rfl⟩:=aa.inv
 exact in_gives (typeIs_bytes _ _ _) FB.slot_bytes_contains FB.entry_bytes_contains (FB.args_bytes_contains_2 _ _) (mE h0 h1) (bM H (.bool _) (by simpa using q))
theorem LM(l:List Nat):(Builtin.Str.strSliceIndices none (some (-1)) 1 l.length).filterMap (l[·]?)=l.dropLast:=by
 exact o0 l
theorem vG(n:Nat)(h:(Builtin.Str.strSliceIndices none (some (-1)) 1 n).length=n):n=0:=by
 have e:(Builtin.Str.strSliceIndices none (some (-1)) 1 n)=sliceRange 0 (max 0 (min (-1+(n:Int)) n)) 1:=rfl
 rw[e]at h
 unfold sliceRange at h
 simp only[List.length_map,List.length_range]at h
 rw[if_pos (by decide)]at h
 split at h
 .rw[Int.ediv_one]at h;lia
 .lia
theorem C9(hz:l.length<=1000000)(q:Q (.str l.dropLast) σ):Gx g (.str l) .none (.int (-1)) .none σ Q E:=λ c base Y X ρ s v va vb ve H r ra rb re=>by
 obtain rfl:=ra.inv
 obtain rfl:=re.inv
 refine aS r.inv λ t ak=>?_;subst ak
 obtain⟨u,rfl⟩:=rb.inv
 have aZ:=H.push (h':=s.heap.push (gS .none (.int (-1) u) .none)) λ _ _ e=>Heap.get?_push_of_some _ e
 refine wpAny_getItem_str_slice (s:={ s with heap:=s.heap.push (gS .none (.int (-1) u) .none) }) (l:=none) (u:=some (-1,u)) (st:=none) ⟨_,Heap.get?_push_size _ rfl,rfl,rfl⟩ rfl ?_
 have e:(slicePicked ⟨l.toArray⟩ none (some (-1,u)) none).filterMap (l.toArray[·]?)=l.dropLast:=by
  unfold slicePicked
  have:=LM l
  simpa [PySem.Str.length] using this
 unfold sliceMade
 by_cases hc:(((Option.map (·.1) (none:Option (Int×Tok))).getD 1==1&&(slicePicked ⟨l.toArray⟩ none (some (-1,u)) none).length==(⟨l.toArray⟩:Str).length)=true)
 .rw[if_pos hc]
  have hl:l.dropLast=l:=by
   rw[Bool.and_eq_true,beq_iff_eq,beq_iff_eq]at hc
   have:=vG l.length (by simpa [slicePicked,PySem.Str.length] using hc.2)
   rw[List.eq_nil_of_length_eq_zero this];rfl
  rw[hl]at q
  exact⟨X,_,σ,.refl X,aZ,cf (t:=s.toks),.str l t,q⟩
 .rw[if_neg hc]
  rw[e]
  refine⟨?_,⟨X,_,σ,.refl X,aZ,cf (t:=s.toks+1),.str _ _,q⟩⟩
  refine(?_:l.dropLast.toArray.size<=_)
  simp only[List.size_toArray,List.length_dropLast,sizeLine_eq];exact bK (o8 ‹_›)
end
section
open PySem.SeqAt
noncomputable def I0(f:Bool->Bool->Bool)(x y:Option Bool):Option Bool:=match x with
 |none=>none
 |some a=>match y with
  |none=>none
  |some b=>some (f a b)
theorem o6(h:I0 f x y=some k):∃a b,x=some a/\y=some b/\f a b=k :=
 match x,y,h with
 |some a,some b,h=>⟨a,b,rfl,rfl,A02 h⟩
noncomputable def Jj(a b:D):Option Bool:=match a with
 |.int x=>match b with | .int y=>some (x==y) | .none=>some false | _=>none
 |.str x=>match b with | .str y=>some (x==y) | _=>none
 |.none=>match b with | .none=>some true | .int _=>some false | _=>none
 |_=>none
noncomputable def kA(f:D->D->Option Bool):List D->List D->Option Bool
 |[],bs=>some bs.isEmpty
 |a::as,bs=>match bs with
  |[]=>some false
  |b::bs=>I0 and (f a b) (kA f as bs)
noncomputable def ou:Nat->D->D->Option Bool
 |0,a,b=>Jj a b
 |n+1,a,b=>match a with
  |.tup x=>match b with | .tup y=>kA (ou n) x y | _=>none
  |.list x=>match b with | .list y=>kA (ou n) x y | _=>none
  |a=>Jj a b
noncomputable abbrev Ec(n:Nat):List D->List D->Option Bool:=kA (ou n)
noncomputable def wN:List D->D->Option Bool
 |[],_=>some false
 |e::r,d=>I0 or (ou 4 e d) (wN r d)
theorem dk(A:Around):A.in1.units<=A.units+1:=by
 exact Nat.le_refl _
theorem ma(n:Nat)(e:Nat->Bool):(List.range (n+1)).all e=(e 0&&(List.range n).all λ j=>e (j+1)):=by
 simp only[List.range_succ_eq_map,List.all_cons,List.all_map];rfl
section
variable {P:Params}
theorem oV{vs ws:List Value}(h:some (seqObj c vs.toArray n)=some (seqObj c ws.toArray m)):vs=ws:=by
 injection h with h;injection h with _ _ h;injection h with h;exact congrArg Array.toList h
theorem mn.same(aL:mn P X T as v)(aa:mn P X T bs v):∃vs,bG P X vs as/\bG P X vs bs:=by
 obtain⟨a,vs,n,rfl,h1,fh⟩:=aL
 obtain⟨b,ws,m,e,h2,dD⟩:=aa
 (injection e with zq;subst zq)
 simp only[h1]at h2
 cases oV h2
 exact ad vs fh dD
def O0(P:Params)(X:XT)(s:Shared)(n:Nat)(f:D->D->Option Bool):Prop:=∀a b k,f a b=some k ->
 (∀v,bz P X v a->bz P X v b->k=true)/\∀bI bU A,bz P X bI a->bz P X bU b->A.units+n<cLine->RcAt A s bI bU k/\EqAt A s bI bU k
theorem lA:O0 P X s n Jj:=λ a b k h=>by
 cases a with
 |int x=>cases b with
  |int y=>
   (refine sj h λ zq=>?_;subst zq)
   refine⟨λ v aL aa=>?_,λ bI bU A aL aa _=>?_⟩
   .refine aS aL.inv λ t ak=>?_;subst ak
    refine aS aa.inv λ u e=>?_
    (injection e with zq;subst zq);exact beq_self_eq_true _
   .refine aS aL.inv λ t ak=>?_;subst ak
    refine aS aa.inv λ u ak=>?_;subst ak
    exact⟨RcAt.int_int _ _ _ _,EqAt.int_int _ _ _ _⟩
  |none=>
   (refine sj h λ zq=>?_;subst zq)
   refine⟨λ v aL aa=>?_,λ bI bU A aL aa _=>?_⟩
   .refine aS aL.inv λ t ak=>?_;subst ak
    exact nomatch aa.inv
   .refine aS aL.inv λ t ak=>?_;subst ak
    rw[show bU=.none from aa.inv]
    exact⟨RcAt.int_none _ _,EqAt.int_none _ _⟩
  |_=>exact bJ h
 |str x=>cases b with
  |str y=>
   (refine sj h λ zq=>?_;subst zq)
   refine⟨λ v aL aa=>?_,λ bI bU A aL aa _=>?_⟩
   .refine aS aL.inv λ t ak=>?_;subst ak
    refine aS aa.inv λ u e=>?_
    cases e;exact beq_self_eq_true _
   .refine aS aL.inv λ t ak=>?_;subst ak
    refine aS aa.inv λ u ak=>?_;subst ak
    rw[<-show((⟨x.toArray⟩:Str)==⟨y.toArray⟩)=(x==y)from(str_beq ..).symm]
    exact⟨RcAt.str_str _ _ _ _,EqAt.str_str _ _ _ _⟩
  |_=>exact bJ h
 |none=>cases b with
  |none=>
   (refine sj h λ zq=>?_;subst zq)
   refine⟨λ _ _ _=>rfl,λ bI bU A aL aa _=>?_⟩
   simp only[show bI=.none from aL.inv,show bU=.none from aa.inv]
   exact⟨RcAt.none_none,EqAt.same _⟩
  |int y=>
   (refine sj h λ zq=>?_;subst zq)
   refine⟨λ v aL aa=>?_,λ bI bU A aL aa _=>?_⟩
   .refine aS aa.inv λ t ak=>?_;subst ak
    exact nomatch aL.inv
   .refine aS aa.inv λ t ak=>?_;subst ak
    rw[show bI=.none from aL.inv]
    exact⟨RcAt.none_int _ _,EqAt.none_int _ _⟩
  |_=>exact bJ h
 |_=>exact bJ h
section
variable {f:D->D->Option Bool}
theorem oG(hf:O0 P X s n f):∀(as bs:List D){k:Bool}{vs:List Value},kA f as bs=some k->bG P X vs as->bG P X vs bs->k=true:=by
 intro zl
 induction zl with
 |nil=>
  intro bc cM cT gm iG jb
  cases bc with
  |nil=>
   exact(A02 gm).symm
  |cons zh1 zt1=>
   obtain⟨_,_,rfl,_⟩:=jb.inv
   exact nomatch iG.inv
 |cons zh zt ih=>
  intro bc cM cT gm iG jb
  cases bc with
  |nil=>
   obtain⟨_,_,rfl,_⟩:=iG.inv
   exact nomatch jb.inv
  |cons kI zt2=>
   refine je (o6 gm) λ cL dZ h1 h2 wT=>?_;subst wT
   obtain⟨v,cT,rfl,eW,fh⟩:=iG.inv
   obtain⟨_,_,e,IL,dD⟩:=jb.inv
   (injection e with zq zr;subst zq zr)
   simp only[(hf zh kI cL h1).1 v eW IL,ih zt2 h2 fh dD];rfl
theorem si:∀(as bs:List D){k:Bool},kA f as bs=some k->as.length≠bs.length->k=false:=by
 intro zl
 induction zl with
 |nil=>
  intro bc cM cT gm
  cases bc with
  |nil=>
   exact absurd rfl gm
  |cons zh1 zt1=>
   exact(A02 cT).symm
 |cons zh zt ih=>
  intro bc cM cT gm
  cases bc with
  |nil=>
   exact(A02 cT).symm
  |cons kI zt2=>
   refine je (o6 cT) λ cL dZ h1 h2 wT=>?_;subst wT
   rw[ih zt2 h2 λ z=>gm (congrArg (·+1) z)];exact Bool.and_false _
theorem uQ(hf:O0 P X s n f)(hu:A.units+n<cLine):∀(as bs:List D){k:Bool}{vs ws:List Value},kA f as bs=some k->bG P X vs as->bG P X ws bs ->
  ∃e:Nat->Bool,(∀j (h1:j<vs.length) (h2:j<ws.length),EqAt A s vs[j] ws[j] (e j))/\((List.range (min vs.length ws.length)).all e&&vs.length==ws.length)=k:=by
 intro zl
 induction zl with
 |nil=>
  intro bc cM cT gm iG jb jc
  rw[show cT=[]from jb.inv]
  (refine sj iG λ zq=>?_;subst zq)
  refine ad (λ _=>true) (λ j iG=>absurd iG (Nat.not_lt_zero _)) ?_
  cases bc with
  |nil=>rw[show gm=[]from jc.inv];rfl
  |cons b bc=>obtain⟨_,_,rfl,_⟩:=jc.inv;rfl
 |cons zh zt ih=>
  intro bc cM cT gm iG jb jc
  cases bc with
  |nil=>
   rw[show gm=[]from jc.inv]
   obtain⟨_,_,rfl,_⟩:=jb.inv
   (refine sj iG λ zq=>?_;subst zq)
   exact ad (λ _=>true) (λ j _ iG=>absurd iG (Nat.not_lt_zero _)) (by rfl)
  |cons zh1 zt1=>
   refine je (o6 iG) λ cL dZ h1 h2 wT=>?_;subst wT
   obtain⟨v,cT,rfl,eW,fh⟩:=jb.inv
   obtain⟨w,gm,rfl,IL,dD⟩:=jc.inv
   refine aD (ih zt1 h2 fh dD) λ e he hk=>?_
   have R:=((hf zh zh1 cL h1).2 v w A eW IL hu).2
   refine ad (λ j=>match j with | 0=>cL | j+1=>e j) (λ j h1 h2=>?_) ?_
   .cases j with
    |zero=>exact R
    |succ j=>exact he j (Nat.lt_of_succ_lt_succ h1) (Nat.lt_of_succ_lt_succ h2)
   .simp only[List.length_cons,List.length_cons,Nat.add_min_add_right,ma,Bool.and_assoc,<-hk]
    refine congrArg (and cL) (congrArg (and _) ?_)
    simp
theorem pq(hf:O0 P X s n f)(hu:A.in1.units+n<cLine)(SY:A.units<cLine)(h1:s.heap.IsList a vs.toArray)(h2:s.heap.IsList b ws.toArray)(rl:bG P X vs as)(rl':bG P X ws bs)(h:kA f as bs=some k):RcAt A s (.ref a) (.ref b) k:=by
 by_cases q:vs.length=ws.length
 .refine aD (uQ hf hu as bs h rl rl') λ e he hk=>?_
  simp only[q,Nat.min_self,beq_self_eq_true,Bool.and_true]at hk
  have R:=RcAt.lists (A:=A) (s:=s) h1 h2 q SY (e:=e) λ j h1 h2=>he j h1 h2
  simp only[<-hk];exact(q)▸R
 .simp only[si as bs h (by simp only[<-rl.length,<-rl'.length];exact q)]
  exact RcAt.lists_lengths (A:=A) (s:=s) h1 h2 (bne_iff_ne.mpr q) SY
theorem uK(R:RcAt A s (.ref a) (.ref b) k)(h:a=b->k=true):RcAt A s (.ref a) (.ref b) k/\EqAt A s (.ref a) (.ref b) k:=by
 refine⟨R,?_⟩
 by_cases q:a=b
 .simp only[h q,q];exact EqAt.same _
 .exact EqAt.of_refs q R
theorem i6(hx:∀b o,X b=some o->s.heap.get? b=some o):∀n,O0 P X s n (ou n)
 |0=>lA
 |n+1=>λ a b k h=>by
  cases a with
  |tup as=>cases b with
   |tup bs=>
    have same:=λ vs=>oG (i6 hx n) as bs (vs:=vs) h
    refine⟨λ v aL aa=>let ⟨vs,fh,dD⟩:=mn.same aL.inv aa.inv;same vs fh dD,λ bI bU A aL aa hu=>?_⟩
    obtain⟨a,vs,m,rfl,h1,fh⟩:=aL.inv
    obtain⟨b,ws,m',rfl,h2,dD⟩:=aa.inv
    refine aD (uQ (i6 hx n) (A:=A.in1) (by have:=dk A;lia) as bs h fh dD) λ e he hk=>?_
    have R:=RcAt.tuples (A:=A) (s:=s) (e:=e) ⟨_,hx _ _ h1,rfl,m,rfl⟩ ⟨_,hx _ _ h2,rfl,m',rfl⟩ (by exact Lx ‹_›) λ j h1 h2=>he j h1 h2
    rw[<-hk]at same ⊢
    refine uK R λ q=>?_
    subst q
    rw[h1]at h2
    cases oV h2
    exact same vs fh dD
   |_=>exact bJ h
  |list as=>cases b with
   |list bs=>
    have same:=λ vs=>oG (i6 hx n) as bs (vs:=vs) h
    refine⟨λ v aL aa=>let ⟨vs,fh,dD⟩:=mn.same aL.inv aa.inv;same vs fh dD,λ bI bU A aL aa hu=>?_⟩
    obtain⟨a,vs,m,rfl,h1,fh⟩:=aL.inv
    obtain⟨b,ws,m',rfl,h2,dD⟩:=aa.inv
    refine uK (pq (i6 hx n) (by have:=dk A;lia) (by exact Lx ‹_›) ⟨_,hx _ _ h1,rfl,m,rfl⟩ ⟨_,hx _ _ h2,rfl,m',rfl⟩ fh dD h) λ q=>?_
    subst q
    rw[h1]at h2
    cases oV h2
    exact same vs fh dD
   |_=>exact bJ h
  |none=>exact lA _ _ k h
  |int _=>exact lA _ _ k h
  |str _=>exact lA _ _ k h
  |_=>exact bJ h
end
theorem JD(hx:∀b o,X b=some o->s.heap.get? b=some o)(hu:A.units+4<cLine)(rv:bz P X v d):∀(ds:List D){k:Bool}{vs:List Value},wN ds d=some k->bG P X vs ds ->
  ∃e:Value->Bool,(∀y,e y=true->y∈vs/\EqAt A s y v true)/\(∀y∈vs,e y=false->EqAt A s y v false)/\vs.any e=k:=by
 intro zl
 induction zl with
 |nil=>
  intro k vs h r
  rw[show vs=[]from r.inv]
  exact dW (λ _=>false) (λ _ q=>nomatch q) (λ _ q=>nomatch q) (A02 h)
 |cons d' ds ih=>
  intro k vs h r
  refine je (o6 h) λ cL dZ h1 h2 wT=>?_;subst wT
  obtain⟨w,vs,rfl,p,q⟩:=r.inv
  refine cG (ih h2 q) λ e e1 e2 e3=>?_
  have R:=((i6 hx 4 d' d cL h1).2 w v A p rv hu).2
  cases cL with
  |false=>
   refine dW e (λ y hy=>⟨.tail _ (e1 y hy).1,(e1 y hy).2⟩) (λ y hy hf=>?_) ?_
   .rcases A03 hy with rfl|hy
    .exact R
    .exact e2 y hy hf
   .simp only[List.any_cons,e3]
    cases ew:e w with
    |false=>rfl
    |true=>rw[<-e3];exact(List.any_eq_true.mpr ⟨w,(e1 w ew).1,ew⟩).symm
  |true=>
   classical
   refine dW (λ y=>decide (y=w)||e y) (λ y hy=>?_) (λ y hy hf=>?_) ?_
   .rcases Bool.or_eq_true_iff.mp hy with z|z
    .rw[A00 z];exact⟨.head _,R⟩
    .exact⟨.tail _ (e1 y z).1,(e1 y z).2⟩
   .refine aj (Bool.or_eq_false_iff.mp hf) λ z hf=>e2 y ((A03 hy).resolve_left (of_decide_eq_false z)) hf
   .simp only[List.any_cons,A01 rfl];rfl
end
section
variable {bB bn:D}
theorem wY(h:Ok g c):c.A.in1.units+4<cLine:=by have:=h.units;have:=dk c.A;exact Px ‹_›
theorem rR(h:Ok g c):c.A.units+4<cLine:=by have:=h.units;exact Py ‹_›
theorem QJ(Ba:LV σ bB as)(B9:LV σ bn bs)(h:Ec 4 as bs=some k)(q:Q (.bool k) σ):cy g (compareOp .Eq) bB bn σ Q E:=λ c base Y X ρ s bI bU H aL aa=>by
 obtain⟨l,vs,n,rfl,e,rl⟩:=Ba.opened H aL
 obtain⟨l',ws,n',rfl,e',rl'⟩:=B9.opened H aa
 exact pq (i6 H.x 4) (wY H.ok) (Nat.lt_of_le_of_lt (Nat.le_add_right _ _) (rR H.ok)) (aw e) (aw e') rl rl' h _ _ _ _ (bM H (.bool _) q)
theorem yw(Ba:LV σ bB as)(B9:LV σ bn [])(q:Q (.bool !as.isEmpty) σ):cy g (compareOp .NotEq) bB bn σ Q E:=λ c base Y X ρ s bI bU H aL aa=>by
 obtain⟨l,vs,n,rfl,e,rl⟩:=Ba.opened H aL
 obtain⟨l',ws,n',rfl,e',rl'⟩:=B9.opened H aa
 have hu:=Nat.lt_of_le_of_lt (Nat.le_add_right _ _) (rR H.ok)
 rw[show ws=[]from rl'.inv]at e'
 cases as with
 |nil=>
  rw[show vs=[]from rl.inv]at e
  exact RcNeAt.lists (A:=c.A) (s:=s) (e:=λ _=>true) (aw e) (aw e') rfl hu (λ j h=>absurd h (Nat.not_lt_zero _)) _ _ _ _ (bM H (.bool _) q)
 |cons a as=>
  obtain⟨_,_,rfl,_⟩:=rl.inv
  exact RcNeAt.lists_lengths (A:=c.A) (s:=s) (aw e) (aw e') rfl hu _ _ _ _ (bM H (.bool _) q)
theorem RJ(h:ou 4 bB bn=some k)(q:Q (.bool k) σ):cy g (compareOp .Eq) bB bn σ Q E:=λ c base Y X ρ s bI bU H aL aa=>
 ((i6 H.x 4 _ _ _ h).2 bI bU c.A aL aa (rR H.ok)).1 _ _ _ _ (bM H (.bool _) q)
theorem zM(H:aG g c base Y X ρ σ s.heap)(aL:bz (Pm g) X bI bB)(aa:bz (Pm g) X bU bn)(L:LV σ bn bs)(h:wN bs bB=some k):∃l items,∃e:Value->Bool,bU=.ref l/\s.heap.IsList l items/\(∀y,y∈items->EqAt c.A.in1 s y bI (e y))/\items.any e=k:=by
 obtain⟨l,vs,n,rfl,e,rl⟩:=L.opened H aa
 refine cG (JD (s:=s) (A:=c.A.in1) H.x (wY H.ok) aL bs h rl) λ f h1 h2 h3=>v5 l _ f rfl (aw e) (λ y hy=>?_) ((List.any_toArray ..).trans h3)
 cases q:f y with
 |true=>exact(h1 y q).2
 |false=>exact h2 y (Array.mem_toArray.mp hy) q
theorem MG(L:LV σ bn bs)(h:wN bs bB=some k)(q:Q (.bool k) σ):cy g (compareOp .In) bB bn σ Q E:=λ c base Y X ρ s bI bU H aL aa=>by
 refine kT (zM H aL aa L h) λ l it f ux hl hf PC=>?_;subst ux;subst PC
 exact in_listAt f hl hf (bM H (.bool _) q)
theorem Dt(L:LV σ bn bs)(h:wN bs bB=some k)(q:Q (.bool !k) σ):cy g (compareOp .NotIn) bB bn σ Q E:=λ c base Y X ρ s bI bU H aL aa=>by
 refine kT (zM H aL aa L h) λ l it f ux hl hf PC=>?_;subst ux;subst PC
 exact notIn_listAt f hl hf (bM H (.bool _) q)
end
end
noncomputable def iN(X:XT)(a:Addr):XT:=λ b=>if b=a then none else X b
theorem fT(h:X b=some o)(n:b≠a):iN X a b=some o:=(if_neg n).trans h
theorem nV(X:XT)(a:Addr):iN X a a=none:=if_pos rfl
theorem Bm(h:iN X a b=some o):b≠a/\X b=some o:=by
 unfold iN at h
 by_cases q:b=a
 .rw[if_pos q]at h;exact bJ h
 .rw[if_neg q]at h;exact⟨q,h⟩
theorem jf(h:X b=none):iN X a b=none:=by
 unfold iN;split
 .rfl
 .exact h
section
variable {o:Obj}
theorem sL(hI:X I=some o)(p:j8 o):OH X (iN X I):=λ b o' e n=>fT e λ q=>by
 subst q;rw[hI]at e;(refine sj e λ zq=>?_;subst zq);exact n p
theorem bz.minus(hI:X I=some o)(p:j8 o)(h:bz P X v d):bz P (iN X I) v d:=h.keep (sL hI p)
theorem bG.minus(hI:X I=some o)(p:j8 o)(h:bG P X vs ds):bG P (iN X I) vs ds:=h.keep (sL hI p)
theorem du.minus(hI:X I=some o)(p:j8 o)(h:du P X es fs):du P (iN X I) es fs:=h.keep (sL hI p)
end
section
variable {o:Obj}
theorem gA.minus(hI:X I=some o)(q:j8 o)(r:gA P X h p):gA P (iN X I) h p:=by
 obtain⟨a,mo⟩:=p
 cases mo with
 |list ds=>refine dP r λ vs n e r=>?_;exact gJ vs n e (r.minus hI q)
 |inst C dx fs=>obtain⟨e,es,n,e',r⟩:=r;exact⟨e,es,n,e',r.minus hI q⟩
theorem mz.minus(hI:X I=some o)(q:j8 o)(r:mz g c base Y X m h p):mz g c base Y (iN X I) m h p:=by
 obtain⟨x,sk,ov⟩:=p
 cases sk with
 |loc=>
  obtain⟨hd,⟨hk,hv⟩|⟨hk,a,ez,ha,hc,hv⟩⟩:=r
  .exact⟨hd,.inl ⟨hk,λ d e=>let ⟨v,e',r⟩:=hv d e;⟨v,e',r.minus hI q⟩⟩⟩
  .exact⟨hd,.inr ⟨hk,a,ez,ha,hc,λ d e=>let ⟨v,e',r⟩:=hv d e;⟨v,e',r.minus hI q⟩⟩⟩
 |glb=>
  obtain⟨hd,hv|⟨hk,nN,hv⟩⟩:=r
  .exact⟨hd,.inl hv⟩
  .exact⟨hd,.inr ⟨hk,nN,λ d e=>let ⟨a,cl,v,h1,h2,h3⟩:=hv d e;⟨a,cl,v,h1,h2,h3.minus hI q⟩⟩⟩
theorem aG.nex(H:aG g c base Y X ρ σ h)(hx:X I=none):g.ex I=none:=by
 cases q:g.ex I with
 |none=>rfl
 |some o=>rw[H.xe _ _ q]at hx;exact qF hx
theorem aG.minus(H:aG g c base Y X ρ σ h)(hI:X I=some o)(q:j8 o)(hb:base.get? I=none/\g.ex I=none):aG g c base Y (iN X I) ρ σ h :=
 { H with
  xe:=λ b o e=>fT (H.xe b o e) λ q=>by simp only[q,hb.2]at e;exact bJ e
  bx:=λ b o e=>fT (H.bx b o e) λ q=>by simp only[q,hb.1]at e;exact bJ e
  x:=λ b o e=>H.x b o (Bm e).2
  yx:=λ b p e=>jf (H.yx b p e)
  ow:=λ a ha=>let ⟨h1,h2,h3,h4⟩:=H.ow a ha;⟨h1,jf h2,h3,h4⟩
  sr:=λ p hp=>(H.sr p hp).minus hI q
  sx:=λ a ha=>⟨jf (H.sx a ha).1,(H.sx a ha).2⟩
  loc:=let ⟨m,hn,hb⟩:=H.loc;⟨m,hn,λ p hp=>(hb p hp).minus hI q⟩ }
theorem aG.apart(H:aG g c base Y X ρ σ h)(hI:X I=none/\Y I=none/\I∉c.os/\I∉eD σ)(k:∀b o,b≠I->h.get? b=some o->h'.get? b=some o):aG g c base Y X ρ σ h':=by
 refine kU hI λ h1 h2 h3 h4=>aD H.loc λ m hn hb=>?_
 have hL:c.env.locals≠I:=λ q=>h3 (q▸.head _)
 refine{ H with x:=λ b o e=>k b o (λ q=>by simp only[q,h1]at e;exact bJ e) (H.x b o e),y:=λ b cl d e=>?_,ow:=λ a ha=>?_,sr:=λ q hq=>?_,loc:=⟨m,?_,λ q hq=>mz.keep H (W:=[I]) (λ a ha q=>h3 (A04 q▸.tail _ ha)) (λ b o e _ q2=>k b o (λ z=>q2 (List.mem_singleton.mpr z)) e) (hb q hq)⟩ }
 .refine aD (H.y b cl d e) λ o ho r=>ad o (k b o (λ q=>by simp only[q,h2]at e;exact bJ e) ho) r
 .obtain⟨⟨o,ho,pP⟩,r⟩:=H.ow a ha
  exact⟨⟨o,k a o (λ q=>h3 (q▸ha)) ho,pP⟩,r⟩
 .exact gA.keep (λ b mB o e=>k b o (λ z=>h4 (z▸List.mem_flatMap.mpr ⟨q,hq,mB⟩)) e) (H.sr q hq)
 .refine LD hn λ o es ep e r=>MQ o es ep (k _ o hL e) r
theorem dR.but(hO:I∉O)(hY:Y I=none)(k:∀b o,b≠I->s.heap.get? b=some o->h'.get? b=some o):dR O Y s { s with heap:=h',toks:=t } :=
 ⟨⟨h',t,rfl⟩,λ b hb=>⟨λ m ⟨o,es,ep,e,r⟩=>⟨o,es,ep,k b o (λ q=>hO (q▸hb)) e,r⟩,λ v ⟨o,e,r⟩=>⟨o,k b o (λ q=>hO (q▸hb)) e,r⟩,λ⟨o,e,r⟩=>⟨o,k b o (λ q=>hO (q▸hb)) e,r⟩⟩,
 λ b o ⟨p,hp⟩ e _=>⟨o,k b o (λ q=>by simp only[q,hY]at hp;exact bJ hp) e,rfl,rfl⟩⟩
end
structure lF (g:c8)(v:Value)(d:D)(n:Nat)(el:Nat->D)(S:aN->Prop)(It:Nat->Obj->Prop):Prop where
 plain:∀i o,It i o->j8 o
 next:∀{c:Cx}{base:Heap}{Y:YT}{X:XT}{ρ:Rh}{σ:aN}{s:Shared}{I:Addr}{i:Nat}{Q:Option Value->Shared->Prop}{E:Value->Shared->Prop}{o:Obj},aG g c base Y X ρ σ s.heap->0<c.k->S σ->bz (Pm g) X v d->s.heap.get? I=some o->It i o->X I=none->I∉eD σ->i<n ->
  (∀w h' tk o',bz (Pm g) X w (el i)->h'.get? I=some o'->It (i+1) o'->(∀b o,b≠I->s.heap.get? b=some o->h'.get? b=some o)->Q (some w) { s with heap:=h',toks:=tk })->wpAny (M g) c.A (pyNext (.ref I)) Q E s
 done:∀{c:Cx}{base:Heap}{Y:YT}{X:XT}{ρ:Rh}{σ:aN}{s:Shared}{I:Addr}{Q:Option Value->Shared->Prop}{E:Value->Shared->Prop}{o:Obj},aG g c base Y X ρ σ s.heap->0<c.k->S σ->bz (Pm g) X v d->s.heap.get? I=some o->It n o->X I=none->I∉eD σ ->
  (∀h' tk,(∀b o,b≠I->s.heap.get? b=some o->h'.get? b=some o)->Q none { s with heap:=h',toks:=tk })->wpAny (M g) c.A (pyNext (.ref I)) Q E s
 go:∀{A:Around}{s:Shared}{I:Addr}{i:Nat}{o:Obj}{target:Expr}{w:Value}{Q:Unit->Shared->Prop}{E:Value->Shared->Prop},s.heap.get? I=some o->It i o->Q () s->wpAny (M g) A (letOwnedTupleGo target (.ref I) w) Q E s
 self:∀{A:Around}{s:Shared}{I:Addr}{o:Obj}{Q:Value->Shared->Prop}{E:Value->Shared->Prop},s.heap.get? I=some o->It 0 o->Q (.ref I) s->wpAny (M g) A (pyIter (.ref I)) Q E s
structure Fe (g:c8)(d:D)(n:Nat)(el:Nat->D)(S:aN->Prop):Prop where
 start:∀{c:Cx}{base:Heap}{Y:YT}{X:XT}{ρ:Rh}{σ:aN}{s:Shared}{v:Value}{Q:Value->Shared->Prop}{E:Value->Shared->Prop},aG g c base Y X ρ σ s.heap->S σ->bz (Pm g) X v d ->
  (∀o It,o.isFreed=false->It 0 o->lF g v d n el S It->Q (.ref s.heap.objs.size) { s with heap:=s.heap.push o })->wpAny (M g) c.A (pyIter v) Q E s
section
variable {ds:List D}
theorem jM(ho:s.heap.get? I=some o)(hc:o.cls=.type c)(hd:o.data=.fields fs)
  (hn:["enumerate","zip","dict_itemiterator","dict_reverseitemiterator","odict_iterator","itertools.zip_longest","itertools.pairwise"].contains c=false) (h:Q () s):wpAny (M g) A (letOwnedTupleGo target (.ref I) w) Q E s:=by
 cases target<;>first
  |exact wpAny_pure h
  |(cases w<;>first
    |exact wpAny_pure h
    |(refine wpAny_bind (wpAny_load ho ?_);rw[hc,hd];simp only[hn,Bool.false_and,if_neg Bool.false_ne_true];exact wpAny_pure h))
theorem tu{s:Shared}(H:aG g c base Y X ρ σ s.heap)(L:LV σ d ds)(r:bz (Pm g) X v d)(hx:X I=none)(hf:I∉eD σ)(e:v=.ref l):l≠I:=λ q=>by
 subst q e
 cases L with
 |frz=>obtain⟨_,_,_,e,h,_⟩:=r.inv;(injection e with zq;subst zq);rw[hx]at h;exact bJ h
 |own hm=>(injection r.inv with zq;subst zq);exact hf (List.mem_flatMap.mpr ⟨_,hm,.head _⟩)
theorem wi(L:∀σ,S σ->LV σ d ds):Fe g d ds.length (λ i=>ds.getD i .none) S where
 start:=λ{c base Y X ρ σ s v Q E} H hS r k=>by
  obtain⟨l,vs,n,rfl,e,rl⟩:=(L _ hS).opened H r
  refine wpAny_pyIter_list (aw e) (k _ (λ i o=>o.cls=.type "list_iterator"/\o.data=.fields #[.ref l,.int i 0]) rfl ⟨rfl,rfl⟩ ?_)
  refine{ plain:=λ i o h=>⟨⟨_,h.1,by decide,by decide,by decide⟩,_,h.2⟩,next:=?_,done:=?_,go:=λ ho h q=>jM ho h.1 h.2 (by decide) q,self:=λ ho h q=>wpAny_pyIter_listiter (i:=0) ⟨_,ho,h⟩ q }
  .intro c base Y X ρ σ s I i Q E o H hk hS r ho jJ hx hf hi q
   obtain⟨l',cZ,n',e1,e',rl'⟩:=(L _ hS).opened H r
   (injection e1 with zq;subst zq)
   have g7:=tu H (L _ hS) r hx hf rfl
   refine(Walks.list (w:=g.w) (prog:=g.prog) (H.ok.hand hk) I l g7 cZ.toArray).item i s Q E (by simp only[List.size_toArray,rl'.length];exact hi) ⟨⟨o,ho,jJ⟩,aw e'⟩ λ w h' tk hw CK kp=>?_
   obtain⟨⟨o',nr,kc⟩,_⟩:=CK
   refine aD (rl'.get i (d:=ds.getD i .none) (by rw[List.getD_eq_getElem?_getD,List.getElem?_eq_getElem hi];rfl)) λ w' Q6 pn=>?_
   have:w=w':=by simp only[List.getElem?_toArray,Q6]at hw;(refine sj hw λ zq=>?_;subst zq);rfl
   subst this
   exact q w h' tk o' pn nr kc λ b o hb e=>kp b o (λ z=>hb (A04 z)) e
  .intro c base Y X ρ σ s I Q E o H hk hS r ho jJ hx hf q
   obtain⟨l',cZ,n',e1,e',rl'⟩:=(L _ hS).opened H r
   (injection e1 with zq;subst zq)
   have g7:=tu H (L _ hS) r hx hf rfl
   refine(Walks.list (w:=g.w) (prog:=g.prog) (H.ok.hand hk) I l g7 cZ.toArray).done s Q E ⟨⟨o,ho,?_⟩,aw e'⟩ λ h' tk kp=>q h' tk λ b o hb e=>kp b o (λ z=>hb (A04 z)) e
   rw[List.size_toArray,rl'.length];exact jJ
theorem CN:Fe g (.tup ds) ds.length (λ i=>ds.getD i .none) (λ _=>True) where
 start:=λ{c base Y X ρ σ s v Q E} H hS r k=>by
  obtain⟨l,vs,n,rfl,zR,rl⟩:=r.inv
  refine wpAny_pyIter_tuple ⟨_,H.x _ _ zR,rfl,n,rfl⟩ (k _ (λ i o=>o.cls=.type "tuple_iterator"/\o.data=.fields #[.ref l,.int i 0]) rfl ⟨rfl,rfl⟩ ?_)
  refine{ plain:=λ i o h=>⟨⟨_,h.1,by decide,by decide,by decide⟩,_,h.2⟩,next:=?_,done:=?_,go:=λ ho h q=>jM ho h.1 h.2 (by decide) q,self:=λ ho h q=>wpAny_pyIter_tupleiter (i:=0) ⟨_,ho,h⟩ q }
  .intro c base Y X ρ σ s I i Q E o H hk hS r ho jJ hx hf hi q
   obtain⟨_,cZ,n',e,pO,rl'⟩:=r.inv
   (injection e with zq;subst zq)
   have g7:l≠I:=λ z=>by simp only[z,hx]at pO;cases pO
   refine(Walks.tuple (w:=g.w) (prog:=g.prog) (H.ok.hand hk) I l g7 cZ.toArray).item i s Q E (by rw[List.size_toArray,rl'.length];exact hi) ⟨⟨o,ho,jJ⟩,⟨_,H.x _ _ pO,rfl,n',rfl⟩⟩ λ w h' tk hw CK kp=>?_
   obtain⟨⟨o',nr,kc⟩,_⟩:=CK
   refine aD (rl'.get i (d:=ds.getD i .none) (by rw[List.getD_eq_getElem?_getD,List.getElem?_eq_getElem hi];rfl)) λ w' Q6 pn=>?_
   have:w=w':=by simp only[List.getElem?_toArray,Q6]at hw;(refine sj hw λ zq=>?_;subst zq);rfl
   subst this
   exact q w h' tk o' pn nr kc λ b o hb e=>kp b o (λ z=>hb (A04 z)) e
  .intro c base Y X ρ σ s I Q E o H hk hS r ho jJ hx hf q
   obtain⟨_,cZ,n',e,pO,rl'⟩:=r.inv
   (injection e with zq;subst zq)
   have g7:l≠I:=λ z=>by simp only[z,hx]at pO;cases pO
   refine(Walks.tuple (w:=g.w) (prog:=g.prog) (H.ok.hand hk) I l g7 cZ.toArray).done s Q E ⟨⟨o,ho,?_⟩,⟨_,H.x _ _ pO,rfl,n',rfl⟩⟩ λ h' tk kp=>q h' tk λ b o hb e=>kp b o (λ z=>hb (A04 z)) e
   rw[List.size_toArray,rl'.length];exact jJ
theorem CP{n:Nat}(hs:Builtin.Range.small a b s'=true)(hn:Builtin.Range.rangeSize a b s'=n):Fe g (.rng a b s') n (λ i=>.int (a+i*s')) (λ _=>True) where
 start:=λ{c base Y X ρ σ s v Q E} H hS r k=>by
  obtain⟨l,t,u,w,rfl,zR⟩:=r.inv
  refine wpAny_pyIter_range (H.x _ _ zR) hs ?_
  rw[hn]
  refine k _ (λ i o=>o={ cls:=.type "range_iterator",data:=.fields #[rawInt (a+(i:Nat)*s'),rawInt ((n:Int)-(i:Nat)),rawInt s'] }) rfl ?_ ?_
  .simp
  refine{ plain:=λ i o h=>by subst h;exact⟨⟨"range_iterator",rfl,by decide,by decide,by decide⟩,_,rfl⟩,next:=?_,done:=?_,go:=λ ho h q=>by subst h;exact jM ho rfl rfl (by decide) q,self:=λ{A s I o Q E} ho h q=>?_ }
  .intro c base Y X ρ σ s I i Q E o H hk hS r ho jJ hx hf hi q
   subst jJ
   refine(Walks.range (w:=g.w) (prog:=g.prog) (H.ok.hand hk) I a s' n).item i s Q E hi ho λ w h' tk hw CK kp=>aS hw λ t' ak=>?_;subst ak
   exact q _ h' tk _ (.int _ _) CK rfl λ b o hb e=>kp b o (λ z=>hb (A04 z)) e
  .intro c base Y X ρ σ s I Q E o H hk hS r ho jJ hx hf q
   subst jJ
   exact(Walks.range (w:=g.w) (prog:=g.prog) (H.ok.hand hk) I a s' n).done s Q E ho λ h' tk kp=>q h' tk λ b o hb e=>kp b o (λ z=>hb (A04 z)) e
  .subst h
   exact wpAny_pyIter_rangeiter ho q
theorem CO:Fe g (.str l) l.length (λ i=>.str [l.getD i 0]) (λ _=>True) where
 start:=λ{c base Y X ρ σ s v Q E} H hS r k=>by
  refine aS r.inv λ t ak=>?_;subst ak
  have wO:(⟨l.toArray⟩:Str).cps.size=l.length:=by simp
  have key:∀(T:String),(T = "str_ascii_iterator"\/T = "str_iterator")->(∀I,Walks g.prog g.w c.A I [I] [I] (⟨l.toArray⟩:Str).cps.size (SignAt ⟨l.toArray⟩) (λ i h=>h.IsStrIter I T ⟨l.toArray⟩ t i))->True:=λ _ _ _=>trivial
  have go:∀(T:String),(T = "str_ascii_iterator"\/T = "str_iterator")->(∀(A:Around) I,A.handled=none->Walks g.prog g.w A I [I] [I] (⟨l.toArray⟩:Str).cps.size (SignAt ⟨l.toArray⟩) (λ i h=>h.IsStrIter I T ⟨l.toArray⟩ t i))->
    (∀(A:Around) (s:Shared) I (Q:Value->Shared->Prop) E,s.heap.IsStrIter I T ⟨l.toArray⟩ t 0->Q (.ref I) s->wpAny (M g) A (pyIter (.ref I)) Q E s)->
    lF g (.str ⟨l.toArray⟩ t) (.str l) l.length (λ i=>.str [l.getD i 0]) (λ _=>True) (λ i o=>o.cls=.type T/\o.data=.fields #[.str ⟨l.toArray⟩ t,.int i 0]):=λ T hT W Mf=>by
   refine{ plain:=λ i o h=>⟨⟨_,h.1,?_,?_,?_⟩,_,h.2⟩,next:=?_,done:=?_,go:=λ ho h q=>jM ho h.1 h.2 ?_ q,self:=λ ho h q=>Mf _ _ _ _ _ ⟨_,ho,h⟩ q }
   .rcases hT with rfl|rfl<;>decide
   .rcases hT with rfl|rfl<;>decide
   .rcases hT with rfl|rfl<;>decide
   .intro c base Y X ρ σ s I i Q E o H hk hS r ho jJ hx hf hi q
    refine(W c.A I (H.ok.hand hk)).item i s Q E (by exact hi) ⟨o,ho,jJ⟩ λ w h' tk hw CK kp=>aD CK λ o' nr kc=>q w h' tk o' ?_ nr kc λ b o hb e=>kp b o (λ z=>hb (A04 z)) e
    refine dP hw λ cc t' e1 ux=>?_;subst ux
    have:l.getD i 0=cc:=by
     have RI:l[i]?=some cc:=by simpa using e1
     simp only[List.getD_eq_getElem?_getD,RI];rfl
    rw[this]
    exact .str [cc] t'
   .intro c base Y X ρ σ s I Q E o H hk hS r ho jJ hx hf q
    refine(W c.A I (H.ok.hand hk)).done s Q E ⟨o,ho,?_⟩ λ h' tk kp=>q h' tk λ b o hb e=>kp b o (λ z=>hb (A04 z)) e
    exact jJ
   .rcases hT with rfl|rfl<;>decide
  by_cases ha:(⟨l.toArray⟩:Str).cps.all (·<128)=true
  .exact wpAny_pyIter_ascii ha (k _ (λ i o=>o.cls=.type "str_ascii_iterator"/\o.data=.fields #[.str ⟨l.toArray⟩ t,.int i 0]) rfl ⟨rfl,rfl⟩ (go _ (.inl rfl) (λ A I hh=>Walks.strAscii hh I _ t) λ A s I Q E h q=>wpAny_pyIter_striter_ascii h q))
  .exact wpAny_pyIter_wide (by simpa using ha) (k _ (λ i o=>o.cls=.type "str_iterator"/\o.data=.fields #[.str ⟨l.toArray⟩ t,.int i 0]) rfl ⟨rfl,rfl⟩ (go _ (.inr rfl) (λ A I hh=>Walks.strWide hh I _ t) λ A s I Q E h q=>wpAny_pyIter_striter_wide h q))
theorem vH:Fe g (.bytes l) l.length (λ i=>.int (l.getD i 0).toNat) (λ _=>True) where
 start:=λ{c base Y X ρ σ s v Q E} H hS r k=>by
  refine aS r.inv λ t ak=>?_;subst ak
  refine KBw.pyIter_bytes (k _ (λ i o=>o.cls=.type "bytes_iterator"/\o.data=.fields #[.bytes l.toArray t,.int i 0]) rfl ⟨rfl,rfl⟩ ?_)
  refine{ plain:=λ i o h=>⟨⟨_,h.1,by decide,by decide,by decide⟩,_,h.2⟩,next:=?_,done:=?_,go:=λ ho h q=>jM ho h.1 h.2 (by decide) q,self:=λ ho h q=>KBw.pyIter_self (i:=0) ⟨_,ho,h⟩ q }
  .intro c base Y X ρ σ s I i Q E o H hk hS r ho jJ hx hf hi q
   refine(KBw.walks (w:=g.w) (prog:=g.prog) (H.ok.hand hk) I l.toArray t).item i s Q E (by exact hi) ⟨o,ho,jJ⟩ λ w h' tk hw CK kp=>aD CK λ o' nr kc=>q w h' tk o' ?_ nr kc λ b o hb e=>kp b o (λ z=>hb (A04 z)) e
   refine dP hw λ cc t' e1 ux=>?_;subst ux
   have:l.getD i 0=cc:=by
    have RI:l[i]?=some cc:=by simpa using e1
    simp only[List.getD_eq_getElem?_getD,RI];rfl
   rw[this]
   exact .int _ t'
  .intro c base Y X ρ σ s I Q E o H hk hS r ho jJ hx hf q
   refine(KBw.walks (w:=g.w) (prog:=g.prog) (H.ok.hand hk) I l.toArray t).done s Q E ⟨o,ho,?_⟩ λ h' tk kp=>q h' tk λ b o hb e=>kp b o (λ z=>hb (A04 z)) e
   exact jJ
end
section
variable (Mo:Model)(A:Around)(env:Env)(R:Result->Shared->Prop)(I:Nat->Shared->Prop)(n:Nat)
variable (body:List Stmt)
def VV(s:Shared):Prop:=wpAny Mo A (execs body env) (TM R I n) (tN Mo A env R) s
variable (target:Expr)
def VW(v:Value)(s:Shared):Prop:=wpAny Mo A (assign target env v) (λ _=>VV Mo A env R I n body) (tN Mo A env R) s
variable (it:Value)
def VX(r:Option Value)(s:Shared):Prop:=match r with
 |none=>wpAny Mo A (execs [] env) (λ f bu=>R (.ok f) bu) (tN Mo A env R) s
 |some v=>wpAny Mo A (letOwnedTupleGo target it v) (λ _=>VW Mo A env R I n body target v) (tN Mo A env R) s
end
theorem zj(I:Nat->Shared->Prop)
  (turn:∀n s,I n s->wpAny (model prog w) A (pyNext it) (VX (model prog w) A env R I n body target it) (tN (model prog w) A env R) s)
  (n:Nat) (h:I n s):codeAny (model prog w) A (.forLoop target it body [] env) R s:=codeAny_forLoop_any I turn n h
inductive OX (g:c8)(c:Cx)(base:Heap)(Y:YT)(X:XT)(I:Nat->Rh->aN->Prop)(It:Nat->Obj->Prop)(n:Nat)(a:Addr)(s:Shared)(m:Nat)(s':Shared):Prop
 |mk {i:Nat}{az:XT}{cJ:Rh}{a9:aN}{cq:Obj} (e:m=n-i) (hi:i<=n) (l:fE X az) (H:aG g c base Y az cJ a9 s'.heap) (hx:az a=none) (hf:a∉eD a9) (ho:s'.heap.get? a=some cq) (jJ:It i cq) (st:dR [] Y s s') (ii:I i cJ a9)
set_option tactic.hygienic true in
theorem EV{I:Nat->Rh->aN->Prop}
  (hk:0<c.k) (T:lF g v d n el S It) (aL:bz (Pm g) X v d) (hS:∀i ρ σ,I i ρ σ->S σ)
  (step:∀i ρ σ,i<n->I i ρ σ->AA g c ρ σ target (el i) (λ ρ' σ'=>pR g c ρ' σ' body (LQ (I (i+1)) Q) E) E) (eT:∀ρ σ,I n ρ σ->Q .nx ρ σ)
  (ax:X a=none) (Ya:Y a=none) (aO:a∉c.os) (nb:base.get? a=none)
  (brk:∀cJ a9 az s',fE X az->aG g c base Y az cJ a9 s'.heap->dR [] Y s s'->Q .nx cJ a9->R (.ok .next) s')
  (ret:∀v d cJ a9 az s',fE X az->aG g c base Y az cJ a9 s'.heap->dR [] Y s s'->bz (Pm g) az v d->Q (.ret d) cJ a9->R (.ok (.ret v)) s')
  (err:∀aB v s',dR [] Y s aB->EP g c [] base Y aB E v s'->tN (M g) c.A c.env R v s')
  (H:aG g c base Y X ρ σ dU.heap) (af:a∉eD σ) (ho:dU.heap.get? a=some o) (it0:It 0 o) (st:dR [] Y s dU) (i0:I 0 ρ σ) :
  codeAny (M g) c.A (.forLoop target (.ref a) body [] c.env) R dU:=by
 refine zj (OX g c base Y X I It n a s) ?_ n (.mk rfl (Nat.zero_le _) (.refl X) H ax af ho it0 st i0)
 intro m aP z
 obtain⟨e,hi,aU,am,lj,lz,jI,ly,au,ii⟩:=z
 rename_i i az cJ a9 cq
 have ap:az a=none/\Y a=none/\a∉c.os/\a∉eD a9:=⟨lj,Ya,aO,lz⟩
 by_cases hn:i<n
 .refine T.next am hk (hS _ _ _ ii) (aL.mono aU) jI ly lj lz hn λ w h' tk DU pn jH iZ kp=>T.go (i:=i+1) jH iZ ?_
  refine aj ((am.apart ap kp).addX ap jH) λ bt fQ=>?_
  have au:=au.trans (.but (h':=h') (t:=tk) List.not_mem_nil Ya kp)
  refine wpAny_mono (step i cJ a9 hn ii base Y _ { aP with heap:=h',toks:=tk } w fQ (pn.mono bt)) ?_ (λ v s' z=>err _ _ _ au z)
  rintro _ bu ⟨dH,ij,bb,eG,ja,c9,q⟩
  have c9:=au.trans c9
  refine wpAny_mono (q base Y dH bu ja) ?_ (λ v s' z=>err _ _ _ c9 z)
  rintro f dT ⟨iE,f',Ky,bq,oa,j9,hU,kX,L8⟩
  have mm:=c9.trans hU
  have EJ:iE a=some DU:=oa _ _ (eG _ _ (bT ..))
  have ll:=aU.trans (bt.trans (eG.trans oa))
  have z:=SG kX L8
  have again:I (i+1) Ky bq->O1 (OX g c base Y X I It n a s) m dT:=λ hI=>by
   refine ad (n-(i+1)) (by simp only[e];exact Kh ‹_›) (.mk (az:=iN iE a) rfl hn (λ b o e=>fT (ll _ _ e) λ q=>?_) (j9.minus EJ (T.plain _ _ iZ) ⟨nb,H.nex ax⟩) (nV ..) (λ q=>?_) (j9.x _ _ EJ) iZ mm hI)
   .simp only[q,ax]at e;exact bJ e
   .have:=(j9.sx a q).1
    simp only[EJ]at this;exact qF this
  clear kX L8
  cases z with
  |nx h=>exact again h
  |cont h=>exact again h
  |brk h=>exact brk _ _ _ _ ll j9 mm h
  |ret d r h=>exact ret _ _ _ _ _ _ ll j9 mm r h
 .obtain rfl:i=n:=by omega
  refine T.done am hk (hS _ _ _ ii) (aL.mono aU) jI ly lj lz λ h' tk kp=>wpAny_execs_nil (brk _ _ _ { aP with heap:=h',toks:=tk } aU (am.apart ap kp) (au.trans (.but List.not_mem_nil Ya kp)) (eT _ _ ii))
section
variable {E:D->Prop}
theorem KP{pos:Pos}(hk:0<c.k)
  (h:AE g c ρ σ iter (λ d aM=>∃(n:Nat) (el:Nat->D) (S:aN->Prop) (I:Nat->Rh->aN->Prop),Fe g d n el S/\I 0 ρ aM/\(∀i ρ σ,I i ρ σ->S σ)/\
   (∀i ρ σ,i<n->I i ρ σ->AA g c ρ σ target (el i) (λ ρ' σ'=>pR g c ρ' σ' body (LQ (I (i+1)) Q) E) E)/\(∀ρ σ,I n ρ σ->Q .nx ρ σ)) E) (hh:∃r,c.frs=c.env::r)
  (hs:∀x,foldedSetIterable iter c.env x=pure x:=by intro _;rfl) :
  AX g c ρ σ (.For target iter body [] pos) Q E:=λ base Y X s H=>by
 have fr:c.env.frame.isSome=true:=by
  refine gH H.ok.frame λ e r L h1 h2 h3=>aS hh λ r' hr=>?_
  rw[h1]at hr;(injection hr with zq;subst zq)
  rw[h3];rfl
 refine wpAny_For (wpAny_mono (h base Y X s H) ?_ λ _ _ z=>z.nil) hs
 rintro bI aB ⟨bA,d,aM,aY,aZ,aJ,aL,n,el,S,I,src,i0,hS,step,eT⟩
 refine src.start aZ (hS _ _ _ i0) aL λ o It hf it0 T=>?_
 obtain⟨a,ha⟩:∃a,a=aB.heap.objs.size:=⟨_,rfl⟩
 rw[<-ha]
 have Qj:aB.heap.get? a=none:=by
  cases q:aB.heap.get? a with
  |none=>rfl
  |some o=>exact absurd (Heap.lt_size q) (by rw[ha];exact Nat.lt_irrefl _)
 have fa:=aZ.fresh Qj
 have V6:X a=none:=by
  cases q:X a with
  |none=>rfl
  |some o'=>rw[aY _ _ q]at fa;cases fa.1
 have nb:base.get? a=none:=by
  cases q:base.get? a with
  |none=>rfl
  |some o'=>rw[aZ.bx _ _ q]at fa;cases fa.1
 exact EV hk T aL hS step eT fa.1 fa.2.1 fa.2.2.1 nb (λ cJ a9 az s' l H' m q=>⟨az,.nx,cJ,a9,aY.trans l,H',m,trivial,q⟩) (λ v d cJ a9 az s' l H' m r q=>⟨az,.ret d,cJ,a9,aY.trans l,H',m,r,q⟩) (λ aB v s' m z=>lc H.ok fr z m hh)
  (aZ.push λ _ _ e=>Heap.get?_push_of_some _ e) fa.2.2.2 (by simp only[ha];exact Heap.get?_push_size _ hf) it0 (aJ.nil.trans (cf (t:=aB.toks))) i0
end
noncomputable def n6(ρ:Rh)(x:Str):Option D:=match ρ.lookup x with
 |some (_,o)=>o
 |none=>none
noncomputable def hX(tab:List (Str×D))(ρ:Rh):List (Str×NameKind)->Rh
 |[]=>[]
 |(x,.local)::r=>(x,.loc,none)::hX tab ρ r
 |(x,.free)::r=>(x,.glb,n6 ρ x)::hX tab ρ r
 |(x,.globalImplicit)::r=>(x,.glb,tab.lookup x)::hX tab ρ r
 |_::r=>hX tab ρ r
noncomputable def zE:Option (SK×Option D)->Bool
 |some (.loc,_)=>true
 |_=>false
noncomputable def eh(sc outer:Scope)(ρ:Rh):Bool:=sc.kind==.function&&decide (sc.names.map (·.1)).Nodup&&sc.names.all λ p=>p.1 != "__debug__" && p.1 != "__classdict__" && p.2 !=.cell&&(p.2 !=.free||(outer.names.lookup p.1==some .cell&&zE (ρ.lookup p.1)))
inductive Kc (sc outer:Scope)(ρ:Rh):Prop where
 |mk (k1:sc.kind=.function) (nd:(sc.names.map (·.1)).Nodup) (al:∀p∈sc.names,(p.1==("__debug__":Str))=false/\(p.1==("__classdict__":Str))=false/\p.2≠.cell/\(p.2=.free->outer.names.lookup p.1=some .cell/\zE (ρ.lookup p.1)=true))
theorem Ai(h:eh sc outer ρ=true):Kc sc outer ρ:=by
 simp only[eh,Bool.and_eq_true,beq_iff_eq,decide_eq_true_eq]at h
 refine⟨h.1.1,h.1.2,λ p hp=>?_⟩
 have:=A06 h.2 p hp
 simp only[Bool.and_eq_true,bne_iff_ne,ne_eq,Bool.or_eq_true,beq_iff_eq]at this
 exact jF (A05 this.1.1.1) (A05 this.1.1.2) this.1.2 (λ q=>this.2.resolve_left λ z=>z q)
class inductive oP:Rh->Rh->Prop where
 |nil:oP [] []
 |same {p:Str×SK×Option D}{r r':Rh} (h:oP r r'):oP (p::r) (p::r')
 |drop {x:Str}{o:Option D}{r r':Rh} (h:oP r r'):oP ((x,.loc,o)::r) ((x,.loc,none)::r')
theorem oP.names(h:oP ρ ρ'):ρ'.map (·.1)=ρ.map (·.1):=by
 induction h with
 |nil=>rfl
 |same _ ih=>simp[ih]
 |drop _ ih=>simp[ih]
theorem oP.mem(h:oP ρ ρ'):∀p∈ρ',p∈ρ\/(p.2=(.loc,none)/\∃o,(p.1,.loc,o)∈ ρ):=by
 induction h with
 |nil=>intro p hp;exact cu hp
 |same _ ih=>
  intro p hp
  rcases A03 hp with rfl|hp
  .exact .inl (.head _)
  .exact(ih p hp).imp (.tail _) λ⟨a,o,b⟩=>⟨a,o,.tail _ b⟩
 |drop _ ih=>
  intro p hp
  rcases A03 hp with rfl|hp
  .exact .inr ⟨rfl,_,.head _⟩
  .exact(ih p hp).imp (.tail _) λ⟨a,o,b⟩=>⟨a,o,.tail _ b⟩
theorem i9.fgt(h:i9 ρ x d ρ'):oP ρ cb->(∀o,(x,SK.loc,o)∈ cb->o=none)->(ρ.map (·.1)).Nodup->oP ρ' cb:=by
 induction h generalizing cb with
 |here=>
  intro f hn nd
  cases f with
  |same f=>
   have:=hn _ (.head _)
   subst this
   exact .drop f
  |drop f=>exact .drop f
 |there h ih=>
  intro f hn nd
  rw[List.map_cons,List.nodup_cons]at nd
  cases f with
  |same f=>exact .same (ih f (λ o q=>hn o (.tail _ q)) nd.2)
  |drop f=>exact .drop (ih f (λ o q=>hn o (.tail _ q)) nd.2)
section
variable {h h':Heap}
theorem aG.forget(H:aG g c base Y X ρ σ h)(f:oP ρ ρ'):aG g c base Y X ρ' σ h :=
 { H with
  nn:=by simp only[f.names];exact H.nn
  loc:=by
   refine aD H.loc λ m hn hb=>ad m hn (λ p hp=>?_)
   rcases f.mem p hp with hp|⟨e,o,hp⟩
   .exact hb p hp
   .obtain⟨x,k,ov⟩:=p
    (injection e with zq zr;subst zq zr)
    obtain⟨hd,⟨hk,_⟩|⟨hk,a,ez,ha,hc,_⟩⟩:=hb _ hp
    .exact⟨hd,.inl ⟨hk,λ d e=>by exact bJ e⟩⟩
    .exact⟨hd,.inr ⟨hk,a,ez,ha,hc,λ d e=>by exact bJ e⟩⟩ }
noncomputable def uy(Y:YT)(a:Addr)(o:Obj):YT:=λ b=>if b=a then some (o.cls,o.data)else Y b
theorem aG.addY(H:aG g c base Y X ρ σ h)(ap:X a=none/\Y a=none/\a∉c.os/\a∉eD σ)(ho:h.get? a=some o)(Qi:∀vs,o.data≠.fields vs):aG g c base (uy Y a o) X ρ σ h:=by
 have yb:∀b p,Y b=some p->uy Y a o b=some p:=λ b p e=>by
  have:b≠a:=λ q=>by simp only[q,ap.2.1]at e;exact bJ e
  exact(if_neg this).trans e
 have yn:∀b,b≠a->uy Y a o b=Y b:=λ b q=>if_neg q
 refine{ H with y:=λ b cl d e=>?_,yx:=λ b p e=>?_,fr:=λ e he=>?_,ow:=λ b hb=>?_,sx:=λ b hb=>?_,loc:=?_,yf:=λ b p e=>?_ }
 rotate_right
 .by_cases q:b=a
  .subst q;have:=(if_pos rfl).symm.trans e;(refine sj this λ zq=>?_;subst zq);exact Qi
  .exact H.yf b p ((yn b q).symm.trans e)
 .by_cases q:b=a
  .subst q;have:=(if_pos rfl).symm.trans e;cases this;exact dW o ho rfl rfl
  .exact H.y b cl d ((yn b q).symm.trans e)
 .by_cases q:b=a
  .rw[q];exact ap.1
  .exact H.yx b p ((yn b q).symm.trans e)
 .obtain⟨h1,L,h2,h3⟩:=H.fr e he
  exact⟨h1,L,h2,h3.imp id λ⟨cl,d,h4,h5⟩=>⟨cl,d,yb _ _ h4,h5⟩⟩
 .refine kU (H.ow b hb) λ h1 h2 h3 h4=>jF h1 h2 ((yn b λ q=>ap.2.2.1 (q▸hb)).trans h3) h4
 .exact⟨(H.sx b hb).1,(yn b λ q=>ap.2.2.2 (q▸hb)).trans (H.sx b hb).2⟩
 .refine aD H.loc λ m hn hb=>ad m hn (λ p hp=>?_)
  have B:=hb p hp
  obtain⟨x,sk,ov⟩:=p
  cases sk with
  |loc=>exact B
  |glb=>
   obtain⟨hd,hv|⟨hk,nN,hv⟩⟩:=B
   .exact⟨hd,.inl hv⟩
   .exact⟨hd,.inr ⟨hk,nN,λ d e=>let ⟨a,cl,v,h1,h2,h3⟩:=hv d e;⟨a,cl,v,h1,yb _ _ h2,h3⟩⟩⟩
theorem aG.subY(wK:aG g c base Y X' ρ' σ' h')(H:aG g c base (uy Y a o) X ρ σ h)(hY:Y a=none)(UO:∀v,o.data≠.cell v):aG g c base Y X ρ σ h:=by
 have yb:∀b p,Y b=some p->uy Y a o b=some p:=λ b p e=>by
  have:b≠a:=λ q=>by simp only[q,hY]at e;exact bJ e
  exact(if_neg this).trans e
 have yn:∀b,uy Y a o b=none->Y b=none:=λ b e=>by
  cases q:Y b with
  |none=>rfl
  |some p=>rw[yb _ _ q]at e;exact qF e
 refine{ H with yf:=wK.yf,y:=λ b cl d e=>H.y b cl d (yb _ _ e),yx:=λ b p e=>H.yx b p (yb _ _ e),fr:=wK.fr,ow:=λ b hb=>?_,sx:=λ b hb=>⟨(H.sx b hb).1,yn _ (H.sx b hb).2⟩,loc:=?_ }
 .refine kU (H.ow b hb) λ h1 h2 h3 h4=>jF h1 h2 (yn _ h3) h4
 .refine aD H.loc λ m hn hb=>ad m hn (λ p hp=>?_)
  have B:=hb p hp
  obtain⟨x,sk,ov⟩:=p
  cases sk with
  |loc=>exact B
  |glb=>
   obtain⟨hd,hv|⟨hk,nN,hv⟩⟩:=B
   .exact⟨hd,.inl hv⟩
   .refine⟨hd,.inr ⟨hk,nN,λ d e=>?_⟩⟩
    refine gH (hv d e) λ b cl v h1 h2 h3=>sR b cl v h1 ?_ h3
    by_cases q:b=a
    .subst q
     have:=(if_pos rfl).symm.trans h2
     injection this with this
     injection this with _ this
     exact absurd this (UO _)
    .exact(if_neg q).symm.trans h2
theorem sv(cells:List (Str×Addr))(env:Env)(he:env.cells=cells):∀(names:List (Str×NameKind))(cs:List (Str×Addr)),(∀x∈names,x.2=.free->∃a,cells.lookup x.1=some a)->(∀x a,cs.lookup x=some a->cells.lookup x=some a)->
  ∃Jo,(forIn names cs λ(x:Str×NameKind) (cs:List (Str×Addr))=>match x with
    |(name,kind)=>if(kind==NameKind.free)=true then do
      let l<-cellOf env name
      pure (ForInStep.yield ((name,l)::cs))
     else pure (ForInStep.yield cs):Sem (List (Str×Addr)))=pure Jo/\(∀x a,Jo.lookup x=some a->cells.lookup x=some a)/\(∀x,(cs.lookup x).isSome=true\/(x,NameKind.free)∈ names->(Jo.lookup x).isSome=true):=by
 intro zl
 induction zl with
 |nil=>
  intro cs _ h2
  exact⟨cs,rfl,h2,λ x q=>q.elim id λ q=>cu q⟩
 |cons zx r ih=>
  obtain⟨n,k⟩:=zx
  intro cs h1 h2
  by_cases hk:k=.free
  .subst hk
   refine aS (h1 _ (.head _) rfl) λ a ha=>?_
   obtain⟨Jo,e1,e2,e3⟩:=ih ((n,a)::cs) (λ x q=>h1 x (.tail _ q)) (λ x b e=>by
    rw[List.lookup_cons]at e
    by_cases q:x=n
    .subst q;rw[beq_self_eq_true]at e;(refine sj e λ zq=>?_;subst zq);exact ha
    .rw[A05 q]at e;exact h2 x b e)
   refine dW Jo ?_ e2 (λ x q=>e3 x ?_)
   .rw[List.forIn_cons]
    have hc:cellOf env n=pure a:=by unfold cellOf;simp only[he,ha]
    dsimp only
    rw[if_pos (beq_self_eq_true _),hc]
    exact e1
   .rw[List.lookup_cons]
    rcases q with q|q
    .refine .inl ?_
     by_cases z:x=n
     .subst z;rw[beq_self_eq_true];rfl
     .rw[A05 z];exact q
    .rcases A03 q with q|q
     .cases q;refine .inl ?_;rw[beq_self_eq_true];rfl
     .exact .inr q
  .refine cG (ih cs (λ x q=>h1 x (.tail _ q)) h2) λ Jo e1 e2 e3=>dW Jo ?_ e2 (λ x q=>e3 x ?_)
   .rw[List.forIn_cons]
    have:(k==NameKind.free)=false:=by simpa using hk
    dsimp only
    rw[this,if_neg Bool.false_ne_true,pure_bind]
    exact e1
   .rcases q with q|q
    .exact .inl q
    .rcases A03 q with q|q
     ·(injection q with zq zr;subst zq zr);exact absurd rfl hk
     .exact .inr q
end
abbrev FF:D->Prop:=λ _=>False
theorem EP.ff{p:Prop}(h:EP g c O base Y s FF v s'):p :=
 let ⟨_,_,_,_,_,_,f,_⟩:=h;f.elim
noncomputable def tQ(ifs:List Expr)(env:Env):Sem Bool:=forIn ifs true λ c r=>if r=true then do let ok<-isTrue c env (eval c env);pure (ForInStep.yield ok)else pure (ForInStep.yield r)
def Gy(g:c8)(c:Cx)(ρ:Rh)(σ:aN)(ifs:List Expr)(Q:Bool->aN->Prop)(E:D->Prop):Prop :=
 ∀base Y X s,aG g c base Y X ρ σ s.heap->wpAny (M g) c.A (tQ ifs c.env) (PB g c base Y X ρ s Q) (EP g c c.os base Y s E) s
theorem F5(q:Q true σ):Gy g c ρ σ [] Q E:=λ base Y X s H=>wpAny_tests_nil (kn H q)
theorem F4(h:AT g c ρ σ t Q E):Gy g c ρ σ [t] Q E:=λ base Y X s H=>wpAny_tests_one (h base Y X s H)
section
variable (Mo:Model)(A:Around)(env:Env)(R:Result->Shared->Prop)
variable (I:Nat->Shared->Prop)(n:Nat)
variable (acc:Value)
def VY(x:Value)(s:Shared):Prop:=wpAny Mo A (call (.builtin "list.append") [acc,x]) (λ _=>O1 I n) (tN Mo A env R) s
variable (elt:Expr)
def VZ(ok:Bool)(s:Shared):Prop:=if ok=true then wpAny Mo A (eval elt env) (VY Mo A env R I n acc) (tN Mo A env R) s else O1 I n s
variable (ifs:List Expr)
def V0(s:Shared):Prop:=wpAny Mo A (tQ ifs env) (VZ Mo A env R I n acc elt) (tN Mo A env R) s
variable (target:Expr)
def V1(v:Value)(s:Shared):Prop:=wpAny Mo A (assign target env v) (λ _=>V0 Mo A env R I n acc elt ifs) (tN Mo A env R) s
variable (it:Value)
def V2(r:Option Value)(s:Shared):Prop:=match r with
 |none=>R (.ok .next) s
 |some v=>wpAny Mo A (letOwnedTupleGo target it v) (λ _=>V1 Mo A env R I n acc elt ifs target v) (tN Mo A env R) s
end
section
variable {s:Shared}
theorem vt(I:Nat->Shared->Prop)
  (turn:∀n s,I n s->wpAny (model prog w) A (pyNext it) (V2 (model prog w) A env R I n acc elt ifs target it) (tN (model prog w) A env R) s)
  (n:Nat) (h:I n s) :
  codeAny (model prog w) A (.compLoop (.ListComp elt [⟨target,iter,ifs,0⟩] scope pos) 0 it acc env) R s:=by
 refine codeAny_loop rfl I (λ n s hI=>?_) n h
 refine(?_:wpAny _ A ((compTurn (.ListComp elt [⟨target,iter,ifs,0⟩] scope pos) 0 it acc env).onRaise (λ x=>do noteFrame x env;theTreesLotGoes x)) _ _ s)
 refine wpAny_noted ?_
 rw[compTurn_list]
 refine wpAny_bind (wpAny_standAt (wpAny_bind (wpAny_mono (turn n s hI) (λ r aB a7=>?_) λ _ _ h'=>h')))
 cases r with
 |none=>exact wpAny_pure a7
 |some v=>
  refine wpAny_bind (wpAny_mono a7 (λ _ Rn a7=>?_) λ _ _ h'=>h')
  refine wpAny_bind (wpAny_mono a7 (λ _ aP a8=>wpAny_bind (wpAny_mono a8 (λ ok bu cB=>?_) λ _ _ h'=>h')) λ _ _ h'=>h')
  cases ok with
  |false=>exact wpAny_pure ⟨rfl,cB⟩
  |true=>
   exact wpAny_bind (wpAny_bind (wpAny_mono cB (λ x dT de=>wpAny_bind (wpAny_mono de (λ _ rY iC=>wpAny_pure (wpAny_pure ⟨rfl,iC⟩)) λ _ _ h'=>h')) λ _ _ h'=>h'))
end
theorem yX:∀{ns:List (Str×NameKind)}{p:Str×SK×Option D},p∈hX tab ρ ns ->
  (p.2=(.loc,none)/\(p.1,NameKind.local)∈ ns)\/(p.2=(.glb,n6 ρ p.1)/\(p.1,NameKind.free)∈ ns)\/(p.2=(.glb,tab.lookup p.1)/\(p.1,NameKind.globalImplicit)∈ ns):=by
 intro zl
 induction zl with
 |nil=>
  intro bc cM
  exact cu cM
 |cons zh zt ih=>
  intro bc cM
  obtain⟨x,k⟩:=zh
  have up:bc∈hX tab ρ zt->(bc.2=(.loc,none)/\(bc.1,NameKind.local)∈ (x,k)::zt)\/(bc.2=(.glb,n6 ρ bc.1)/\(bc.1,NameKind.free)∈ (x,k)::zt)\/(bc.2=(.glb,tab.lookup bc.1)/\(bc.1,NameKind.globalImplicit)∈ (x,k)::zt):=λ cM=>(ih cM).imp (λ iM=>by refine aj iM λ a b=>?_;exact⟨a,.tail (x,k) b⟩) λ cM=>cM.imp (λ iM=>by refine aj iM λ a b=>?_;exact⟨a,.tail (x,k) b⟩) λ⟨a,b⟩=>⟨a,.tail (x,k) b⟩
  cases k with
  |«local»=>
   rcases A03 cM with rfl|cM
   .exact .inl ⟨rfl,.head _⟩
   .exact up cM
  |free=>
   rcases A03 cM with rfl|cM
   .exact .inr (.inl ⟨rfl,.head _⟩)
   .exact up cM
  |globalImplicit=>
   rcases A03 cM with rfl|cM
   .exact .inr (.inr ⟨rfl,.head _⟩)
   .exact up cM
  |_=>exact up cM
theorem sI:∀{ns:List (Str×NameKind)},((hX tab ρ ns).map (·.1)).Sublist (ns.map (·.1)):=by
 intro zl
 induction zl with
 |nil=>
  exact .slnil
 |cons zx r ih=>
  obtain⟨x,k⟩:=zx
  have ih:=ih
  cases k with
  |«local»=>exact ih.cons_cons _
  |free=>exact ih.cons_cons _
  |globalImplicit=>exact ih.cons_cons _
  |_=>exact ih.cons _
theorem iA{env:Env}:∀{names:List (Str×NameKind)},names.lookup x=some .free ->
  (names.map λ(n,k)=>if(k==NameKind.free&&env.scope.kind==.function&&env.kindOf n==some .cell)then(n,NameKind.cell)else(n,k)).lookup x=some .cell \/
  (names.map λ(n,k)=>if(k==NameKind.free&&env.scope.kind==.function&&env.kindOf n==some .cell)then(n,NameKind.cell)else(n,k)).lookup x=some .free:=by
 intro zl
 induction zl with
 |nil=>
  intro bc
  exact bJ bc
 |cons zh zt ih=>
  intro bc
  obtain⟨n,k⟩:=zh
  have ih:=ih
  refine(?_:List.lookup x ((if(k==NameKind.free&&env.scope.kind==.function&&env.kindOf n==some .cell)=true then(n,NameKind.cell)else(n,k))::_)=_\/List.lookup x ((if(k==NameKind.free&&env.scope.kind==.function&&env.kindOf n==some .cell)=true then(n,NameKind.cell)else(n,k))::_)=_)
  rw[List.lookup_cons]at bc
  by_cases q:x=n
  .subst q
   rw[beq_self_eq_true]at bc
   (refine sj bc λ zq=>?_;subst zq)
   split
   .exact .inl (by simp only[List.lookup_cons,beq_self_eq_true])
   .exact .inr (by simp only[List.lookup_cons,beq_self_eq_true])
  .have qq:=A05 q
   rw[qq]at bc
   split
   .simp only[List.lookup_cons,qq];exact ih bc
   .simp only[List.lookup_cons,qq];exact ih bc
theorem h9{env:Env}:∀{names:List (Str×NameKind)},names.lookup x=some .globalImplicit ->
  (names.map λ(n,k)=>if(k==NameKind.free&&env.scope.kind==.function&&env.kindOf n==some .cell)then(n,NameKind.cell)else(n,k)).lookup x=some .globalImplicit:=by
 intro zl
 induction zl with
 |nil=>
  intro bc
  exact bJ bc
 |cons zh zt ih=>
  intro bc
  obtain⟨n,k⟩:=zh
  have ih:=ih
  refine(?_:List.lookup x ((if(k==NameKind.free&&env.scope.kind==.function&&env.kindOf n==some .cell)=true then(n,NameKind.cell)else(n,k))::_)=_)
  rw[List.lookup_cons]at bc
  by_cases q:x=n
  .subst q
   rw[beq_self_eq_true]at bc
   (refine sj bc λ zq=>?_;subst zq)
   rw[if_neg (by exact Bool.false_ne_true)]
   simp only[List.lookup_cons,beq_self_eq_true]
  .have qq:=A05 q
   rw[qq]at bc
   split
   .simp only[List.lookup_cons,qq];exact ih bc
   .simp only[List.lookup_cons,qq];exact ih bc
theorem n7{ρ:Rh}{x:Str}(h:ρ.lookup x=some (k,o)):(x,k,o)∈ ρ:=by
 induction ρ with
 |nil=>exact bJ h
 |cons p r ih=>
  obtain⟨y,z⟩:=p
  rw[List.lookup_cons]at h
  by_cases q:x=y
  .subst q;rw[beq_self_eq_true]at h;(refine sj h λ zq=>?_;subst zq);exact .head _
  .rw[A05 q]at h;exact .tail _ (ih h)
section
variable {s s':Shared}
noncomputable def Oq(c:Cx)(scope:Scope)(cl:List (Str×Addr))(C:Addr):Cx:={ A:=c.A,env:=compEnvC scope cl C c.env,own:=[],frs:=c.frs,k:=c.k }
theorem vu(H:aG g c base Y X ρ σ s.heap)(jq:eh scope c.env.scope ρ=true)(hρ:hX g.tab ρ scope.names=ρc)(sX:∀x a,cl.lookup x=some a->c.env.cells.lookup x=some a)(sW:∀x,(x,NameKind.free)∈ scope.names->(cl.lookup x).isSome=true)(hC:s.heap.get? C=none)(hCb:c.env.locals<C)(ln:h'.Ns C m)(kp:∀b o,s.heap.get? b=some o->h'.get? b=some o):aG g (Oq c scope cl C) base (tO c Y s.heap) X ρc σ h':=by
 obtain⟨hk,ic,zX⟩:=Ai jq
 have fr:=H.fresh hC
 have O:=H.ok
 refine H.callee ⟨O.frames,hk,O.glob,O.blt,O.room,O.units,O.hand,λ p hp=>(cu hp),O.frame⟩ kp (λ e he=>.inl he) (λ b hb=>?_) (List.nodup_cons.mpr ⟨List.not_mem_nil,.nil⟩) ?_ ?_ ?_
 .obtain rfl:b=C:=A04 hb
  refine gH ln λ o es ep e ed _=>⟨hC,o,e,λ vs q=>by rw[ed]at q;cases q⟩
 .refine ad m ln (λ p hp=>?_)
  subst hρ
  obtain⟨x,sk,ov⟩:=p
  rcases yX hp with⟨e1,e2⟩|⟨e1,e2⟩|⟨e1,e2⟩
  ·(injection e1 with zq zr;subst zq zr)
   refine cI (zX _ e2) λ h1 h2 _=>⟨h1,.inl ⟨lookup_relabel_local (bW ic e2),λ d e=>by exact bJ e⟩⟩
  .obtain⟨rfl,rfl⟩:sk=.glb/\ov=n6 ρ x:=by injection e1 with a b;exact⟨a,b⟩
   refine kU (zX _ e2) λ h1 h2 _ h3=>aj (h3 rfl) λ h4 h5=>⟨h1,.inr ⟨iA (bW ic e2),h2,λ d e=>?_⟩⟩
   refine aD H.loc λ m' lu mB=>?_
   dsimp only at e h4 h5
   unfold n6 at e
   cases q:ρ.lookup x with
   |none=>rw[q]at e;exact bJ e
   |some z=>
    obtain⟨k',o'⟩:=z
    rw[q]at e h5
    dsimp only at e
    subst e
    cases k' with
    |glb=>exact dJ h5
    |loc=>
     refine aj (mB _ (n7 q)) λ _ ak=>?_;obtain⟨mw,_⟩|⟨mw,a,ez,ha,⟨oc,JM,Qy⟩,hv⟩:=ak
     .simp only[show c.env.kindOf x=c.env.scope.names.lookup x from rfl,h4]at mw;cases mw
     .refine aD (hv d rfl) λ v ak rv=>?_;subst ak
      refine aS (A12 (sW x e2)) λ b hb=>?_
      have Sa:=sX _ _ hb
      simp only[O.ownc _ ha]at Sa
      (refine sj Sa λ zq=>?_;subst zq)
      refine sR _ oc.cls v hb ?_ rv
      have hm:a∈c.os:=.tail _ (A11 ⟨_,ha,rfl⟩)
      exact(if_pos hm).trans (by simp only[JM,<-Qy];rfl)
  .obtain⟨rfl,rfl⟩:sk=.glb/\ov=g.tab.lookup x:=by injection e1 with a b;exact⟨a,b⟩
   refine aj (zX _ e2) λ h1 _=>⟨h1,.inl ⟨h9 (bW ic e2),λ d e=>H.gd.nm x d e⟩⟩
 .exact Nat.le_of_lt (Nat.lt_of_le_of_lt H.abv hCb)
 .subst hρ;exact ic.sublist sI
end
def uw(g:c8)(c:Cx)(ρ ρc:Rh)(target elt:Expr)(ifs:List Expr)(d:D)(aM:aN)(eT:List D->aN->Prop):Prop :=
 ∃(n:Nat) (el:Nat->D) (S:aN->Prop) (I:Nat->List D->aN->Prop),Fe g d n el S/\n<=1000000/\I 0 [] aM/\(∀i acc σ,I i acc σ->S σ/\∀p,S (p::σ))/\
  (∀c' x i acc σ,c'.k=c.k->i<n->acc.length<=i->I i acc σ->AA g c' ρc ((x,.list acc)::σ) target (el i) (λ ρ' σ'=>oP ρ' ρc/\Gy g c' ρ' σ' ifs (λ b σ''=>
   (b=true->AE g c' ρ' σ'' elt (λ d bb=>∃bq,bb=(x,.list acc)::bq/\I (i+1) (acc++[d]) bq) FF)/\(b=false->∃bq,σ''=(x,.list acc)::bq/\I (i+1) acc bq)) FF) FF)/\
  (∀acc σ,I n acc σ->eT acc σ)
section
variable {s aB:Shared}
theorem mV(H:aG g c base Y X ρ σ s.heap)(jq:eh scope c.env.scope ρ=true):∃cl,closureFor scope c.env=pure cl/\(∀x a,cl.lookup x=some a->c.env.cells.lookup x=some a)/\(∀x,(x,NameKind.free)∈ scope.names->(cl.lookup x).isSome=true):=by
 obtain⟨hk,ic,JP⟩:=Ai jq
 obtain⟨cs,e,h1,h2⟩:=sv c.env.cells c.env rfl scope.names [] (λ x hx hf=>by
  refine aj ((JP x hx).2.2.2 hf) λ h4 h5=>?_
  cases q:ρ.lookup x.1 with
  |none=>rw[q]at h5;exact dJ h5
  |some z=>
   obtain⟨k',o'⟩:=z
   rw[q]at h5
   cases k' with
   |glb=>exact dJ h5
   |loc=>
    refine aD H.loc λ m' lu mB=>?_
    obtain⟨_,⟨mw,_⟩|⟨mw,a,ez,ha,_⟩⟩:=mB _ (n7 q)
    .simp only[show c.env.kindOf x.1=c.env.scope.names.lookup x.1 from rfl,h4]at mw;cases mw
    .exact⟨a,H.ok.ownc _ ha⟩) (λ x a e=>by exact bJ e)
 refine dW cs ?_ h1 (λ x hx=>h2 x (.inr hx))
 exact(congrArg (λ t:Sem (List (Str×Addr))=>t >>=λ l=>pure l) e).trans (pure_bind cs _)
inductive Gu (g:c8)(c:Cx)(base:Heap)(Y:YT)(X:XT)(ρ:Rh)(I:Nat->List D->aN->Prop)(It:Nat->Obj->Prop)(n:Nat)(a x:Addr)(s m:Nat×Shared):Prop
 |mk {i:Nat}{acc:List D}{az:XT}{a9:aN}{cq:Obj} (e:m.1=n-i) (hi:i<=n) (Ol:acc.length<=i) (l:fE X az) (H:aG g c base Y az ρ ((x,.list acc)::a9) m.2.heap) (hx:az a=none) (hf:a∉eD ((x,.list acc)::a9)) (ho:m.2.heap.get? a=some cq) (jJ:It i cq) (st:dR [] Y s.2 m.2) (ii:I i acc a9)
set_option tactic.hygienic true in
theorem Ah{I:Nat->List D->aN->Prop}
  (hk:0<c.k) (T:lF g v d n el S It) (aL:bz (Pm g) X v d) (hS:∀i acc σ,I i acc σ->S σ/\∀p,S (p::σ))
  (step:∀i acc σ,i<n->acc.length<=i->I i acc σ->AA g c ρ ((x,.list acc)::σ) target (el i) (λ ρ' σ'=>oP ρ' ρ/\Gy g c ρ' σ' ifs (λ b σ''=>
   (b=true->AE g c ρ' σ'' elt (λ d bb=>∃bq,bb=(x,.list acc)::bq/\I (i+1) (acc++[d]) bq) FF)/\(b=false->∃bq,σ''=(x,.list acc)::bq/\I (i+1) acc bq)) FF) FF) (hz:n<=1000000)
  (ax:X a=none) (Ya:Y a=none) (aO:a∉c.os) (nb:base.get? a=none)
  (done:∀acc a9 az s',fE X az->aG g c base Y az ρ ((x,.list acc)::a9) s'.heap->dR [] Y s s'->I n acc a9->R (.ok .next) s')
  (H:aG g c base Y X ρ ((x,.list [])::σ) s.heap) (af:a∉eD ((x,.list [])::σ)) (ho:s.heap.get? a=some o) (it0:It 0 o) (i0:I 0 [] σ) :
  codeAny (M g) c.A (.compLoop (.ListComp elt [⟨target,iter,ifs,0⟩] scope pos) 0 (.ref a) (.ref x) c.env) R s:=by
 refine vt (A:=c.A) (λ m aP=>Gu g c base Y X ρ I It n a x (0,s) (m,aP)) ?_ n (.mk rfl (Nat.zero_le _) (Nat.le_refl _) (.refl X) H ax af ho it0 (.refl _ _ _) i0)
 intro m aP z
 obtain⟨e,hi,Ol,aU,uv,lj,lz,zU,ly,au,ii⟩:=z
 rename_i i acc az a9 cq
 have ap:az a=none/\Y a=none/\a∉c.os/\a∉eD ((x,.list acc)::a9):=⟨lj,Ya,aO,lz⟩
 by_cases hn:i<n
 .refine T.next uv hk ((hS _ _ _ ii).2 _) (aL.mono aU) zU ly lj lz hn λ w h' tk DU pn zT iZ MK=>T.go (i:=i+1) zT iZ ?_
  have OV:=uv.apart ap MK
  refine aj (OV.addX ap zT) λ bt fQ=>wpAny_mono (step i acc a9 hn Ol ii base _ _ { aP with heap:=h',toks:=tk } w fQ (pn.mono bt)) ?_ (λ v s' z=>z.ff)
  rintro _ bu ⟨dH,ij,bb,eG,ja,c9,fg,q⟩
  refine wpAny_mono (q base _ dH bu ja) ?_ (λ v s' z=>z.ff)
  rintro b dT ⟨iE,bq,oa,j9,hU,fh,dD⟩
  have pl:=T.plain _ _ iZ
  have mm:=((au.trans (.but List.not_mem_nil Ya MK)).trans c9).trans hU.nil
  have EJ:=oa _ _ (eG _ _ (bT ..))
  have lx:∀b o,X b=some o->iE b=some o:=λ b o e=>oa _ _ (eG _ _ (bt _ _ (aU _ _ e)))
  have again:∀{nQ:XT}{Fb:List D}{gO:aN}{s':Shared},fE iE nQ->aG g c base Y nQ ij ((x,.list Fb)::gO) s'.heap->dR [] Y dT s'->Fb.length<=i+1->I (i+1) Fb gO ->
    O1 (λ m aP=>Gu g c base Y X ρ I It n a x (0,s) (m,aP)) m s':=by
   intro nQ Fb gO s' Dh tM o9 RC hI
   have EJ:=Dh _ _ EJ
   refine ad (n-(i+1)) (by show _<m;simp only[show m=n-i from e];exact Kh ‹_›) (.mk (az:=iN nQ a) rfl hn RC (λ b o e=>fT (Dh _ _ (lx b o e)) λ q=>?_) ((tM.forget fg).minus EJ pl ⟨nb,H.nex ax⟩) (nV ..) (λ q=>?_) (tM.x _ _ EJ) iZ (mm.trans o9) hI)
   .simp only[q,ax]at e;exact bJ e
   .have:=(tM.sx a q).1
    rw[EJ]at this;exact qF this
  cases b
  .refine aD (dD rfl) λ gO ak hI=>?_;subst ak
   exact again (.refl _) j9 (.refl _ _ _) (Nat.le_succ_of_le Ol) hI
  .refine wpAny_mono (fh rfl base _ iE dT j9) ?_ (λ v s' z=>z.ff)
   rintro w' rY ⟨nQ,d',gO,Dh,tM,o9,vL,Fk,rfl,hI⟩
   have VL:AC g 0 (.bi "list.append") [.ref x,d'] ((x,.list acc)::Fk) (λ _ σ'=>σ'=(x,.list (acc++[d']))::Fk) FF:=qu .here (by lia) rfl
   refine wpAny_mono (VL c base _ nQ ij rY (.builtin "list.append") [.ref x,w'] (Nat.zero_le _) tM (.bi _) (.cons (.ref x) (.cons vL .nil))) ?_ (λ v s' z=>z.ff)
   rintro _ T1 ⟨VM,_,_,QF,Ka,QC,_,rfl⟩
   exact again (Dh.trans QF) Ka (o9.nil.trans QC.nil) (by rw[List.length_append];exact Nat.succ_le_succ Ol) hI
 .obtain rfl:i=n:=by lia
  refine T.done uv hk ((hS _ _ _ ii).2 _) (aL.mono aU) zU ly lj lz λ h' tk MK=>done acc a9 az { aP with heap:=h',toks:=tk } aU (uv.apart ap MK) (au.trans (.but List.not_mem_nil Ya MK)) ii
theorem qr(nL:0<c.k){bI:Value}{RR:Value->Addr->Result->Shared->Prop}(jq:eh scope c.env.scope ρ=true)(hρ:hX g.tab ρ scope.names=ρc)
  (sX:∀x a,cl.lookup x=some a->c.env.cells.lookup x=some a) (sW:∀x,(x,NameKind.free)∈ scope.names->(cl.lookup x).isSome=true) (mA:∀y∈scope.names,y.2≠.cell) (eC:scope.kind=.function)
  (aZ:aG g c base Y X ρ aM s.heap) (aL:bz (Pm g) X bI d) (W:uw g c ρ ρc target elt ifs d aM eT)
  (hRR:∀X' acc σ' x C s' m,fE X X'->aG g c base Y X' ρ ((x,.list acc)::σ') s'.heap->dR c.os Y s s'->(X' C=none/\Y C=none/\C∉c.os/\C∉eD ((x,.list acc)::σ'))->s'.heap.Ns C m->eT acc σ'->RR (.ref x) C (.ok .next) s') :
  wpAny (M g) c.A (pyIter bI) (λ it aP=>wpAny (M g) c.A (newList []) (λ acc bu=>wpAny (M g) c.A (newFunctionEnv scope c.env.globals cl [] c.env.qual none .none (some c.env)) (λ cenv dT=>
   codeAny (M g) c.A (.compStart (.ListComp elt [⟨target,iter,ifs,0⟩] scope pos) 0 it acc { cenv with scope:=relabel scope c.env }) (RR acc cenv.locals) dT) E bu) E aP) E s:=by
 obtain⟨n,el,S,I,src,hz,i0,hS,step,EN⟩:=W
 refine src.start aZ (hS _ _ _ i0).1 aL λ o It hf it0 T=>?_
 obtain⟨a,ha⟩:∃a,a=s.heap.objs.size:=⟨_,rfl⟩
 rw[<-ha]
 have nn:∀(h:Heap),h.get? h.objs.size=none:=λ h=>by
  cases q:h.get? h.objs.size with
  |none=>rfl
  |some o=>exact absurd (Heap.lt_size q) (Nat.lt_irrefl _)
 have fa:=aZ.fresh (ha▸nn s.heap)
 refine wpAny_newObj_type ?_ (by exact Nat.zero_le _)
 have am:=aZ.push (h':=s.heap.push o) λ _ _ e=>Heap.get?_push_of_some _ e
 have jI:(s.heap.push o).get? a=some o:=by rw[ha];exact Heap.get?_push_size _ hf
 generalize hh2:s.heap.push o=h2 at *
 have fx:=am.fresh (nn h2)
 have cD:=am.pushS (n:=0) (vs:=[]) (ds:=[]) .nil
 have jH:(h2.push (seqObj "list" ([]:List Value).toArray 0)).get? a=some o:=Heap.get?_push_of_some _ jI
 have k3:∀b o,s.heap.get? b=some o->(h2.push (seqObj "list" ([]:List Value).toArray 0)).get? b=some o:=λ b o e=>Heap.get?_push_of_some _ (hh2▸Heap.get?_push_of_some _ e)
 have RB:a≠h2.objs.size:=λ q=>by simp only[q,nn h2]at jI;exact bJ jI
 generalize hxx:h2.objs.size=x at *
 have UM:({ cls:=.type "list",dict:=none,data:=.seq ([]:List Value).toArray }:Obj)=seqObj "list" ([]:List Value).toArray 0:=rfl
 generalize hh3:h2.push (seqObj "list" ([]:List Value).toArray 0)=h3 at *
 refine wpAny_newFunctionEnv mA (by intro y hy;simp at hy) (λ de ln JK=>?_) eC
 have kp:∀b o,h3.get? b=some o->de.get? b=some o:=λ b o e=>(JK.2 b λ q=>by simp only[q,nn h3]at e;exact bJ e).trans (Heap.get?_push_of_some _ e)
 have hLC:c.env.locals<h3.objs.size:=by
  refine aj (cD.ow c.env.locals (.head _)) λ il _=>?_;obtain⟨o',nr,_⟩:=il
  exact Heap.lt_size nr
 have fC:=cD.fresh (nn h3)
 have HC:aG g (Oq c scope cl h3.objs.size) base (tO c Y h3) X ρc ((x,.list [])::aM) de:=vu (s:={ s with heap:=h3 }) cD jq hρ sX sW (nn h3) hLC ln kp
 have Ya:tO c Y h3 a=none:=(if_neg fa.2.2.1).trans fa.2.1
 have aC:a∉(Oq c scope cl h3.objs.size).os:=λ q=>by
  have:a=h3.objs.size:=A04 q
  simp only[this,nn h3]at jH;exact bJ jH
 have af:a∉eD ((x,.list [])::aM):=λ q=>by
  rcases A03 (show a∈x::eD aM from q)with q|q
  .exact RB q
  .exact fa.2.2.2 q
 have nb:base.get? a=none:=by
  cases q:base.get? a with
  |none=>rfl
  |some o'=>simp only[aZ.bx _ _ q]at fa;cases fa.1
 have oC:=HC.ow h3.objs.size (.head _)
 have loop:codeAny (M g) c.A (.compLoop (.ListComp elt [⟨target,iter,ifs,0⟩] scope pos) 0 (.ref a) (.ref x) (compEnvC scope cl h3.objs.size c.env)) (RR (.ref x) h3.objs.size) { s with heap:=de,toks:=s.toks+([]:List (Str×Value)).length } :=
  Ah (c:=Oq c scope cl h3.objs.size) (s:={ s with heap:=de,toks:=s.toks+([]:List (Str×Value)).length }) nL T aL hS (λ i acc σ h1 h2 h3=>step _ x i acc σ rfl h1 h2 h3) hz fa.1 Ya aC nb (λ acc a9 az s' l H m ii=>by
   have oC:=H.ow h3.objs.size (.head _)
   refine aD H.loc λ m' lu _=>hRR az acc a9 x h3.objs.size s' m' l (aG.back (s:={ s with heap:=h3 }) cD l H) ((dR.ext (t:=s.toks) k3).trans (lL (s:={ s with heap:=h3 }) cD (aB:={ s with heap:=de,toks:=s.toks+([]:List (Str×Value)).length }) ⟨de,_,rfl⟩ kp m)) ⟨oC.2.1,fC.2.1,fC.2.2.1,oC.2.2.2⟩ lu (EN _ _ ii)) HC af (kp _ _ jH) it0 i0
 exact codeAny_compStart_list loop (T.self (kp _ _ jH) it0 loop)
end
section
variable {E:D->Prop}
theorem jS(h:eh sc outer ρ=true):(∀y∈sc.names,y.2≠.cell)/\sc.kind=.function/\(∀y∈sc.names,y.2=.local->sc.names.lookup y.1=some .local):=by
 simp only[eh,Bool.and_eq_true,beq_iff_eq,decide_eq_true_eq]at h
 refine aj h λ il JP=>?_;obtain⟨hk,ic⟩:=il
 refine eN (λ y hy=>?_) hk (λ y hy e=>?_)
 .have:=A06 JP y hy
  simp only[Bool.and_eq_true,bne_iff_ne,ne_eq,Bool.or_eq_true,beq_iff_eq]at this
  exact this.1.2
 .obtain⟨a,b⟩:=y
  subst e
  exact bW ic hy
theorem F9(nL:0<c.k)(outer:Scope)(ho:c.env.scope=outer)(jq:eh scope outer ρ=true)(hρ:hX g.tab ρ scope.names=ρc)
  (h:AE g c ρ σ iter (λ d aM=>uw g c ρ ρc target elt ifs d aM (λ acc σ'=>Q (.list acc) σ')) E)
  (hs:∀x,foldedSetIterable iter c.env x=pure x:=by intro _;rfl):AE g c ρ σ (.ListComp elt [⟨target,iter,ifs,0⟩] scope pos) Q E:=λ base Y X s H=>by
 subst ho
 refine cI (jS jq) λ mA eC lq=>cG (mV H jq) λ cl qX sX sW=>wpAny_comprehension_free (use:=none) rfl hs qX eC lq (wpAny_mono (h base Y X s H) ?_ λ _ _ z=>z)
 rintro bI aB ⟨bA,d,aM,aY,aZ,aJ,aL,W⟩
 refine qr nL jq hρ sX sW mA eC aZ aL W ?_
 intro X' acc σ' x C s' m l' H' st ap hn q
 refine ad m hn (λ h' JK=>?_)
 have k:∀b o,b≠C->s'.heap.get? b=some o->h'.get? b=some o:=λ b o hb e=>(JK.2 b hb).trans e
 have am:=H'.apart ap k
 refine cG (am.freeze (.list .here (.refl _)) (.ref x)) λ az aU cD eA=>⟨az,.list acc,σ',aY.trans (l'.trans aU),cD,aJ.trans (st.trans (.but (t:=s'.toks) ap.2.2.1 ap.2.1 k)),eA,q⟩
theorem m8(nL:0<c.k)(outer:Scope)(ho:c.env.scope=outer)(jq:eh scope outer ρ=true)(hρ:hX g.tab ρ scope.names=ρc)
  (UD:swapsWith (.ListComp elt [⟨target,iter,ifs,0⟩] scope pos) (some (.Name y py)) spos.line c.env=pure true)
  (h:AE g c ρ σ iter (λ d aM=>uw g c ρ ρc target elt ifs d aM (λ acc σ'=>∃ρ',i9 ρ y (.list acc) ρ'/\Q .nx ρ' σ')) E)
  (hs:∀x,foldedSetIterable iter c.env x=pure x:=by intro _;rfl):AX g c ρ σ (.Assign [.Name y py] (.ListComp elt [⟨target,iter,ifs,0⟩] scope pos) spos) Q E:=λ base Y X s H=>by
 subst ho
 refine cI (jS jq) λ mA eC lq=>cG (mV H jq) λ cl qX sX sW=>?_
 simp only[exec_Assign_Name_used _ _ _ _ UD]
 refine wpAny_bind (wpAny_standAt (wpAny_bind ?_))
 refine wpAny_bind (wpAny_mono (wpAny_comprehension_free (use:=some (assign (.Name y py) c.env)) (Q:=λ _ s'=>PF g c base Y X s Q .next s') rfl hs qX eC lq
  (wpAny_mono (h base Y X s H) ?_ λ _ _ z=>z.nil)) (λ _ s' hq=>wpAny_pure (wpAny_pure hq)) λ _ _ e=>e)
 rintro bI aB ⟨bA,d,aM,aY,aZ,aJ,aL,W⟩
 refine qr nL jq hρ sX sW mA eC aZ aL W ?_
 intro X' acc σ' x C s' m l' H' st ap hn ⟨bY,hp,q⟩
 refine kT hn λ oC es ep hoC hdC hkC hfC=>?_
 have HY:=H'.addY ap hoC λ vs q=>by rw[hdC]at q;cases q
 refine cG (HY.freeze (.list .here (.refl _)) (.ref x)) λ az aU cD eA=>wpAny_assign_Name (eU cD eA hp λ de t fQ=>?_)
 refine cG (fQ.y C _ _ (if_pos rfl)) λ T9 Qg _ Qz=>ad m ⟨T9,es,ep,Qg,Qz.trans hdC,hkC,hfC⟩ (λ iC JK=>?_)
 have k:∀b o,b≠C->de.get? b=some o->iC.get? b=some o:=λ b o hb e=>(JK.2 b hb).trans e
 have ja:=H'.subY fQ ap.2.1 (λ v e=>by rw[hdC]at e;cases e)
 have xC:az C=none:=fQ.yx C _ (if_pos rfl)
 have fC:C∉eD σ':=λ q=>ap.2.2.2 (List.mem_append.mpr (.inr q))
 have j9:=ja.apart ⟨xC,ap.2.1,ap.2.2.1,fC⟩ k
 have n3:dR [] Y s' { s' with heap:=iC,toks:=t }:=(H'.drop (.cons _ (.refl _))).stpY (s':={ s' with heap:=iC,toks:=t }) j9 ⟨iC,t,rfl⟩
 exact⟨az,.nx,bY,σ',aY.trans (l'.trans aU),j9,aJ.nil.trans (st.nil.trans n3),trivial,q⟩
end
section
variable {s s':Shared}
theorem ng(h:Heap):h.get? h.objs.size=none:=by
 cases q:h.get? h.objs.size with
 |none=>rfl
 |some o=>exact absurd (Heap.lt_size q) (Nat.lt_irrefl _)
theorem aG.news(H:aG g c base Y X ρ σ s.heap):∃m,Fr base c.env.locals s.heap m/\News base c.env.locals s.heap (aI s.heap base [c.env.locals]):=by
 refine aD H.loc λ m hn hb=>ad m ⟨hn,λ b o e=>H.x b o (H.bx b o e),H.abv⟩ (gr (.head _))
theorem aG.after(H:aG g c base Y X ρ σ s.heap)(F:Fr base c.env.locals s.heap m)(F':Fr base c.env.locals h' m)(N':News base c.env.locals h' news')(hs:∀p∈aI s.heap base [c.env.locals],p∈news') :
  aG g c base Y X ρ σ h'/\dR c.os Y s { s with heap:=h',toks:=t }/\∀b o,s.heap.get? b=some o->b≠c.env.locals->h'.get? b=some o:=by
 refine aD H.loc λ m' hn hb=>?_
 have:=sG hn F.ns
 subst this
 have kept:=gx (ex:=[c.env.locals]) F' N' hs (λ b o e=>H.x b o (H.bx b o e))
 have k':∀b o,s.heap.get? b=some o->b≠c.env.locals->h'.get? b=some o:=λ b o e q=>kept b o e λ q'=>q (A04 q')
 exact eN (H.ext hb F'.ns k') (gR (W:=[]) H hn F'.ns ⟨h',t,rfl⟩ (λ b q=>absurd q List.not_mem_nil) λ b o e q _=>k' b o e q) k'
theorem aG.newAt(H:aG g c base Y X ρ σ s.heap){D:Addr}(N':News base c.env.locals h' ((D,o)::news'))(gN:∀p∈aI s.heap base [c.env.locals],p.1<D):X D=none/\Y D=none/\D∉c.os/\D∉eD σ:=by
 have nD:=N' _ (.head _)
 refine H.fresh ?_
 cases q:s.heap.get? D with
 |none=>rfl
 |some o'=>exact absurd (gN (D,o') (gY.mpr ⟨q,λ z=>nD.2.1 (A04 z),nD.2.2⟩)) (Nat.lt_irrefl _)
end
section
variable {ds:List D}
theorem Nf{x:Nat}(q:Q (.int x) σ):AC g k (.bi "ord") [.str [x]] σ Q E:=wQ rfl λ{c base Y X ρ s v} H r=>by
 refine aS r.inv λ _ ak=>?_;subst ak
 exact PySem.P.ord_of_char (bH H (.int _ _) q)
theorem Nr(h0:0<=i)(h1:i<=1114111)(q:Q (.str [i.toNat]) σ):AC g k (.bi "chr") [.int i] σ Q E:=wQ rfl λ{c base Y X ρ s v} H r=>by
 refine aS r.inv λ _ ak=>?_;subst ak
 refine PySem.P.chr_of_int ?_ (bH H (.str [i.toNat] _) q)
 lia
theorem oW(H:aG g c base Y X ρ σ s.heap)(q:Q (.rng a b e) σ):PV g c base Y X ρ s Q (.ref s.heap.objs.size) { s with heap:=s.heap.push { cls:=.type "range",data:=.fields #[.int a t,.int b u,.int e v] },toks:=n }:=by
 refine aj (H.pushX (o:=rk a b e t u v) rfl) λ aU am=>⟨_,_,σ,aU,am,cf,.rng (bT ..),q⟩
theorem At(q:Q (.rng 0 n 1) σ):AC g k (.ty "range") [.int n] σ Q E:=wQ rfl λ{c base Y X ρ s v} H r=>by
 refine aS r.inv λ _ ak=>?_;subst ak
 exact call_range_1 (oW H q)
theorem As(q:Q (.rng a b 1) σ):AC g k (.ty "range") [.int a,.int b] σ Q E:=Bi rfl λ{c base Y X ρ s v w} H r r'=>by
 refine aS r.inv λ _ ak=>?_;subst ak
 refine aS r'.inv λ _ ak=>?_;subst ak
 exact call_range_2 (oW H q)
theorem Ar{a b e:Int}(he:e≠0)(hz:e.natAbs<1073741824)(q:Q (.rng a b e) σ):AC g k (.ty "range") [.int a,.int b,.int e] σ Q E:=TH rfl λ{c base Y X ρ s v w x} H r r' aa=>by
 refine aS r.inv λ _ ak=>?_;subst ak
 refine aS r'.inv λ _ ak=>?_;subst ak
 refine aS aa.inv λ _ ak=>?_;subst ak
 exact call_range_3 he (oW H q) (.inl (PyProof.noPylong_small hz))
theorem Er(L:LV σ d ds)(hz:ds.length<=16384)(q:Q (.tup ds) σ):AC g k (.ty "tuple") [d] σ Q E:=wQ rfl λ{c base Y X ρ s v} H r=>by
 obtain⟨l,vs,n,rfl,e,rl⟩:=L.opened H r
 refine call_tuple_list (aw e) (λ h' kp=>?_) (by simp only[List.size_toArray,rl.length,sizeLine_eq];exact bK ‹_›)
 have H':=H.push kp
 refine aj (H'.pushX (o:=seqObj "tuple" vs.toArray 0) rfl) λ aU am=>⟨_,_,σ,aU,am,.ext λ b o e=>Heap.get?_push_of_some _ (kp b o e),.tup (bT ..) (rl.mono aU),q⟩
theorem KC(L:LV σ d ds)(hz:ds.length<=16384)(q:Q (.list ds) σ):AC g k (.ty "list") [d] σ Q E:=wQ rfl λ{c base Y X ρ s v} H r=>by
 obtain⟨l,vs,n,rfl,e,rl⟩:=L.opened H r
 refine aD H.news λ m F N=>list_copyK F N (aw e) (λ D cc h' F' N' gN=>?_) (by simp only[List.size_toArray,rl.length,sizeLine_eq];exact bK ‹_›)
 refine cI (H.after (t:=s.toks) F F' N' (λ p hp=>.tail _ hp)) λ aZ st _=>aj (aZ.addX (H.newAt N' gN) (N' _ (.head _)).1) λ aU am=>⟨_,_,σ,aU,am,st,.list (bT ..) (rl.mono aU),q⟩
theorem FA(hz:ds.length<=16384)(q:Q (.list ds) σ):AC g k (.ty "list") [.tup ds] σ Q E:=wQ rfl λ{c base Y X ρ s v} H r=>by
 obtain⟨l,vs,n,rfl,hx,rl⟩:=r.inv
 refine aD H.news λ m F N=>list_copyKT F N ⟨_,H.x _ _ hx,rfl,n,rfl⟩ (λ D cc h' F' N' gN=>?_) (by simp only[List.size_toArray,rl.length,sizeLine_eq];exact bK ‹_›)
 refine cI (H.after (t:=s.toks) F F' N' (λ p hp=>.tail _ hp)) λ aZ st _=>aj (aZ.addX (H.newAt N' gN) (N' _ (.head _)).1) λ aU am=>⟨_,_,σ,aU,am,st,.list (bT ..) (rl.mono aU),q⟩
theorem iX:∀{ns:List Int}{vs:List Value},bG P X vs (ns.map .int)->IntsAre vs ns:=by
 intro zl
 induction zl with
 |nil=>
  intro vs r
  rw[show vs=[]from r.inv];exact .nil
 |cons n ns ih=>
  intro vs fK
  obtain⟨v,vs,rfl,h,r⟩:=fK.inv
  refine aS h.inv λ t ak=>?_;subst ak
  exact .cons n t (ih r)
theorem kO(h:IntsAre vs ns):bG P X vs (ns.map .int):=by
 induction h with
 |nil=>exact .nil
 |cons n t _ ih=>exact .cons (.int n t) ih
theorem FC(hk:0<k){n:Nat}(hs:Builtin.Range.small a b 1=true)(hn:Builtin.Range.rangeSize a b 1=(n:Int))(hz:n<=16384)(q:Q (.list ((rangeKs a n).map .int)) σ):AC g k (.ty "list") [.rng a b 1] σ Q E:=K0 rfl λ{c base Y X ρ s v} EM H r=>by
 obtain⟨l,t,u,w,rfl,hx⟩:=r.inv
 refine aD H.news λ m F N=>kll_range (H.ok.hand (Nat.lt_of_lt_of_le hk EM)) F N (H.x _ _ hx) hs hn (by exact bK ‹_›) (λ D us cc h' tk F' N' gN hi=>?_)
 refine cI (H.after (t:=tk) F F' N' (λ p hp=>.tail _ hp)) λ aZ st _=>aj (aZ.addX (H.newAt N' gN) (N' _ (.head _)).1) λ aU am=>⟨_,_,σ,aU,am,st,.list (bT ..) (kO hi),q⟩
theorem FG(hk:0<k){ns:List Int}(L:LV σ d (ns.map .int))(hr:∀n∈ns,0<=n/\n<256)(hz:ns.length<=1000000)(q:Q (.bytes (ns.map λ n=>n.toNat.toUInt8)) σ):AC g k (.ty "bytes") [d] σ Q E:=K0 rfl λ{c base Y X ρ s v} EM H r=>by
 obtain⟨l,vs,n,rfl,e,rl⟩:=L.opened H r
 have hl:=rl.length
 simp only[List.length_map]at hl
 exact call_bytes_ints (aw e) (iX rl) hr (by simp only[hl,sizeLine_eq];exact bK ‹_›) (H.ok.hand (Nat.lt_of_lt_of_le hk EM)) λ h' t' k' kp=>⟨X,_,σ,.refl X,H.push kp,.ext kp,.bytes _ _,q⟩
theorem Nj(hk:0<k)(q:Q (.int (if b>a then b else a)) σ):AC g k (.bi "max") [.int a,.int b] σ Q E:=OG rfl λ{c base Y X ρ s v w} EM H r r'=>by
 refine aS r.inv λ _ ak=>?_;subst ak
 refine aS r'.inv λ _ ak=>?_;subst ak
 refine aD H.news λ m F N=>max_two_N (H.ok.hand (Nat.lt_of_lt_of_le hk EM)) F N λ h' tk F' N'=>cI (H.after (t:=tk) F F' N' (λ p hp=>hp)) λ aZ st _=>⟨X,_,σ,.refl X,aZ,st,.int _ _,q⟩
theorem Ex(ha:a.natAbs<2 ^ 64)(q:Q (.str (Str.ofString (toString a)).cps.toList) σ):AC g k (.bi "repr") [.int a] σ Q E:=wQ rfl λ{c base Y X ρ s v} H r=>by
 refine aS r.inv λ _ ak=>?_;subst ak
 refine PySem.P.repr_of_int ?_ (bH H (fc rfl) q)
 by_cases h0:a.natAbs=0
 .rw[h0];decide
 .have:=(Nat.log2_lt h0 (k:=64)).mpr ha;exact bK ‹_›
theorem Ew(q:Q (.str (Str.ofString "None").cps.toList) σ):AC g k (.bi "repr") [.none] σ Q E:=wQ rfl λ{c base Y X ρ s v} H r=>by
 obtain rfl:=r.inv
 exact PySem.P.repr_of_none (bH H (fc rfl) q)
end
section
variable {ds:List D}
theorem mX(q:Q (.bool false) σ):AC g k (.bi "isinstance") [.int i,.ty "bool"] σ Q E:=Bi rfl λ{c base Y X ρ s v w} H r r'=>by
 refine aS r.inv λ _ ak=>?_;subst ak
 obtain rfl:=r'.inv
 exact IsiPair.int_bool (bH H (.bool _) q)
theorem kg(q:Q (.bool false) σ):AC g k (.bi "isinstance") [.none,.ty "bool"] σ Q E:=Bi rfl λ{c base Y X ρ s v w} H r r'=>by
 obtain rfl:=r.inv
 obtain rfl:=r'.inv
 exact IsiPair.NoneType_bool (bH H (.bool _) q)
theorem iJ(q:Q (.bool true) σ):AC g k (.bi "isinstance") [.int i,.ty "int"] σ Q E:=Bi rfl λ{c base Y X ρ s v w} H r r'=>by
 refine aS r.inv λ _ ak=>?_;subst ak
 obtain rfl:=r'.inv
 exact IsiPair.int_int (bM H (.bool _) q)
def OU(K:Frag)(C:Addr):Prop:=isIn K (.ref C) C=true
def uq(K:Frag)(D C:Addr):Prop:=kin_not K D C=true/\plainGet K D "__class__" = true/\hasDictIn K D=true/\findIn K (.ref D) "__class__" = some (some (.builtin "object.__class__"))/\specialIn K (.builtin "object.__class__") "__get__" = some (some (.builtin "getset_descriptor.__get__"))/\takesIn K (.builtin "object.__class__")=some true/\mroIn K D (.type "object")=some true
theorem vy(h:OU g.K C)(q:Q (.bool true) σ):AC g k (.bi "isinstance") [.inst C fs,.ref C] σ Q E:=Bi rfl λ{c base Y X ρ s v w} H r r'=>by
 obtain rfl:=r'.inv
 obtain⟨a,dx,es,n,rfl,hx,hd,_⟩:=r.inv
 have Kin:=H.gd.kin.keeps λ b o e=>H.x b o (H.bx b o e)
 exact isi_call (t:=.ref C) Kin (λ M=>(fo (H.x _ _ hx) (H.x _ _ hd)).type) h (by intro z;cases z) (bM H (.bool _) q)
theorem oK(h:uq g.K C' C)(q:Q (.bool false) σ):AC g k (.bi "isinstance") [.inst C' fs,.ref C] σ Q E:=Bi rfl λ{c base Y X ρ s v w} H r r'=>by
 obtain rfl:=r'.inv
 obtain⟨a,dx,es,n,rfl,hx,hd,_⟩:=r.inv
 have Kin:=H.gd.kin.keeps λ b o e=>H.x b o (H.bx b o e)
 refine HF h λ h1 h2 h3 h4 h5 h6 h7=>kin_callC Kin (fo (H.x _ _ hx) (H.x _ _ hd)) h1 h2 h3 h4 h5 h6 h7 (bH H (.bool _) q)
theorem za:∀(ts:List (List Nat))(acc:Array Nat),((ts.map λ l=>(⟨l.toArray⟩:Str)).foldl (λ acc p=>acc++(Str.mk #[]).cps++p.cps) acc).toList=acc.toList++ts.flatten:=by
 intro zl
 induction zl with
 |nil=>
  intro acc
  simp
 |cons t ts ih=>
  intro acc
  simp only[List.map_cons,List.foldl_cons,ih]
  simp
theorem sY(ts:List (List Nat)):(Txt.join ⟨#[]⟩ (ts.map λ l=>(⟨l.toArray⟩:Str))).cps.toList=ts.flatten:=by
 cases ts with
 |nil=>rfl
 |cons t ts=>exact za ts t.toArray
theorem r6:∀{ts:List (List Nat)}{vs:List Value},bG P X vs (ts.map .str)->StrsAre vs (ts.map λ l=>(⟨l.toArray⟩:Str)):=by
 intro zl
 induction zl with
 |nil=>
  intro vs r
  rw[show vs=[]from r.inv];exact .nil
 |cons t ts ih=>
  intro vs fK
  obtain⟨v,vs,rfl,h,r⟩:=fK.inv
  refine aS h.inv λ u ak=>?_;subst ak
  exact .cons _ u (ih r)
theorem Eu{ts:List (List Nat)}(L:LV σ d (ts.map .str))(hz:(ts.map (·.length)).sum<=16777216)(q:Q (.str ts.flatten) σ):AC g k (.bi "str.join") [.str [],d] σ Q E:=Bi rfl λ{c base Y X ρ s v w} H fK r=>by
 refine aS fK.inv λ w4 ak=>?_;subst ak
 obtain⟨l,vs,n,rfl,e,rl⟩:=L.opened H r
 refine join_list (x:=⟨#[]⟩) (aw e) (r6 rl) ?_ λ t' k'=>?_
 .have:(((ts.map λ l=>(⟨l.toArray⟩:Str))).map (·.length))=ts.map (·.length):=by rw[List.map_map];apply List.map_congr_left;intro a _;simp[PySem.Str.length]
  rw[this]
  simpa [PySem.Str.length] using hz
 .have:=sY ts
  exact bH H (fc this) q
end
def Bk(g:c8)(c:Cx)(ρ:Rh)(σ:aN)(ts:List (Value->Sem Unit))(ds:List D)(Q:Rh->aN->Prop)(E:D->Prop):Prop :=
 ∀base Y X s vs,aG g c base Y X ρ σ s.heap->bG (Pm g) X vs ds->wpAny (M g) c.A (assignInOrder ts vs) (PA g c base Y X s Q) (EP g c [] base Y s E) s
section
variable {E:D->Prop}
theorem uk(q:Q ρ σ):Bk g c ρ σ [] [] Q E:=λ base Y X s vs H r=>by
 obtain rfl:=r.inv
 exact wpAny_pure ⟨X,ρ,σ,.refl X,H,.refl [] Y s,q⟩
theorem B4(h:AA g c ρ σ t d (λ bY aM=>Bk g c bY aM ts ds Q E) E):Bk g c ρ σ (assign t c.env::ts) (d::ds) Q E:=λ base Y X s vs H r=>by
 obtain⟨v,vs,rfl,aL,aa⟩:=r.inv
 refine wpAny_bind (wpAny_holding (wpAny_mono (h base Y X s v H aL) ?_ λ _ _ z=>z))
 rintro _ aB ⟨bA,bY,aM,aY,aZ,aJ,q⟩
 exact wpAny_mono (q base Y bA aB vs aZ (aa.mono aY)) (λ _ _ z=>z.back aY aJ) λ _ _ z=>z.back aJ
theorem B5(h:∃ρ',i9 ρ x d ρ'/\Bk g c ρ' σ ts ds Q E):Bk g c ρ σ (bindName c.env x::ts) (d::ds) Q E:=λ base Y X s vs H r=>by
 obtain⟨v,vs,rfl,aL,aa⟩:=r.inv
 refine aD h λ bY hp q=>wpAny_bind (wpAny_holding ?_)
 refine wpAny_bind (wpAny_holding (wpAny_point (wpAny_bind (eU H aL hp λ h' t H'=>wpAny_point ?_))))
 have aJ:dR [] Y s { s with heap:=h',toks:=t }:=H.stpY (s':={ s with heap:=h',toks:=t }) H' ⟨h',t,rfl⟩
 exact wpAny_mono (q base Y X { s with heap:=h',toks:=t } vs H' aa) (λ _ _ z=>z.back (.refl X) aJ) λ _ _ z=>z.back aJ
theorem K1(nL:0<c.k)(h:Bk g c ρ σ ts ds Q E)(he:(assignEach elts c.env).map (·.2)=ts:=by with_unfolding_all rfl)
  (hn:(assignEach elts c.env).length=ds.length:=by with_unfolding_all rfl) (Me:(assignEach elts c.env).findIdx? (·.1)=none:=by with_unfolding_all rfl):AA g c ρ σ (.Tuple elts k pos) (.tup ds) Q E:=λ base Y X s v H r=>by
 obtain⟨a,vs,n,rfl,hx,rl⟩:=r.inv
 refine wpAny_assign_Tuple (H.ok.hand nL) ⟨_,H.x _ _ hx,rfl,n,rfl⟩ (by simp only[hn,List.size_toArray,rl.length]) Me λ h' hs=>?_
 have k:∀b o,s.heap.get? b=some o->h'.get? b=some o:=λ b o e=>hs b o (λ q=>by simp only[q,ng]at e;exact bJ e) e
 rw[he]
 have aJ:dR [] Y s { s with heap:=h' }:=.ext (t:=s.toks) k
 exact wpAny_mono (h base Y X { s with heap:=h' } vs (H.push k) rl) (λ _ _ z=>z.back (.refl X) aJ) λ _ _ z=>z.back aJ
theorem iL(h:AE g c ρ σ value (λ d σ'=>AA g c ρ σ' (.Tuple elts k tpos) d (λ ρ'' σ''=>Q .nx ρ'' σ'') E) E)
  (hs:swapsWithSole [.Tuple elts k tpos] value pos.line c.env=pure false:=by with_unfolding_all rfl) (hw:swappedStores [.Tuple elts k tpos] value c.env=pure none):AX g c ρ σ (.Assign [.Tuple elts k tpos] value pos) Q E:=λ base Y X s H=>by
 refine Assign_Tuple (wpAny_mono (h base Y X s H) ?_ λ _ _ z=>z.nil) hs hw
 rintro v aB ⟨bA,d,aM,aY,aZ,aJ,aL,q⟩
 refine wpAny_mono (q base Y bA aB v aZ aL) ?_ λ _ _ z=>z.back aJ.nil
 rintro _ aP ⟨az,cJ,a9,aU,am,au,dD⟩
 exact⟨az,.nx,cJ,a9,aY.trans aU,am,aJ.nil.trans au,trivial,dD⟩
theorem bG.rev:∀{ds:List D}{vs:List Value},bG P X vs ds->bG P X vs.reverse ds.reverse
 |[],vs,h=>by rw[show vs=[]from h.inv];exact .nil
 |d::ds,vs,dX=>by
  obtain⟨v,vs,rfl,h,r⟩:=dX.inv
  simp only[List.reverse_cons,List.reverse_cons]
  exact r.rev.append (.cons h .nil)
theorem m7(nL:0<c.k)(hw:swappedStores [.Tuple elts k tpos] (.Tuple vals k' vpos) c.env=pure (some names))
  (h:wL g c ρ σ vpos vals (λ ds σ'=>ds.length=names.length/\ds.length<=16777216/\Bk g c ρ σ' (names.reverse.map λ n=>bindName c.env n) ds.reverse (λ ρ'' σ''=>Q .nx ρ'' σ'') E) E)
  (hs:swapsWithSole [.Tuple elts k tpos] (.Tuple vals k' vpos) pos.line c.env=pure false:=by with_unfolding_all rfl):AX g c ρ σ (.Assign [.Tuple elts k tpos] (.Tuple vals k' vpos) pos) Q E:=λ base Y X s H=>by
 have T:AE g c ρ σ (.Tuple vals k' vpos) (λ d σ'=>∃ds,d=.tup ds/\ds.length=names.length/\Bk g c ρ σ' (names.reverse.map λ n=>bindName c.env n) ds.reverse (λ ρ'' σ''=>Q .nx ρ'' σ'') E) E:=by
  refine mf λ base Y X s H=>wpAny_mono (h base Y X s H) ?_ λ _ _ z=>z
  rintro vs aB ⟨bA,ds,aM,aY,aZ,aJ,aL,e,z,q⟩
  exact⟨bA,ds,aM,aY,aZ,aJ,aL,z,ds,rfl,e,q⟩
 refine Assign_Tuple_swapped (wpAny_mono (T base Y X s H) ?_ λ _ _ z=>z.nil) hs hw
 rintro v aB ⟨bA,d,aM,aY,aZ,aJ,aL,ds,rfl,e,q⟩
 obtain⟨a,vs,n,rfl,hx,rl⟩:=aL.inv
 rw[<-e,<-rl.length,<-List.size_toArray]
 refine wpAny_unpackItems_tuple (aZ.ok.hand nL) ⟨_,aZ.x _ _ hx,rfl,n,rfl⟩ λ h' hs=>?_
 have k:∀b o,aB.heap.get? b=some o->h'.get? b=some o:=λ b o e=>hs b o (λ q=>by simp only[q,ng]at e;exact bJ e) e
 have au:dR [] Y aB { aB with heap:=h' }:=.ext (t:=aB.toks) k
 have rr:bG (Pm g) bA vs.reverse ds.reverse:=by
  exact rl.rev
 refine wpAny_mono (q base Y bA { aB with heap:=h' } vs.toArray.toList.reverse (aZ.push k) (by simpa using rr)) ?_ λ _ _ z=>z.back (aJ.nil.trans au)
 rintro _ aP ⟨az,cJ,a9,aU,am,c9,dD⟩
 exact⟨az,.nx,cJ,a9,aY.trans aU,am,(aJ.nil.trans au).trans c9,trivial,dD⟩
end
section
variable {t:Tok}
theorem CA{id:String}:Builtin.Bytes.takeBufferQuiet? id (.bytes b t) 0=pure (some (b,none)):=by
 kernel_rfl
theorem gC:Slot "bytes" "join" "bytes.join" :=
 .of (owner:="bytes") (n:="join") (by kernel_rfl) (by decide +kernel) (by decide +kernel) (by decide +kernel)
  (by first | exact .inl (by decide +kernel) | exact .inr (by decide +kernel)) (by kernel_rfl)
theorem jx:entryFor table "bytes.join" = some Builtin.«bytes.join»:=entryFor_of_tree (by kernel_rfl)
theorem kh(a b:Value):argsOk "bytes.join" ⟨[a,b],[]⟩:=by kernel_rfl
end
section
variable {X:XT}
class inductive pL:List Value->List (List UInt8)->Prop
 |nil:pL [] []
 |cons (b:List UInt8) (t:Tok){vs:List Value}{ts:List (List UInt8)} (h:pL vs ts):pL (.bytes b.toArray t::vs) (b::ts)
theorem FI:∀{ts:List (List UInt8)}{vs:List Value},bG P X vs (ts.map .bytes)->pL vs ts:=by
 intro zl
 induction zl with
 |nil=>
  intro vs r
  rw[show vs=[]from r.inv];exact .nil
 |cons t ts ih=>
  intro vs fK
  obtain⟨v,vs,rfl,h,r⟩:=fK.inv
  refine aS h.inv λ u ak=>?_;subst ak
  exact .cons t u (ih r)
theorem pL.len(h:pL vs ts):vs.length=ts.length:=by
 induction h with
 |nil=>rfl
 |cons _ _ _ ih=>exact congrArg (·+1) ih
theorem pL.at(h:pL vs ts):∀{i:Nat},i<ts.length->∃b t,ts[i]?=some b/\vs.toArray.getD i .none=.bytes b.toArray t:=by
 induction h with
 |nil=>intro i hi;cases hi
 |cons b t h ih=>
  intro i hi
  cases i with
  |zero=>exact gJ b t rfl rfl
  |succ i=>
   refine dP (ih (Nat.lt_of_succ_lt_succ hi)) λ b' t' e1 e2=>gJ b' t' e1 ?_
   simpa using e2
noncomputable abbrev TS:=Array (Array UInt8)×List (Value×Option Value)
def Ox(ts:List (List UInt8))(i:Nat)(q:TS):Prop:=q.1.toList=(ts.take i).map (·.toArray)/\∀p∈q.2,p.1.onHeap=false/\p.2=none
theorem FL(hb:∀i q,i<ts.length->Ox ts i q->∀R':ForInStep TS->Shared->Prop,(∀q',Ox ts (i+1) q'->R' (.yield q') s)->wpAny (M g) A (body i q) R' E s)(hR:∀q,Ox ts ts.length q->R q s):∀(k i:Nat)(q:TS),i+k=ts.length->Ox ts i q->wpAny (M g) A (forIn (List.range' i k 1) q body) R E s:=by
 intro zl
 induction zl with
 |zero=>
  intro i q e h
  exact wpAny_pure (hR q (by rw[<-e];exact h))
 |succ k ih=>
  intro i q e h
  rw[List.range'_succ,List.forIn_cons]
  exact wpAny_bind (hb i q (by exact Pq ‹_›) h _ λ q' h'=>ih (i+1) q' (by exact Pp ‹_›) h')
theorem yr(q:Q () s):∀{taken:List (Value×Option Value)},(∀p∈taken,p.1.onHeap=false/\p.2=none)->wpAny (M g) A (Builtin.Bytes.joinLetGo taken keep) Q E s:=by
 intro zl
 induction zl with
 |nil=>
  intro _
  exact wpAny_pure q
 |cons zx r ih=>
  obtain⟨x,w⟩:=zx
  intro h
  refine aj (h _ (.head _)) λ h1 h2=>?_
  subst h2
  exact wpAny_bind (wpAny_letGo (ih λ p hp=>h p (.tail _ hp)))
theorem m1(h1:∀x,a=#[x]->wpAny (M g) A (f x) R E s)(h2:wpAny (M g) A (k a) R E s):wpAny (M g) A (Builtin.Bytes.joinM.match_1 (λ _=>Sem PySem.Fin) a f k) R E s:=by
 rcases a with⟨_|⟨x,_|⟨y,l⟩⟩⟩
 .exact h2
 .exact h1 x rfl
 .exact h2
theorem xP:∀(ts:List (List UInt8))(k:Nat),(ts.map (·.toArray)).foldl (λ a (x:Array UInt8)=>a+x.size) k=k+(ts.map (·.length)).sum:=by
 intro zl
 induction zl with
 |nil=>
  intro k
  exact rfl
 |cons t ts ih=>
  intro k
  simp only[List.map_cons,List.foldl_cons,ih,List.map_cons,List.sum_cons,List.size_toArray,Nat.add_assoc]
theorem Dx:∀(ts:List (List UInt8))(j:Nat)(acc:Array UInt8),((ts.map (·.toArray)).zipIdx j).foldl (λ out (p:Array UInt8×Nat)=>(if p.2>0 then out++(#[]:Array UInt8)else out)++ p.1) acc=acc++ts.flatten.toArray:=by
 intro zl
 induction zl with
 |nil=>
  intro j acc
  simp
 |cons t ts ih=>
  intro j acc
  rw[List.map_cons,List.zipIdx_cons,List.foldl_cons,Array.append_empty,ite_self,ih]
  simp
theorem bj{n:Nat}{Q:Value->Shared->Prop}(ho:s.heap.get? l=some (seqObj "list" vs.toArray n))(h:pL vs ts)(hz:(ts.map (·.length)).sum<=1000000)(hq:∀t k,Q (.bytes ts.flatten.toArray t) { s with toks:=k }) :
  wpAny (M g) A (Builtin.Bytes.joinM .bytes ⟨[.bytes #[] w4,.ref l],[]⟩) (λ eT s'=>∃v,eT=.done (.ret v)/\Q v s') E s:=by
 delta Builtin.Bytes.joinM
 repeat (first | with_reducible refine wpAny_bind (wpAny_seqItems ho rfl ?_) | wp_step)
 have one:∀x,vs.toArray=#[x]->∃b t,x=.bytes b t/\ts.flatten.toArray=b:=λ x e=>by
  have e:vs=[x]:=by simpa using e
  subst e
  cases h with
  |cons b t h=>cases h;exact gJ _ _ rfl (by simp)
 refine m1 (λ x e=>?_) ?_
 .refine dP (one x e) λ b t dz e2=>?_;subst dz
  repeat wp_step
  exact ad _ rfl (e2▸hq t s.toks)
 .refine wpAny_bind ?_
  rw[Std.Legacy.Range.forIn_eq_forIn_range']
  refine FL (ts:=ts) (λ i q hi hT R' Ue=>?_) (λ q hT=>?_) _ _ _ ?_ ?_
  .refine dP (h.at hi) λ b t e1 e2=>?_
   obtain⟨parts,taken⟩:=q
   refine aj hT λ hp ht=>?_
   have Qi:(taken.any λ x=>x.1.onHeap)=false:=List.any_eq_false.mpr λ p hp=>by rw[(ht p hp).1];decide
   refine wpAny_bind (wpAny_seqItems ho rfl ?_)
   dsimp only
   rw[e2,Qi,if_neg (by decide)]
   refine wpAny_bind (wpAny_holding (wpAny_of_eq CA (wpAny_bind (wpAny_seqItems ho rfl ?_))))
   refine(?_:wpAny _ _ (if(vs.toArray.size !=vs.toArray.size)=true then _ else _) _ _ _)
   rw[if_neg (by simp)]
   refine wpAny_pure (Ue _ ⟨?_,λ p hp=>?_⟩)
   .have hp:parts.toList=_:=hp
    have e3:ts.take (i+1)=ts.take i++[b]:=by simp only[List.take_add_one,e1];rfl
    simp only[Array.toList_push,hp,e3,List.map_append];rfl
   .rcases A09 hp with hp|hp
    .exact ht p hp
    .rw[A04 hp];exact⟨rfl,rfl⟩
  .obtain⟨parts,taken⟩:=q
   refine aj hT λ hp ht=>?_
   have hp:parts.toList=_:=hp
   rw[List.take_length]at hp
   refine wpAny_bind (m:=Builtin.Bytes.payload _) ?_
   repeat wp_step
   have e1:Builtin.Bytes.tooLong (parts.foldl (λ a x=>a+x.size) ((#[]:Array UInt8).size*(parts.size-1)))=false:=by
    rw[<-Array.foldl_toList,hp,xP]
    exact KBy.tooLong_not (by simp only[Array.size_empty];lia)
   have e2:Builtin.Bytes.joined #[] parts.toList=ts.flatten.toArray:=by rw[hp];exact(Dx ts 0 #[]).trans Array.empty_append
   rw[e1,if_neg (by decide),e2]
   repeat (first | with_reducible refine wpAny_bind (yr ?_ ht) | wp_step)
   have e3:¬ts.flatten.toArray.size>sizeLine:=by
    simp only[List.size_toArray,List.length_flatten,sizeLine_eq]
    exact λ h=>absurd (Nat.le_trans hz (by decide:1000000<=16777216)) (Nat.not_le.mpr h)
   rw[if_neg e3]
   repeat (first | with_reducible refine wpAny_bind (yr ?_ ht) | wp_step)
   exact ad _ rfl (hq _ _)
  .simp only[Nat.zero_add,List.size_toArray,h.len];simp[Std.Legacy.Range.size]
  .exact⟨rfl,λ _ h=>cu h⟩
end
section
variable {E:D->Prop}
theorem FH{ts:List (List UInt8)}(L:LV σ d (ts.map .bytes))(hz:(ts.map (·.length)).sum<=1000000)(q:Q (.bytes ts.flatten) σ):AC g k (.bi "bytes.join") [.bytes [],d] σ Q E:=Bi rfl λ{c base Y X ρ s v w} H fK r=>by
 refine aS fK.inv λ w4 ak=>?_;subst ak
 obtain⟨l,vs,n,rfl,e,rl⟩:=L.opened H r
 exact wpAny_call_entry gC rfl jx (bj e (FI rl) hz λ t k=>bH H (.bytes ts.flatten t) q) (kh _ _)
end
structure mt (bm:List Value):Prop where
 b:bm.contains (.type "Exception")=true
 base:bm.contains (.type "BaseException")=true
 noA:bm.contains (.type "AttributeError")=false
 noN:bm.contains (.type "NameError")=false
section
variable {os:OsState}
variable {sub:List Value}
theorem E6(T:mt bm){aI:List Value}(hC:h.get? C=some (excClassObj nm q C N bs bm qW sn sub ab col dd k0 k1 k2 k3 k5 "Exception.__new__"))
  (hq:R (.ok (.ret (.ref (h.objs.size+1)))) ⟨(h.push { cls:=.type "tuple",data:=.seq aI.toArray }).push
   { cls:=.ref C,data:=.fields #[.ref h.objs.size,.none,.none,.none,.bool false,.none] },g,d,t,os⟩) (tx:aI.length<=sizeLine) :
  codeAny (model prog w) A (.builtin "Exception.__new__" ⟨.ref C::aI,[]⟩) R ⟨h,g,d,t,os⟩:=by
 have S8:=PySem.F.excBase_Exception.ends
 have hcB:(Value.ref C::bm).contains (.type "Exception")=true:=by simp only[List.contains_cons,T.b,Bool.or_true]
 have hcA:(Value.ref C::bm).contains (.type "AttributeError")=false:=by simp only[List.contains_cons,T.noA];rfl
 have hcN:(Value.ref C::bm).contains (.type "NameError")=false:=by simp only[List.contains_cons,T.noN];rfl
 refine codeAny_builtinAt PySem.F.excBase_Exception.entry ?_
 refine PySem.wpAt_bind ?_
 refine PySem.wpAt_bind (PySem.wpAt_stack λ p below=>PySem.wpAt_of_wpAny ?_)
 wp_walk
 refine PySem.wpAt_of_wpAny ?_
 rw[PySem.F.excBase_Exception.owner]
 repeat (first | with_reducible refine wpAny_madeHere_exc PySem.F.excBase_Exception.canon hC ?_ | with_reducible refine wpAny_loadPart_at hC ?_ | (with_reducible refine wpAny_isSubtype_exc hC ?_;first | rw[hcB] | rw[hcA] | rw[hcN]) | wp_step)
 refine(?_:R _ _)
 rw[Heap.size_push]
 exact hq
theorem AQ(T:mt bm){aI:List Value}{Q:PySem.Fin->Shared->Prop}{K:Frag}{fI:Addr}(X:K.In h)
  (hC:h.get? C=some (excClassObj nm q C N bs bm qW sn sub ab col dd k0 k1 k2 k3 k5 "Exception.__new__")) (hi:findIn K (.ref C) "__init__" = some (some (.ref fI))) (hf:typeIn K (.ref fI)=some (.type "function"))
  (hq:∀h' e,Heap.MadeExcOf h h' e (.ref C) aI->wpAny (model prog w) A (call (.ref fI) (.ref e::aI)) (λ r s'=>r=.none/\Q (.done (.ret (.ref e))) s') E ⟨h',g,d,t,os⟩) (tx:aI.length<=sizeLine) :
  wpAny (model prog w) A (Builtin.«type.__call__» ⟨.ref C::aI,[]⟩) Q E ⟨h,g,d,t,os⟩:=by
 repeat (first | with_reducible refine wpAny_loadPart_at hC ?_ | with_reducible refine wpAny_madeBy_exc hC ?_ | wp_step)
 refine codeAny_call_builtin_code (Code.quiet_builtin _ PySem.F.excBase_Exception.quiet) (wpAny_check_new_subU PySem.F.excBase_Exception T.b .base hC ?_)
 refine E6 T hC ?_ tx
 have keep:∀b o,h.get? b=some o->((h.push { cls:=.type "tuple",data:=.seq aI.toArray }).push { cls:=.ref C,data:=.fields #[.ref h.objs.size,.none,.none,.none,.bool false,.none] }).get? b=some o:=λ b o hb=>Heap.get?_push_of_some _ (Heap.get?_push_of_some _ hb)
 have bA:=X.keeps keep
 have NA:=keep _ _ hC
 have oj:((h.push { cls:=.type "tuple",data:=.seq aI.toArray }).push { cls:=.ref C,data:=.fields #[.ref h.objs.size,.none,.none,.none,.bool false,.none] }).get? (h.objs.size+1)=some
   { cls:=.ref C,data:=.fields #[.ref h.objs.size,.none,.none,.none,.bool false,.none] }:=by heap_get
 have ht:((h.push { cls:=.type "tuple",data:=.seq aI.toArray }).push { cls:=.ref C,data:=.fields #[.ref h.objs.size,.none,.none,.none,.bool false,.none] }).get? h.objs.size=some { cls:=.type "tuple",data:=.seq aI.toArray }:=Heap.get?_push_of_some _ (Heap.get?_push_at rfl rfl)
 have M:=hq _ (h.objs.size+1) ⟨keep,Heap.get?_none_of_le (Nat.le_succ _),h.objs.size,oj,Heap.get?_none_of_le (Nat.le_refl _),ht⟩
 generalize ((h.push { cls:=.type "tuple",data:=.seq aI.toArray }).push { cls:=.ref C,data:=.fields #[.ref h.objs.size,.none,.none,.none,.bool false,.none] })=a7 at *
 have hcC:(Value.ref C::bm).contains (.ref C)=true:=by simp
 repeat (first | with_reducible refine wpAny_loadPart_at oj ?_ | (with_reducible refine wpAny_isSubtype_exc NA ?_;rw[hcC]) | wp_step)
 refine(looks_findIn bA hi).here ?_
 refine wpAny_holding (wpAny_bind ((bind_fn bA _ hf).here (wpAny_bind (wpAny_mono M (λ r s' hr=>?_) λ _ _ x=>x))))
 obtain⟨rfl,hQ⟩:=hr
 wp_walk
 exact hQ
theorem AU(T:mt bm){aI:List Value}{Q:Value->Shared->Prop}{K:Frag}(X:K.In h)
  (hC:h.get? C=some (excClassObj nm q C N bs bm qW sn sub ab col dd k0 k1 k2 k3 k5 "Exception.__new__")) (hi:findIn K (.ref C) "__init__" = some (some (.ref fI))) (hf:typeIn K (.ref fI)=some (.type "function"))
  (hq:∀h' e,Heap.MadeExcOf h h' e (.ref C) aI ->
   wpAny (model prog w) (A.under (.builtin "type.__call__" ⟨.ref C::aI,[]⟩)) (call (.ref fI) (.ref e::aI)) (λ r s'=>r=.none/\Q (.ref e) s') E ⟨h',g,d,t,os⟩) (tx:aI.length<=sizeLine) :
  wpAny (model prog w) A (call (.ref C) aI) Q E ⟨h,g,d,t,os⟩:=by
 have f1:=tc_lookup
 have f2:=tc_bind (.ref C)
 have hT:(⟨h,g,d,t,os⟩:Shared).TypeIs (.ref C) "type":=⟨_,hC,rfl⟩
 refine wpAny_call (codeAny_of_tree ?_)
 refine(?_:wpAny _ _ (callAny (.ref C) _) _ _ _)
 repeat (any_goals (first | assumption | with_reducible refine wpAny_loadPart_at hC ?_ | wp_step))
 refine⟨rfl,?_⟩
 refine codeAny_call_builtin_at (Code.quiet_builtin _ (by decide +kernel)) entry_typeCall (wpAny_check_type_call_sub hC (AQ T X hC hi hf (λ h' e hm=>?_) tx))
 exact hq h' e hm
end
section
open Builtin Builtin.ObjectAttr
section
variable {K:Frag}
structure OY (K:Frag)(C:Addr):Prop where
 sa:findIn K (.ref C) "__setattr__" = some (some (.builtin "object.__setattr__"))
 told:findIn K (.ref C) "told" = some none
 obj:mroIn K C (.type "object")=some true
 pass:∃cd,clsIn K C=some cd/\(∀self,refuseLoop self "__setattr__" cd.mro=pure ())/\cd.hasDict=true
theorem DV{R:Result->Shared->Prop}{ox:Obj}{od:Option Obj}{tk:Tok}{v:Value}(X:K.In s.heap)(I:InstAt s.heap x ox C od)(e:OY K C)
  (h:∀b,wpAny (model prog w) A.in1 (storeInOwnDict (.ref x) (.ref C) (.str "told" tk) "told" v b)
   (λ eT s'=>match eT with | .done f=>R (.ok f) s' | .again c'=>c'.quiet=true/\codeAny (model prog w) A c' R s') (λ e s'=>R (.error e) s') s) :
  codeAny (model prog w) A (.call (.builtin "object.__setattr__") ⟨[.ref x,.str "told" tk,v],[]⟩) R s:=by
 have SF:=PySem.F.store_object
 refine cG e.pass λ cd hc ho hd=>?_
 have sub:Looks (model prog w) s.heap (isInstance (.ref x) (.type "object")) true:=I.type.andThen (looks_mroIn X e.obj)
 refine codeAny_call_builtin SF.slot.plain SF.entry (@check_slot (model prog w) _ _ s "object.__setattr__" "object" "__setattr__" (.ref x) [.str "told" tk,v] [] _ SF.kind SF.split sub (SF.args (.ref x) (.str "told" tk) v) ?_)
 have hm:Looks (model prog w) s.heap (mroOf (.ref C)) cd.mro:=(looks_clsIn X hc).andThen .now
 rw[osa_eq,refuse_eq]
 refine wpAny_bind (wpAny_bind (I.type.here (wpAny_bind (hm.here ?_))))
 rw[ho]
 refine wpAny_pure (wpAny_bind (I.type.here (wpAny_bind ((looks_findIn X e.told).here (wpAny_bind (wpAny_pure ?_))))))
 exact h _
theorem vi{P:PySem.Fin->Shared->Prop}{E:Value->Shared->Prop}{vs:Array Value}{tk:Tok}{v:Value}{b:Bool}(X:K.In s.heap)(he:s.heap.get? x=some { cls:=.ref C,data:=.fields vs })(e:OY K C)
  (hq:∀h' k dx od,(∀b o,b≠x->s.heap.get? b=some o->h'.get? b=some o)->h'.get? x=some { cls:=.ref C,dict:=some dx,data:=.fields vs }->s.heap.get? dx=none->h'.get? dx=some od->(∃es n,od.data=.dict es n)->lookIn "told" od=some (some v)->P (.done (.ret .none)) { s with heap:=h',toks:=k }) :
  wpAny (model prog w) A (storeInOwnDict (.ref x) (.ref C) (.str "told" tk) "told" v b) P E s:=by
 refine cG e.pass λ cd hc ho hd=>wpAny_bind (wpAny_pure (wpAny_bind ?_))
 refine(?_:wpAny _ _ (instanceDict x true) _ _ _)
 refine wpAny_bind (wpAny_loadPart he (wpAny_bind ((looks_clsIn X hc).here ?_)))
 rw[hd]
 have G0:(s.heap.push { cls:=.type "dict",data:=.dict #[] }).get? x=some { cls:=.ref C,data:=.fields vs }:=Heap.get?_push_of_some _ he
 have SW:x≠s.heap.objs.size:=Nat.ne_of_lt (Heap.lt_size he)
 have Qw:((s.heap.push { cls:=.type "dict",data:=.dict #[] }).update x λ o=>{ cls:=o.cls,dict:=some s.heap.objs.size,data:=o.data,slots:=o.slots }).get? s.heap.objs.size=some { cls:=.type "dict",data:=.dict #[] } :=
  (Heap.get?_update_ne _ _ _ _ SW.symm).trans (Heap.get?_push_at rfl rfl)
 have UY:=Heap.get?_update_self (λ o=>{ cls:=o.cls,dict:=some s.heap.objs.size,data:=o.data,slots:=o.slots }) G0 rfl
 have Qf:∀b o,b≠x->s.heap.get? b=some o->((s.heap.push { cls:=.type "dict",data:=.dict #[] }).update x λ o=>{ cls:=o.cls,dict:=some s.heap.objs.size,data:=o.data,slots:=o.slots }).get? b=some o:=λ b o hb e=>(Heap.get?_update_ne _ _ _ _ hb).trans (Heap.get?_push_of_some _ e)
 refine wpAny_bind (wpAny_alloc' (wpAny_bind (wpAny_update' G0 ?_)))
 generalize ((s.heap.push { cls:=.type "dict",data:=.dict #[] }).update x λ o=>{ cls:=o.cls,dict:=some s.heap.objs.size,data:=o.data,slots:=o.slots })=a7 at *
 refine wpAny_pure ?_
 refine wpAny_bind (wpAny_pure (wpAny_bind ?_))
 refine wpAny_bind (wpAny_bind (wpAny_askSetting (wpAny_pure (wpAny_bind (wpAny_mkText (wpAny_bind (wpAny_loadPart Qw ?_)))))))
 have Mn:=Heap.get?_update_self (Obj.putName "told" (PyData.keyHash w.params "told") (.str "told" s.toks) v) Qw rfl
 have oth:∀b o,b≠s.heap.objs.size->a7.get? b=some o->(a7.update s.heap.objs.size (Obj.putName "told" (PyData.keyHash w.params "told") (.str "told" s.toks) v)).get? b=some o:=λ b o hb e=>(Heap.get?_update_ne _ _ _ _ hb).trans e
 refine wpAny_updatePart Qw (wpAny_bind (wpAny_lookBehind Mn (pastItsLine_dict (by decide:1<=_)) (wpAny_pure ?_)))
 exact hq _ _ s.heap.objs.size _ (λ b o hb e=>oth b o (λ q=>by rw[q,Heap.get?_none_of_le (Nat.le_refl _)]at e;exact bJ e) (Qf b o hb e)) (oth x _ SW UY) (Heap.get?_none_of_le (Nat.le_refl _)) Mn ⟨_,_,rfl⟩ rfl
def kG(C x:Addr)(vs:Array Value)(v:Value)(s:Shared)(h':Heap):Prop :=
 (∀b o,b≠x->s.heap.get? b=some o->h'.get? b=some o)/\∃dx od,h'.get? x=some { cls:=.ref C,dict:=some dx,data:=.fields vs }/\s.heap.get? dx=none/\h'.get? dx=some od/\(∃es n,od.data=.dict es n)/\lookIn "told" od=some (some v)
theorem E5{E:Value->Shared->Prop}{Q:Unit->Shared->Prop}{vs:Array Value}{v:Value}(X:K.In s.heap)(he:s.heap.get? x=some { cls:=.ref C,data:=.fields vs })(e:OY K C)
  (hq:∀h' k,kG C x vs v s h'->Q () { s with heap:=h',toks:=k }):wpAny (model prog w) A (setAttr (.ref x) "told" v) Q E s:=by
 have I:InstAt s.heap x { cls:=.ref C,data:=.fields vs } C none:=⟨he,rfl,rfl,trivial⟩
 refine set_plain X I e.sa (DV (s:={ s with toks:=s.toks+1 }) X I e λ b=>vi (s:={ s with toks:=s.toks+1 }) X he e λ h' k dx od a1 a2 a3 a4 a5 a6=>?_)
 exact hq h' k ⟨a1,dx,od,a2,a3,a4,a5,a6⟩
theorem kG.back{vs:Array Value}{v:Value}{aB:Shared}{h':Heap}(k:∀b o,s.heap.get? b=some o->aB.heap.get? b=some o)(h:kG C x vs v aB h'):kG C x vs v s h':=by
 obtain⟨a,dx,od,b1,b2,b3⟩:=h
 refine⟨λ b o hb e=>a b o hb (k b o e),dx,od,b1,?_,b3⟩
 cases q:s.heap.get? dx with
 |none=>rfl
 |some o=>rw[k _ _ q]at b2;exact qF b2
structure uu (r:bO):Prop where
 body:∃p1 p2 p3 p4,r.body=[.Assign [.Attribute (.Name "self" p1) "told" p2] (.Name "told" p3) p4]
 par:gU r.params=some [Str.ofString "self",Str.ofString "told"]
 sc:eK r.scope=true
 l1:r.scope.names.lookup (Str.ofString "self")=some NameKind.local
 l2:r.scope.names.lookup (Str.ofString "told")=some NameKind.local
theorem oM{kf:Str->Option NameKind}{a b:Str}{x y:Value}{m:Str->Option Value}(h1:kf a=some .local)(h2:kf b=some .local)(Ud:a≠b):bindL kf [(a,x),(b,y)] m a=some x/\bindL kf [(a,x),(b,y)] m b=some y:=by
 simp[fy,bindL,h1,h2,Ud]
set_option tactic.hygienic true in
theorem AR{fI:Addr}{r:bO}{E:Value->Shared->Prop}{Q:Value->Shared->Prop}{vs:Array Value}{v:Value}(X:K.In s.heap)(UN:s.heap.NoLimit)(hf:nT K fI r)(hr:uu r)(he:s.heap.get? x=some { cls:=.ref C,data:=.fields vs })(e:OY K C)(qS:A.depth<recursionLimit)
  (hq:∀h' k,kG C x vs v s h'->Q .none { s with heap:=h',toks:=k }):wpAny (model prog w) A (call (.ref fI) [.ref x,v]) Q E s:=by
 obtain⟨oc,od,osl,dV,kV,doc,pm,an,cdv,ct,hK,nN,my⟩:=hf
 refine LB hr.body λ p1 p2 p3 p4 hb=>?_
 have jL:=m2 (kV:=kV) (doc:=doc) (pm:=pm) (an:=an) (cdv:=cdv) (ct:=ct) (vs:=[.ref x,v]) hr.par (by decide) (s:=s) (dV:=dV) (by
  split
  .rename_i q
   rw[if_pos q]at my
   refine gH my λ T o n e1 e2 e3=>sR T o n e1 (X _ _ e2) e3
  .rename_i q
   rw[if_neg q]at my
   exact my) rfl
 have jq:=hr.sc
 obtain⟨rK,G8,G7,ic,jK⟩:=Cb jq
 refine wpAny_call (gg (fd:=fnOf r.name r.qual r.params r.body r.scope dV kV doc pm an cdv ct) (body:=r.body) qS (X _ _ hK) rfl UN (codeRec_of X nN) rfl jL rfl (λ y hy=>.inl ?_) (λ aB IC=>?_) G8 G7 rK)
 .rcases A03 hy with rfl|hy
  .exact hr.l1
  .rw[A04 hy];exact hr.l2
 .rw[hb]
  have kQ:=IC.toInCall.keep
  refine fS IC.toInCall.same λ a7 rS dz=>?_;subst dz
  refine wpAny_execs_cons (plainObj_wpAny_Assign_Attribute (NameLC IC rK hr.l2 (v:=v) ?_ (NameLC IC rK hr.l1 (v:=.ref x) ?_ (E5 (X.keeps kQ) (kQ _ _ he) e λ h' k W=>?_) (by decide)) (by decide)) rfl)
  .exact(oM hr.l1 hr.l2 (by decide)).2
  .exact(oM hr.l1 hr.l2 (by decide)).1
  .exact wpAny_execs_nil (hq h' k (W.back kQ))
end
end
theorem vf{h base:Heap}:∀{l:List Env},(∀e∈l,e.scope.kind≠.module/\∃L o,e.frame=some L/\base.get? L=none/\h.get? L=some o/\∀vs,o.data≠.fields vs)->h.FunFrames base l:=by
 intro zl
 induction zl with
 |nil=>
  intro _
  exact trivial
 |cons e l ih=>
  intro k
  exact⟨(k e (.head _)).1,(k e (.head _)).2,ih λ e' he=>k e' (.tail _ he)⟩
section
variable {h:Heap}
theorem aG.nb(H:aG g c base Y X ρ σ h)(hx:X L=none):base.get? L=none:=by
 cases q:base.get? L with
 |none=>rfl
 |some o=>rw[H.bx _ _ q]at hx;exact qF hx
theorem aG.ff(H:aG g c base Y X ρ σ h):h.FunFrames base c.frs:=vf λ e he=>by
 obtain⟨k,L,hL,z⟩:=H.fr e he
 refine⟨k,L,?_⟩
 rcases z with rfl|⟨cl,d,hy,hd⟩
 .refine cI (H.ow _ (.head _)) λ il hx _=>?_;obtain⟨o,ho,hn⟩:=il
  exact MU o hL (H.nb hx) ho hn
 .refine cG (H.y _ _ _ hy) λ o ho _ ux=>?_;subst ux
  exact MU o hL (H.nb (H.yx _ _ hy)) ho hd
theorem zo(H:aG g c base Y X ρ σ s.heap)(hm:Heap.MadeExcOf s.heap a7 e (.ref g.aBad) [v])
  (ht:a7.get? e=some { cls:=.ref g.aBad,data:=.fields #[.ref t,.none,.none,.none,.bool false,.none] }) (W:kG g.aBad e #[.ref t,.none,.none,.none,.bool false,.none] v { s with heap:=a7 } a8) (r:bz (Pm g) base.get? v d) (k:Nat) :
  ∃dx,lG g base c.frs e dx d a8/\dR [] Y s { s with heap:=a8,toks:=k }/\∀b∈[e,dx],b∉[]/\Y b=none/\g.ex b=none:=by
 obtain⟨a,dx,od,b1,b2,b3,b4,b5⟩:=W
 have old:∀b o,s.heap.get? b=some o->b≠e:=λ b o q z=>by rw[z,hm.new]at q;exact bJ q
 have keep:∀b o,s.heap.get? b=some o->a8.get? b=some o:=λ b o q=>a b o (old b o q) (hm.keeps b o q)
 have no:∀{b},s.heap.get? b=none->base.get? b=none:=λ{b} q=>by
  cases z:base.get? b with
  |none=>rfl
  |some o=>rw[H.x _ _ (H.bx _ _ z)]at q;exact qF q
 have dn:s.heap.get? dx=none:=by
  cases z:s.heap.get? dx with
  |none=>rfl
  |some o=>rw[hm.keeps _ _ z]at b2;exact qF b2
 have fe:=H.fresh hm.new
 have fd:=H.fresh dn
 refine dW dx ⟨λ b o q=>keep b o (H.x _ _ (H.bx _ _ q)),⟨no hm.new,H.nex fe.1⟩,H.ff.of_keeps λ b o q _=>⟨o,keep b o q,rfl⟩,λ b o q=>keep b o (H.x _ _ (H.xe _ _ q)),λ L hL=>?_,⟨_,_,od,v,b1,no dn,b3,λ q=>?_,b4,b5,r,(by decide:5<6),.no rfl⟩⟩ (.ext keep) (λ b hb=>⟨nofun,?_⟩)
 .refine aD (List.mem_filterMap.mp hL) λ e' he hL=>?_
  obtain⟨_,L',Se,z⟩:=H.fr e' he
  rw[hL]at Se;(refine sj Se λ zq=>?_;subst zq)
  rcases z with rfl|⟨cl,d,hy,hd⟩
  .exact H.nex (H.ow _ (.head _)).2.1
  .exact H.nex (H.yx _ _ hy)
 .obtain⟨_,o,ho,_⟩:=H.ff.mem q
  rw[dn]at ho;exact bJ ho
 .rcases A03 hb with rfl|hb
  .exact⟨fe.2.1,H.nex fe.1⟩
  .rw[A04 hb];exact⟨fd.2.1,H.nex fd.1⟩
end
section
variable {M:Model}
variable {bm:List Value}
inductive Bc (C:Addr)(bm:List Value)(o:Obj):Prop where
 |mk (nm q:Str) (N:Addr) (bs:List Value) (qW:Bool) (sn:List Str) (sub:List Value) (ab:Bool) (col:Option Bool) (dd:Option Addr) (k0 k1 k2 k3 k5:Option Value) (e:o=excClassObj nm q C N bs bm qW sn sub ab col dd k0 k1 k2 k3 k5 "Exception.__new__")
theorem rx(T:mt bm)(hh:A.handled=none)
  (h:wpAny M A x (λ v aB=>∃e t d o,v=.ref e/\aB.heap.get? C=some o/\Bc C bm o /\
   aB.heap.get? e=some { cls:=.ref C,dict:=d,data:=.fields #[.ref t,.none,.none,.none,.bool false,.none] }/\E (.ref e) aB) E s) :
  wpAny M A (raiseStmt env (some x) none) Q E s:=by
 have hcB:(Value.ref C::bm).contains (.type "BaseException")=true:=by simp only[List.contains_cons,T.base,Bool.or_true]
 refine wpAny_bind (wpAny_mono h (λ v aB a7=>?_) λ _ _ x=>x)
 obtain⟨e,t,d,o,rfl,hC,⟨nm,q,N,bs,qW,sn,sub,ab,col,dd,k0,k1,k2,k3,k5,rfl⟩,he,hE⟩:=a7
 obtain⟨hp,g,dr,tk,os⟩:=aB
 repeat (first | with_reducible refine wpAny_loadPart_at he ?_ | with_reducible refine wpAny_loadPart_at hC ?_ | (with_reducible refine wpAny_isSubtype_exc hC ?_;rw[hcB]) | wp_step)
 exact wpAny_raiseNew_none hh hE
end
structure Be (g:c8):Prop where
 cl:∃o bm,g.K.lookup g.aBad=some o/\Bc g.aBad bm o/\mt bm
 ex:OY g.K g.aBad
 call:specialIn g.K (.ref g.aBad) "__call__" = some (some (.builtin "type.__call__"))
 ini:∃fI r,findIn g.K (.ref g.aBad) "__init__" = some (some (.ref fI))/\typeIn g.K (.ref fI)=some (.type "function")/\nT g.K fI r/\uu r
section
variable {E:D->Prop}
theorem BM(B:Be g)(hk:0<c.k)(h:AE g c ρ σ (.Name x np) (λ d aM=>d=.ref g.aBad/\wL g c ρ aM cpos [arg] (λ ds a9=>∃i,ds=[.int i]/\E (.int i)) E) E)(hp:(backTo cpos (starEach [arg] c.env)).any (·.1)=false) :
  AX g c ρ σ (.Raise (some (.Call (.Name x np) [arg] [] cpos)) none pos) Q E:=λ base Y X s H=>by
 refine je B.cl λ o bm hK hO T=>Bl B.ini λ fI r i1 i2 i3 i4=>wpAny_bind (wpAny_standAt (rx (C:=g.aBad) T (H.ok.hand hk) ?_))
 refine wpAny_bind (wpAny_mono (wpAny_Call_ofName (wpAny_mono (h base Y X s H) ?_ λ _ _ z=>z.nil)) (λ v bu cB=>wpAny_bind (wpAny_standAt (wpAny_pure cB))) λ _ _ x=>x)
 rintro bI aB ⟨bA,bB,aM,aY,aZ,aJ,aL,rfl,a7⟩
 obtain rfl:=aL.inv
 refine fF hp (wpAny_mono (a7 base Y bA aB aZ) ?_ λ _ _ z=>z.nil.back aJ.nil)
 rintro vs aP ⟨az,ds,a9,aU,am,au,aa,i,rfl,hE⟩
 obtain⟨v,ws,rfl,rv,pn⟩:=aa.inv
 obtain rfl:=pn.inv
 refine aS rv.inv λ tk ak=>?_;subst ak
 have X':g.K.In aP.heap:=am.gd.kin.keeps λ b o e=>am.x b o (am.bx b o e)
 obtain⟨nm,q,N,bs,qW,sn,sub,ab,col,dd,k0,k1,k2,k3,k5,rfl⟩:=hO
 refine jh (d:=.ref g.aBad) (P:=Pm g) (X:=X) (.cls hK B.call) (.ref _) X' λ kp=>AU T X' (X' _ _ hK) i1 i2 (λ a7 e hm=>?_) (by exact(by decide:1<=16777216))
 refine aD hm.there λ t ht _=>AR (s:={ aP with heap:=a7 }) (X'.keeps hm.keeps) ((am.gd.nl.keeps λ b o e=>am.x b o (am.bx b o e)).keeps hm.keeps) i3 i4 ht B.ex ?_ λ a8 k W=>?_
 .refine kU (im (A:=c.A) (C:=g.aBad) (aI:=[.int i tk]) (kw:=[])) λ u1 u2 u3 u4=>(?_:(c.A.under (.builtin "type.__call__" ⟨.ref g.aBad::[.int i tk],[]⟩)).depth<_)
  have:=am.ok.room
  exact Tb ‹_› ‹_›
 .refine cG (zo am hm ht W (.int i tk) k) λ Si F st h5=>?_
  obtain⟨_,dx,od,b1,-⟩:=id W
  exact⟨rfl,e,t,some dx,_,rfl,W.1 _ _ (λ z=>by have:=X' _ _ hK;rw[z,hm.new]at this;exact bJ this) (hm.keeps _ _ (X' _ _ hK)),⟨nm,q,N,bs,qW,sn,sub,ab,col,dd,k0,k1,k2,k3,k5,rfl⟩,b1,⟨e,Si,_,rfl,F,(aJ.trans au).nil.trans st,hE,h5⟩⟩
end
section
variable {K:Frag}
theorem ES(X:K.In s.heap)(I:InstAt s.heap x ox C od)(U2:findIn K (.ref C) "__getattribute__" = some (some (.builtin "BaseException.__getattribute__")))(U0:findIn K (.ref C) "__getattr__" = some none)(hb:mroIn K C (.type "BaseException")=some true)
  (hf:findObj K C od name=some (.value v)) (hh:handedIn v=true) (h:Q v { s with toks:=s.toks+1 }):wpAny (model prog w) A (getAttr (.ref x) name true) Q E s:=by
 obtain⟨hp,g,d,t,os⟩:=s
 have L0:=I.type (M:=model prog w)
 have L1:=looks_findIn (M:=model prog w) X U2
 have L2:=looks_findIn (M:=model prog w) X U0
 have L3:=looks_find (M:=model prog w) X I hf
 refine wpAny_bind (wpAny_mkText (wpAny_holding (wpAny_bind (L0.at (wpAny_bind (L1.at ?_))))))
 refine wpAny_bind (L2.at ?_)
 have V7:(true&&onTheHeap (Value.builtin "BaseException.__getattribute__"))=false:=rfl
 refine wpAny_bind (wpAny_attempt (wpAny_holding ?_))
 delta callGetattribute
 delta boundAndCalled
 have f3:=PySem.F.attr_Exception.ga.bind (.ref x)
 refine wpAny_bind (wpAny_pure ?_)
 have sub:Looks (model prog w) hp (isInstance (.ref x) (.type "BaseException")) true:=L0.andThen (looks_mroIn X hb)
 refine wpAny_call (codeAny_call_builtin PySem.F.attr_Exception.ga.plain F.entry_bexc_ga (@check_slot (model prog w) _ _ _ "BaseException.__getattribute__" "BaseException" "__getattribute__" (.ref x) [.str name t] [] _ (by decide +kernel) (by decide +kernel) sub (F.args_bexc_ga _ _) ?_))
 refine wpAny_bind (wpAny_pure (wpAny_bind (wpAny_pure (wpAny_bind (L0.at (wpAny_bind (L3.at ?_)))))))
 refine wpAny_pure ?_
 refine(?_:wpAny _ _ (handedOut v) _ _ _)
 rw[handedOut_of hh];exact wpAny_pure h
end
structure mh (K:Frag)(C:Addr):Prop where
 ga:findIn K (.ref C) "__getattribute__" = some (some (.builtin "BaseException.__getattribute__"))
 gh:findIn K (.ref C) "__getattr__" = some none
 mb:mroIn K C (.type "BaseException")=some true
 hd:hasDictIn K C=true
 no:findIn K (.ref C) "told" = some none
noncomputable abbrev c8.at(g:c8)(x:XT):c8:={ g with ex:=x }
section
variable {h:Heap}
theorem mz.at(x:XT)(B:mz g c base Y X m h p):mz (g.at x) c base Y X m h p:=by
 obtain⟨y,k,o⟩:=p
 cases k<;>exact B
theorem Ok.at(x:XT)(O:Ok g c):Ok (g.at x) c:=⟨O.frames,O.kind,O.glob,O.blt,O.room,O.units,O.hand,O.ownc,O.frame⟩
theorem GD.at(x:XT)(G:GD g base):GD (g.at x) base:=⟨G.kin,G.ns,G.nb,G.nl,G.nm⟩
theorem gA.at(x:XT)(R:gA (Pm g) X h p):gA (Pm (g.at x)) X h p:=R
theorem aG.at(x:XT)(H:aG g c base Y X ρ σ h)(hx:∀b o,x b=some o->X b=some o):aG (g.at x) c base Y X ρ σ h :=
 { gd:=H.gd.at x,ok:=H.ok.at x,bx:=H.bx,x:=H.x,y:=H.y,yx:=H.yx,fr:=H.fr,ow:=H.ow,nd:=H.nd,sr:=H.sr,sn:=H.sn,sx:=H.sx,loc:=let ⟨m,hn,hb⟩:=H.loc;⟨m,hn,λ p hp=>(hb p hp).at x⟩,abv:=H.abv,nn:=H.nn,xe:=hx,yf:=H.yf }
theorem aG.un{x:XT}(H:aG (g.at x) c base Y X ρ σ h)(hx:∀b o,g.ex b=some o->X b=some o):aG g c base Y X ρ σ h:=(H.at g.ex hx:aG ((g.at x).at g.ex) c base Y X ρ σ h)
noncomputable def lI(X:XT)(σ:aN)(h:Heap):XT:=λ b=>if b∈eD σ then h.get? b else X b
theorem NC(H:aG g c base Y X ρ σ h)(hb:b∈eD σ):∃o,h.get? b=some o:=by
 refine aD (List.mem_flatMap.mp hb) λ p hp hb=>?_
 have R:=H.sr p hp
 obtain⟨a,mo⟩:=p
 cases mo with
 |list ds=>
  refine dP R λ vs n e _=>?_
  rw[A04 hb];exact⟨_,e⟩
 |inst C dx fs=>
  obtain⟨e,es,n,e',-⟩:=R
  rcases A03 hb with rfl|hb
  .exact⟨_,e⟩
  .rw[A04 hb];exact⟨_,e'⟩
theorem aG.all(H:aG g c base Y X ρ σ h):fE X (lI X σ h)/\aG (g.at (lI X σ h)) c base Y (lI X σ h) ρ [] h:=by
 have nf:∀{b o},X b=some o->b∉eD σ:=λ e q=>by rw[(H.sx _ q).1]at e;exact bJ e
 have l:fE X (lI X σ h):=λ b o e=>(if_neg (nf e)).trans e
 refine⟨l,((H.drop (List.nil_sublist σ)).more l (λ b o e=>?_) (λ b p e=>?_) (λ a ha=>?_) (λ _ q=>absurd q List.not_mem_nil)).at _ λ _ _ e=>e⟩
 .by_cases q:b∈eD σ
  .exact(if_pos q).symm.trans e
  .exact H.x _ _ ((if_neg q).symm.trans e)
 .refine(if_neg λ q=>?_).trans (H.yx b p e)
  rw[(H.sx b q).2]at e;exact bJ e
 .refine kU (H.ow a ha) λ _ h2 _ h4=>(if_neg h4).trans h2
theorem aG.err(H:aG g c base Y X ρ σ s.heap)(st:dR c.os Y s s')(k:∀b o,lI X σ s.heap b=some o->s'.heap.get? b=some o):aG g c base Y X ρ σ s'.heap:=by
 have kf:∀b∈eD σ,∀o,s.heap.get? b=some o->s'.heap.get? b=some o:=λ b hb o e=>k b o ((if_pos hb).trans e)
 refine{ H with x:=λ b o e=>k b o ((if_neg λ q=>?_).trans e),y:=λ b cl d e=>?_,ow:=λ a ha=>?_,sr:=λ p hp=>(H.sr p hp).keep λ b hb=>kf b (List.mem_flatMap.mpr ⟨p,hp,hb⟩),loc:=?_ }
 .rw[(H.sx _ q).1]at e;exact bJ e
 .refine cG (H.y b cl d e) λ o ho hc hd=>cG (st.ky b o ⟨_,e⟩ ho (hd▸H.yf _ _ e)) λ o' nr v8 ig=>dW o' nr (v8.trans hc) (ig.trans hd)
 .refine aj (H.ow a ha) λ h1 r=>⟨(st.ko a ha).2.2 h1,r⟩
 .refine aD H.loc λ m hn hb=>ad m ((st.ko _ (.head _)).1 m hn) (λ p hp=>?_)
  have B:=hb p hp
  obtain⟨x,sk,ov⟩:=p
  cases sk with
  |glb=>exact B
  |loc=>
   obtain⟨hd,hk|⟨hk,a,ez,ha,hc,hv⟩⟩:=B
   .exact⟨hd,.inl hk⟩
   .exact⟨hd,.inr ⟨hk,a,ez,ha,(st.ko a (.tail _ (A11 ⟨_,ha,rfl⟩))).2.1 _ hc,hv⟩⟩
theorem KV(H:aG g c base Y X ρ σ h)(q:lI X σ h b=none):X b=none/\b∉eD σ:=by
 have n:b∉eD σ:=λ z=>by
  refine aS (NC H z) λ o e=>?_
  simp only[show lI X σ h b=h.get? b from if_pos z,e]at q;exact qF q
 exact⟨(if_neg n).symm.trans q,n⟩
theorem HN(H:aG g c base Y X ρ σ s.heap)(hk:c.env.kindOf x=some .local)(hx:∀o,(x,SK.loc,o)∈ ρ->o=none)(hv:∃m,s.heap.Ns c.env.locals m/\m x=some v)
  (q:∀h',aG g c base Y X ρ σ h'->Q () { s with heap:=h' }):wpAny (M g) A (unbindName c.env x) Q Ev s:=by
 have cl:(c.env.scope.kind==.class||(c.env.scope.kind==.module&&c.env.locals !=c.env.globals))=false:=by rw[H.ok.kind];rfl
 refine aD H.loc λ m hn hb=>aD hv λ m' lu hv=>?_
 obtain rfl:=sG lu hn
 refine wpAny_unbindName_local hk hn hv cl λ h' u lu hs=>q h' ?_
 refine H.turn (.head _) hs (by refine gH lu λ o es ep e ed _=>?_;exact ad o e (λ vs q=>by rw[ed]at q;cases q)) ⟨_,lu,λ p hp=>?_⟩ H.nn
 have B:=hb p hp
 obtain⟨y,k,o⟩:=p
 cases k with
 |glb=>exact B
 |loc=>
  obtain⟨hd,⟨mw,v7⟩|⟨mw,a,ez,ha,hc,v7⟩⟩:=B
  .refine⟨hd,.inl ⟨mw,λ d e=>?_⟩⟩
   refine aD (v7 d e) λ v' e' r'=>ad v' ((if_neg λ z=>?_).trans e') r'
   subst z;subst e
   exact nomatch hx _ hp
  .refine⟨hd,.inr ⟨mw,a,ez,ha,hc.sameBut hs λ q=>?_,v7⟩⟩
   have:=H.nd
   simp only[Cx.os,List.nodup_cons]at this
   exact this.1 (A11 ⟨_,ha,q⟩)
theorem ud(ha:mh g.K g.aBad)(hl:Lk ρ x (.ref e))(he:g.ex e=some ⟨.ref g.aBad,some dx,.fields vs,sl⟩)(hd:g.ex dx=some od)(qU:lookIn "told" od=some (some (.int i tk)))
  (q:Q (.int i) σ):AE g c ρ σ (.Attribute (.Name x np) "told" ap) Q E:=by
 refine ui (ca hl λ c base Y X ρ s v H rv=>?_)
 obtain rfl:=rv.inv
 have I:PySem.W.InstAt s.heap e ⟨.ref g.aBad,some dx,.fields vs,sl⟩ g.aBad (some od):=⟨H.x _ _ (H.xe _ _ he),rfl,rfl,H.x _ _ (H.xe _ _ hd)⟩
 exact ES (H.gd.kin.keeps λ b o e=>H.x _ _ (H.bx _ _ e)) I ha.ga ha.gh ha.mb (findObj_own ha.hd ha.no rfl qU) rfl (bH H (.int _ _) q)
end
section
open Sem (wp)
noncomputable def oB{α:Type}(o:Option α)(f:α->Bool):Bool:=match o with
 |some a=>f a
 |none=>false
theorem gW{α:Type}{o:Option α}{f:α->Bool}(h:oB o f=true):∃a,o=some a/\f a=true:=match o,h with
 |some a,h=>⟨a,rfl,h⟩
theorem cg{e k:Nat}{A:e=k->Bool}(h:(if h:e=k then A h else false)=true):∃q,A q=true:=by
 by_cases q:e=k
 .rw[dif_pos q]at h;exact⟨q,h⟩
 .rw[dif_neg q]at h;exact dJ h
noncomputable def D1(e:Expr)(f:UnaryOp->Expr->Pos->Bool):Bool:=if h:e.ctorIdx=3 then Expr.UnaryOp.elim (motive_1:=λ _=>Bool) e h f else false
@[elab_as_elim] theorem sA {e:Expr}{f:UnaryOp->Expr->Pos->Bool}{M:Expr->Prop} (h:D1 e f=true) (k:∀a b p,f a b p=true->M (.UnaryOp a b p)):M e :=
 aS (cg h) λ q h=>Expr.UnaryOp.elim (motive_1:=λ e=>∀q,Expr.UnaryOp.elim (motive_1:=λ _=>Bool) e q f=true->M e) e q (λ _ _ _ _ h=>k _ _ _ h) q h
noncomputable def fG(e:Expr)(f:Const->Nat->Pos->Bool):Bool:=if h:e.ctorIdx=19 then Expr.Constant.elim (motive_1:=λ _=>Bool) e h f else false
@[elab_as_elim] theorem di {e:Expr}{f:Const->Nat->Pos->Bool}{M:Expr->Prop} (h:fG e f=true) (k:∀a b p,f a b p=true->M (.Constant a b p)):M e :=
 aS (cg h) λ q h=>Expr.Constant.elim (motive_1:=λ e=>∀q,Expr.Constant.elim (motive_1:=λ _=>Bool) e q f=true->M e) e q (λ _ _ _ _ h=>k _ _ _ h) q h
section
variable {k:Nat}
theorem m6{pos:Pos}{Q:Fl->Rh->aN->Prop}(h:Q (.ret .none) ρ σ):AX g c ρ σ (.Return none pos) Q E:=λ base Y X s H=>
 wpAny_Return_none ⟨X,.ret .none,ρ,σ,.refl X,H,.refl [] Y s,.none,h⟩
theorem KF{ks:List Int}{x:Int}{y:D}{Q:D->aN->Prop}(h:ks.contains x=false)(q:Q y S):AC g k (.bi "dict.get") [.dict ks,.int x,y] S Q E:=TH rfl λ{c base Y X ρ s v w z} H r1 r2 r3=>by
 refine aS r2.inv λ t ak=>?_;subst ak
 obtain⟨a,o,es,ep,rfl,hx,hc,hd,hk,hf,hm⟩:=r1.inv
 have hM:s.heap.MapOf (intKind g.prog g.w) a (λ k=>findBy Value.isInt es k):=Heap.IntMap.mapOf ⟨o,es,ep,H.x _ _ hx,hc.1,hd,hk,λ _=>rfl⟩ λ o' e=>by
  simp only[H.x _ _ hx]at e;(refine sj e λ zq=>?_;subst zq);exact hc.2
 have hn:findBy Value.isInt es x=none:=by
  have:=hf x
  simp only[h]at this
  cases e:findBy Value.isInt es x with
  |none=>rfl
  |some _=>rw[e]at this;exact tm this
 refine call_meetsIn PySem.F.slot_dict_get hM.typeIs PySem.F.entry_dict_get (PySem.F.args_dict_get_3 _ _ _) (meets_dict_get_default (intKind g.prog g.w) a (k:=x) (by simp[intKind,Value.isInt]) (A05 hm) _) ⟨_,hM,?_⟩
 rw[hn]
 exact bH H r3 q
theorem BB{a:Addr}{ds es:List D}{Q:D->aN->Prop}(U:Up S (a,.list ds) (a,.list (ds++es)) S')(hz:ds.length+es.length<=16000000)(q:Q .none S'):AC g k (.bi "list.extend") [.ref a,.list es] S Q E:=Bi rfl λ{c base Y X ρ s v w} H r1 r2=>by
 obtain rfl:=r1.inv
 obtain⟨b,ws,n2,rfl,hx,rl2⟩:=r2.inv
 refine dP (H.sr _ U.mem) λ vs n e rl=>?_
 have l1:=rl.length
 have l2:=rl2.length
 refine call_meets PySem.F.slot_list_extend ⟨_,e,rfl⟩ PySem.F.entry_list_extend (PySem.F.args_list_extend_2 _ _) (PySem.AutoSeq1.list_extend_list_list_0 a vs.toArray n b ws.toArray n2 ?_ ?_ ?_) ⟨e,H.x _ _ hx,?_⟩
 .unfold Builtin.List.listTooLong
  simp only[List.size_toArray,List.size_toArray,sizeLine_eq]
  simp;lia
 .simp only[List.size_toArray,sizeLine_eq];lia
 .simp only[List.size_toArray,List.size_toArray,sizeLine_eq];lia
 .refine aS (Obj.data_mapSeq (rfl:(seqObj "list" vs.toArray n).data=.seq vs.toArray n) (λ x=>x++ws.toArray)) λ n' ig=>?_
  have e':(s.heap.update a (Obj.mapSeq λ x=>x++ws.toArray)).get? a=some (seqObj "list" (vs++ws).toArray n'):=by
   simp only[Heap.get?_update_self _ e (Obj.isFreed_of_seq ig)]
   congr 1
   have hc:=Obj.cls_mapSeq (seqObj "list" vs.toArray n) (λ x=>x++ws.toArray)
   generalize ho:Obj.mapSeq (λ x=>x++ws.toArray) (seqObj "list" vs.toArray n)=o at ig hc
   unfold seqObj Obj.mapSeq at ho
   dsimp only at ho
   subst ho
   dsimp only at ig
   simp only[List.append_toArray]at ig ⊢
   congr 1
  refine aj (H.upL (t:=s.toks) U (Heap.SameBut.update ..) e' (rl.append rl2)) λ H' st=>⟨X,.none,S',.refl X,H',st,.none,q⟩
theorem qa(c:Nat):∀(n:Nat)(acc:Array Nat),((List.replicate n (#[c]:Array Nat)).foldl (·++·) acc).toList=acc.toList++List.replicate n c:=by
 intro zl
 induction zl with
 |zero=>
  intro acc
  simp
 |succ n ih=>
  intro acc
  simp only[List.replicate_succ,List.foldl_cons,ih,List.replicate_succ]
  simp
set_option tactic.hygienic true in
theorem LR{c:Nat}{n:Int}{Q:D->aN->Prop}(h0:0<=n)(h1:n<=1000)(q:Q (.str (List.replicate n.toNat c)) S):cy g (binaryOp .Mult) (.str [c]) (.int n) S Q E:=Gn λ{cx base Y X ρ s} t u H=>by
 have Qq:(Str.mk [c].toArray).length=1:=rfl
 refine P.mul_str (by lia) (λ h _=>?_) (λ h _=>?_) ?_
 .skip
  have:1<=(2 ^ 63-1) / n:=by
   have:=Int.le_ediv_of_mul_le (a:=1) (b:=2 ^ 63-1) (c:=n) (by exact Int.not_lt.mp ‹_›) (by lia)
   exact this
  exact Int.not_lt.mpr ‹_›
 .unfold Builtin.Str.tooLong
  simp only[Qq,sizeLine_eq]
  simp;exact Od ‹_›
 .split
  .have hn:n=0:=by lia
   subst hn
   exact⟨by decide,bH H (fc rfl) q⟩
  .split
   .rename_i h2 h3
    have hn:n=1:=by
     rw[Qq]at h3
     simpa using h3
    subst hn
    exact bM H (fc rfl) q
   .refine⟨?_,bH H (fc ?_) q⟩
    .have:(Str.mk ((List.replicate n.toNat [c].toArray).foldl (·++·) #[])).length=n.toNat:=by
      refine(?_:((List.replicate n.toNat (#[c]:Array Nat)).foldl (·++·) #[]).size=_)
      rw[<-Array.length_toList,qa]
      simp
     simp only[this,sizeLine_eq];lia
    .exact(qa c n.toNat #[]).trans (by simp)
theorem oU{prog:Program}{w:World}{A:Around}{E:Value->Shared->Prop}{s:Shared}{l:Addr}{items:Array Value}{t:Tok}{v:Value}{Q:Unit->Shared->Prop}(hl:s.heap.IsList l items)
  (h1:0<items.size)
  (hQ:∀h',h'.IsList l (items.setIfInBounds (items.size-1) v)->Heap.SameBut l s.heap h'->(∀o n,s.heap.get? l=some o->o.data=.seq items n->∃n',h'.get? l=some { o with data:=.seq (items.setIfInBounds (items.size-1) v) n' })->Q () { s with heap:=h' }) :
  wpAny (model prog w) A (setItem (.ref l) (.int (-1) t) v) Q E s:=by
 obtain⟨o,ho,hc,ne,hd⟩:=id hl
 unfold setItem
 try with_reducible refine wpAny_holding ?_
 first | refine wpAny_bind (wpAny_pure ?_) | skip
 refine wpAny_bind (wpAny_sequenceKey hl.typeIs (by decide) ?_)
 refine wpAny_bind (wpAny_callSpecial?_slot (name:=Str.ofString "__setitem__") hl.typeIs slot_list_setitem
  (wpAny_call_entry slot_list_setitem hl.typeIs entry_list_setitem ?_ (args_list_setitem _ _ _)))
 show wpAny _ _ (Builtin.List.listSubscript? (.int (-1) t)>>=_) _ _ s
 refine wpAny_bind (wpAny_listSubscript_int (by decide) ?_)
 have hj:items.size-1<items.size:=by exact Kh ‹_›
 have hx:items[items.size-1]?=some items[items.size-1]:=Array.getElem?_eq_getElem hj
 have Qu:seqIndex? (-1) items.size=some (items.size-1):=by
  rw[seqIndex_neg (by decide) (by lia)]
  congr 1;lia
 refine(?_:wpAny _ _ ((Builtin.List.listItems (.ref l)>>=λ xs=>pure ((seqIndex? (Int.negSucc 0) xs.size).bind λ i=>xs[i]?.map (i,·)))>>=_) _ _ s)
 refine wpAny_bind (wpAny_bind ?_)
 refine wpAny_bind (wpAny_seqItems ho hd (wpAny_pure (wpAny_pure ?_)))
 rw[show Int.negSucc 0=-1 from rfl,Qu]
 simp only[Option.bind_some,hx,Option.map_some]
 refine aS (Obj.data_mapSeq hd (·.setIfInBounds (items.size-1) v)) λ n' ig=>?_
 have EN:(s.heap.update l (Obj.mapSeq (·.setIfInBounds (items.size-1) v))).IsList l (items.setIfInBounds (items.size-1) v) :=
  ⟨_,Heap.get?_update_self _ ho (Obj.isFreed_of_seq ig),(Obj.cls_mapSeq ..).trans hc,n',ig⟩
 have G9:∀cq n,s.heap.get? l=some cq->cq.data=.seq items n->∃n',(s.heap.update l (Obj.mapSeq (·.setIfInBounds (items.size-1) v))).get? l=some { cq with data:=.seq (items.setIfInBounds (items.size-1) v) n' }:=λ cq n e1 e2=>by
  rw[ho]at e1;(refine sj e1 λ zq=>?_;subst zq)
  refine⟨n',?_⟩
  rw[Heap.get?_update_self _ ho (Obj.isFreed_of_seq ig)]
  congr 1
  rw[<-ig]
  obtain⟨a,b,d,e⟩:=o
  dsimp only at hd
  subst hd
  rfl
 refine wpAny_bind (wpAny_setSeqItemAt ho hd ?_)
 first
  |exact wpAny_bind (wpAny_pure (wpAny_pure ⟨.none,rfl,wpAny_pure (hQ _ EN (Heap.SameBut.update ..) G9)⟩))
  |exact wpAny_pure ⟨.none,rfl,wpAny_pure (hQ _ EN (Heap.SameBut.update ..) G9)⟩
noncomputable def ik(c:Const):Option Int:=match c with
 |.int i=>some i
 |_=>none
theorem zN{c:Const}{i:Int}(h:ik c=some i):c=.int i:=by
 cases c with
 |int j=>exact congrArg _ (A02 h)
 |_=>exact bJ h
noncomputable def LI(o:UnaryOp):Bool:=match o with
 |.USub=>true
 |_=>false
theorem Bq{o:UnaryOp}(h:LI o=true):o=.USub:=by
 cases o with
 |USub=>rfl
 |_=>exact dJ h
noncomputable def sJ(e:Expr):Bool:=D1 e λ o e _=>LI o&&fG e λ c _ _=>oB (ik c) λ i=>decide (i=1)
theorem FS{x:Str}{a:Addr}{p p' pos:Pos}{j value:Expr}{Q:Fl->Rh->aN->Prop}(hl:Lk ρ x (.ref a))(hj:sJ j=true)(hn:∀t l env,swapsWith value t l env=pure false)
  (h:AE g c ρ σ value (λ d σ'=>∃ds e σ'',Up σ' (a,.list (ds++[e])) (a,.list (ds++[d])) σ''/\Q .nx ρ σ'') E):AX g c ρ σ (.Assign [.Subscript (.Name x p) j p'] value pos) Q E:=λ base Y X s H=>by
 refine wpAny_Assign_Subscript (wpAny_mono (h base Y X s H) ?_ λ _ _ z=>z.nil) (hn _ _ _)
 rintro v aB ⟨bA,d,aM,aY,aZ,aJ,aL,ds,e,a9,U,q⟩
 have UX:AE g c ρ aM j (λ d' S'=>d'=.int (-1)/\S'=aM) E:=by
  refine sA hj λ o e1 _ UW=>aj (A07 UW) λ h1 UV=>di UV λ k _ _ UU=>aD (gW UU) λ i e0 UT=>?_
  simp only[Bq h1,zN e0,A00 UT]
  exact md (tJ (GY ⟨rfl,rfl⟩))
 refine wpAny_mono (ca (g:=g) (c:=c) (E:=E) (Q:=λ d' S'=>d'=.ref a/\S'=aM) hl ⟨rfl,rfl⟩ base Y bA aB aZ) ?_ λ _ _ z=>z.nil.back aJ.nil
 rintro ov aP ⟨az,bn,σ',aU,am,au,aa,rfl,rfl⟩
 refine wpAny_mono (UX base Y az aP am) ?_ λ _ _ z=>z.nil.back (aJ.trans au).nil
 rintro iv bu ⟨dH,i5,σ',bt,cD,c9,eA,rfl,rfl⟩
 obtain rfl:=aa.inv
 refine aS eA.inv λ _ ak=>?_;subst ak
 have rv:=aL.mono (aU.trans bt)
 refine dP (cD.sr _ U.mem) λ vs n e1 rl=>?_
 obtain⟨cZ,v',rfl,rl,_⟩:=rl.last
 refine oU (aw e1) (by simp only[List.size_toArray,List.length_append];exact Nat.succ_pos _) λ h' _ hs hf=>aS (hf _ n e1 rfl) λ n' e2=>?_
 have e3:((cZ++[v']).toArray.setIfInBounds ((cZ++[v']).toArray.size-1) v)=(cZ++[v]).toArray:=by
  apply Array.toList_inj.mp
  simp
 simp only[e3]at e2
 have rl':=rl.append (.cons rv .nil)
 refine aj (cD.upL (t:=bu.toks) U hs e2 rl') λ H' st=>⟨dH,.nx,ρ,a9,aY.trans (aU.trans bt),H',((aJ.trans au).trans (c9.trans st)).nil,trivial,q⟩
def OL(K:Frag)(C:Addr)(x:Str)(f:Addr):Prop:=specialIn K (.ref C) "__getattribute__" = some (some (.builtin "type.__getattribute__"))/\∃mc p aI,typeIn K (.ref C)=some mc/\readsIn K C mc=true /\
 findCls K (.ref C) mc x=some (.get (.builtin "staticmethod.__get__") (.ref p) .none (.ref C))/\recIn K p "staticmethod" = some (.ref f::aI)
theorem MA{C f:Addr}{x:Str}{Q:D->List D->aN->Prop}(h:OL g.K C x f)(q:Q (.ref f) [] σ):AM g (.ref C) x σ Q:=λ c base Y X ρ s v pl E H rv=>by
 obtain rfl:=rv.inv
 obtain⟨h1,mc,p,aI,h2,h3,h4,h5⟩:=h
 refine aD H.fr_of λ m F _=>method_of_cls F H.gd.kin h1 (cls_sm F H.gd.kin h2 h3 h4 h5 rfl ⟨X,.ref f,[],σ,.refl X,H,.toks _ Y s _,.ref f,.nil,q⟩)
end
end
section
open Sem (wp)
noncomputable def yk(c:Const):Option (List UInt8):=match c with
 |.bytes i=>some i
 |_=>none
theorem LA(h:yk c=some i):c=.bytes i:=by
 cases c with
 |bytes j=>exact congrArg _ (A02 h)
 |_=>exact bJ h
noncomputable def Ac:List (Option Expr)->List Expr->List Int->Bool
 |[],[],[]=>true
 |k::ks,v::vs,i::is=>(oB k λ k=>fG k λ c _ _=>oB (ik c) λ j=>decide (j=i))&&((fG v λ c _ _=>(ik c).isSome||(yk c).isSome)&&Ac ks vs is)
 |_,_,_=>false
class inductive DC:List (Option Expr)->List Expr->List Int->Prop
 |nil:DC [] [] []
 |int {ks:List (Option Expr)}{vs:List Expr}{is:List Int}{i j:Int}{a b:Nat}{p q:Pos} (h:DC ks vs is):DC (some (.Constant (.int i) a p)::ks) (.Constant (.int j) b q::vs) (i::is)
 |byt {ks:List (Option Expr)}{vs:List Expr}{is:List Int}{i:Int}{j:List UInt8}{a b:Nat}{p q:Pos} (h:DC ks vs is):DC (some (.Constant (.int i) a p)::ks) (.Constant (.bytes j) b q::vs) (i::is)
theorem Gf:∀{ks:List (Option Expr)}{vs:List Expr}{is:List Int},Ac ks vs is=true->DC ks vs is:=by
 intro zl
 induction zl with
 |nil=>
  intro bc cM cT
  cases bc with
  |nil=>
   cases cM with
   |nil=>
    exact .nil
   |cons kI zt2=>
    exact dJ cT
  |cons zh1 zt1=>
   exact dJ cT
 |cons zh zt ih=>
  intro bc cM cT
  cases bc with
  |nil=>
   exact dJ cT
  |cons zh3 zt3=>
   cases cM with
   |nil=>
    exact dJ cT
   |cons zh4 zt4=>
    refine aj (A07 cT) λ h1 cT=>aj (A07 cT) λ h2 hd=>aD (gW h1) λ zh e1 h1=>?_
    subst e1
    refine di h1 λ c a p h1=>aD (gW h1) λ j e3 h1=>?_
    rw[zN e3,A00 h1]
    refine di h2 λ c b q h2=>(Bool.or_eq_true_iff.mp h2).elim (λ z=>aS (A12 z) λ d e=>?_) λ z=>aS (A12 z) λ d e=>?_
    .rw[zN e];exact .int (ih hd)
    .rw[LA e];exact .byt (ih hd)
noncomputable def O7(env:Env)(pos:Pos):List (Option Expr)->List Expr->List (Sem Value×Sem Value)
 |some k::ks,v::vs=>(eval k env,do let x<-eval v env;standAt pos;pure x)::O7 env pos ks vs
 |_,_=>[]
section
variable {E:D->Prop}
theorem vS(h:DC ks vs is):(evalEachOpt ks env).zip ((evalEach vs env).map λ v=>do let x<-v;standAt pos;pure x)=(O7 env pos ks vs).map (λ p=>(some p.1,p.2))/\(O7 env pos ks vs).length=is.length:=by
 induction h with
 |nil=>exact⟨rfl,rfl⟩
 |int _ ih=>exact⟨congrArg (List.cons _) ih.1,congrArg Nat.succ ih.2⟩
 |byt _ ih=>exact⟨congrArg (List.cons _) ih.1,congrArg Nat.succ ih.2⟩
theorem GW:(intKind prog w).is i (Value.int i t)=true:=by simp[intKind,Value.isInt]
theorem DO(h:DC ks vs is):∀{s:Shared}{Q:List (Value×Value)->Shared->Prop},
  (∀vs t kvs,Carries (intKind prog w) vs kvs->kvs.map (·.1)=is->Q vs { s with toks:=t })->wpAny (model prog w) A (evalPairs (O7 env pos ks vs)) Q Ev s:=by
 induction h with
 |nil=>exact λ q=>evalPairs_nil (q [] _ [] trivial rfl)
 |int _ ih=>exact λ q=>evalPairs_cons (wpAny_Constant_int (wpAny_bind (wpAny_Constant_int (wpAny_bind (wpAny_standAt (wpAny_pure (ih λ cZ t' kvs hc hk=>q _ t' ((_,_)::kvs) ⟨GW,rfl,hc⟩ (congrArg _ hk))))))))
 |byt _ ih=>exact λ q=>evalPairs_cons (wpAny_Constant_int (wpAny_bind (wpAny_mkTextBytes (wpAny_bind (wpAny_standAt (wpAny_pure (ih λ cZ t' kvs hc hk=>q _ t' ((_,_)::kvs) ⟨GW,rfl,hc⟩ (congrArg _ hk))))))))
theorem nj:∀{kvs:List (Int×Value)}{k:Int},(valueAt kvs k).isSome=(kvs.map (·.1)).contains k
 |[],k=>rfl
 |p::r,k=>by
  have ih:=@nj r k
  unfold valueAt at ih ⊢
  rw[List.find?_cons,List.map_cons,List.contains_cons]
  by_cases h:p.1=k
  .subst h;simp
  .rw[decide_eq_false h]
   simp only[ih]
   have:(k==p.1)=false:=by rw[beq_eq_false_iff_ne];exact λ q=>h q.symm
   simp only[this,Bool.false_or]
theorem F8(h:Ac ks vs is=true)(h0:is≠[])(hl:is.length<=15)(nd:is.Nodup)(hb:1<mainGlobals)(q:Q (.dict is) S):AE g c ρ S (.Dict ks vs pos) Q E:=λ base Y X s H=>by
 refine aj (vS (env:=c.env) (pos:=pos) (Gf h)) λ hs fN=>wpAny_Dict_pairs (knd:=intKind g.prog g.w) hs (λ e=>by simp only[e]at fN;exact h0 (List.eq_nil_of_length_eq_zero fN.symm)) (by exact bK (Nat.le_trans (Nat.le_of_eq ‹_›) ‹_›)) (DO (Gf h) λ cZ t kvs hc hk=>⟨kvs,hc,?_,λ h' hd JK=>?_⟩)
 .exact⟨_,#[],0,Heap.get?_push_size _ rfl,⟨rfl,rfl,rfl⟩,rfl,λ _ he=>by simp at he,.nil,.nil⟩
 .simp only[merged_nil_of_nodup kvs (by simp only[hk];exact nd)]at hd
  have hm:=hd.mapOf
  refine LC hm λ o es ep ho v8 sU Ml hf=>?_
  have zW:s.heap.get? s.heap.objs.size=none:=by
   cases e:s.heap.get? s.heap.objs.size with
   |none=>rfl
   |some o=>exact absurd (Heap.lt_size e) (Nat.lt_irrefl _)
  have kp:∀b o,s.heap.get? b=some o->h'.get? b=some o:=λ b o e=>by
   have g7:b≠s.heap.objs.size:=Nat.ne_of_lt (Heap.lt_size e)
   rw[JK.2 b g7]
   exact Heap.get?_push_of_some _ e
  have ap:=H.fresh zW
  refine aj ((H.push kp).addX ap ho) λ l H'=>⟨_,.dict is,S,l,H',.ext kp,?_,q⟩
  refine .dict (bT ..) v8 sU (λ e he=>?_) (λ k=>?_) ?_
  .refine aD (Ml e he) λ k h1 h2=>aS (Value.isInt_shape h1) λ t h3=>gJ k t h3 h2
  .rw[show findBy Value.isInt es k=_ from hf k,nj,hk]
  .refine LD H.gd.ns λ o' Ul rM e' _=>?_
   have h1:=Heap.lt_size (H.x _ _ (H.bx _ _ e'))
   exact Nat.ne_of_gt (Nat.lt_trans hb h1)
end
end
section
variable {s:Shared}
theorem By{nms:List Str}(gd:GD g s.heap)(hx:∀b,g.ex b=none)(hf:nT g.K a r)(hd:r.dflt=false)(jq:eK r.scope=true)
  (rv:bG (Pm g) s.heap.get? vs ds) (nL:2+claimMargin+k<recursionLimit) (Va:15+12*k<cLine)
  (hb:∀vs:List Value,vs.length=ds.length->∀kV doc pm an cdv ct,bindArgs (fnOf r.name r.qual r.params r.body r.scope .none kV doc pm an cdv ct) ⟨vs,[]⟩=pure (nms.zip vs))
  (hn:nms.Nodup) (Og:(nms.all λ n=>r.scope.names.lookup n==some .local||r.scope.names.lookup n==some .cell)=true) (hρ:iT g.tab (nms.zip ds) r.scope.names=cb)
  (h:∀c',c'.k=k->(∃rr,c'.frs=c'.env::rr)->c'.env.scope=r.scope->pR g c' cb [] r.body (RQ Q) (λ _=>False))
  (eT:∀(v:Value) (d:D) (σ:aN) (X:XT) (h':Heap) (t:Nat),Q d σ->bz (Pm g) X v d->(∀b o,X b=some o->h'.get? b=some o)->(∀b o,s.heap.get? b=some o->h'.get? b=some o)->R (.ok (.ret v)) { s with heap:=h',toks:=t }) :
  codeAny (M g) callerA (.call (.ref a) ⟨vs,[]⟩) R s:=by
 obtain⟨oc,od,osl,dV,kV,doc,pm,an,cdv,ct,hK,nN,my⟩:=hf
 rw[hd]at my
 subst my
 obtain⟨rK,G8,G7,ic,jK⟩:=Cb jq
 have ho:=gd.kin _ _ hK
 have kz:∀x∈nms.zip vs,r.scope.names.lookup x.1=some .local\/(r.scope.names.lookup x.1=some .cell/\((cellsFrom (s.heap.objs.size+1) r.scope.names []).lookup x.1).isSome=true):=λ x hx=>by
  have pO:x.1∈nms:=jd (A11 ⟨x,hx,rfl⟩)
  have:=A06 Og _ pO
  simp only[Bool.or_eq_true,beq_iff_eq]at this
  exact this.imp id λ e=>⟨e,cellsFrom_some _ _ _ (.inl e)⟩
 refine(codeAny_call_cells (fd:=fnOf r.name r.qual r.params r.body r.scope .none kV doc pm an cdv ct) (body:=r.body) (binds:=nms.zip vs) (by exact Nat.le_add_left _ _) ho rfl gd.nl (codeRec_of gd.kin nN) rfl (hb vs rv.length kV doc pm an cdv ct) rfl kz (λ aB IC=>?_) G8 G7 rK)
 generalize hce:callEnvC (fnOf r.name r.qual r.params r.body r.scope .none kV doc pm an cdv ct) s.heap.objs.size a=ce at IC ⊢
 have ceS:ce.scope=r.scope:=by subst hce;rfl
 have ceG:ce.globals=mainGlobals:=by subst hce;rfl
 have ceB:ce.builtins=builtinsNs:=by subst hce;rfl
 have ceL:ce.locals=s.heap.objs.size:=by subst hce;rfl
 have ceF:ce.frame=some ce.locals:=by subst hce;rfl
 have ceC:ce.cells=cellsFrom (s.heap.objs.size+1) r.scope.names []:=by subst hce;rfl
 have cnd:(ce.cells.map (·.1)).Nodup:=by rw[ceC];exact gG ic .nil λ _ _ q=>cu q
 let c':Cx:={ A:=callerA.deeper ce,env:=ce,own:=ce.cells,frs:=[ce],k:=k }
 have aV:=IC.toInCall.same
 have kQ:=IC.toInCall.keep
 have H':aG g c' s.heap (λ _=>none) s.heap.get? cb [] aB.heap:=by
  refine{ gd:=gd,ok:=⟨rfl,ceS▸rK,ceG,ceB,?_,?_,λ _=>rfl,λ p hp=>bW cnd hp,⟨ce,[],ce.locals,rfl,rfl,ceF⟩⟩,bx:=λ _ _ e=>e,x:=kQ,y:=(λ _ _ _ e=>nomatch e),yx:=(λ _ _ e=>nomatch e),fr:=λ e he=>?_,ow:=λ b hb=>aj (oH ceL cnd IC b hb) λ n z=>jF z n rfl (λ q=>cu q),nd:=oI IC,sr:=(λ _ hp=>nomatch hp),sn:=.nil,sx:=(λ _ hb=>nomatch hb),loc:=⟨_,IC.toInCall.ns,λ p hp=>mW gd ic (λ p hp=>by simpa using A06 jK p hp) hn rv ceS ceC cnd IC p (hρ▸hp)⟩,abv:=Nat.le_of_eq ceL.symm,nn:=by subst hρ;exact ic.sublist l8,xe:=(λ b _ e=>nomatch (hx b).symm.trans e),yf:=(λ _ _ e=>nomatch e) }
  .assumption
  .refine(?_:4+3+12*k+8<cLine);lia
  .rcases A03 he with q|he
   .exact⟨by simp only[q,ceS,rK];decide,ce.locals,by rw[q];exact ceF,.inl rfl⟩
   .exact cu he
 have W:=h c' rfl ⟨[],rfl⟩ ceS s.heap (λ _=>none) s.heap.get? aB H'
 refine wpAny_mono W ?_ ?_
 .rintro f aP ⟨az,f',cJ,a9,aU,am,au,aa,q⟩
  have out:∀(v:Value) (d:D),bz (Pm g) az v d->(∃d' σ',Fi d a9 d' σ'/\Q d' σ')->R (.ok (.ret v)) aP:=λ v d rd ⟨d',σ',hz,hq⟩=>by
   refine cG (am.freeze hz rd) λ dH bt cD eA=>fS aV λ a7 rS mM=>fS au.sm λ a8 PZ gK=>?_
   have e:aP={ s with heap:=aP.heap,toks:=aP.toks }:=by rw[gK,mM]
   rw[e]
   exact eT v d' σ' dH _ _ hq eA cD.x λ b o ho=>cD.x b o (cD.bx b o ho)
  cases f<;>cases f'<;>first | exact aa.elim | exact q.elim | skip
  .refine aD q λ σ' k' q=>out .none .none .none ⟨.none,σ',.id k',q⟩
  .exact out _ _ aa q
 .rintro v aP ⟨e,dx,t,rfl,F,st,ht,h5⟩
  exact ht.elim
end
set_option genCtorIdx false
inductive W where | d (x:D) | r (i:Nat)
noncomputable def W.ctorIdx(t:W):Nat:=W.casesOn (motive:=λ _=>Nat) t (λ _=>0) (λ _=>1)
inductive MW where | list (ds:List D) | inst (C:Nat)(fs:List (Nat×W)) | gone
noncomputable def MW.ctorIdx(t:MW):Nat:=MW.casesOn (motive:=λ _=>Nat) t (λ _=>0) (λ _ _=>1) 2
noncomputable abbrev St:=List MW
noncomputable abbrev V:=List (Option W)
inductive R (α:Type) where | ok (a:α)(s:St) | err (d:D) | no
noncomputable def R.ctorIdx{α:Type}(t:R α):Nat:=R.casesOn (motive:=λ _=>Nat) t (λ _ _=>0) (λ _=>1) 2
noncomputable def R.bind{α β:Type}(r:R α)(f:α->St->R β):R β:=match r with
 |.ok a s=>f a s
 |.err d=>.err d
 |.no=>.no
noncomputable def need{α:Type}(b:Bool)(r:R α):R α:=match b with
 |true=>r
 |false=>.no
noncomputable def D7{α:Type}(o:Option α)(s:St):R α:=match o with
 |some a=>.ok a s
 |none=>.no
mutual
inductive BI where | len | ord | chr | range | tuple | list | bytes | max | repr | sorted | ksorted
inductive ut where | int | bool | cls (C:Nat)
end
noncomputable def BI.ctorIdx(t:BI):Nat:=BI.casesOn (motive_1:=λ _=>Nat) t 0 1 2 3 4 5 6 7 8 9 10
noncomputable def ut.ctorIdx(t:ut):Nat:=ut.casesOn (motive_2:=λ _=>Nat) t 0 1 (λ _=>2)
inductive CI where | loc | glb | fre (j:Nat)
noncomputable def CI.ctorIdx(t:CI):Nat:=CI.casesOn (motive:=λ _=>Nat) t 0 1 (λ _=>2)
inductive IT where | v (i:Nat) | t (is:List Nat)
noncomputable def IT.ctorIdx(t:IT):Nat:=IT.casesOn (motive:=λ _=>Nat) t (λ _=>0) (λ _=>1)
mutual
inductive IE where
 |k (d:D) | g (i:Nat) | v (i:Nat)
 |bin (op:Operator) (l r:IE) | cmp (op:CmpOp) (l r:IE) | cmp2 (eX cq:CmpOp) (l m r:IE)
 |not (x:IE) | neg (x:IE) | cond (t a b:IE) | boo (all:Bool) (xs:dS)
 |tup (xs:dS) | lst (xs:dS) | lsto (xs:dS)
 |ix (x i:IE) | sl (own:Bool) (x:IE) (a b c:IO)
 |bi (b:BI) (xs:dS) | isi (x:IE) (t:ut) | call (f:Nat) (xs:dS) | meth (o:IE) (m:Nat) (xs:dS) | attr (o:IE) (f:Nat)
 |comp (cs:List CI) (t:IT) (it:IE) (ifs:IO) (elt:IE)
 |sset (x:IE) | bad
inductive dS where | nil | cons (x:IE)(xs:dS)
inductive IO where | none | some (x:IE)
end
noncomputable def IE.ctorIdx(t:IE):Nat:=IE.casesOn (motive_1:=λ _=>Nat) t (λ _=>0) (λ _=>1) (λ _=>2) (λ _ _ _=>3) (λ _ _ _=>4) (λ _ _ _ _ _=>5) (λ _=>6) (λ _=>7) (λ _ _ _=>8) (λ _ _=>9) (λ _=>10) (λ _=>11) (λ _=>12) (λ _ _=>13) (λ _ _ _ _ _=>14) (λ _ _=>15) (λ _ _=>16) (λ _ _=>17) (λ _ _ _=>18) (λ _ _=>19) (λ _ _ _ _ _=>20) (λ _=>21) 22
noncomputable def dS.ctorIdx(t:dS):Nat:=dS.casesOn (motive_2:=λ _=>Nat) t 0 (λ _ _=>1)
noncomputable def IO.ctorIdx(t:IO):Nat:=IO.casesOn (motive_3:=λ _=>Nat) t 0 (λ _=>1)
mutual
inductive IS where
 |asg (i:Nat) (e:IE) | asgt (ts:List Nat) (e:IE) | mas (sw:Bool) (ts:List Nat) (es:dS)
 |seta (o:IE) (f:Nat) (e:IE) | auga (o:IE) (f:Nat) (op:Operator) (e:IE) | augv (i:Nat) (op:Operator) (e:IE)
 |setx (i:Nat) (e:IE) | ex (e:IE) | ret (e:IE) | iff (t:IE) (a b:bp) | whl (t:IE) (b:bp) | frr (t:IT) (it:IE) (b:bp)
 |raise (e:IE) | tryx (i:Nat) (e:IE) (j a b:Nat) | dict (i:Nat) (ks:List Int) | frz (i:Nat) | frzF (i f:Nat) | bad
inductive bp where | nil | cons (x:IS)(xs:bp)
end
noncomputable def IS.ctorIdx(t:IS):Nat:=IS.casesOn (motive_1:=λ _=>Nat) t (λ _ _=>0) (λ _ _=>1) (λ _ _ _=>2) (λ _ _ _=>3) (λ _ _ _ _=>4) (λ _ _ _=>5) (λ _ _=>6) (λ _=>7) (λ _=>8) (λ _ _ _=>9) (λ _ _=>10) (λ _ _ _=>11) (λ _=>12) (λ _ _ _ _ _=>13) (λ _ _=>14) (λ _=>15) (λ _ _=>16) 17
noncomputable def bp.ctorIdx(t:bp):Nat:=bp.casesOn (motive_2:=λ _=>Nat) t 0 (λ _ _=>1)
noncomputable def onO{α β:Type}(o:Option α)(f:α->R β):R β:=match o with
 |some a=>f a
 |none=>.no
noncomputable def elO{α β:Type}(o:Option α)(f:α->R β)(r:R β):R β:=match o with
 |some a=>f a
 |none=>r
noncomputable def gF{α:Type}(b:Bool)(o:Option α):Option α:=match b with
 |true=>o
 |false=>none
noncomputable def iD:D->Option Int | .int i=>some i | _=>none
noncomputable def sD:D->Option (List Nat) | .str l=>some l | _=>none
noncomputable def yD:D->Option (List UInt8) | .bytes l=>some l | _=>none
noncomputable def tD:D->Option (List D) | .tup l=>some l | _=>none
noncomputable def bD:D->Option Bool | .bool b=>some b | _=>none
noncomputable def lD:D->Option (List D) | .list l=>some l | _=>none
noncomputable def fV:W->Option D
 |.d x=>some x
 |_=>none
noncomputable def rV:W->Option Nat
 |.r i=>some i
 |_=>none
noncomputable def iV(w:W):Option Int:=(fV w).bind iD
noncomputable def sV(w:W):Option (List Nat):=(fV w).bind sD
noncomputable def yV(w:W):Option (List UInt8):=(fV w).bind yD
noncomputable def tV(w:W):Option (List D):=(fV w).bind tD
noncomputable def cO(w:W):Option Bool:=(fV w).bind bD
noncomputable def SD:MW->Option (List D) | .list ds=>some ds | _=>none
noncomputable def QS:MW->Option (Nat×List (Nat×W)) | .inst C fs=>some (C,fs) | _=>none
noncomputable def eM(s:St)(i:Nat):Option (List D):=s[i]?.bind SD
noncomputable def nq(s:St)(i:Nat):Option (Nat×List (Nat×W)):=s[i]?.bind QS
noncomputable def one{α:Type}:List α->Option α
 |[a]=>some a
 |_=>none
noncomputable def two{α:Type}:List α->Option (α×α)
 |[a,b]=>some (a,b)
 |_=>none
noncomputable def O4{α:Type}:List α->Option (α×α×α)
 |[a,b,c]=>some (a,b,c)
 |_=>none
noncomputable def lv(s:St)(w:W):Option (List D):=match w with
 |.d x=>lD x
 |.r i=>eM s i
noncomputable def oS:List W->Option (List D)
 |[]=>some []
 |w::r=>(fV w).bind λ x=>(oS r).bind λ ds=>some (x::ds)
noncomputable def PX:List (Nat×W)->Option (List (Nat×D))
 |[]=>some []
 |p::r=>(fV p.2).bind λ x=>(PX r).bind λ ds=>some ((p.1,x)::ds)
noncomputable def Jp(op:CmpOp)(a b:Int):Option Bool:=match op with
 |.Lt=>some (decide (a<b))
 |.LtE=>some (decide (a<=b))
 |.Gt=>some (decide (b<a))
 |.GtE=>some (decide (b<=a))
 |_=>none
noncomputable def Sg(s:St)(a b:W):Option Bool:=match a with
 |.d x=>match x with
  |.bytes l=>(yV b).bind λ m=>some (l==m)
  |.bool k=>(cO b).bind λ m=>some (k==m)
  |.list l=>(lv s b).bind λ m=>Ec 4 l m
  |x=>(fV b).bind λ y=>ou 4 x y
 |.r i=>(eM s i).bind λ l=>(lv s b).bind λ m=>Ec 4 l m
noncomputable def Ps(l m:List D):Option Bool:=match m with
 |[]=>some (!l.isEmpty)
 |_=>none
noncomputable def Rx(s:St)(a b:W):Option Bool:=match a with
 |.d x=>match x with
  |.int i=>(iV b).bind λ m=>some (i !=m)
  |.str l=>(sV b).bind λ m=>some (l !=m)
  |.bool k=>(cO b).bind λ m=>some (k !=m)
  |.list l=>(lv s b).bind λ m=>Ps l m
  |_=>none
 |.r i=>(eM s i).bind λ l=>(lv s b).bind λ m=>Ps l m
noncomputable def KG(x:Int)(y:List UInt8):Option Bool:=gF (decide (0<=x)&&decide (x<256)) (some (y.contains x.toNat.toUInt8))
noncomputable def SS(s:St)(a b:W):Option Bool:=match b with
 |.d y=>match y with
  |.str m=>(sV a).bind λ x=>some (!(Builtin.Str.occurrences ⟨m.toArray⟩ ⟨x.toArray⟩ 0 m.length 1).isEmpty)
  |.bytes m=>(iV a).bind λ x=>KG x m
  |.dict ks=>(iV a).bind λ x=>some (ks.contains x)
  |.list l=>(fV a).bind λ x=>wN l x
  |_=>none
 |.r i=>(eM s i).bind λ l=>(fV a).bind λ x=>wN l x
noncomputable def Da(b:W):Option Unit:=(fV b).bind λ y=>match y with
 |.none=>some ()
 |_=>none
noncomputable def jT(s:St)(op:CmpOp)(a b:W):Option Bool:=match op with
 |.Eq=>Sg s a b
 |.NotEq=>Rx s a b
 |.In=>SS s a b
 |.NotIn=>(lv s b).bind λ l=>(fV a).bind λ x=>(wN l x).bind λ k=>some (!k)
 |.Is=>(Da b).bind λ _=>(fV a).bind λ x=>some x.isNone
 |.IsNot=>(Da b).bind λ _=>(fV a).bind λ x=>some (!x.isNone)
 |op=>(iV a).bind λ x=>(iV b).bind λ y=>Jp op x y
noncomputable def Ny(s:St)(op:Operator)(x y:Int):R W:=match op with
 |.Add=>.ok (.d (.int (x+y))) s
 |.Sub=>.ok (.d (.int (x-y))) s
 |.Mod=>need (y !=0) (.ok (.d (.int (x.fmod y))) s)
 |.Mult=>need (decide (x.natAbs<18446744073709551616)) (.ok (.d (.int (x*y))) s)
 |.FloorDiv=>need (y !=0&&decide (y.natAbs<340282366920938463463374607431768211456)) (.ok (.d (.int (x.fdiv y))) s)
 |.BitAnd=>.ok (.d (.int (Builtin.bitAnd x y))) s
 |.RShift=>need (decide (0<=y)) (.ok (.d (.int (x.fdiv (2 ^ y.toNat)))) s)
 |.Pow=>need (decide (0<=y)&&(decide (y<=1000000)&&decide (x.natAbs<18446744073709551616))) (.ok (.d (.int (x ^ y.toNat))) s)
 |_=>.no
noncomputable def m4(s:St)(op:Operator)(a b:W):R W:=elO (iV a) (λ x=>onO (iV b) λ y=>Ny s op x y) (match op with
 |.Add=>elO (sV a) (λ x=>onO (sV b) λ y=>need (decide (x.length+y.length<=16777216)) (.ok (.d (.str (x++y))) s))
   (elO (yV a) (λ x=>onO (yV b) λ y=>need (decide (x.length+y.length<=16777216)) (.ok (.d (.bytes (x++y))) s))
   (onO (lv s a) λ x=>onO (lv s b) λ y=>need (decide (x.length+y.length<=16777216)) (.ok (.d (.list (x++y))) s)))
 |.Mult=>onO (sV a) λ x=>onO (one x) λ c=>onO (iV b) λ y=>need (decide (0<=y)&&decide (y<=1000)) (.ok (.d (.str (List.replicate y.toNat c))) s)
 |_=>.no)
noncomputable def sQ(s:St)(op:Operator)(a b:W):R W:=match op with
 |.Add=>elO (iV a) (λ x=>onO (iV b) λ y=>.ok (.d (.int (x+y))) s) (onO (yV a) λ x=>onO (yV b) λ y=>need (decide (x.length+y.length<=16777216)) (.ok (.d (.bytes (x++y))) s))
 |_=>.no
noncomputable def Tq(ds:List D)(i:Int):Option D:=gF (decide (-(ds.length:Int)<=i)&&decide (-9000000000<=i)) ds[(i+ds.length).toNat]?
noncomputable def Kl(ds:List D)(i:Int):Option D:=match decide (0<=i)with
 |true=>gF (decide (i.toNat<9000000000)) ds[i.toNat]?
 |false=>Tq ds i
noncomputable def tq(s:St)(a b:W):R W:=onO (iV b) λ i=>
 elO (tV a) (λ ds=>need (decide (0<=i)&&decide (i<9000000000)) (onO ds[i.toNat]? λ d=>.ok (.d d) s))
 (elO (yV a) (λ l=>need (decide (0<=i)&&(decide (i<l.length)&&decide (l.length<=1000000))) (.ok (.d (.int (l.getD i.toNat 0).toNat)) s))
 (elO (sV a) (λ l=>need (decide (0<=i)&&decide (i<1000000)) (onO l[i.toNat]? λ c=>.ok (.d (.str [c])) s))
 (onO (lv s a) λ ds=>onO (Kl ds i) λ d=>.ok (.d d) s)))
noncomputable def Lf(d:D):Option (Option Int):=match d with
 |.none=>some none
 |.int i=>some (some i)
 |_=>none
noncomputable def t4(w:W):Option (Option Int):=(fV w).bind Lf
noncomputable def Fw(own:Bool)(s:St)(x a b c:W):R W:=onO (t4 a) λ lo=>onO (t4 b) λ hi=>onO (t4 c) λ st=>
 elO (yV x) (λ l=>need (decide (st=none)&&(!own&&decide (l.length<=16777216))) (.ok (.d (.bytes (pick l lo hi none))) s))
 (elO (sV x) (λ l=>need (decide (lo=none)&&(decide (hi=some (-1))&&(decide (st=none)&&(!own&&decide (l.length<=1000000))))) (.ok (.d (.str l.dropLast)) s))
 (onO (lv s x) λ ds=>need (st !=some 0&&decide (ds.length<=16777216)) (match own with
  |true=>.ok (.r s.length) (s++[.list (pick ds lo hi st)])
  |false=>.ok (.d (.list (pick ds lo hi st))) s)))
noncomputable def QI(d:D):Option Nat:=match d with
 |.tup l=>some l.length
 |.list l=>some l.length
 |.str l=>some l.length
 |.bytes l=>some l.length
 |_=>none
noncomputable def Dq(s:St)(w:W):Option Nat:=match w with
 |.d x=>QI x
 |.r i=>(eM s i).bind λ l=>some l.length
noncomputable def rD{α β:Type}(f:α->Option β):List α->Option (List β)
 |[]=>some []
 |x::r=>(f x).bind λ y=>(rD f r).bind λ l=>some (y::l)
noncomputable def jR:List D->Option (List Int):=rD iD
noncomputable def jQ:List D->Option (List (List Int)):=rD λ d=>(tD d).bind jR
noncomputable def uR:List D->Option (List (List Nat)):=rD sD
noncomputable def Ag:List D->Option (List (List UInt8)):=rD yD
noncomputable def BD(l:List Int):Bool:=l.all λ n=>decide (0<=n)&&decide (n<256)
noncomputable def ins{α:Type}(lt:α->α->Bool)(x:α):List α->List α
 |[]=>[x]
 |y::r=>match lt x y with
  |true=>x::y::r
  |false=>y::ins lt x r
theorem zI{α:Type}{lt:α->α->Bool}{x y:α}{r:List α}:ins lt x (y::r)=match lt x y with | true=>x::y::r | false=>y::ins lt x r:=rfl
noncomputable def cN{α:Type}(lt:α->α->Bool):List α->List α
 |[]=>[]
 |x::r=>ins lt x (cN lt r)
theorem sN{α:Type}{lt:α->α->Bool}{x:α}{r:List α}:cN lt (x::r)=ins lt x (cN lt r):=rfl
noncomputable def fR:List Int->List Int->Bool
 |[],[]=>false
 |[],_::_=>true
 |_::_,[]=>false
 |a::x,b::y=>match decide (a<b)with
  |true=>true
  |false=>match a==b with
   |true=>fR x y
   |false=>false
theorem qI{a b:Int}{x y:List Int}:fR (a::x) (b::y)=match decide (a<b)with | true=>true | false=>(match a==b with | true=>fR x y | false=>false):=rfl
noncomputable def ir(ds:List D):Option (List D):=match jR ds with
 |some l=>gF (decide (l.length<64)) (some ((cN (λ a b=>decide (a<b)) l).map .int))
 |none=>(jQ ds).bind λ l=>gF (decide (l.length<=2)) (some ((cN fR l).map λ x=>.tup (x.map .int)))
noncomputable def Ic(a b:List Int):Bool:=decide (a.headD 0<b.headD 0)
noncomputable def lg(l:List (List Int)):Bool:=l.all λ x=>l.all λ y=>x.headD 0 !=y.headD 0||x==y
noncomputable def eZ(ds:List D):Option (List D):=(jQ ds).bind λ l=>gF (decide (l.length<=3)&&(l.all (λ x=>!x.isEmpty)&&lg l)) (some ((cN Ic l).map λ x=>.tup (x.map .int)))
noncomputable def hH(l:List (List Int)):Bool:=match l with
 |[]=>true
 |a::r=>match r with
  |[]=>true
  |b::r=>match r with
   |[]=>fR a b
   |_::_=>false
noncomputable def wf(ds:List D):Option (List D):=(jQ ds).bind λ l=>gF (hH l) (some ds)
noncomputable def cU(a e:Int):Nat->List D
 |0=>[]
 |n+1=>.int a::cU (a+e) e n
theorem gQ{a e:Int}{n:Nat}:cU a e (n+1)=.int a::cU (a+e) e n:=rfl
noncomputable def IG(a b e:Int):Option (List D):=gF (Builtin.Range.small a b e&&decide (Builtin.Range.rangeSize a b e<=1000000)) (some (cU a e (Builtin.Range.rangeSize a b e).toNat))
noncomputable def P6(d:D):Option (List D):=match d with
 |.list ds=>some ds
 |.tup ds=>some ds
 |.rng a b e=>IG a b e
 |.str l=>some (l.map λ c=>.str [c])
 |.bytes l=>some (l.map λ c=>.int c.toNat)
 |_=>none
noncomputable def nG(w:W):Option (List D):=(fV w).bind P6
noncomputable def kL(d:D):Option (List Nat):=match d with
 |.int i=>gF (decide (i.natAbs<18446744073709551616)) (some (Str.ofString (toString i)).cps.toList)
 |.none=>some (Str.ofString "None").cps.toList
 |_=>none
noncomputable def Tg(d:D):Option (List D):=match d with
 |.tup ds=>some ds
 |.rng a b e=>gF (e==1) (IG a b 1)
 |_=>none
noncomputable def BH(s:St)(b:BI)(ws:List W):R W:=match b with
 |.len=>onO (one ws) λ w=>onO (Dq s w) λ n=>need (decide (n<=1000000000000)) (.ok (.d (.int n)) s)
 |.ord=>onO (one ws) λ w=>onO (sV w) λ l=>onO (one l) λ c=>.ok (.d (.int c)) s
 |.chr=>onO (one ws) λ w=>onO (iV w) λ i=>need (decide (0<=i)&&decide (i<=1114111)) (.ok (.d (.str [i.toNat])) s)
 |.range=>elO (one ws) (λ w=>onO (iV w) λ n=>.ok (.d (.rng 0 n 1)) s)
   (elO (two ws) (λ p=>onO (iV p.1) λ a=>onO (iV p.2) λ b=>.ok (.d (.rng a b 1)) s)
   (onO (O4 ws) λ p=>onO (iV p.1) λ a=>onO (iV p.2.1) λ b=>onO (iV p.2.2) λ e=>need (e !=0&&decide (e.natAbs<1073741824)) (.ok (.d (.rng a b e)) s)))
 |.tuple=>onO (one ws) λ w=>onO (lv s w) λ ds=>need (decide (ds.length<=16384)) (.ok (.d (.tup ds)) s)
 |.list=>onO (one ws) λ w=>elO (lv s w) (λ ds=>need (decide (ds.length<=16384)) (.ok (.d (.list ds)) s)) (onO ((fV w).bind Tg) λ ds=>need (decide (ds.length<=16384)) (.ok (.d (.list ds)) s))
 |.bytes=>onO (one ws) λ w=>onO (lv s w) λ ds=>onO (jR ds) λ ns=>need (BD ns&&decide (ns.length<=1000000)) (.ok (.d (.bytes (ns.map λ n=>n.toNat.toUInt8))) s)
 |.max=>onO (two ws) λ p=>onO (iV p.1) λ a=>onO (iV p.2) λ b=>.ok (.d (.int (if b>a then b else a))) s
 |.repr=>onO (one ws) λ w=>onO (fV w) λ x=>onO (kL x) λ l=>.ok (.d (.str l)) s
 |.sorted=>onO (one ws) λ w=>onO (fV w) λ x=>onO (lD x) λ ds=>onO (ir ds) λ l=>.ok (.d (.list l)) s
 |.ksorted=>onO (one ws) λ w=>onO (fV w) λ x=>onO (lD x) λ ds=>onO (eZ ds) λ l=>.ok (.d (.list l)) s
noncomputable def MN(d:D)(t:ut):Option Bool:=match d with
 |.int _=>match t with
  |.int=>some true
  |.bool=>some false
  |_=>none
 |.none=>match t with
  |.bool=>some false
  |_=>none
 |.inst C _=>match t with
  |.cls C'=>(gF (C==C'&&(C==202||C==424)) (some true)).or (gF (C==202&&C'==424||C==424&&C'==202) (some false))
  |_=>none
 |_=>none
noncomputable def JA(w:W)(t:ut):Option Bool:=(fV w).bind λ d=>MN d t
noncomputable def QD:List ((Nat×Nat)×Nat):=[((202,5),9),((202,6),10),((202,7),11),((202,8),12),((202,9),13),((256,4),16),((256,10),17),((424,9),20),((424,11),19),
 ((497,12),24),((497,13),25),((497,14),26),((497,15),27),((497,16),28),((598,17),35),((598,18),36),((598,19),37)]
noncomputable def Kk(C m:Nat):Option Nat:=QD.lookup (C,m)
noncomputable def R5:List (Nat×Nat):=[(202,0),(256,1),(256,2),(256,3),(424,4),(424,5),(497,6),(497,7),(497,8),(598,9),(598,10),(598,11)]
noncomputable def Kx(C f:Nat):Bool:=R5.contains (C,f)
noncomputable def Rq(d:D):Option D:=match d with
 |.bi _=>none
 |d=>some d
noncomputable def Ph(w:W):Option W:=match w with
 |.d x=>(Rq x).bind λ d=>some (.d d)
 |w=>some w
noncomputable def MP(d:D):Option (Nat×List (Nat×D)):=match d with
 |.inst C fs=>some (C,fs)
 |_=>none
noncomputable def m9(s:St)(w:W)(f:Nat):Option W:=match w with
 |.d d=>(MP d).bind λ p=>gF (Kx p.1 f) ((p.2.lookup f).bind λ x=>Ph (.d x))
 |.r i=>(nq s i).bind λ p=>gF (Kx p.1 f) ((p.2.lookup f).bind Ph)
noncomputable def nv(x:Nat)(d:W):List (Nat×W)->List (Nat×W)
 |[]=>[(x,d)]
 |(y,d')::r=>match x==y with
  |true=>(y,d)::r
  |false=>(y,d')::nv x d r
theorem sZ{x y:Nat}{d d':W}{r:List (Nat×W)}:nv x d ((y,d')::r)=match x==y with | true=>(y,d)::r | false=>(y,d')::nv x d r:=rfl
noncomputable def pg(s:St)(w:W)(f:Nat)(x:W):Option St:=(rV w).bind λ i=>(nq s i).bind λ p=>gF (Kx p.1 f&&decide (p.2.length<=900)) (some (s.set i (.inst p.1 (nv f x p.2))))
inductive ME where | fn (f:Nat) | app | pop | ext | sj | bj | dget
noncomputable def ME.ctorIdx(t:ME):Nat:=ME.casesOn (motive:=λ _=>Nat) t (λ _=>0) 1 2 3 4 5 6
noncomputable def QE{α:Type}(m:Nat)(fs:List (Nat×α)):Bool:=match m with
 |6=>fs.all λ p=>p.1 !=9
 |_=>true
noncomputable def mL(m:Nat):Option ME:=match m with | 0=>some .app | 1=>some .pop | 2=>some .ext | _=>none
noncomputable def Dc(s:St)(w:W)(m:Nat):Option ME:=match w with
 |.d d=>match d with
  |.inst C fs=>gF (QE m fs) ((Kk C m).bind λ f=>some (.fn f))
  |.dict _=>gF (m==4) (some .dget)
  |.str l=>gF (m==3&&l.isEmpty) (some .sj)
  |.bytes l=>gF (m==3&&l.isEmpty) (some .bj)
  |_=>none
 |.r i=>(s[i]?).bind λ o=>match o with
  |.inst C fs=>gF (QE m fs) ((Kk C m).bind λ f=>some (.fn f))
  |.list _=>mL m
  |.gone=>none
noncomputable def NR(d:D):Option (List Int):=match d with
 |.dict ks=>some ks
 |_=>none
noncomputable def qH(C:Nat->List W->St->R W)(s:St)(e:ME)(o:W)(ws:List W):R W:=match e with
 |.fn f=>C f (o::ws) s
 |.app=>onO (one ws) λ w=>onO (fV w) λ x=>onO (rV o) λ i=>onO (eM s i) λ ds=>need (decide (ds.length<=16000000)) (.ok (.d .none) (s.set i (.list (ds++[x]))))
 |.pop=>need ws.isEmpty (onO (rV o) λ i=>onO (eM s i) λ ds=>onO ds.getLast? λ x=>need (decide (ds.length<=16000000)) (.ok (.d x) (s.set i (.list ds.dropLast))))
 |.ext=>onO (one ws) λ w=>onO ((fV w).bind lD) λ xs=>onO (rV o) λ i=>onO (eM s i) λ ds=>need (decide (ds.length+xs.length<=16000000)) (.ok (.d .none) (s.set i (.list (ds++xs))))
 |.dget=>onO (two ws) λ p=>onO (iV p.1) λ x=>onO (fV p.2) λ y=>onO ((fV o).bind NR) λ ks=>need (!ks.contains x) (.ok (.d y) s)
 |.sj=>onO (one ws) λ w=>onO (lv s w) λ ds=>onO (uR ds) λ ts=>need (decide ((ts.map (·.length)).sum<=16777216)) (.ok (.d (.str ts.flatten)) s)
 |.bj=>onO (one ws) λ w=>onO (lv s w) λ ds=>onO (Ag ds) λ ts=>need (decide ((ts.map (·.length)).sum<=1000000)) (.ok (.d (.bytes ts.flatten)) s)
noncomputable def cW(vs:V)(i:Nat):Option W:=vs[i]?.bind λ o=>o
noncomputable def pv(vs:V)(i:Nat)(w:W):V:=vs.set i (some w)
noncomputable def kY:V->List Nat->List W->Option V
 |vs,[],[]=>some vs
 |vs,i::is,w::ws=>kY (pv vs i w) is ws
 |_,_,_=>none
noncomputable def gM(vs:V)(t:IT)(x:D):Option V:=match t with
 |.v i=>some (pv vs i (.d x))
 |.t is=>(tD x).bind λ ds=>kY vs is (ds.map .d)
noncomputable def uT(vs:V):List CI->V
 |[]=>[]
 |.fre j::r=>cW vs j::uT vs r
 |_::r=>none::uT vs r
noncomputable def qY:List D:=[.int 1114111,.bytes [48,49,50,51,52,53,54,55,56,57,65,66,67,68,69,70],.int 4,.int 1114112,.bytes [32,9,10,13],.bytes [91,93,123,125,38,45,92,94],.int 18,.int 92,.int 91,.int 93,.int 123,.int 125,.int 94,.int 38,.int 45,.int 127,
 .tup [.int 97,.int 98,.int 45,.int 93,.int 32,.int 92,.int 123,.int 233,.int 128512,.int 1114111]]
noncomputable def noerr{α:Type}:R α->R α
 |.ok a s=>.ok a s
 |_=>.no
noncomputable def c0(st:D->St->R (Option D)):List D->List D->St->R (List D)
 |[],acc,s=>.ok acc s
 |x::xs,acc,s=>(st x s).bind λ o s'=>match o with
  |some d=>c0 st xs (acc++[d]) s'
  |none=>c0 st xs acc s'
theorem en{st:D->St->R (Option D)}{x:D}{xs acc:List D}{s:St}:c0 st (x::xs) acc s=(st x s).bind λ o s'=>match o with | some d=>c0 st xs (acc++[d]) s' | none=>c0 st xs acc s':=rfl
section
variable (C:Nat->List W->St->R W)
mutual
noncomputable def ao:IE->V->St->R W
 |.k d,_,s=>.ok (.d d) s
 |.g i,_,s=>onO qY[i]? λ d=>.ok (.d d) s
 |.v i,vs,s=>onO (cW vs i) λ w=>.ok w s
 |.bin op l r,vs,s=>(ao l vs s).bind λ a s=>(ao r vs s).bind λ b s=>m4 s op a b
 |.cmp op l r,vs,s=>(ao l vs s).bind λ a s=>(ao r vs s).bind λ b s=>onO (jT s op a b) λ k=>.ok (.d (.bool k)) s
 |.cmp2 eX cq l m r,vs,s=>(ao l vs s).bind λ a s=>(ao m vs s).bind λ b s=>onO (jT s eX a b) λ k=>match k with
  |true=>(ao r vs s).bind λ c s=>onO (jT s cq b c) λ k=>.ok (.d (.bool k)) s
  |false=>.ok (.d (.bool false)) s
 |.not x,vs,s=>(ao x vs s).bind λ w s=>onO (cO w) λ b=>.ok (.d (.bool !b)) s
 |.neg x,vs,s=>(ao x vs s).bind λ w s=>onO (iV w) λ i=>.ok (.d (.int (-i))) s
 |.cond t a b,vs,s=>(ao t vs s).bind λ w s=>onO (cO w) λ k=>match k with
  |true=>ao a vs s
  |false=>ao b vs s
 |.boo all xs,vs,s=>AV all xs vs s
 |.tup xs,vs,s=>(fO xs vs s).bind λ ws s=>onO (oS ws) λ ds=>need (decide (ds.length<=16777216)) (.ok (.d (.tup ds)) s)
 |.lst xs,vs,s=>(fO xs vs s).bind λ ws s=>onO (oS ws) λ ds=>need (decide (ds.length<=16777216)) (.ok (.d (.list ds)) s)
 |.lsto xs,vs,s=>(fO xs vs s).bind λ ws s=>onO (oS ws) λ ds=>need (decide (ds.length<=16777216)) (.ok (.r s.length) (s++[.list ds]))
 |.ix x i,vs,s=>(ao x vs s).bind λ a s=>(ao i vs s).bind λ b s=>tq s a b
 |.sl own x a b c,vs,s=>(ao x vs s).bind λ w s=>(Bg a vs s).bind λ a s=>(Bg b vs s).bind λ b s=>(Bg c vs s).bind λ c s=>Fw own s w a b c
 |.bi b xs,vs,s=>(fO xs vs s).bind λ ws s=>BH s b ws
 |.isi x t,vs,s=>(ao x vs s).bind λ w s=>onO (JA w t) λ k=>.ok (.d (.bool k)) s
 |.call f xs,vs,s=>(fO xs vs s).bind λ ws s=>C f ws s
 |.meth o m xs,vs,s=>(ao o vs s).bind λ w s=>onO (Dc s w m) λ e=>(fO xs vs s).bind λ ws s=>qH C s e w ws
 |.attr o f,vs,s=>(ao o vs s).bind λ w s=>onO (m9 s w f) λ x=>.ok x s
 |.comp cs t it ifs elt,vs,s=>(ao it vs s).bind λ w s=>onO (nG w) λ ds=>need (decide (ds.length<=1000000)) ((noerr (c0 (λ x s=>onO (gM (uT vs cs) t x) λ cZ=>(NK ifs cZ s).bind λ b s=>match b with
    |true=>(ao elt cZ s).bind λ w s=>onO (fV w) λ d=>.ok (some d) s
    |false=>.ok none s) ds [] s)).bind λ l s=>.ok (.d (.list l)) s)
 |.sset x,vs,s=>(ao x vs s).bind λ w s=>onO ((fV w).bind lD) λ ds=>onO (wf ds) λ l=>.ok (.d (.list l)) s
 |.bad,_,_=>.no
noncomputable def fO:dS->V->St->R (List W)
 |.nil,_,s=>.ok [] s
 |.cons x xs,vs,s=>(ao x vs s).bind λ w s=>(fO xs vs s).bind λ ws s=>.ok (w::ws) s
noncomputable def AV(all:Bool):dS->V->St->R W
 |.nil,_,s=>.no
 |.cons x xs,vs,s=>match xs with
  |.nil=>ao x vs s
  |.cons y ys=>(ao x vs s).bind λ w s=>onO (cO w) λ b=>match all==b with
   |true=>AV all (.cons y ys) vs s
   |false=>.ok w s
noncomputable def Bg:IO->V->St->R W
 |.none,_,s=>.ok (.d .none) s
 |.some x,vs,s=>ao x vs s
noncomputable def NK:IO->V->St->R Bool
 |.none,_,s=>.ok true s
 |.some x,vs,s=>(ao x vs s).bind λ w s=>onO (cO w) λ b=>.ok b s
end
noncomputable def eI(st:D->V->St->R (Option W×V)):List D->V->St->R (Option W×V)
 |[],vs,s=>.ok (none,vs) s
 |x::xs,vs,s=>(st x vs s).bind λ p s=>match p.1 with
  |none=>eI st xs p.2 s
  |some _=>.ok p s
theorem nz{st:D->V->St->R (Option W×V)}{x:D}{xs:List D}{vs:V}{s:St}:eI st (x::xs) vs s=(st x vs s).bind λ p s=>match p.1 with | none=>eI st xs p.2 s | some _=>.ok p s:=rfl
noncomputable def iP(t:V->St->R W)(b:V->St->R (Option W×V)):Nat->V->St->R (Option W×V)
 |0,_,_=>.no
 |n+1,vs,s=>(t vs s).bind λ w s=>onO (cO w) λ k=>match k with
  |true=>(b vs s).bind λ p s=>match p.1 with
   |none=>iP t b n p.2 s
   |some _=>.ok p s
  |false=>.ok (none,vs) s
theorem vB{t:V->St->R W}{b:V->St->R (Option W×V)}{n:Nat}{vs:V}{s:St}:iP t b (n+1) vs s=(t vs s).bind λ w s=>onO (cO w) λ k=>match k with | true=>(b vs s).bind λ p s=>(match p.1 with | none=>iP t b n p.2 s | some _=>.ok p s) | false=>.ok (none,vs) s:=rfl
noncomputable def goneAll(s:St):St:=s.map λ _=>.gone
noncomputable def zc:Nat:=4096
noncomputable def caught(r:R W)(vs:V)(s:St)(j a b:Nat):R (Option W×V):=match r with
 |.err d=>onO (iV (.d d)) λ i=>onO ((cW vs a).bind fV) λ x=>onO (((cW vs b).bind fV).bind yD) λ l=>need ((cW vs j).isNone&&decide (l.length<=1000000000000)) (.ok (some (.d (.bool (x.isNone&&(decide (0<=i)&&decide (i<=l.length))))),vs) s)
 |_=>.no
mutual
noncomputable def gy:IS->V->St->R (Option W×V)
 |.asg i e,vs,s=>(ao C e vs s).bind λ w s=>.ok (none,pv vs i w) s
 |.asgt ts e,vs,s=>(ao C e vs s).bind λ w s=>onO (tV w) λ ds=>onO (kY vs ts (ds.map .d)) λ vs=>.ok (none,vs) s
 |.mas sw ts es,vs,s=>(fO C es vs s).bind λ ws s=>match sw with
  |true=>onO (kY vs ts.reverse ws.reverse) λ vs=>.ok (none,vs) s
  |false=>onO (kY vs ts ws) λ vs=>need (decide (ws.length<=100)) (.ok (none,vs) s)
 |.seta o f e,vs,s=>(ao C e vs s).bind λ x s=>(ao C o vs s).bind λ w s=>onO (pg s w f x) λ s=>.ok (none,vs) s
 |.auga o f op e,vs,s=>(ao C o vs s).bind λ w s=>onO (m9 s w f) λ old=>(ao C e vs s).bind λ x s=>(sQ s op old x).bind λ y s=>onO (pg s w f y) λ s=>.ok (none,vs) s
 |.augv i op e,vs,s=>onO (cW vs i) λ old=>(ao C e vs s).bind λ x s=>(sQ s op old x).bind λ y s=>.ok (none,pv vs i y) s
 |.setx i e,vs,s=>onO ((cW vs i).bind rV) λ j=>(ao C e vs s).bind λ x s=>onO (fV x) λ x=>onO (eM s j) λ ds=>need (!ds.isEmpty&&decide (ds.length<=16000000)) (.ok (none,vs) (s.set j (.list (ds.dropLast++[x]))))
 |.ex e,vs,s=>(ao C e vs s).bind λ w s=>onO (fV w) λ x=>need x.flat (.ok (none,vs) s)
 |.ret e,vs,s=>(ao C e vs s).bind λ w s=>.ok (some w,vs) s
 |.iff t a b,vs,s=>(ao C t vs s).bind λ w s=>onO (cO w) λ k=>match k with
  |true=>bN a vs s
  |false=>bN b vs s
 |.whl t b,vs,s=>iP (ao C t) (bN b) zc vs s
 |.frr t it b,vs,s=>(ao C it vs s).bind λ w s=>onO (nG w) λ ds=>eI (λ x vs s=>onO (gM vs t x) λ vs=>bN b vs s) ds vs s
 |.raise e,vs,s=>(ao C e vs s).bind λ w s=>onO (iV w) λ i=>.err (.int i)
 |.tryx i e j a b,vs,s=>match ao C e vs s with
  |.ok w s=>.ok (none,pv vs i w) s
  |.err _=>caught (ao C e vs (goneAll s)) vs s j a b
  |.no=>.no
 |.dict i ks,vs,s=>.ok (none,pv vs i (.d (.dict ks))) s
 |.frz i,vs,s=>onO ((cW vs i).bind rV) λ j=>onO (eM s j) λ ds=>.ok (none,pv vs i (.d (.list ds))) (s.set j .gone)
 |.frzF i f,vs,s=>onO ((cW vs i).bind rV) λ j=>onO (nq s j) λ p=>onO ((p.2.lookup f).bind rV) λ k=>onO (eM s k) λ ds=>.ok (none,vs) ((s.set k .gone).set j (.inst p.1 (nv f (.d (.list ds)) p.2)))
 |.bad,_,_=>.no
noncomputable def bN:bp->V->St->R (Option W×V)
 |.nil,vs,s=>.ok (none,vs) s
 |.cons x xs,vs,s=>(gy x vs s).bind λ p s=>match p.1 with
  |none=>bN xs p.2 s
  |some _=>.ok p s
end
end
inductive NI where | arg (j:Nat) | loc | glb
noncomputable def NI.ctorIdx(t:NI):Nat:=NI.casesOn (motive:=λ _=>Nat) t (λ _=>0) 1 2
inductive FE where
 |fn (addr np:Nat) (df tr:Bool) (ini:List NI) (body:bp)
 |cls (C init:Nat) (own:Bool)
noncomputable def k9(args:List W):List NI->V
 |[]=>[]
 |.arg j::r=>args[j]?::k9 args r
 |_::r=>none::k9 args r
noncomputable def RF(o:MW):Option D:=match o with
 |.list ds=>some (.list ds)
 |.inst C fs=>(PX fs).bind λ fs=>some (.inst C fs)
 |.gone=>none
noncomputable def JT(n:Nat)(s:St)(w:W):Option D:=match w with
 |.d x=>some x
 |.r i=>gF (decide (n<=i)) (s[i]?.bind RF)
noncomputable def TP(n:Nat)(w:W):Bool:=match w with
 |.r j=>decide (j<n)
 |_=>true
noncomputable def PR(n:Nat)(fs:List (Nat×W)):Bool:=fs.all λ p=>TP n p.2
noncomputable def PQ(n:Nat)(o:MW):Bool:=match o with
 |.inst _ fs=>PR n fs
 |_=>true
noncomputable def Kg(n:Nat)(s:St):Bool:=s.all (PQ n)
noncomputable def cut{α:Type}(n:Nat)(a:α)(s:St):R α:=need (Kg n (s.take n)) (.ok a (s.take n))
noncomputable def eT(tr:Bool)(n:Nat)(r:R (Option W×V)):R W:=r.bind λ p s=>match p.1 with
 |none=>match tr with
  |true=>cut n (.d .none) s
  |false=>.ok (.d .none) s
 |some w=>onO (JT n s w) λ d=>cut n (.d d) s
noncomputable def L7(w:W):List Nat:=match w with
 |.r j=>[j]
 |_=>[]
noncomputable def GC(fs:List (Nat×W)):List Nat:=fs.flatMap λ p=>L7 p.2
noncomputable def Pg(o:Option MW):List Nat:=match o with
 |some (.inst _ fs)=>GC fs
 |_=>[]
noncomputable def eV(s:St):List W->List Nat
 |[]=>[]
 |w::r=>match w with
  |.r i=>i::(Pg s[i]?++eV s r)
  |_=>eV s r
noncomputable def pp(ρ:Nat->Nat):W->W
 |.r i=>.r (ρ i)
 |w=>w
noncomputable def II(ρ:Nat->Nat)(fs:List (Nat×W)):List (Nat×W):=fs.map λ p=>(p.1,pp ρ p.2)
noncomputable def lQ(ρ:Nat->Nat)(o:MW):MW:=match o with
 |.inst C fs=>.inst C (II ρ fs)
 |o=>o
noncomputable def at':List Nat->Nat->Nat
 |[],_=>0
 |j::r,i=>match i==j with
  |true=>0
  |false=>at' r i+1
theorem u8{j:Nat}{r:List Nat}{i:Nat}:at' (j::r) i=match i==j with | true=>0 | false=>at' r i+1:=rfl
noncomputable def bk(l:List Nat)(n j:Nat):Nat:=match l[j]? with
 |some i=>i
 |none=>n+(j-l.length)
noncomputable def xj(ρ:Nat->Nat):List Nat->St->St->St
 |[],s,[]=>s
 |[],s,o::new=>s++(o::new).map (lQ ρ)
 |i::l,s,o::new=>xj ρ l (s.set i (lQ ρ o)) new
 |_::_,s,[]=>s
noncomputable def wrap(F:List W->St->R W)(args:List W)(s:St):R W:=need (decide (eV s args).Nodup&&Kg (eV s args).length ((eV s args).map λ i=>lQ (at' (eV s args)) (s.getD i .gone)))
 ((F (args.map (pp (at' (eV s args)))) ((eV s args).map λ i=>lQ (at' (eV s args)) (s.getD i .gone))).bind λ w s'=>need (decide ((eV s args).length<=s'.length)) (.ok (pp (bk (eV s args) s.length) w) (xj (bk (eV s args) s.length) (eV s args) s s')))
noncomputable def sh(df:Bool)(np:Nat)(args:List W):List W:=match df&&(np==2&&args.length==1)with
 |true=>args++[.d .none]
 |false=>args
noncomputable def b0:bp:=.cons (.asg 1 (.lsto .nil)) (.cons (.asg 2 (.v 0)) (.cons (.whl (.boo false (.cons (.cmp .Gt (.v 2) (.k (.int 0))) (.cons (.cmp .Lt (.bi .len (.cons (.v 1) .nil)) (.g 2)) .nil))) (.cons (.ex (.meth (.v 1) 0 (.cons (.ix (.g 1) (.bin .BitAnd (.v 2) (.k (.int 15)))) .nil))) (.cons (.asg 2 (.bin .RShift (.v 2) (.k (.int 4)))) .nil))) (.cons (.ret (.bi .bytes (.cons (.sl false (.v 1) (.none) (.none) (.some (.neg (.k (.int 1))))) .nil))) .nil)))
noncomputable def b1:bp:=.cons (.iff (.cmp2 .LtE .LtE (.k (.int 48)) (.v 0) (.k (.int 57))) (.cons (.ret (.bin .Sub (.v 0) (.k (.int 48)))) .nil) .nil) (.cons (.iff (.cmp2 .LtE .LtE (.k (.int 65)) (.v 0) (.k (.int 70))) (.cons (.ret (.bin .Sub (.v 0) (.k (.int 55)))) .nil) .nil) (.cons (.iff (.cmp2 .LtE .LtE (.k (.int 97)) (.v 0) (.k (.int 102))) (.cons (.ret (.bin .Sub (.v 0) (.k (.int 87)))) .nil) .nil) (.cons (.ret (.k .none)) .nil)))
noncomputable def b2:bp:=.cons (.asg 2 (.k (.int 0))) (.cons (.asg 3 (.bi .len (.cons (.v 0) .nil))) (.cons (.whl (.cmp .Lt (.v 2) (.v 3)) (.cons (.asg 4 (.bin .FloorDiv (.bin .Add (.v 2) (.v 3)) (.k (.int 2)))) (.cons (.iff (.cmp .LtE (.ix (.v 0) (.v 4)) (.v 1)) (.cons (.asg 2 (.bin .Add (.v 4) (.k (.int 1)))) .nil) (.cons (.asg 3 (.v 4)) .nil)) .nil))) (.cons (.ret (.bin .Sub (.v 2) (.k (.int 1)))) .nil)))
noncomputable def b3:bp:=.cons (.asg 1 (.lsto .nil)) (.cons (.frr (.t [2,3]) (.bi .ksorted (.cons (.comp [.loc,.loc] (.v 1) (.v 0) (.some (.cmp .LtE (.ix (.v 1) (.k (.int 0))) (.ix (.v 1) (.k (.int 1))))) (.v 1)) .nil)) (.cons (.iff (.boo true (.cons (.cmp .NotEq (.v 1) (.lst .nil)) (.cons (.cmp .LtE (.v 2) (.ix (.v 1) (.neg (.k (.int 1))))) .nil))) (.cons (.setx 1 (.bi .max (.cons (.ix (.v 1) (.neg (.k (.int 1)))) (.cons (.bin .Add (.v 3) (.k (.int 1))) .nil)))) .nil) (.cons (.ex (.meth (.v 1) 2 (.cons (.lst (.cons (.v 2) (.cons (.bin .Add (.v 3) (.k (.int 1))) .nil))) .nil))) .nil)) .nil)) (.cons (.ret (.v 1)) .nil))
noncomputable def b4:bp:=.cons (.iff (.cmp .Eq (.v 0) (.k (.str [117,110,105,111,110]))) (.cons (.ret (.boo false (.cons (.v 1) (.cons (.v 2) .nil)))) .nil) .nil) (.cons (.iff (.cmp .Eq (.v 0) (.k (.str [98,111,116,104]))) (.cons (.ret (.boo true (.cons (.v 1) (.cons (.v 2) .nil)))) .nil) .nil) (.cons (.iff (.cmp .Eq (.v 0) (.k (.str [119,105,116,104,111,117,116]))) (.cons (.ret (.boo true (.cons (.v 1) (.cons (.not (.v 2)) .nil)))) .nil) .nil) (.cons (.ret (.cmp .NotEq (.v 1) (.v 2))) .nil)))
noncomputable def b5:bp:=.cons (.mas false [3,4,5,6] (.cons (.lsto .nil) (.cons (.k (.int 0)) (.cons (.k (.int 0)) (.cons (.k (.bool false)) .nil))))) (.cons (.whl (.boo false (.cons (.cmp .Lt (.v 4) (.bi .len (.cons (.v 0) .nil))) (.cons (.cmp .Lt (.v 5) (.bi .len (.cons (.v 1) .nil))) .nil))) (.cons (.iff (.boo false (.cons (.cmp .GtE (.v 5) (.bi .len (.cons (.v 1) .nil))) (.cons (.boo true (.cons (.cmp .Lt (.v 4) (.bi .len (.cons (.v 0) .nil))) (.cons (.cmp .LtE (.ix (.v 0) (.v 4)) (.ix (.v 1) (.v 5))) .nil))) .nil))) (.cons (.asg 7 (.ix (.v 0) (.v 4))) .nil) (.cons (.asg 7 (.ix (.v 1) (.v 5))) .nil)) (.cons (.iff (.boo true (.cons (.cmp .Lt (.v 4) (.bi .len (.cons (.v 0) .nil))) (.cons (.cmp .Eq (.ix (.v 0) (.v 4)) (.v 7)) .nil))) (.cons (.augv 4 .Add (.k (.int 1))) .nil) .nil) (.cons (.iff (.boo true (.cons (.cmp .Lt (.v 5) (.bi .len (.cons (.v 1) .nil))) (.cons (.cmp .Eq (.ix (.v 1) (.v 5)) (.v 7)) .nil))) (.cons (.augv 5 .Add (.k (.int 1))) .nil) .nil) (.cons (.asg 8 (.call 4 (.cons (.v 2) (.cons (.cmp .Eq (.bin .Mod (.v 4) (.k (.int 2))) (.k (.int 1))) (.cons (.cmp .Eq (.bin .Mod (.v 5) (.k (.int 2))) (.k (.int 1))) .nil))))) (.cons (.iff (.cmp .NotEq (.v 8) (.v 6)) (.cons (.ex (.meth (.v 3) 0 (.cons (.v 7) .nil))) (.cons (.asg 6 (.v 8)) .nil)) .nil) .nil)))))) (.cons (.ret (.v 3)) .nil))
noncomputable def b7:bp:=.cons (.seta (.v 0) 0 (.cond (.cmp .Is (.v 1) (.k .none)) (.lst .nil) (.v 1))) .nil
noncomputable def b8:bp:=.cons (.ret (.call 6 (.cons (.call 3 (.cons (.v 0) .nil)) .nil))) .nil
noncomputable def b9:bp:=.cons (.ret (.cmp .Eq (.bin .Mod (.call 2 (.cons (.attr (.v 0) 0) (.cons (.v 1) .nil))) (.k (.int 2))) (.k (.int 0)))) .nil
noncomputable def VJ:bp:=.cons (.ret (.comp [.loc,.loc,.fre 0] (.v 1) (.bi .range (.cons (.k (.int 0)) (.cons (.bi .len (.cons (.attr (.v 0) 0) .nil)) (.cons (.k (.int 2)) .nil)))) (.none) (.tup (.cons (.ix (.attr (.v 2) 0) (.v 1)) (.cons (.bin .Sub (.ix (.attr (.v 2) 0) (.bin .Add (.v 1) (.k (.int 1)))) (.k (.int 1))) .nil))))) .nil
noncomputable def TF:bp:=.cons (.ret (.call 6 (.cons (.call 5 (.cons (.attr (.v 0) 0) (.cons (.attr (.v 1) 0) (.cons (.k (.str [117,110,105,111,110])) .nil)))) .nil))) .nil
noncomputable def VI:bp:=.cons (.ret (.call 6 (.cons (.call 5 (.cons (.lst (.cons (.k (.int 0)) (.cons (.g 3) .nil))) (.cons (.attr (.v 0) 0) (.cons (.k (.str [119,105,116,104,111,117,116])) .nil)))) .nil))) .nil
noncomputable def VH:bp:=.cons (.ret (.cmp .Eq (.attr (.v 0) 0) (.attr (.v 1) 0))) .nil
noncomputable def TE:bp:=.cons (.ret (.boo true (.cons (.cmp .Eq (.v 0) (.v 1)) (.cons (.cmp .Eq (.isi (.v 0) .bool) (.isi (.v 1) .bool)) .nil)))) .nil
noncomputable def VG:bp:=.cons (.seta (.v 0) 1 (.v 1)) (.cons (.seta (.v 0) 2 (.lst (.cons (.k (.int 0)) .nil))) (.cons (.seta (.v 0) 3 (.lst (.cons (.v 1) .nil))) .nil))
noncomputable def TD:bp:=.cons (.ret (.ix (.attr (.v 0) 3) (.call 2 (.cons (.attr (.v 0) 2) (.cons (.v 1) .nil))))) .nil
noncomputable def TC:bp:=.cons (.iff (.cmp .Gt (.v 1) (.v 2)) (.cons (.ret (.k .none)) .nil) .nil) (.cons (.asg 4 (.bin .Add (.call 2 (.cons (.attr (.v 0) 2) (.cons (.bin .Sub (.v 1) (.k (.int 1))) .nil))) (.k (.int 1)))) (.cons (.asg 5 (.bin .Add (.call 2 (.cons (.attr (.v 0) 2) (.cons (.bin .Add (.v 2) (.k (.int 1))) .nil))) (.k (.int 1)))) (.cons (.asg 6 (.ix (.attr (.v 0) 3) (.bin .Sub (.v 5) (.k (.int 1))))) (.cons (.mas true [7,8] (.cons (.lsto (.cons (.v 1) .nil)) (.cons (.lsto (.cons (.v 3) .nil)) .nil))) (.cons (.iff (.boo true (.cons (.cmp .Lt (.v 2) (.g 0)) (.cons (.not (.call 14 (.cons (.v 6) (.cons (.v 3) .nil)))) .nil))) (.cons (.ex (.meth (.v 7) 0 (.cons (.bin .Add (.v 2) (.k (.int 1))) .nil))) (.cons (.ex (.meth (.v 8) 0 (.cons (.v 6) .nil))) .nil)) .nil) (.cons (.iff (.boo true (.cons (.cmp .Gt (.v 4) (.k (.int 0))) (.cons (.call 14 (.cons (.ix (.attr (.v 0) 3) (.bin .Sub (.v 4) (.k (.int 1)))) (.cons (.v 3) .nil))) .nil))) (.cons (.mas true [7,8] (.cons (.sl false (.v 7) (.some (.k (.int 1))) (.none) (.none)) (.cons (.sl false (.v 8) (.some (.k (.int 1))) (.none) (.none)) .nil))) .nil) .nil) (.cons (.seta (.v 0) 2 (.bin .Add (.bin .Add (.sl false (.attr (.v 0) 2) (.none) (.some (.v 4)) (.none)) (.v 7)) (.sl false (.attr (.v 0) 2) (.some (.v 5)) (.none) (.none)))) (.cons (.seta (.v 0) 3 (.bin .Add (.bin .Add (.sl false (.attr (.v 0) 3) (.none) (.some (.v 4)) (.none)) (.v 8)) (.sl false (.attr (.v 0) 3) (.some (.v 5)) (.none) (.none)))) .nil))))))))
noncomputable def VF:bp:=.cons (.seta (.v 0) 4 (.v 1)) (.cons (.seta (.v 0) 5 (.v 2)) .nil)
noncomputable def R4:bp:=.cons (.iff (.cmp .Eq (.bi .len (.cons (.v 1) .nil)) (.k (.int 1))) (.cons (.ret (.meth (.attr (.v 0) 4) 5 (.cons (.ix (.v 1) (.k (.int 0))) .nil))) .nil) .nil) (.cons (.ret (.cmp .In (.bi .tuple (.cons (.v 1) .nil)) (.attr (.v 0) 5))) .nil)
noncomputable def VE:bp:=.cons (.ret (.boo true (.cons (.meth (.attr (.v 0) 4) 9 (.cons (.attr (.v 1) 4) .nil)) (.cons (.cmp .Eq (.attr (.v 0) 5) (.attr (.v 1) 5)) .nil)))) .nil
noncomputable def TA:bp:=.cons (.ret (.sset (.v 0))) .nil
noncomputable def Sz:bp:=.cons (.iff (.cmp .Eq (.v 2) (.k (.str [117,110,105,111,110]))) (.cons (.ret (.call 61 (.cons (.meth (.attr (.v 0) 4) 7 (.cons (.attr (.v 1) 4) .nil)) (.cons (.call 21 (.cons (.bin .Add (.attr (.v 0) 5) (.attr (.v 1) 5)) .nil)) .nil)))) .nil) .nil) (.cons (.iff (.cmp .Eq (.v 2) (.k (.str [98,111,116,104]))) (.cons (.asg 3 (.comp [.loc,.loc,.fre 1] (.v 1) (.attr (.v 0) 5) (.some (.cmp .In (.v 1) (.attr (.v 2) 5))) (.v 1))) (.cons (.ret (.call 61 (.cons (.bad) (.cons (.v 3) .nil)))) .nil)) .nil) (.cons (.asg 3 (.comp [.loc,.loc,.fre 1] (.v 1) (.attr (.v 0) 5) (.some (.cmp .NotIn (.v 1) (.attr (.v 2) 5))) (.v 1))) (.cons (.ret (.call 61 (.cons (.bad) (.cons (.v 3) .nil)))) .nil)))
noncomputable def VD:bp:=.cons (.seta (.v 0) 6 (.v 1)) (.cons (.seta (.v 0) 7 (.v 2)) (.cons (.seta (.v 0) 8 (.k (.int 0))) .nil))
noncomputable def VC:bp:=.cons (.raise (.v 1)) .nil
noncomputable def Sy:bp:=.cons (.whl (.boo true (.cons (.cmp .Lt (.attr (.v 0) 8) (.bi .len (.cons (.attr (.v 0) 6) .nil))) (.cons (.cmp .In (.ix (.attr (.v 0) 6) (.attr (.v 0) 8)) (.g 4)) .nil))) (.cons (.auga (.v 0) 8 .Add (.k (.int 1))) .nil)) .nil
noncomputable def R3:bp:=.cons (.ret (.cond (.cmp .Lt (.attr (.v 0) 8) (.bi .len (.cons (.attr (.v 0) 6) .nil))) (.ix (.attr (.v 0) 6) (.attr (.v 0) 8)) (.neg (.k (.int 1))))) .nil
noncomputable def Sx:bp:=.cons (.iff (.boo false (.cons (.cmp .GtE (.attr (.v 0) 8) (.bi .len (.cons (.attr (.v 0) 6) .nil))) (.cons (.cmp .Gt (.ix (.attr (.v 0) 6) (.attr (.v 0) 8)) (.g 15)) .nil))) (.cons (.ex (.meth (.v 0) 12 (.cons (.attr (.v 0) 8) .nil))) .nil) .nil) (.cons (.auga (.v 0) 8 .Add (.k (.int 1))) (.cons (.ret (.ix (.attr (.v 0) 6) (.bin .Sub (.attr (.v 0) 8) (.k (.int 1))))) .nil))
noncomputable def Sw:bp:=.cons (.ret (.cmp .Eq (.sl false (.attr (.v 0) 6) (.some (.attr (.v 0) 8)) (.some (.bin .Add (.attr (.v 0) 8) (.bi .len (.cons (.v 1) .nil)))) (.none)) (.v 1))) .nil
noncomputable def VB:bp:=.cons (.mas false [3,4] (.cons (.k (.int 0)) (.cons (.k (.int 0)) .nil))) (.cons (.whl (.boo true (.cons (.cmp .Lt (.v 4) (.v 2)) (.cons (.cmp .NotEq (.meth (.v 0) 14 .nil) (.neg (.k (.int 1)))) (.cons (.cmp .IsNot (.call 1 (.cons (.meth (.v 0) 14 .nil) .nil)) (.k .none)) .nil)))) (.cons (.asg 3 (.bin .Add (.bin .Mult (.v 3) (.k (.int 16))) (.call 1 (.cons (.meth (.v 0) 15 .nil) .nil)))) (.cons (.augv 4 .Add (.k (.int 1))) .nil))) (.cons (.iff (.cmp .Lt (.v 4) (.v 1)) (.cons (.ex (.meth (.v 0) 12 (.cons (.attr (.v 0) 8) .nil))) .nil) .nil) (.cons (.ret (.v 3)) .nil)))
noncomputable def Sv:bp:=.cons (.ex (.meth (.v 0) 15 .nil)) (.cons (.asg 1 (.call 29 (.cons (.v 0) (.cons (.k (.int 1)) (.cons (.k (.int 6)) .nil))))) (.cons (.iff (.cmp .NotEq (.meth (.v 0) 14 .nil) (.g 11)) (.cons (.ex (.meth (.v 0) 12 (.cons (.attr (.v 0) 8) .nil))) .nil) .nil) (.cons (.ex (.meth (.v 0) 15 .nil)) (.cons (.ret (.v 1)) .nil))))
noncomputable def Kw:bp:=.cons (.asg 1 (.attr (.v 0) 8)) (.cons (.ex (.meth (.v 0) 15 .nil)) (.cons (.asg 2 (.meth (.v 0) 15 .nil)) (.cons (.dict 3 [97,98,116,110,118,102,114]) (.cons (.iff (.cmp .In (.v 2) (.v 3)) (.cons (.ret (.ix (.v 3) (.v 2))) .nil) .nil) (.cons (.asg 4 (.v 2)) (.cons (.iff (.cmp .Eq (.bi .chr (.cons (.v 2) .nil)) (.k (.str [120]))) (.cons (.asg 4 (.cond (.cmp .Eq (.meth (.v 0) 14 .nil) (.g 10)) (.call 30 (.cons (.v 0) .nil)) (.call 29 (.cons (.v 0) (.cons (.k (.int 2)) (.cons (.k (.int 2)) .nil)))))) .nil) (.cons (.iff (.cmp .Eq (.bi .chr (.cons (.v 2) .nil)) (.k (.str [117]))) (.cons (.asg 4 (.call 29 (.cons (.v 0) (.cons (.k (.int 4)) (.cons (.k (.int 4)) .nil))))) .nil) (.cons (.iff (.cmp .Eq (.bi .chr (.cons (.v 2) .nil)) (.k (.str [85]))) (.cons (.asg 4 (.call 29 (.cons (.v 0) (.cons (.k (.int 8)) (.cons (.k (.int 8)) .nil))))) .nil) (.cons (.iff (.cmp .Eq (.bi .chr (.cons (.v 2) .nil)) (.k (.str [78]))) (.cons (.asg 4 (.bad)) .nil) (.cons (.iff (.cmp .In (.bi .chr (.cons (.v 2) .nil)) (.k (.str [112,80]))) (.cons (.ex (.meth (.v 0) 12 (.cons (.v 1) .nil))) .nil) .nil) .nil)) .nil)) .nil)) .nil)) (.cons (.iff (.cmp .Gt (.v 4) (.g 0)) (.cons (.ex (.meth (.v 0) 12 (.cons (.v 1) .nil))) .nil) .nil) (.cons (.ret (.v 4)) .nil))))))))
noncomputable def Ow:bp:=.cons (.iff (.cmp .Eq (.meth (.v 0) 14 .nil) (.g 7)) (.cons (.ret (.call 31 (.cons (.v 0) .nil))) .nil) .nil) (.cons (.asg 1 (.attr (.v 0) 8)) (.cons (.asg 2 (.meth (.v 0) 15 .nil)) (.cons (.iff (.cmp .In (.v 2) (.g 5)) (.cons (.ex (.meth (.v 0) 12 (.cons (.v 1) .nil))) .nil) .nil) (.cons (.ret (.v 2)) .nil))))
noncomputable def Su:bp:=.cons (.ret (.boo false (.cons (.meth (.v 0) 16 (.cons (.k (.bytes [91,58])) .nil)) (.cons (.meth (.v 0) 16 (.cons (.k (.bytes [92,112])) .nil)) (.cons (.meth (.v 0) 16 (.cons (.k (.bytes [92,80])) .nil)) .nil))))) .nil
noncomputable def VA:bp:=.cons (.seta (.v 0) 9 (.lsto .nil)) (.cons (.seta (.v 0) 10 (.call 61 (.cons (.call 6 .nil) (.cons (.lst .nil) .nil)))) (.cons (.seta (.v 0) 11 (.k (.bool false))) .nil))
noncomputable def Ss:bp:=.cons (.ex (.meth (.attr (.v 0) 9) 0 (.cons (.tup (.cons (.v 1) (.cons (.v 2) .nil))) .nil))) (.cons (.seta (.v 0) 11 (.k (.bool false))) .nil)
noncomputable def Sr:bp:=.cons (.iff (.cmp .Eq (.bi .len (.cons (.v 1) .nil)) (.k (.int 1))) (.cons (.ex (.meth (.attr (.v 0) 9) 0 (.cons (.tup (.cons (.ix (.v 1) (.k (.int 0))) (.cons (.ix (.v 1) (.k (.int 0))) .nil))) .nil))) .nil) (.cons (.seta (.v 0) 10 (.call 22 (.cons (.attr (.v 0) 10) (.cons (.call 61 (.cons (.call 6 .nil) (.cons (.lst (.cons (.bi .tuple (.cons (.v 1) .nil)) .nil)) .nil))) (.cons (.k (.str [117,110,105,111,110])) .nil))))) .nil)) (.cons (.seta (.v 0) 11 (.k (.bool false))) .nil)
noncomputable def Uz:bp:=.cons (.frzF 0 9) (.cons (.iff (.cmp .Eq (.attr (.v 0) 9) (.lst .nil)) (.cons (.ret (.attr (.v 0) 10)) .nil) .nil) (.cons (.ret (.call 61 (.cons (.meth (.attr (.attr (.v 0) 10) 4) 7 (.cons (.call 8 (.cons (.attr (.v 0) 9) .nil)) .nil)) (.cons (.attr (.attr (.v 0) 10) 5) .nil)))) .nil))
noncomputable def Uy:bp:=.cons (.ret (.boo false (.cons (.cmp .Eq (.meth (.v 0) 14 .nil) (.g 8)) (.cons (.call 33 (.cons (.v 0) .nil)) .nil)))) .nil
noncomputable def R2:bp:=.cons (.iff (.call 33 (.cons (.v 0) .nil)) (.cons (.ret (.call 61 (.cons (.bad) (.cons (.lst .nil) .nil)))) .nil) .nil) (.cons (.iff (.boo false (.cons (.cmp .NotEq (.meth (.v 0) 14 .nil) (.g 8)) (.cons (.cmp .Gt (.v 1) (.g 6)) .nil))) (.cons (.ex (.meth (.v 0) 12 (.cons (.attr (.v 0) 8) .nil))) .nil) .nil) (.cons (.ret (.call 42 (.cons (.v 0) (.cons (.v 1) .nil)))) .nil))
noncomputable def Sq:bp:=.cons (.ex (.meth (.v 0) 15 .nil)) (.cons (.asg 1 (.lsto .nil)) (.cons (.ex (.meth (.v 0) 13 .nil)) (.cons (.whl (.cmp .NotEq (.meth (.v 0) 14 .nil) (.g 11)) (.cons (.ex (.meth (.v 1) 0 (.cons (.call 32 (.cons (.v 0) .nil)) .nil))) (.cons (.ex (.meth (.v 0) 13 .nil)) .nil))) (.cons (.ex (.meth (.v 0) 15 .nil)) (.cons (.ret (.v 1)) .nil)))))
noncomputable def Ov:bp:=.cons (.asg 2 (.attr (.v 0) 8)) (.cons (.asg 3 (.call 32 (.cons (.v 0) .nil))) (.cons (.ex (.meth (.v 0) 13 .nil)) (.cons (.asg 4 (.v 3)) (.cons (.iff (.cmp .Eq (.meth (.v 0) 14 .nil) (.g 14)) (.cons (.asg 5 (.attr (.v 0) 8)) (.cons (.ex (.meth (.v 0) 15 .nil)) (.cons (.ex (.meth (.v 0) 13 .nil)) (.cons (.iff (.cmp .Eq (.meth (.v 0) 14 .nil) (.g 9)) (.cons (.seta (.v 0) 8 (.v 5)) .nil) (.cons (.asg 4 (.call 32 (.cons (.v 0) .nil))) .nil)) .nil)))) .nil) (.cons (.iff (.cmp .Lt (.v 4) (.v 3)) (.cons (.ex (.meth (.v 0) 12 (.cons (.v 2) .nil))) .nil) .nil) (.cons (.ex (.meth (.v 1) 17 (.cons (.v 3) (.cons (.v 4) .nil)))) .nil))))))
noncomputable def R1:bp:=.cons (.asg 2 (.attr (.v 0) 8)) (.cons (.ex (.meth (.v 0) 15 .nil)) (.cons (.ex (.meth (.v 0) 13 .nil)) (.cons (.asg 3 (.cmp .Eq (.meth (.v 0) 14 .nil) (.g 12))) (.cons (.iff (.v 3) (.cons (.ex (.meth (.v 0) 15 .nil)) (.cons (.ex (.meth (.v 0) 13 .nil)) .nil)) .nil) (.cons (.asg 4 (.call 64 .nil)) (.cons (.asg 5 (.k (.bool true))) (.cons (.whl (.cmp .NotEq (.meth (.v 0) 14 .nil) (.g 9)) (.cons (.iff (.boo false (.cons (.cmp .Eq (.meth (.v 0) 14 .nil) (.g 14)) (.cons (.cmp .Eq (.meth (.v 0) 14 .nil) (.g 13)) .nil))) (.cons (.ex (.bad)) .nil) (.cons (.iff (.call 38 (.cons (.v 0) .nil)) (.cons (.ex (.bad)) .nil) (.cons (.iff (.cmp .Eq (.meth (.v 0) 14 .nil) (.g 10)) (.cons (.ex (.meth (.v 4) 18 (.cons (.call 40 (.cons (.v 0) .nil)) .nil))) .nil) (.cons (.ex (.call 41 (.cons (.v 0) (.cons (.v 4) .nil)))) .nil)) .nil)) .nil)) (.cons (.asg 5 (.k (.bool false))) (.cons (.ex (.meth (.v 0) 13 .nil)) .nil)))) (.cons (.ex (.meth (.v 0) 15 .nil)) (.cons (.asg 6 (.meth (.v 4) 19 .nil)) (.cons (.iff (.boo true (.cons (.v 3) (.cons (.cmp .NotEq (.attr (.v 6) 5) (.lst .nil)) .nil))) (.cons (.ex (.meth (.v 0) 12 (.cons (.v 2) .nil))) .nil) .nil) (.cons (.ret (.cond (.v 3) (.call 61 (.cons (.meth (.attr (.v 6) 4) 8 .nil) (.cons (.lst .nil) .nil))) (.v 6))) .nil)))))))))))
noncomputable def R0:bp:=.cons (.asg 2 (.call 63 (.cons (.v 0) (.cons (.v 1) .nil)))) (.cons (.ex (.meth (.v 2) 13 .nil)) (.cons (.asg 3 (.call 39 (.cons (.v 2) (.cons (.k (.int 0)) .nil)))) (.cons (.ex (.meth (.v 2) 13 .nil)) (.cons (.iff (.cmp .Lt (.attr (.v 2) 8) (.bi .len (.cons (.v 0) .nil))) (.cons (.ex (.meth (.v 2) 12 (.cons (.attr (.v 2) 8) .nil))) .nil) .nil) (.cons (.ret (.cond (.cmp .Eq (.attr (.v 3) 5) (.lst .nil)) (.attr (.v 3) 4) (.v 3))) .nil)))))
noncomputable def Ux:bp:=.cons (.iff (.cmp2 .Lt .Lt (.k (.int 32)) (.v 0) (.g 15)) (.cons (.ret (.cond (.cmp .In (.v 0) (.g 5)) (.bi .bytes (.cons (.lst (.cons (.g 7) (.cons (.v 0) .nil))) .nil)) (.bi .bytes (.cons (.lst (.cons (.v 0) .nil)) .nil)))) .nil) .nil) (.cons (.dict 1 [7,8,9,10,11,12,13]) (.cons (.iff (.boo false (.cons (.cmp .Eq (.v 0) (.k (.int 32))) (.cons (.cmp .In (.v 0) (.v 1)) .nil))) (.cons (.ret (.bin .Add (.k (.bytes [92])) (.meth (.v 1) 4 (.cons (.v 0) (.cons (.k (.bytes [32])) .nil))))) .nil) .nil) (.cons (.asg 2 (.call 0 (.cons (.v 0) .nil))) (.cons (.iff (.cmp .Lt (.v 0) (.k (.int 256))) (.cons (.ret (.bin .Add (.k (.bytes [92,120])) (.sl false (.v 2) (.some (.k (.int 2))) (.none) (.none)))) .nil) .nil) (.cons (.iff (.cmp .Eq (.bi .len (.cons (.v 2) .nil)) (.k (.int 4))) (.cons (.ret (.bin .Add (.k (.bytes [92,117])) (.v 2))) .nil) .nil) (.cons (.ret (.bin .Add (.bin .Add (.k (.bytes [92,120,123])) (.v 2)) (.k (.bytes [125])))) .nil))))))
noncomputable def RZ:bp:=.cons (.iff (.cmp .Eq (.v 0) (.v 1)) (.cons (.ret (.call 44 (.cons (.v 0) .nil))) .nil) .nil) (.cons (.ret (.bin .Add (.bin .Add (.call 44 (.cons (.v 0) .nil)) (.cond (.cmp .Eq (.v 1) (.bin .Add (.v 0) (.k (.int 1)))) (.k (.bytes [])) (.k (.bytes [45])))) (.call 44 (.cons (.v 1) .nil)))) .nil)
noncomputable def Uw:bp:=.cons (.asg 1 (.comp [.loc,.loc,.loc,.glb] (.t [1,2]) (.meth (.attr (.v 0) 4) 6 .nil) (.none) (.call 45 (.cons (.v 1) (.cons (.v 2) .nil))))) (.cons (.asg 2 (.meth (.k (.bytes [])) 3 (.cons (.v 1) .nil))) (.cons (.iff (.cmp .Eq (.sl false (.v 2) (.none) (.some (.k (.int 1))) (.none)) (.k (.bytes [58]))) (.cons (.asg 2 (.bin .Add (.k (.bytes [92])) (.v 2))) .nil) .nil) (.cons (.frr (.v 3) (.attr (.v 0) 5) (.cons (.augv 2 .Add (.bin .Add (.bin .Add (.k (.bytes [123])) (.meth (.k (.bytes [])) 3 (.cons (.comp [.loc,.loc,.glb] (.v 1) (.v 3) (.none) (.call 44 (.cons (.v 1) .nil))) .nil))) (.k (.bytes [125])))) .nil)) (.cons (.ret (.bin .Add (.bin .Add (.k (.bytes [91])) (.v 2)) (.k (.bytes [93])))) .nil))))
noncomputable def Sp:bp:=.cons (.asg 3 (.call 62 (.cons (.v 2) .nil))) (.cons (.frr (.t [4,5]) (.v 0) (.cons (.asg 6 (.call 43 (.cons (.v 4) (.cons (.v 1) .nil)))) (.cons (.asg 7 (.cond (.isi (.v 6) (.cls 424)) (.attr (.v 6) 4) (.v 6))) (.cons (.frr (.t [8,9]) (.meth (.v 7) 6 .nil) (.cons (.ex (.meth (.v 3) 10 (.cons (.v 8) (.cons (.v 9) (.cons (.v 5) .nil))))) .nil)) .nil)))) (.cons (.ret (.v 3)) .nil))
noncomputable def Uv:bp:=.cons (.iff (.isi (.v 0) (.cls 202)) (.cons (.ret (.cond (.boo true (.cons (.cmp .Lt (.v 2) (.bi .len (.cons (.v 1) .nil))) (.cons (.meth (.v 0) 5 (.cons (.ix (.v 1) (.v 2)) .nil)) .nil))) (.k (.int 1)) (.k (.int 0)))) .nil) .nil) (.cons (.asg 3 (.cond (.boo true (.cons (.cmp .Lt (.v 2) (.bi .len (.cons (.v 1) .nil))) (.cons (.meth (.attr (.v 0) 4) 5 (.cons (.ix (.v 1) (.v 2)) .nil)) .nil))) (.k (.int 1)) (.k (.int 0)))) (.cons (.frr (.v 4) (.attr (.v 0) 5) (.cons (.iff (.boo true (.cons (.cmp .Gt (.bi .len (.cons (.v 4) .nil)) (.v 3)) (.cons (.cmp .Eq (.bi .tuple (.cons (.sl false (.v 1) (.some (.v 2)) (.some (.bin .Add (.v 2) (.bi .len (.cons (.v 4) .nil)))) (.none)) .nil)) (.v 4)) .nil))) (.cons (.asg 3 (.bi .len (.cons (.v 4) .nil))) .nil) .nil) .nil)) (.cons (.ret (.v 3)) .nil)))
noncomputable def So:bp:=.cons (.ret (.cond (.cmp .NotEq (.v 0) (.lst .nil)) (.bin .Mod (.meth (.v 0) 1 .nil) (.v 1)) (.k (.int 0)))) .nil
noncomputable def Uu:bp:=.cons (.ret (.comp [.loc,.loc,.glb,.glb,.fre 0] (.v 1) (.bi .range (.cons (.v 1) .nil)) (.none) (.ix (.g 16) (.call 49 (.cons (.v 4) (.cons (.k (.int 10)) .nil)))))) .nil
noncomputable def Ut:bp:=.cons (.asg 1 (.lsto .nil)) (.cons (.frr (.v 2) (.bi .sorted (.cons (.v 0) .nil)) (.cons (.iff (.cmp .NotIn (.v 2) (.v 1)) (.cons (.ex (.meth (.v 1) 0 (.cons (.v 2) .nil))) .nil) .nil) .nil)) (.cons (.ret (.v 1)) .nil))
noncomputable def Sn:bp:=.cons (.asg 1 (.lsto .nil)) (.cons (.frr (.v 2) (.v 0) (.cons (.iff (.boo true (.cons (.cmp .NotEq (.v 1) (.lst .nil)) (.cons (.cmp .Eq (.ix (.ix (.v 1) (.neg (.k (.int 1)))) (.k (.int 1))) (.bin .Sub (.v 2) (.k (.int 1)))) .nil))) (.cons (.setx 1 (.tup (.cons (.ix (.ix (.v 1) (.neg (.k (.int 1)))) (.k (.int 0))) (.cons (.v 2) .nil)))) .nil) (.cons (.ex (.meth (.v 1) 0 (.cons (.tup (.cons (.v 2) (.cons (.v 2) .nil))) .nil))) .nil)) .nil)) (.cons (.ret (.v 1)) .nil))
noncomputable def Us:bp:=.cons (.asg 3 (.k (.int 0))) (.cons (.frr (.v 4) (.bi .range (.cons (.k (.int 1)) (.cons (.bin .Add (.bin .Sub (.bi .len (.cons (.v 1) .nil)) (.v 2)) (.k (.int 1))) .nil))) (.cons (.iff (.cmp .In (.bi .tuple (.cons (.sl false (.v 1) (.some (.v 2)) (.some (.bin .Add (.v 2) (.v 4))) (.none)) .nil)) (.v 0)) (.cons (.asg 3 (.v 4)) .nil) .nil) .nil)) (.cons (.ret (.v 3)) .nil))
noncomputable def Ur:bp:=.cons (.ret (.bi .bytes (.cons (.comp [.loc,.loc,.glb] (.v 1) (.v 0) (.none) (.bi .ord (.cons (.v 1) .nil))) .nil))) .nil
noncomputable def Uq:bp:=.cons (.asg 3 (.bin .Add (.comp [.loc,.loc] (.v 1) (.v 0) (.none) (.tup (.cons (.v 1) .nil))) (.v 1))) (.cons (.asg 4 (.call 8 (.cons (.comp [.loc,.loc] (.v 1) (.v 0) (.none) (.tup (.cons (.v 1) (.cons (.v 1) .nil)))) .nil))) (.cons (.asg 5 (.call 61 (.cons (.v 4) (.cons (.v 1) .nil)))) (.cons (.frr (.v 6) (.bin .Add (.bin .Add (.v 1) (.comp [.loc,.loc] (.v 1) (.g 16) (.none) (.tup (.cons (.v 1) .nil)))) (.lst (.cons (.bi .tuple (.cons (.v 2) .nil)) .nil))) (.cons (.iff (.cmp .NotEq (.meth (.v 5) 11 (.cons (.bi .list (.cons (.v 6) .nil)) .nil)) (.cmp .In (.v 6) (.v 3))) (.cons (.ret (.k (.bool false))) .nil) .nil) .nil)) (.cons (.frr (.v 7) (.bi .range (.cons (.bin .Add (.bi .len (.cons (.v 2) .nil)) (.k (.int 1))) .nil)) (.cons (.iff (.cmp .NotEq (.call 48 (.cons (.v 5) (.cons (.v 2) (.cons (.v 7) .nil)))) (.call 53 (.cons (.v 3) (.cons (.v 2) (.cons (.v 7) .nil))))) (.cons (.ret (.k (.bool false))) .nil) .nil) (.cons (.iff (.cmp .NotEq (.call 48 (.cons (.v 4) (.cons (.v 2) (.cons (.v 7) .nil)))) (.cond (.boo true (.cons (.cmp .NotEq (.sl false (.v 2) (.some (.v 7)) (.none) (.none)) (.lst .nil)) (.cons (.cmp .In (.ix (.v 2) (.v 7)) (.v 0)) .nil))) (.k (.int 1)) (.k (.int 0)))) (.cons (.ret (.k (.bool false))) .nil) .nil) .nil))) (.cons (.iff (.not (.meth (.v 5) 9 (.cons (.call 61 (.cons (.call 8 (.cons (.call 52 (.cons (.v 0) .nil)) .nil)) (.cons (.bi .list (.cons (.v 1) .nil)) .nil))) .nil))) (.cons (.ret (.k (.bool false))) .nil) .nil) (.cons (.ret (.boo false (.cons (.cmp .Eq (.v 1) (.lst .nil)) (.cons (.not (.meth (.v 5) 9 (.cons (.call 61 (.cons (.v 4) (.cons (.sl false (.v 1) (.some (.k (.int 1))) (.none) (.none)) .nil))) .nil))) .nil)))) .nil))))))
noncomputable def RY:bp:=.cons (.asg 2 (.call 46 (.cons (.call 61 (.cons (.call 8 (.cons (.call 52 (.cons (.v 0) .nil)) .nil)) (.cons (.v 1) .nil))) .nil))) (.cons (.iff (.cmp .NotEq (.comp [.loc,.loc] (.v 1) (.v 2) (.some (.cmp .Gt (.v 1) (.k (.int 126)))) (.v 1)) (.lst .nil)) (.cons (.ret (.k (.bool false))) .nil) .nil) (.cons (.asg 3 (.call 43 (.cons (.v 2) (.cons (.k .none) .nil)))) (.cons (.iff (.cmp .NotEq (.isi (.v 3) (.cls 424)) (.cmp .NotEq (.v 1) (.lst .nil))) (.cons (.ret (.k (.bool false))) .nil) .nil) (.cons (.iff (.cmp .Eq (.v 1) (.lst .nil)) (.cons (.ret (.cmp .Eq (.meth (.v 3) 6 .nil) (.call 52 (.cons (.v 0) .nil)))) .nil) .nil) (.cons (.ret (.boo true (.cons (.cmp .Eq (.meth (.attr (.v 3) 4) 6 .nil) (.call 52 (.cons (.v 0) .nil))) (.cons (.cmp .Eq (.bi .list (.cons (.attr (.v 3) 5) .nil)) (.v 1)) .nil)))) .nil)))))
noncomputable def Uo:bp:=.cons (.mas true [1,2,3] (.cons (.call 49 (.cons (.v 0) (.cons (.k (.int 4)) .nil))) (.cons (.call 49 (.cons (.v 0) (.cons (.k (.int 6)) .nil))) (.cons (.bin .Add (.k (.int 1)) (.call 49 (.cons (.v 0) (.cons (.k (.int 6)) .nil)))) .nil)))) (.cons (.asg 3 (.ix (.tup (.cons (.k (.int 2)) (.cons (.k (.int 4)) (.cons (.k (.int 8)) (.cons (.v 3) .nil))))) (.v 1))) (.cons (.asg 4 (.tup (.cons (.k (.int 65)) (.cons (.k (.int 255)) (.cons (.k (.int 256)) (.cons (.k (.int 65535)) (.cons (.k (.int 65536)) (.cons (.k (.int 1114111)) (.cons (.k (.int 1114112)) (.cons (.call 49 (.cons (.v 0) (.cons (.bin .Pow (.k (.int 16)) (.k (.int 8))) .nil))) .nil)))))))))) (.cons (.asg 5 (.bin .Mod (.ix (.v 4) (.call 49 (.cons (.v 0) (.cons (.k (.int 8)) .nil)))) (.bin .Pow (.k (.int 16)) (.v 3)))) (.cons (.asg 6 (.ix (.tup (.cons (.k (.str [48,49,50,51,52,53,54,55,56,57,97,98,99,100,101,102])) (.cons (.k (.str [48,49,50,51,52,53,54,55,56,57,65,66,67,68,69,70])) .nil))) (.call 49 (.cons (.v 0) (.cons (.k (.int 2)) .nil))))) (.cons (.asg 7 (.meth (.k (.str [])) 3 (.cons (.comp [.loc,.loc,.fre 5,.fre 6] (.v 1) (.bi .range (.cons (.bin .Sub (.v 3) (.k (.int 1))) (.cons (.neg (.k (.int 1))) (.cons (.neg (.k (.int 1))) .nil)))) (.none) (.ix (.v 3) (.bin .Mod (.bin .FloorDiv (.v 2) (.bin .Pow (.k (.int 16)) (.v 1))) (.k (.int 16))))) .nil))) (.cons (.asg 8 (.cond (.cmp .LtE (.v 5) (.k (.int 1114111))) (.lst (.cons (.v 5) .nil)) (.k .none))) (.cons (.iff (.cmp .Eq (.v 2) (.k (.int 3))) (.cons (.mas true [7,8] (.cons (.cond (.cmp .Eq (.v 1) (.k (.int 3))) (.k (.str [])) (.sl false (.v 7) (.none) (.some (.neg (.k (.int 1)))) (.none))) (.cons (.k .none) .nil))) .nil) (.cons (.iff (.cmp .Eq (.v 2) (.k (.int 4))) (.cons (.mas true [7,8] (.cons (.bin .Add (.sl false (.v 7) (.none) (.some (.neg (.k (.int 1)))) (.none)) (.k (.str [103]))) (.cons (.k .none) .nil))) .nil) (.cons (.iff (.boo true (.cons (.cmp .Eq (.v 2) (.k (.int 5))) (.cons (.cmp .Eq (.v 1) (.k (.int 3))) .nil))) (.cons (.mas true [7,8] (.cons (.bin .Add (.bin .Mult (.k (.str [48])) (.bin .Sub (.k (.int 7)) (.v 3))) (.v 7)) (.cons (.k .none) .nil))) .nil) .nil) .nil)) .nil)) (.cons (.asg 9 (.bin .Add (.bin .Add (.ix (.tup (.cons (.k (.str [92,120])) (.cons (.k (.str [92,117])) (.cons (.k (.str [92,85])) (.cons (.k (.str [92,120,123])) .nil))))) (.v 1)) (.v 7)) (.cond (.cmp .Eq (.v 1) (.k (.int 3))) (.k (.str [125])) (.k (.str []))))) (.cons (.iff (.cmp .Eq (.v 2) (.k (.int 2))) (.cons (.mas true [9,8] (.cons (.bin .Add (.v 9) (.k (.str [55]))) (.cons (.cond (.cmp .Is (.v 8) (.k .none)) (.k .none) (.bin .Add (.v 8) (.lst (.cons (.k (.int 55)) .nil)))) .nil))) .nil) .nil) (.cons (.ret (.tup (.cons (.bin .Add (.bin .Add (.k (.str [91])) (.v 9)) (.k (.str [93]))) (.cons (.v 8) .nil)))) .nil))))))))))
noncomputable def RX:bp:=.cons (.asgt [1,2] (.call 57 (.cons (.v 0) .nil))) (.cons (.asg 3 (.call 54 (.cons (.v 1) .nil))) (.cons (.tryx 4 (.meth (.call 43 (.cons (.v 3) (.cons (.k .none) .nil))) 6 .nil) 5 2 3) (.cons (.ret (.boo true (.cons (.cmp .IsNot (.v 2) (.k .none)) (.cons (.cmp .Eq (.v 4) (.call 52 (.cons (.call 51 (.cons (.v 2) .nil)) .nil))) .nil)))) .nil)))
noncomputable def Un:bp:=.cons (.mas true [1,2,3] (.cons (.lsto .nil) (.cons (.lsto .nil) (.cons (.ix (.tup (.cons (.k .none) (.cons (.k (.int 2)) .nil))) (.call 49 (.cons (.v 0) (.cons (.k (.int 2)) .nil)))) .nil)))) (.cons (.frr (.v 4) (.bi .range (.cons (.call 49 (.cons (.v 0) (.cons (.k (.int 4)) .nil))) .nil)) (.cons (.mas true [5,6,7] (.cons (.call 49 (.cons (.v 0) (.cons (.k (.int 5)) .nil))) (.cons (.call 49 (.cons (.v 0) (.cons (.k (.int 4)) .nil))) (.cons (.call 49 (.cons (.v 0) (.cons (.k (.int 4)) .nil))) .nil)))) (.cons (.asg 8 (.bin .Add (.bin .Add (.v 5) (.k (.int 1))) (.call 49 (.cons (.v 0) (.cons (.k (.int 3)) .nil))))) (.cons (.asg 9 (.bin .Add (.bin .Add (.bi .chr (.cons (.bin .Add (.k (.int 97)) (.v 5)) .nil)) (.k (.str [45]))) (.bi .chr (.cons (.bin .Add (.k (.int 97)) (.v 8)) .nil)))) (.cons (.ex (.meth (.v 2) 0 (.cons (.tup (.cons (.call 54 (.cons (.bin .Add (.bin .Add (.bin .Add (.bin .Add (.k (.str [91])) (.cond (.cmp .Eq (.v 6) (.k (.int 1))) (.k (.str [94])) (.k (.str [])))) (.v 9)) (.cond (.cmp .Eq (.v 6) (.k (.int 2))) (.k (.str [123,97,98,125])) (.k (.str [])))) (.k (.str [93]))) .nil)) (.cons (.v 7) .nil))) .nil))) (.cons (.ex (.meth (.v 1) 0 (.cons (.tup (.cons (.bin .Add (.k (.int 97)) (.v 5)) (.cons (.bin .Add (.k (.int 97)) (.v 8)) (.cons (.cmp .Eq (.v 6) (.k (.int 1))) (.cons (.v 7) .nil))))) .nil))) .nil)))))) (.cons (.frz 1) (.cons (.frz 2) (.cons (.asg 10 (.call 47 (.cons (.v 2) (.cons (.k .none) (.cons (.v 3) .nil))))) (.cons (.frr (.v 11) (.bin .Add (.bi .list (.cons (.bi .range (.cons (.k (.int 95)) (.cons (.k (.int 107)) .nil))) .nil)) (.lst (.cons (.k (.int 0)) (.cons (.k (.int 1114111)) .nil)))) (.cons (.asg 12 (.v 3)) (.cons (.frr (.t [5,8,13,7]) (.v 1) (.cons (.iff (.cmp .NotEq (.cmp2 .LtE .LtE (.v 5) (.v 11) (.v 8)) (.v 13)) (.cons (.asg 12 (.v 7)) .nil) .nil) .nil)) (.cons (.iff (.cmp .NotEq (.bi .repr (.cons (.meth (.v 10) 4 (.cons (.v 11) .nil)) .nil)) (.bi .repr (.cons (.v 12) .nil))) (.cons (.ret (.k (.bool false))) .nil) .nil) .nil)))) (.cons (.ret (.k (.bool true))) .nil))))))
noncomputable def Ou:bp:=.cons (.asg 1 (.sl true (.bi .list (.cons (.sl false (.v 0) (.none) (.some (.k (.int 48))) (.none)) .nil)) (.none) (.none) (.some (.neg (.k (.int 1)))))) (.cons (.asg 2 (.call 51 (.cons (.call 50 (.cons (.v 1) (.cons (.call 49 (.cons (.v 1) (.cons (.k (.int 4)) .nil))) .nil))) .nil))) (.cons (.asg 3 (.call 51 (.cons (.comp [.loc,.loc,.glb,.glb,.glb,.fre 1] (.v 1) (.bi .range (.cons (.call 49 (.cons (.v 1) (.cons (.k (.int 3)) .nil))) .nil)) (.none) (.bi .tuple (.cons (.call 50 (.cons (.v 5) (.cons (.ix (.tup (.cons (.k (.int 0)) (.cons (.k (.int 2)) (.cons (.k (.int 3)) .nil)))) (.call 49 (.cons (.v 5) (.cons (.k (.int 3)) .nil)))) .nil))) .nil))) .nil))) (.cons (.asg 4 (.call 50 (.cons (.v 1) (.cons (.call 49 (.cons (.v 1) (.cons (.k (.int 6)) .nil))) .nil)))) (.cons (.iff (.boo false (.cons (.not (.call 55 (.cons (.v 2) (.cons (.v 3) (.cons (.v 4) .nil))))) (.cons (.not (.call 56 (.cons (.v 2) (.cons (.v 3) .nil)))) .nil))) (.cons (.ret (.k (.bool false))) .nil) .nil) (.cons (.ret (.boo true (.cons (.call 58 (.cons (.v 1) .nil)) (.cons (.call 59 (.cons (.v 1) .nil)) .nil)))) .nil)))))
noncomputable def mK:List FE:=[
 .fn 61 1 false true [.arg 0,.loc,.loc,.glb,.glb,.glb,.glb] b0,
 .fn 68 1 false true [.arg 0] b1,
 .fn 82 2 false true [.arg 0,.arg 1,.loc,.loc,.loc,.glb] b2,
 .fn 94 1 false true [.arg 0,.loc,.loc,.loc,.glb,.glb,.glb] b3,
 .fn 101 3 false true [.arg 0,.arg 1,.arg 2] b4,
 .fn 108 3 false true [.arg 0,.arg 1,.arg 2,.loc,.loc,.loc,.loc,.loc,.loc,.glb,.glb] b5,
 .cls 202 7 false,
 .fn 123 2 true false [.arg 0,.arg 1] b7,
 .fn 130 1 false true [.arg 0,.glb,.glb] b8,
 .fn 140 2 false true [.arg 0,.arg 1,.glb] b9,
 .fn 145 1 false true [.arg 0,.glb,.glb] VJ,
 .fn 157 2 false true [.arg 0,.arg 1,.glb,.glb] TF,
 .fn 178 1 false true [.arg 0,.glb,.glb,.glb] VI,
 .fn 192 2 false true [.arg 0,.arg 1] VH,
 .fn 213 2 false true [.arg 0,.arg 1,.glb,.glb] TE,
 .fn 227 2 false false [.arg 0,.arg 1] VG,
 .fn 234 2 false true [.arg 0,.arg 1,.glb] TD,
 .fn 241 4 false true [.arg 0,.arg 1,.arg 2,.arg 3,.loc,.loc,.loc,.loc,.loc,.glb,.glb,.glb] TC,
 .fn 407 3 false false [.arg 0,.arg 1,.arg 2] VF,
 .fn 414 2 false true [.arg 0,.arg 1,.glb,.glb] R4,
 .fn 421 2 false true [.arg 0,.arg 1] VE,
 .fn 433 1 false true [.arg 0,.glb] TA,
 .fn 438 3 false true [.arg 0,.arg 1,.arg 2,.loc,.glb,.glb] Sz,
 .fn 452 3 false false [.arg 0,.arg 1,.arg 2] VD,
 .fn 459 2 false true [.arg 0,.arg 1,.glb] VC,
 .fn 466 1 false true [.arg 0,.glb,.glb] Sy,
 .fn 473 1 false true [.arg 0,.glb] R3,
 .fn 480 1 false true [.arg 0,.glb,.glb] Sx,
 .fn 487 2 false true [.arg 0,.arg 1,.glb] Sw,
 .fn 508 3 false true [.arg 0,.arg 1,.arg 2,.loc,.loc,.glb] VB,
 .fn 520 1 false true [.arg 0,.loc,.glb,.glb] Sv,
 .fn 527 1 false true [.arg 0,.loc,.loc,.loc,.loc,.glb,.glb,.glb,.glb,.glb,.glb] Kw,
 .fn 534 1 false true [.arg 0,.loc,.loc,.glb,.glb,.glb] Ow,
 .fn 541 1 false true [.arg 0] Su,
 .fn 567 1 false false [.arg 0,.glb,.glb] VA,
 .fn 574 3 false true [.arg 0,.arg 1,.arg 2] Ss,
 .fn 581 2 false true [.arg 0,.arg 1,.glb,.glb,.glb,.glb,.glb] Sr,
 .fn 595 1 false true [.arg 0,.glb,.glb] Uz,
 .fn 609 1 false true [.arg 0,.glb,.glb] Uy,
 .fn 616 2 false true [.arg 0,.arg 1,.glb,.glb,.glb,.glb,.glb,.glb] R2,
 .fn 623 1 false true [.arg 0,.loc,.glb,.glb] Sq,
 .fn 630 2 false true [.arg 0,.arg 1,.loc,.loc,.loc,.loc,.glb,.glb,.glb] Ov,
 .fn 644 2 false true [.arg 0,.arg 1,.loc,.loc,.loc,.loc,.loc,.glb,.glb,.glb,.glb,.glb,.glb,.glb,.glb,.glb,.glb,.glb,.glb] R1,
 .fn 651 2 false true [.arg 0,.arg 1,.loc,.loc,.glb,.glb,.glb] R0,
 .fn 658 1 false true [.arg 0,.loc,.loc,.glb,.glb,.glb,.glb,.glb,.glb] Ux,
 .fn 665 2 false true [.arg 0,.arg 1,.glb] RZ,
 .fn 670 1 false true [.arg 0,.loc,.loc,.loc] Uw,
 .fn 678 3 true true [.arg 0,.arg 1,.arg 2,.loc,.loc,.loc,.loc,.loc,.loc,.loc,.glb,.glb,.glb,.glb] Sp,
 .fn 685 3 false true [.arg 0,.arg 1,.arg 2,.loc,.loc,.glb,.glb,.glb,.glb] Uv,
 .fn 693 2 false true [.arg 0,.arg 1] So,
 .fn 698 2 false true [.arg 0,.arg 1,.glb] Uu,
 .fn 705 1 false true [.arg 0,.loc,.loc,.glb] Ut,
 .fn 712 1 false true [.arg 0,.loc,.loc] Sn,
 .fn 719 3 false true [.arg 0,.arg 1,.arg 2,.loc,.loc,.glb,.glb,.glb] Us,
 .fn 724 1 false true [.arg 0,.glb] Ur,
 .fn 729 3 false true [.arg 0,.arg 1,.arg 2,.loc,.loc,.loc,.loc,.loc,.glb,.glb,.glb,.glb,.glb,.glb,.glb,.glb,.glb,.glb] Uq,
 .fn 734 2 false true [.arg 0,.arg 1,.loc,.loc,.glb,.glb,.glb,.glb,.glb,.glb,.glb] RY,
 .fn 739 1 false true [.arg 0,.loc,.loc,.loc,.loc,.loc,.loc,.loc,.loc,.loc,.glb,.glb] Uo,
 .fn 746 1 false true [.arg 0,.loc,.loc,.loc,.loc,.loc,.glb,.glb,.glb,.glb,.glb,.glb,.glb,.glb,.glb] RX,
 .fn 753 1 false true [.arg 0,.loc,.loc,.loc,.loc,.loc,.loc,.loc,.loc,.loc,.loc,.loc,.loc,.loc,.glb,.glb,.glb,.glb,.glb,.glb,.glb] Un,
 .fn 758 1 false true [.arg 0,.loc,.loc,.loc,.loc,.glb,.glb,.glb,.glb,.glb,.glb,.glb,.glb,.glb] Ou,
 .cls 424 18 false,
 .cls 256 15 true,
 .cls 497 23 true,
 .cls 598 34 true]
noncomputable def NL(K:Nat->List W->St->R W)(args:List W)(s:St)(e:FE):R W:=match e with
 |.fn _ np df tr ini body=>need ((sh df np args).length==np) (eT tr s.length (bN K body (k9 (sh df np args) ini) s))
 |.cls C init own=>(K init (.r s.length::args) (s++[.inst C []])).bind λ w s'=>onO (Da w) λ _=>match own with
  |true=>.ok (.r s.length) s'
  |false=>onO (JT s.length s' (.r s.length)) λ d=>cut s.length (.d d) s'
noncomputable def cC(K:Nat->List W->St->R W)(f:Nat)(args:List W)(s:St):R W:=onO mK[f]? λ e=>NL K args s e
noncomputable def aW:Nat->Nat->List W->St->R W
 |0,_,_,_=>.no
 |n+1,f,args,s=>wrap (cC (aW n) f) args s
def VR(m:List Addr)(w:W)(d:D):Prop:=match w with
 |.d x=>d=x
 |.r i=>∃a,d=.ref a/\m[i]?=some a
theorem VR.d{m:List Addr}(x:D):VR m (.d x) x:=rfl
theorem VR.r{m:List Addr}{i:Nat}{a:Addr}(h:m[i]?=some a):VR m (.r i) (.ref a):=⟨a,rfl,h⟩
inductive OJ (m:List Addr)(w:W)(V:List D->Prop)(ds:List D):Prop where
 |mk (d:D) (es:List D) (e:ds=d::es) (h:VR m w d) (r:V es)
noncomputable def eu(m:List Addr):List W->List D->Prop
 |[],ds=>ds=[]
 |w::ws,ds=>OJ m w (eu m ws) ds
theorem eu.nil{m:List Addr}:eu m [] []:=rfl
theorem eu.cons{m:List Addr}{w:W}{d:D}{ws:List W}{ds:List D}(h:VR m w d)(r:eu m ws ds):eu m (w::ws) (d::ds):=⟨d,ds,rfl,h,r⟩
class inductive FW (m:List Addr):List (Nat×W)->List (Nat×D)->Prop where
 |nil:FW m [] []
 |cons {f:Nat}{w:W}{d:D}{fs:List (Nat×W)}{gs:List (Nat×D)} (h:VR m w d) (r:FW m fs gs):FW m ((f,w)::fs) ((f,d)::gs)
def MR(m:List Addr)(o:MW)(mo:MO):Prop:=match o with
 |.list ds=>mo=.list ds
 |.inst C fs=>∃dx gs,mo=.inst C dx gs/\FW m fs gs
 |.gone=>False
class inductive SR (Hd:aN) (m:List Addr):List Addr->St->aN->Prop where
 |nil:SR Hd m [] [] Hd
 |obj {a:Addr}{o:MW}{mo:MO}{as:List Addr}{s:St}{S:aN} (h:MR m o mo) (r:SR Hd m as s S):SR Hd m (a::as) (o::s) ((a,mo)::S)
 |gone {a:Addr}{as:List Addr}{s:St}{S:aN} (r:SR Hd m as s S):SR Hd m (a::as) (.gone::s) S
class inductive RR (tab:List (Str×D)) (m:List Addr):List (Str×NameKind)->V->Rh->Prop where
 |nil:RR tab m [] [] []
 |loc {x:Str}{k:NameKind}{ns:List (Str×NameKind)}{w:Option W}{o:Option D}{vs:V}{ρ:Rh} (hk:k=.local\/k=.cell) (h:∀u,w=some u->∃d,o=some d/\VR m u d) (r:RR tab m ns vs ρ):RR tab m ((x,k)::ns) (w::vs) ((x,.loc,o)::ρ)
 |fre {x:Str}{ns:List (Str×NameKind)}{w:Option W}{o:Option D}{vs:V}{ρ:Rh} (h:∀u,w=some u->∃d,o=some d/\VR m u d) (r:RR tab m ns vs ρ):RR tab m ((x,.free)::ns) (w::vs) ((x,.glb,o)::ρ)
 |glb {x:Str}{ns:List (Str×NameKind)}{vs:V}{ρ:Rh} (r:RR tab m ns vs ρ):RR tab m ((x,.globalImplicit)::ns) (none::vs) ((x,.glb,tab.lookup x)::ρ)
def gL(m m':List Addr):Prop:=∀(i:Nat) a,m[i]?=some a->m'[i]?=some a
theorem gL.refl(m:List Addr):gL m m:=λ _ _ h=>h
theorem gL.trans{a b c:List Addr}(h:gL a b)(k:gL b c):gL a c:=λ i x e=>k i x (h i x e)
theorem gL.app(m:List Addr)(a:Addr):gL m (m++[a]):=λ i x e=>by
 rw[List.getElem?_append_left (List.getElem?_eq_some_iff.mp e).1];exact e
section
variable {Hd:aN}
theorem VR.mono(l:gL m m'){w:W}{d:D}(h:VR m w d):VR m' w d:=match w,h with
 |.d _,h=>h
 |.r _,⟨a,e,h⟩=>⟨a,e,l _ _ h⟩
theorem eu.mono(l:gL m m'):∀{w:List W}{d:List D},eu m w d->eu m' w d:=by
 intro zl
 induction zl with
 |nil=>
  intro _ h
  exact h
 |cons _ _ ih=>
  rintro _ ⟨d,es,e,h,r⟩
  exact⟨d,es,e,h.mono l,ih r⟩
theorem FW.mono(l:gL m m'){w:List (Nat×W)}{d:List (Nat×D)}(h:FW m w d):FW m' w d:=by
 induction h with
 |nil=>exact .nil
 |cons h _ ih=>exact .cons (h.mono l) ih
theorem MR.mono(l:gL m m'){o:MW}{mo:MO}(h:MR m o mo):MR m' o mo:=match o,h with
 |.list _,h=>h
 |.inst _ _,⟨dx,gs,e,h⟩=>⟨dx,gs,e,h.mono l⟩
theorem MR.list{ds:List D}:MR m (.list ds) (.list ds):=rfl
theorem MR.inst{C dx:Addr}{fs:List (Nat×W)}{gs:List (Nat×D)}(h:FW m fs gs):MR m (.inst C fs) (.inst C dx gs):=⟨dx,gs,rfl,h⟩
theorem SR.mono(l:gL m m'){as:List Addr}{s:St}{S:aN}(h:SR Hd m as s S):SR Hd m' as s S:=by
 induction h with
 |nil=>exact .nil
 |obj h _ ih=>exact .obj (h.mono l) ih
 |gone _ ih=>exact .gone ih
theorem RR.mono{tab:List (Str×D)}(l:gL m m'){ns:List (Str×NameKind)}{vs:V}{ρ:Rh}(h:RR tab m ns vs ρ):RR tab m' ns vs ρ:=by
 induction h with
 |nil=>exact .nil
 |loc hk h _ ih=>exact .loc hk (λ u e=>let ⟨d,a,b⟩:=h u e;⟨d,a,b.mono l⟩) ih
 |fre h _ ih=>exact .fre (λ u e=>let ⟨d,a,b⟩:=h u e;⟨d,a,b.mono l⟩) ih
 |glb _ ih=>exact .glb ih
theorem SR.len{as:List Addr}{s:St}{S:aN}(h:SR Hd m as s S):as.length=s.length:=by
 induction h with
 |nil=>rfl
 |obj _ _ ih=>exact congrArg (·+1) ih
 |gone _ ih=>exact congrArg (·+1) ih
inductive OM (Hd:aN)(m as:List Addr)(s:St)(S:aN)(i:Nat)(o:MW)(a:Addr):Prop where
 |mk (mo:MO) (h:MR m o mo) (hm:(a,mo)∈ S) (k:∀o' I4,MR m o' I4->∃S',Up S (a,mo) (a,I4) S'/\SR Hd m as (s.set i o') S')
theorem SR.at{as:List Addr}{s:St}{S:aN}(h:SR Hd m as s S):∀{i:Nat}{o:MW}{a:Addr},s[i]?=some o->as[i]?=some a->o≠.gone->OM Hd m as s S i o a:=by
 induction h with
 |nil=>intro i o a e;exact bJ e
 |obj h r ih=>intro i o a e1 e2 ho;cases i with
  |zero=>cases e1;cases e2;exact⟨_,h,.head _,λ o' I4 q=>⟨_,.here,.obj q r⟩⟩
  |succ i=>obtain⟨mo,h0,hm,k⟩:=ih e1 e2 ho;exact⟨mo,h0,.tail _ hm,λ o' I4 q=>let ⟨S',h1,h2⟩:=k o' I4 q;⟨_,.there h1,.obj h h2⟩⟩
 |gone _ ih=>intro i o a e1 e2 ho;cases i with
  |zero=>cases e1;exact absurd rfl ho
  |succ i=>obtain⟨mo,h0,hm,k⟩:=ih e1 e2 ho;exact⟨mo,h0,hm,λ o' I4 q=>let ⟨S',h1,h2⟩:=k o' I4 q;⟨_,h1,.gone h2⟩⟩
section
variable {i:Nat}
theorem SR.getL(h:SR Hd m as s S){ds:List D}(e1:s[i]?=some (.list ds))(e2:as[i]?=some a):(a,MO.list ds)∈ S:=by
 obtain⟨mo,h0,hm,_⟩:=h.at e1 e2 nofun
 exact(show mo=.list ds from h0)▸hm
theorem SR.getI(h:SR Hd m as s S){C:Nat}{fs:List (Nat×W)}(e1:s[i]?=some (.inst C fs))(e2:as[i]?=some a):∃dx gs,(a,MO.inst C dx gs)∈ S/\FW m fs gs:=by
 obtain⟨mo,h0,hm,_⟩:=h.at e1 e2 nofun
 refine dP h0 λ dx gs dz hf=>?_;subst dz
 exact⟨dx,gs,hm,hf⟩
theorem SR.setL(h:SR Hd m as s S){ds:List D}(Bh:List D)(e1:s[i]?=some (.list ds))(e2:as[i]?=some a):∃S',Up S (a,MO.list ds) (a,MO.list Bh) S'/\SR Hd m as (s.set i (.list Bh)) S':=by
 obtain⟨mo,h0,hm,k⟩:=h.at e1 e2 nofun
 exact(show mo=.list ds from h0)▸k _ _ .list
theorem SR.setI(h:SR Hd m as s S){C:Nat}{fs:List (Nat×W)}(e1:s[i]?=some (.inst C fs))(e2:as[i]?=some a):∃dx gs,FW m fs gs/\(a,MO.inst C dx gs)∈ S/\∀Ga Om,FW m Ga Om->∃S',Up S (a,MO.inst C dx gs) (a,MO.inst C dx Om) S'/\SR Hd m as (s.set i (.inst C Ga)) S':=by
 obtain⟨mo,h0,hm,k⟩:=h.at e1 e2 nofun
 refine dP h0 λ dx gs dz hf=>?_;subst dz
 exact⟨dx,gs,hf,hm,λ Ga Om q=>k _ _ (.inst q)⟩
end
theorem SR.app{as:List Addr}{s:St}{S:aN}(h:SR Hd m as s S)(a:Addr){o:MW}{mo:MO}(q:MR m o mo):∃S',List.Perm ((a,mo)::S) S'/\SR Hd m (as++[a]) (s++[o]) S':=by
 induction h with
 |nil=>exact⟨_,.refl _,.obj q .nil⟩
 |obj h _ ih=>refine aD ih λ S' h1 h2=>?_;exact⟨_,(List.Perm.swap _ _ _).trans (.cons _ h1),.obj h h2⟩
 |gone _ ih=>refine aD ih λ S' h1 h2=>?_;exact⟨_,h1,.gone h2⟩
theorem SR.hid{as:List Addr}{s:St}{S:aN}(h:SR Hd m as s S):Hd.Sublist S:=by
 induction h with
 |nil=>exact .refl _
 |obj _ _ ih=>exact .cons _ ih
 |gone _ ih=>exact ih
theorem ey{a b:Bool}{G:Prop}(h:(a&&b)=true)(k:a=true->b=true->G):G:=k (A07 h).1 (A07 h).2
theorem bE{a b:Bool}(h:(a&&b)=true):a=true/\b=true:=A07 h
theorem FW.cut{n:Nat}{fs:List (Nat×W)}{gs:List (Nat×D)}(h:FW m fs gs)(w:PR n fs=true):FW (m.take n) fs gs:=by
 induction h with
 |nil=>exact .nil
 |@cons f x d fs gs h _ ih=>
  refine ey w λ w1 w2=>.cons ?_ (ih w2)
  cases x with
  |d _=>exact h
  |r j=>refine aD h λ a e h=>?_;exact⟨a,e,by rw[List.getElem?_take,if_pos (A00 w1)];exact h⟩
theorem MR.cut{n:Nat}{o:MW}{mo:MO}(h:MR m o mo)(w:PQ n o=true):MR (m.take n) o mo:=match o,h with
 |.list _,h=>h
 |.inst _ _,⟨dx,gs,e,h⟩=>⟨dx,gs,e,h.cut w⟩
theorem SR.cut{n:Nat}{as:List Addr}{s:St}{S:aN}(h:SR Hd m as s S):∀{k:Nat},Kg n (s.take k)=true->∃S',S'.Sublist S/\SR Hd (m.take n) (as.take k) (s.take k) S':=by
 induction h with
 |nil=>intro k _;cases k<;>exact⟨_,.refl _,.nil⟩
 |obj h r ih=>intro k w;cases k with
  |zero=>exact⟨Hd,.cons _ r.hid,.nil⟩
  |succ k=>
   refine ey w λ w1 w2=>aD (ih (k:=k) w2) λ S' h1 h2=>⟨_,.cons_cons _ h1,.obj (h.cut w1) h2⟩
 |gone r ih=>intro k w;cases k with
  |zero=>exact⟨Hd,r.hid,.nil⟩
  |succ k=>
   refine aD (ih (k:=k) w) λ S' h1 h2=>⟨_,h1,.gone h2⟩
theorem SR.goneAll{as:List Addr}{s:St}{S:aN}(h:SR Hd m as s S):SR Hd m as (goneAll s) Hd:=by
 induction h with
 |nil=>exact .nil
 |obj h r ih=>exact .gone ih
 |gone r ih=>exact .gone ih
theorem RR.glob{tab:List (Str×D)}{ns:List (Str×NameKind)}{vs:V}{ρ:Rh}{x:Str}{d:D}(h:RR tab m ns vs ρ)(hx:(x,NameKind.globalImplicit)∈ ns)(ht:tab.lookup x=some d):Lk ρ x d:=by
 induction h with
 |nil=>exact cu hx
 |loc hk _ _ ih=>
  rcases A03 hx with e|hx
  .cases e;rcases hk with e|e<;>cases e
  .exact .there (ih hx)
 |fre _ _ ih=>
  rcases A03 hx with e|hx
  .cases e
  .exact .there (ih hx)
 |glb _ ih=>
  rcases A03 hx with e|hx
  .cases e;rw[ht];exact .here
  .exact .there (ih hx)
theorem RR.get{tab:List (Str×D)}{ns:List (Str×NameKind)}{vs:V}{ρ:Rh}(h:RR tab m ns vs ρ):∀{i:Nat}{x:Str}{k:NameKind}{w:W},ns[i]?=some (x,k)->cW vs i=some w->∃d,VR m w d/\Lk ρ x d:=by
 induction h with
 |nil=>intro i x k w e;exact bJ e
 |@loc x k ns w o vs ρ hk h _ ih=>
  intro i x' k' w' e1 e2
  cases i with
  |zero=>
   cases e1
   refine aD (h _ (show w=some w' from e2)) λ d ak hv=>?_;subst ak;exact⟨d,hv,.here⟩
  |succ i=>refine aD (ih e1 e2) λ d h1 h2=>?_;exact⟨d,h1,.there h2⟩
 |@fre x ns w o vs ρ h _ ih=>
  intro i x' k' w' e1 e2
  cases i with
  |zero=>
   cases e1
   refine aD (h _ (show w=some w' from e2)) λ d ak hv=>?_;subst ak;exact⟨d,hv,.here⟩
  |succ i=>refine aD (ih e1 e2) λ d h1 h2=>?_;exact⟨d,h1,.there h2⟩
 |glb _ ih=>
  intro i x' k' w' e1 e2
  cases i with
  |zero=>exact bJ e2
  |succ i=>refine aD (ih e1 e2) λ d h1 h2=>?_;exact⟨d,h1,.there h2⟩
theorem RR.put{tab:List (Str×D)}{ns:List (Str×NameKind)}{vs:V}{ρ:Rh}(h:RR tab m ns vs ρ):∀{i:Nat}{x:Str}{k:NameKind}{w:W}{d:D},ns[i]?=some (x,k)->k=.local\/k=.cell->VR m w d->∃ρ',i9 ρ x d ρ'/\RR tab m ns (pv vs i w) ρ':=by
 induction h with
 |nil=>intro i x k w d e;exact bJ e
 |@loc x k ns w o vs ρ hk h r ih=>
  intro i x' k' w' d e1 e2 hv
  cases i with
  |zero=>cases e1;exact⟨_,.here,.loc hk (λ u e=>by cases e;exact⟨d,rfl,hv⟩) r⟩
  |succ i=>refine aD (ih e1 e2 hv) λ ρ' h1 h2=>?_;exact⟨_,.there h1,.loc hk h h2⟩
 |@fre x ns w o vs ρ h r ih=>
  intro i x' k' w' d e1 e2 hv
  cases i with
  |zero=>cases e1;rcases e2 with e|e<;>cases e
  |succ i=>refine aD (ih e1 e2 hv) λ ρ' h1 h2=>?_;exact⟨_,.there h1,.fre h h2⟩
 |glb r ih=>
  intro i x' k' w' d e1 e2 hv
  cases i with
  |zero=>cases e1;rcases e2 with e|e<;>cases e
  |succ i=>refine aD (ih e1 e2 hv) λ ρ' h1 h2=>?_;exact⟨_,.there h1,.glb h2⟩
theorem RR.nodup{tab:List (Str×D)}{ns:List (Str×NameKind)}{vs:V}{ρ:Rh}(h:RR tab m ns vs ρ):ρ.map (·.1)=ns.map (·.1):=by
 induction h with
 |nil=>rfl
 |loc _ _ _ ih=>simp[ih]
 |fre _ _ ih=>simp[ih]
 |glb _ ih=>simp[ih]
end
def PG{α β:Type}(Hd:aN)(rel:List Addr->α->β->Prop)(m:List Addr)(r:R α)(Q:β->aN->Prop)(E:D->Prop):Prop:=match r with
 |.ok a s=>∀m' b S',gL m m'->rel m' a b->SR Hd m' m' s S'->Q b S'
 |.err d=>E d
 |.no=>False
section
variable {α β γ δ:Type} {Hd:aN}
theorem PG.mono{r:R α}{Q:β->aN->Prop}(l:gL m m')(h:PG Hd rel m r Q E):PG Hd rel m' r Q E:=match r,h with
 |.ok a s,h=>λ SB b S' l'=>h SB b S' (l.trans l')
 |.err d,h=>h
 |.no,h=>h
inductive VT (Hd:aN)(rel:List Addr->α->β->Prop)(lR:List Addr->γ->δ->Prop)(m:List Addr)(f:α->St->R γ)(Q:δ->aN->Prop)(E:D->Prop)(b:β)(S':aN):Prop where
 |mk (m':List Addr) (a:α) (s':St) (l:gL m m') (hr:rel m' a b) (hs:SR Hd m' m' s' S') (h:PG Hd lR m' (f a s') Q E)
theorem PG.bind{r:R α}{f:α->St->R γ}{Q:δ->aN->Prop}(h:PG Hd lR m (r.bind f) Q E):PG Hd rel m r (VT Hd rel lR m f Q E) E:=match r,h with
 |.ok a s,h=>λ m' b S' l hr hs=>⟨m',a,s,l,hr,hs,PG.mono l h⟩
 |.err d,h=>h
 |.no,h=>h
theorem PG.ok{a:α}{s:St}{Q:β->aN->Prop}{b:β}{S:aN}(h:PG Hd rel m (.ok a s) Q E)(hr:rel m a b)(hs:SR Hd m m s S):Q b S:=h m b S (.refl m) hr hs
theorem PG.need{b:Bool}{r:R α}{Q:β->aN->Prop}(h:PG Hd rel m (need b r) Q E):b=true/\PG Hd rel m r Q E:=by
 cases b with
 |true=>exact⟨rfl,h⟩
 |false=>exact h.elim
end
theorem PG.onO{α β γ:Type}{rel:List Addr->α->β->Prop}{m:List Addr}{E:D->Prop}{Hd:aN}{o:Option γ}{f:γ->R α}{Q:β->aN->Prop}(h:PG Hd rel m (Internal.onO o f) Q E):∃a,o=some a/\PG Hd rel m (f a) Q E:=match o,h with
 |some a,h=>⟨a,rfl,h⟩
 |none,h=>h.elim
theorem PG.onOE{α β γ:Type}{rel:List Addr->α->β->Prop}{m:List Addr}{E:D->Prop}{Hd:aN}{o:Option γ}{f:γ->R α}{Q:β->aN->Prop}{G:Prop}(h:PG Hd rel m (Internal.onO o f) Q E)(k:∀a,o=some a->PG Hd rel m (f a) Q E->G):G:=by
 cases o with
 |none=>exact h.elim
 |some a=>exact k a rfl h
theorem PG.needE{α β:Type}{rel:List Addr->α->β->Prop}{m:List Addr}{E:D->Prop}{Hd:aN}{b:Bool}{r:R α}{Q:β->aN->Prop}{G:Prop}(h:PG Hd rel m (Internal.need b r) Q E)(k:b=true->PG Hd rel m r Q E->G):G:=by
 cases b with
 |true=>exact k rfl h
 |false=>exact h.elim
theorem PG.elOE{α β γ:Type}{rel:List Addr->α->β->Prop}{m:List Addr}{E:D->Prop}{Hd:aN}{o:Option γ}{f:γ->R α}{r:R α}{Q:β->aN->Prop}{G:Prop}(h:PG Hd rel m (Internal.elO o f r) Q E)(cL:∀a,o=some a->PG Hd rel m (f a) Q E->G)(dZ:PG Hd rel m r Q E->G):G:=by
 cases o with
 |none=>exact dZ h
 |some a=>exact cL a rfl h
theorem PG.elO{α β γ:Type}{rel:List Addr->α->β->Prop}{m:List Addr}{E:D->Prop}{Hd:aN}{o:Option γ}{f:γ->R α}{r:R α}{Q:β->aN->Prop}(h:PG Hd rel m (Internal.elO o f r) Q E):(∃a,o=some a/\PG Hd rel m (f a) Q E)\/PG Hd rel m r Q E:=match o,h with
 |some a,h=>.inl ⟨a,rfl,h⟩
 |none,h=>.inr h
theorem GZ{d:D}{i:Int}(h:iD d=some i):d=.int i:=by
 cases d with
 |int j=>exact congrArg D.int (A02 h)
 |_=>exact bJ h
theorem Fz{d:D}{i:List Nat}(h:sD d=some i):d=.str i:=by
 cases d with
 |str j=>exact congrArg D.str (A02 h)
 |_=>exact bJ h
theorem wU{d:D}{i:List UInt8}(h:yD d=some i):d=.bytes i:=by
 cases d with
 |bytes j=>exact congrArg D.bytes (A02 h)
 |_=>exact bJ h
theorem wc{d:D}{i:List D}(h:tD d=some i):d=.tup i:=by
 cases d with
 |tup j=>exact congrArg D.tup (A02 h)
 |_=>exact bJ h
theorem OB{d:D}{i:Bool}(h:bD d=some i):d=.bool i:=by
 cases d with
 |bool j=>exact congrArg D.bool (A02 h)
 |_=>exact bJ h
theorem qN{d:D}{i:List D}(h:lD d=some i):d=.list i:=by
 cases d with
 |list j=>exact congrArg D.list (A02 h)
 |_=>exact bJ h
theorem fH{α β:Type}{o:Option α}{f:α->Option β}{b:β}(h:o.bind f=some b):∃a,o=some a/\f a=some b:=match o,h with
 |some a,h=>⟨a,rfl,h⟩
theorem d8{α β:Type}{o:Option α}{f:α->Option β}{b:β}{G:Prop}(h:o.bind f=some b)(k:∀a,o=some a->f a=some b->G):G:=by
 cases o with
 |none=>exact bJ h
 |some a=>exact k a rfl h
theorem mC{α:Type}{b:Bool}{o:Option α}{a:α}{G:Prop}(h:gF b o=some a)(k:b=true->o=some a->G):G:=by
 cases b with
 |true=>exact k rfl h
 |false=>exact bJ h
theorem zY{α:Type}{b:Bool}{o:Option α}{a:α}(h:gF b o=some a):b=true/\o=some a:=match b,h with
 |true,h=>⟨rfl,h⟩
section
variable {d:D}
theorem cr{x:D}(h:fV w=some x)(hv:VR m w d):d=x:=match w,h,hv with
 |.d y,h,hv=>hv.trans (A02 h)
theorem iQ{α:Type}{f:D->Option α}{a:α}(h:(fV w).bind f=some a)(hv:VR m w d):f d=some a :=
 let ⟨_,e,h⟩:=fH h;(cr e hv).symm▸h
theorem cn{i:Int}(h:iV w=some i)(hv:VR m w d):d=.int i:=GZ (iQ h hv)
theorem kK{i:List Nat}(h:sV w=some i)(hv:VR m w d):d=.str i:=Fz (iQ h hv)
theorem lH{i:List UInt8}(h:yV w=some i)(hv:VR m w d):d=.bytes i:=wU (iQ h hv)
theorem Fp{i:List D}(h:tV w=some i)(hv:VR m w d):d=.tup i:=wc (iQ h hv)
theorem gj{i:Bool}(h:cO w=some i)(hv:VR m w d):d=.bool i:=OB (iQ h hv)
theorem kM{i:Nat}(h:rV w=some i)(hv:VR m w d):∃a,d=.ref a/\m[i]?=some a:=match w,h,hv with
 |.r j,h,hv=>A02 h▸hv
end
theorem fm{s:St}{i:Nat}{ds:List D}(h:eM s i=some ds):s[i]?=some (.list ds):=by
 refine d8 h λ o e h=>?_
 cases o with
 |list l=>exact A02 h▸e
 |_=>exact bJ h
theorem li{s:St}{i:Nat}{p:Nat×List (Nat×W)}(h:nq s i=some p):s[i]?=some (.inst p.1 p.2):=by
 refine d8 h λ o e h=>?_
 cases o with
 |inst C l=>exact A02 h▸e
 |_=>exact bJ h
section
variable {ds:List D}
theorem cF{α:Type}{l:List α}{a:α}(h:one l=some a):l=[a]:=match l,h with
 |[b],h=>congrArg (λ a=>[a]) (A02 h)
theorem ji{α:Type}{l:List α}{a:α×α}(h:two l=some a):l=[a.1,a.2]:=match l,h with
 |[b,c],h=>by cases h;rfl
theorem w9{α:Type}{l:List α}{a:α×α×α}(h:O4 l=some a):l=[a.1,a.2.1,a.2.2]:=match l,h with
 |[b,c,d],h=>by cases h;rfl
theorem dY{w:W}(h:one ws=some w)(hv:eu m ws ds):∃d,ds=[d]/\VR m w d:=by
 rw[cF h]at hv
 obtain⟨d,_,rfl,hv,r⟩:=hv
 obtain rfl:=r
 exact⟨d,rfl,hv⟩
theorem rO{p:W×W}(h:two ws=some p)(hv:eu m ws ds):∃d e,ds=[d,e]/\VR m p.1 d/\VR m p.2 e:=by
 rw[ji h]at hv
 obtain⟨d,_,rfl,hv,e,_,rfl,hw,r⟩:=hv
 obtain rfl:=r
 exact⟨d,e,rfl,hv,hw⟩
theorem HI{p:W×W×W}(h:O4 ws=some p)(hv:eu m ws ds):∃d e f,ds=[d,e,f]/\VR m p.1 d/\VR m p.2.1 e/\VR m p.2.2 f:=by
 rw[w9 h]at hv
 obtain⟨d,_,rfl,hv,e,_,rfl,hw,f,_,rfl,hx,r⟩:=hv
 obtain rfl:=r
 exact⟨d,e,f,rfl,hv,hw,hx⟩
end
theorem uc{a b c:Bool}(h:(a&&(b&&c))=true):a=true/\b=true/\c=true:=let ⟨x,y⟩:=bE h;⟨x,bE y⟩
theorem ub{a b c d:Bool}(h:(a&&(b&&(c&&d)))=true):a=true/\b=true/\c=true/\d=true:=let ⟨x,y⟩:=bE h;⟨x,uc y⟩
theorem F0{a b c d e:Bool}(h:(a&&(b&&(c&&(d&&e))))=true):a=true/\b=true/\c=true/\d=true/\e=true:=let ⟨x,y⟩:=bE h;⟨x,ub y⟩
theorem ua{a b c d e f:Bool}(h:(a&&(b&&(c&&(d&&(e&&f)))))=true):a=true/\b=true/\c=true/\d=true/\e=true/\f=true:=let ⟨x,y⟩:=bE h;⟨x,F0 y⟩
theorem u9{a b c d e f g:Bool}(h:(a&&(b&&(c&&(d&&(e&&(f&&g))))))=true):a=true/\b=true/\c=true/\d=true/\e=true/\f=true/\g=true:=let ⟨x,y⟩:=bE h;⟨x,ua y⟩
theorem iK{a b c:Bool}{G:Prop}(h:(a&&(b&&c))=true)(k:a=true->b=true->c=true->G):G:=ey h λ x h=>ey h (k x)
theorem oL{a b c d:Bool}{G:Prop}(h:(a&&(b&&(c&&d)))=true)(k:a=true->b=true->c=true->d=true->G):G:=ey h λ x h=>iK h (k x)
theorem KI{a b c d e:Bool}{G:Prop}(h:(a&&(b&&(c&&(d&&e))))=true)(k:a=true->b=true->c=true->d=true->e=true->G):G:=ey h λ x h=>oL h (k x)
theorem Kt{a b c d e f:Bool}{G:Prop}(h:(a&&(b&&(c&&(d&&(e&&f)))))=true)(k:a=true->b=true->c=true->d=true->e=true->f=true->G):G:=ey h λ x h=>KI h (k x)
theorem Ks{a b c d e f g:Bool}{G:Prop}(h:(a&&(b&&(c&&(d&&(e&&(f&&g))))))=true)(k:a=true->b=true->c=true->d=true->e=true->f=true->g=true->G):G:=ey h λ x h=>Kt h (k x)
theorem Pv{y:Int}(h:(y !=0)=true):y≠0:=bne_iff_ne.mp h
theorem mG{σ σ':aN}(h:σ.Perm σ'):(eD σ).Perm (eD σ'):=h.flatMap_right _
theorem aG.perm{g:c8}{c:Cx}{base:Heap}{Y:YT}{X:XT}{ρ:Rh}{σ σ':aN}{h:Heap}(H:aG g c base Y X ρ σ h)(p:σ.Perm σ'):aG g c base Y X ρ σ' h :=
 { H with
  ow:=λ a ha=>let ⟨h1,h2,h3,h4⟩:=H.ow a ha;⟨h1,h2,h3,λ q=>h4 ((mG p).mem_iff.mpr q)⟩
  sr:=λ q hq=>H.sr q (p.mem_iff.mpr hq)
  sn:=(mG p).nodup_iff.mp H.sn
  sx:=λ a ha=>H.sx a ((mG p).mem_iff.mpr ha) }
def rF{α:Type}(Q:α->aN->Prop)(a:α)(S:aN):Prop:=∃S',S.Perm S'/\Q a S'
section
variable {E:D->Prop}
theorem PV.perm{base:Heap}{Y:YT}{X:XT}{s s':Shared}{v:Value}{Q:D->aN->Prop}(h:PV g c base Y X ρ s (rF Q) v s'):PV g c base Y X ρ s Q v s' :=
 by obtain⟨X',d,σ',h1,h2,h3,h4,S',p,q⟩:=h;exact⟨X',d,S',h1,h2.perm p,h3,h4,q⟩
theorem ue{e:Expr}{Q:D->aN->Prop}(h:AE g c ρ σ e (rF Q) E):AE g c ρ σ e Q E:=λ base Y X s H=>
 wpAny_mono (h base Y X s H) (λ _ _ z=>z.perm) λ _ _ z=>z
theorem BR{d a b e:D}{Q:D->aN->Prop}(h:Gx g d a b e σ (rF Q) E):Gx g d a b e σ Q E:=λ c base Y X ρ s v va vb ve H r1 r2 r3 r4=>
 wpAny_mono (h c base Y X ρ s v va vb ve H r1 r2 r3 r4) (λ _ _ z=>z.perm) λ _ _ z=>z
end
section
variable {Hd:aN}
theorem lT(h:eM s i=some ds)(hv:VR m (.r i) d)(hs:SR Hd m m s S):LV S d ds:=by
 refine aD hv λ a ak hm=>?_;subst ak
 exact .own (hs.getL (fm h) hm)
theorem gE(h:lv s w=some ds)(hv:VR m w d)(hs:SR Hd m m s S):LV S d ds:=match w,h,hv with
 |.d x,h,hv=>by rw[show d=.list ds from(hv).trans (qN h)];exact .frz
 |.r _,h,hv=>lT h hv hs
theorem Ei(h:Jp op a b=some k)(q:Q (.bool k) S):cy g (compareOp op) (.int a) (.int b) S Q E:=by
 cases op with
 |Lt=>exact QY (A02 h▸q)
 |LtE=>exact JF (A02 h▸q)
 |Gt=>exact Q0 (A02 h▸q)
 |GtE=>exact Q2 (A02 h▸q)
 |_=>exact bJ h
theorem AZ{l:List D}{k:Bool}(h:((lv s b).bind λ m=>Ec 4 l m)=some k)(L:LV S x l)(hb:VR m b y)(hs:SR Hd m m s S)(q:Q (.bool k) S):cy g (compareOp .Eq) x y S Q E :=
 let ⟨_,e,h⟩:=fH h;QJ L (gE e hb hs) h q
theorem Jb(h:((fV b).bind λ y=>ou 4 x y)=some k)(hb:VR m b y)(q:Q (.bool k) S):cy g (compareOp .Eq) x y S Q E:=RJ (iQ h hb) q
theorem Ja(h:Sg s a b=some k)(ha:VR m a x)(hb:VR m b y)(hs:SR Hd m m s S)(q:Q (.bool k) S):cy g (compareOp .Eq) x y S Q E:=by
 cases a with
 |r i=>refine d8 h λ l e h=>?_;exact AZ h (lT e ha hs) hb hs q
 |d x'=>
  obtain rfl:x=x':=ha
  cases x with
  |bytes l=>refine d8 h λ n e h=>?_;rw[lH e hb];exact RW (A02 h▸q)
  |bool l=>refine d8 h λ n e h=>?_;rw[gj e hb];exact Nw (A02 h▸q)
  |list l=>exact AZ h .frz hb hs q
  |_=>exact Jb h hb q
theorem yP(h:((lv s b).bind λ m=>Ps l m)=some k)(L:LV S x l)(hb:VR m b y)(hs:SR Hd m m s S)(q:Q (.bool k) S):cy g (compareOp .NotEq) x y S Q E:=by
 refine d8 h λ n e h=>?_
 cases n with
 |nil=>exact yw L (gE e hb hs) (A02 h▸q)
 |cons _ _=>exact bJ h
theorem I3(h:Rx s a b=some k)(ha:VR m a x)(hb:VR m b y)(hs:SR Hd m m s S)(q:Q (.bool k) S):cy g (compareOp .NotEq) x y S Q E:=by
 cases a with
 |r i=>refine d8 h λ l e h=>?_;exact yP h (lT e ha hs) hb hs q
 |d x'=>
  obtain rfl:x=x':=ha
  cases x with
  |int l=>refine d8 h λ n e h=>?_;rw[cn e hb];exact QX (A02 h▸q)
  |str l=>refine d8 h λ n e h=>?_;rw[kK e hb];exact P8 (A02 h▸q)
  |bool l=>refine d8 h λ n e h=>?_;rw[gj e hb];exact Nv (A02 h▸q)
  |list l=>exact yP h .frz hb hs q
  |_=>exact bJ h
end
section
variable {Q:D->aN->Prop}
theorem Eb(q:Q (.bool (ks.contains x)) σ):cy g (compareOp .In) (.int x) (.dict ks) σ Q E:=λ c base Y X ρ s bI bU H aL aa=>by
 refine aS aL.inv λ t ak=>?_;subst ak
 obtain⟨a,o,es,ep,rfl,h,hc,hd,hk,hf,hm⟩:=aa.inv
 refine wpAny_in_intMap ⟨o,es,ep,H.x _ _ h,hc.1,hd,hk,λ _=>rfl⟩ (bH H ?_ q)
 rw[hf];exact .bool _
end
section
variable {Hd:aN}
theorem JC(h:SS s a b=some k)(ha:VR m a x)(hb:VR m b y)(hs:SR Hd m m s S)(q:Q (.bool k) S):cy g (compareOp .In) x y S Q E:=by
 cases b with
 |r i=>refine d8 h λ l e h=>?_;exact MG (lT e hb hs) (iQ h ha) q
 |d y'=>
  obtain rfl:y=y':=hb
  cases y with
  |str l=>refine d8 h λ n e h=>?_;rw[kK e ha];exact P9 (A02 h▸q)
  |dict l=>refine d8 h λ n e h=>?_;rw[cn e ha];exact Eb (A02 h▸q)
  |list l=>exact MG .frz (iQ h ha) q
  |bytes l=>
   refine d8 h λ n e h=>?_
   rw[cn e ha]
   refine mC h λ e2 h=>ey e2 λ h1 h2=>RV (A00 h1) (A00 h2) (A02 h▸q)
  |_=>exact bJ h
theorem sH(h:Da b=some u)(hb:VR m b y):y=.none:=by
 have h:=iQ h hb
 cases y with
 |none=>rfl
 |_=>exact bJ h
theorem Eh(h:((iV a).bind λ x=>(iV b).bind λ y=>Jp op x y)=some k)(ha:VR m a x)(hb:VR m b y)(q:Q (.bool k) S):cy g (compareOp op) x y S Q E:=by
 refine d8 h λ i e h=>d8 h λ j e2 h=>?_
 simp only[cn e ha,cn e2 hb]
 exact Ei h q
theorem gz(h:jT s op a b=some k)(ha:VR m a x)(hb:VR m b y)(hs:SR Hd m m s S)(q:Q (.bool k) S):cy g (compareOp op) x y S Q E:=by
 cases op with
 |Eq=>exact Ja h ha hb hs q
 |NotEq=>exact I3 h ha hb hs q
 |In=>exact JC h ha hb hs q
 |NotIn=>
  refine d8 h λ l e h=>d8 h λ z e2 h=>d8 h λ k' e3 h=>?_
  rw[<-cr e2 ha]at e3
  exact Dt (gE e hb hs) e3 (A02 h▸q)
 |Is=>
  refine d8 h λ u e h=>d8 h λ z e2 h=>?_
  rw[sH e hb]
  exact NT (cr e2 ha▸A02 h▸q)
 |IsNot=>
  refine d8 h λ u e h=>d8 h λ z e2 h=>?_
  rw[sH e hb]
  exact Jk (cr e2 ha▸A02 h▸q)
 |_=>exact Eh h ha hb q
abbrev PW(Hd:aN)(m:List Addr)(r:R W)(Q:D->aN->Prop)(E:D->Prop):Prop:=PG Hd VR m r Q E
theorem PW.d(h:PW Hd m (.ok (.d x) s) Q E)(hs:SR Hd m m s S):Q x S:=PG.ok h (VR.d x) hs
theorem FP(h:PW Hd m (Ny s op x y) Q E)(hs:SR Hd m m s S):cy g (binaryOp op) (.int x) (.int y) S Q E:=by
 cases op with
 |Add=>exact M6 (PW.d h hs)
 |Sub=>exact MV (PW.d h hs)
 |Mod=>refine PG.needE h λ h1 h=>?_;exact M1 (Pv h1) (PW.d h hs)
 |Mult=>refine PG.needE h λ h1 h=>?_;exact M0 (A00 h1) (PW.d h hs)
 |FloorDiv=>refine PG.needE h λ h1 h=>?_;exact JH (Pv (bE h1).1) (A00 (bE h1).2) (PW.d h hs)
 |BitAnd=>exact M5 (PW.d h hs)
 |RShift=>refine PG.needE h λ h1 h=>?_;exact MX (A00 h1) (PW.d h hs)
 |Pow=>
  refine PG.needE h λ h1 h=>iK h1 λ a b c=>MZ (A00 a) (A00 b) (A00 c) (PW.d h hs)
 |_=>exact False.elim h
theorem FO(h:PW Hd m (m4 s op a b) Q E)(ha:VR m a x)(hb:VR m b y)(hs:SR Hd m m s S):cy g (binaryOp op) x y S Q E:=by
 refine PG.elOE h (λ i e h=>?_) λ h=>?_
 .refine PG.onOE h λ j e2 h=>?_
  simp only[cn e ha,cn e2 hb]
  exact FP h hs
 .cases op with
  |Add=>
   refine PG.elOE h (λ l e h=>?_) λ h=>?_
   .refine PG.onOE h λ n e2 h=>PG.needE h λ h1 h=>?_
    simp only[kK e ha,kK e2 hb]
    exact LS (A00 h1) (PW.d h hs)
   refine PG.elOE h (λ l e h=>?_) λ h=>?_
   .refine PG.onOE h λ n e2 h=>PG.needE h λ h1 h=>?_
    simp only[lH e ha,lH e2 hb]
    exact OA (A00 h1) (PW.d h hs)
   .refine PG.onOE h λ l e h=>PG.onOE h λ n e2 h=>PG.needE h λ h1 h=>MH (gE e ha hs) (gE e2 hb hs) (A00 h1) (PW.d h hs)
  |Mult=>
   refine PG.onOE h λ l e h=>PG.onOE h λ c e1 h=>PG.onOE h λ n e2 h=>PG.needE h λ h1 h=>?_
   simp only[kK e ha,cn e2 hb,cF e1]
   exact LR (A00 (bE h1).1) (A00 (bE h1).2) (PW.d h hs)
  |_=>exact False.elim h
theorem EG(h:PW Hd m (sQ s op a b) Q E)(ha:VR m a x)(hb:VR m b y)(hs:SR Hd m m s S):cy g (inplaceOp op) x y S Q E:=by
 cases op with
 |Add=>
  refine PG.elOE h (λ i e h=>?_) λ h=>?_
  .refine PG.onOE h λ j e2 h=>?_
   simp only[cn e ha,cn e2 hb]
   exact JG (PW.d h hs)
  .refine PG.onOE h λ l e h=>PG.onOE h λ n e2 h=>PG.needE h λ h1 h=>?_
   simp only[lH e ha,lH e2 hb]
   exact KO (A00 h1) (PW.d h hs)
 |_=>exact False.elim h
theorem Iz(e:Kl ds i=some d)(L:LV S x ds)(q:Q d S):cy g getItem x (.int i) S Q E:=by
 unfold Kl at e
 cases h:decide (0<=i)with
 |true=>
  rw[h]at e
  have h:=A00 h
  refine mC e λ h2 e=>Dz L h ((Int.toNat_lt h).mp (A00 h2)) e q
 |false=>
  rw[h]at e
  refine mC e λ h2 e=>ey h2 λ a b=>Ix L (Int.not_le.mp (of_decide_eq_false h)) (A00 a) (A00 b) e q
theorem Iy(h:PW Hd m (tq s a b) Q E)(ha:VR m a x)(hb:VR m b y)(hs:SR Hd m m s S):(∃T,ul S x T)/\cy g getItem x y S Q E:=by
 refine PG.onOE h λ i e h=>?_
 rw[cn e hb]
 refine PG.elOE h (λ l e h=>?_) λ h=>?_
 .refine PG.needE h λ h1 h=>PG.onOE h λ d e2 h=>?_
  rw[Fp e ha]
  exact⟨⟨_,.tup⟩,Iv (A00 (bE h1).1) (A00 (bE h1).2) e2 (PW.d h hs)⟩
 refine PG.elOE h (λ l e h=>?_) λ h=>?_
 .refine PG.needE h λ h1 h=>iK h1 λ a1 a2 a3=>?_
  rw[lH e ha]
  exact⟨⟨_,.bytes⟩,zC (A00 a1) (A00 a2) (A00 a3) (PW.d h hs)⟩
 refine PG.elOE h (λ l e h=>?_) λ h=>?_
 .refine PG.needE h λ h1 h=>PG.onOE h λ d e2 h=>?_
  rw[kK e ha]
  exact⟨⟨_,.str⟩,Iw (A00 (bE h1).1) e2 (A00 (bE h1).2) (PW.d h hs)⟩
 .refine PG.onOE h λ ds e h=>PG.onOE h λ d e2 h=>?_
  have L:=gE e ha hs
  exact⟨⟨_,.list L⟩,Iz e2 L (PW.d h hs)⟩
end
section
open PySem.SeqAt
section
variable {P:Params}
theorem r9:kas_sort 2=.ask 1 0 λ b=>if b=true then .ret #[1,0]else .ret #[0,1]:=by
 unfold kas_sort
 show KasT.ask 1 0 _=_
 congr 1
 funext b
 cases b<;>rfl
theorem IU(q:Q (decide (n<m)) s):wpAny (model prog w) A (oneLt' b (.int n t) (.int m u)) Q E s:=by
 cases b with
 |true=>exact oneLt_int q
 |false=>exact kat_one _ _ (lt_int q)
theorem Ii{b eT:Bool}:∀{ns ms:List Int}{us ws:List Value}{i:Nat},IntsAre us ns->IntsAre ws ms->eT=decide (us.length<ws.length)->Q (fR ns ms) s->KatLex prog w A b eT Q (us.zip ws) i s:=by
 intro zl
 induction zl with
 |nil=>
  intro bc cM cT gm iG jb jc rI
  cases iG
  refine kat_nil (show Q eT s from ?_)
  cases jb with
  |nil=>rw[jc];exact rI
  |cons m t h=>rw[jc];exact rI
 |cons zh zt ih=>
  intro bc cM cT gm iG jb jc rI
  cases bc with
  |nil=>
   cases jb
   cases iG
   refine kat_nil (show Q eT s from ?_)
   rw[jc];exact rI
  |cons zh1 zt1=>
   cases iG with
   |cons _ t iG=>cases jb with
    |cons _ u jb=>
     refine kat_cons (EqAt.int_int zh t zh1 u _ _ _ _ ?_)
     have rI:Q (match decide (zh<zh1)with | true=>true | false=>match zh==zh1 with | true=>fR zt zt1 | false=>false) s:=rI
     cases e:zh==zh1 with
     |true=>
      obtain rfl:=eq_of_beq e
      simp only[e,decide_eq_false (Int.lt_irrefl zh)]at rI
      exact kat_yes (ih iG jb (jc.trans (decide_eq_decide.mpr Nat.succ_lt_succ_iff)) rI)
     |false=>
      refine kat_no (IU ?_)
      rw[e]at rI
      cases e2:decide (zh<zh1)<;>rw[e2]at rI<;>exact rI
theorem nY{xs ys:Array Value}(hl:s.heap.get? l=some (seqObj "tuple" xs n))(hb:s.heap.get? b=some (seqObj "tuple" ys n2))(h0:xs=#[]\/ys=#[])
  (q:Q (.bool (decide (xs.size<ys.size))) s):wpAny (model prog w) A (call (.builtin "tuple.__lt__") [.ref l,.ref b]) Q E s:=by
 refine wpAny_call_entry F.slot_tuple_lt ⟨_,hl,rfl⟩ F.entry_tuple_lt ?_ (F.args_tuple_lt_2 _ _)
 have f2:=AutoSeq1.sub_tuple_tuple
 have hz:xs.toList.zip ys.toList=[]:=by rcases h0 with rfl|rfl<;>simp
 wp_walk using wpAny_loadPart' hl,wpAny_loadPart' hb
 revert hz
 generalize xs.toList.zip ys.toList=z
 rintro rfl
 exact wpAny_pure (wpAny_pure ⟨_,rfl,q⟩)
theorem Bv{xs ys:Array Value}{Q:Bool->Shared->Prop}(hl:s.heap.get? l=some (seqObj "tuple" xs n))(hb:s.heap.get? b=some (seqObj "tuple" ys n2))(h0:xs=#[]\/ys=#[])(hu:A.units<cLine)
  (q:Q (decide (xs.size<ys.size)) s) (k:Bool):wpAny (model prog w) A (oneLt' k (.ref l) (.ref b)) Q E s:=by
 cases k with
 |true=>
  rw[oneLt'_eq]
  rw[if_pos rfl]
  refine wpAny_bind (wpAny_cRoomFor hu ?_)
  refine wpAny_bind (wpAny_callSpecialIfBound?_slot ⟨_,hl,rfl⟩ F.slot_tuple_lt (nY hl hb h0 ?_))
  exact wpAny_truthy_bool q
 |false=>
  refine kat_one _ _ ?_
  show wpAny _ A (richCompare .Lt _ _) _ _ s
  refine wpAny_richCompare_same_room (T:="tuple") (id:="tuple.__lt__") ⟨_,hl,rfl⟩ ⟨_,hb,rfl⟩ F.slot_tuple_lt ?_ hu
  refine nY hl hb h0 ?_
  exact⟨nofun,q⟩
theorem qP(h:IntsAre us ns):us=[]\/∃t n r rs ms,us=.int n t::r/\ns=n::ms/\IntsAre r rs:=by
 cases h with
 |nil=>exact .inl rfl
 |cons n t r=>exact .inr ⟨t,n,_,_,_,rfl,rfl,r⟩
theorem Ib{ns ms:List Int}(hu:IntsAre us ns)(hw:IntsAre ws ms)(h0:us=[]\/ws=[]):decide (us.length<ws.length)=fR ns ms:=by
 cases hu with
 |nil=>cases hw<;>rfl
 |cons n t r=>cases hw with
  |nil=>rfl
  |cons m u q=>rcases h0 with h|h<;>cases h
theorem oE{us:List Value}(ha:s.heap.get? a=some (seqObj "tuple" us.toArray n))(q:Q us[0]? s):wpAny (model prog w) A (firstOfTuple' (.ref a)) Q E s:=by
 rw[kas_first_eq]
 refine wpAny_bind (Looks.here (show Looks _ s.heap (typeOf (.ref a)) (Value.type "tuple")from(Looks.ld ha).andThen .now) ?_)
 rw[if_neg (by decide)]
 refine wpAny_bind (listItems_at ha rfl (wpAny_pure ?_))
 rw[List.getElem?_toArray];exact q
theorem R6{us ws:List Value}{n n2:Nat}{l1 l2:List Int}{G:Array Nat->Shared->Prop}(ha:s.heap.get? a=some (seqObj "tuple" us.toArray n))(hb:s.heap.get? b=some (seqObj "tuple" ws.toArray n2))(h1:IntsAre us l1)(h2:IntsAre ws l2)(hu:A.units<cLine)
  (q:G (if fR l2 l1=true then #[1,0]else #[0,1]) s) :
  wpAny (model prog w) A (keyKind' #[.ref a,.ref b]) (λ κ s'=>(kas_sort 2).kasWp (kas_ask prog w A κ [.ref a,.ref b]) G s') E s:=by
 have eT:∀κ,(∀Q:Bool->Shared->Prop,Q (fR l2 l1) s->wpAny (model prog w) A (keyLt' κ (.ref b) (.ref a)) Q (λ _ _=>False) s)->(kas_sort 2).kasWp (kas_ask prog w A κ [.ref a,.ref b]) G s:=λ κ h=>by
  rw[r9]
  refine h _ ?_
  cases e:fR l2 l1<;>rw[e]at q<;>exact q
 by_cases h0:ws=[]\/us=[]
 .have lt:∀(k:Bool) (Q:Bool->Shared->Prop),Q (fR l2 l1) s->wpAny (model prog w) A (oneLt' k (.ref b) (.ref a)) Q (λ _ _=>False) s:=λ k Q q=>by
   refine Bv hb ha (h0.imp (λ e=>by rw[e]) λ e=>by rw[e]) hu ?_ k
   simp only[List.size_toArray,List.size_toArray,Ib h2 h1 h0];exact q
  simp only[kat_kind_eq,List.mapM_toArray,map_eq_pure_bind]
  refine wpAny_bind (wpAny_bind ?_)
  rw[List.mapM_cons]
  refine wpAny_bind (oE ha (wpAny_bind ?_))
  rw[List.mapM_cons]
  refine wpAny_bind (oE hb (wpAny_bind ?_))
  rw[List.mapM_nil]
  refine wpAny_pure (wpAny_pure (wpAny_pure (wpAny_pure ?_)))
  have ty:∀{c:Addr}{xs:Array Value}{n:Nat},s.heap.get? c=some (seqObj "tuple" xs n)->Looks (model prog w) s.heap (typeOf (.ref c)) (Value.type "tuple"):=λ e=>(Looks.ld e).andThen .now
  cases us with
  |cons x us=>
   obtain rfl:ws=[]:=h0.resolve_right (by simp)
   rw[if_neg (by simp),if_pos (by simp)]
   exact wpAny_pure (eT general' (lt false))
  |nil=>
   rw[if_neg (by simp),if_neg (by simp)]
   refine wpAny_bind ?_
   rw[oneTypeOnly'_eq,List.mapM_toArray,map_eq_pure_bind]
   refine wpAny_bind (wpAny_bind (kas_mapM (r:=Value.type "tuple") _ (λ v hv Q' hq=>?_) (wpAny_pure ?_)))
   .rcases A03 hv with rfl|hv
    .exact(ty ha).here hq
    .rw[A04 hv];exact(ty hb).here hq
   .have hT:(Value.type "tuple" ==Value.type "tuple")=true:=by decide
    refine wpAny_pure (wpAny_pure ?_)
    rw[if_pos (by simp)]
    exact eT oneType' (lt true)
 .rcases qP h1 with rfl|⟨t,n1,r,rs,ms,rfl,rfl,hr⟩
  .exact absurd (.inr rfl) h0
  rcases qP h2 with rfl|⟨t',Te,r',vM,V4,rfl,rfl,Oe⟩
  .exact absurd (.inl rfl) h0
  refine kat_kind (vs:=[.ref a,.ref b]) (fs:=[.int n1 t,.int Te t']) (T:=Value.type "int") (.cons ha rfl rfl rfl (.cons hb rfl rfl rfl .nil)) (Nat.succ_pos _) (λ v hv=>?_) rfl ?_
  .rcases A03 hv with rfl|hv
   .exact .now
   .rw[A04 hv];exact .now
  .exact eT _ λ Q q=>kat_lt hb rfl ha rfl (Ii h2 h1 rfl q)
theorem qJ:∀{x y:List Int},fR y x=true->fR x y=false:=by
 intro zl
 induction zl with
 |nil=>
  intro bc cM
  cases bc with
  |nil=>
   exact rfl
  |cons zh1 zt1=>
   exact dJ cM
 |cons zh zt ih=>
  intro bc cM
  cases bc with
  |nil=>
   exact rfl
  |cons kI zt2=>
   have h:(match decide (kI<zh)with | true=>true | false=>match kI==zh with | true=>fR zt2 zt | false=>false)=true:=cM
   show(match decide (zh<kI)with | true=>true | false=>match zh==kI with | true=>fR zt zt2 | false=>false)=false
   by_cases e:kI<zh
   .simp only[decide_eq_false (Int.not_lt.mpr (Int.le_of_lt e)),A05 (Int.ne_of_gt e)]
   .rw[decide_eq_false e]at h
    cases e2:kI==zh with
    |false=>rw[e2]at h;exact dJ h
    |true=>
     rw[e2]at h
     obtain rfl:=eq_of_beq e2
     clear cM
     simp only[decide_eq_false e,e2];exact ih h
theorem yh:∀{x y:List Int},fR y x=false->fR x y=false->x=y:=by
 intro zl
 induction zl with
 |nil=>
  intro bc cM cT
  cases bc with
  |nil=>
   exact rfl
  |cons zh1 zt1=>
   exact tm cT
 |cons zh zt ih=>
  intro bc cM cT
  cases bc with
  |nil=>
   exact tm cM
  |cons kI zt2=>
   have cM:(match decide (kI<zh)with | true=>true | false=>match kI==zh with | true=>fR zt2 zt | false=>false)=false:=cM
   have cT:(match decide (zh<kI)with | true=>true | false=>match zh==kI with | true=>fR zt zt2 | false=>false)=false:=cT
   by_cases e:kI<zh
   .rw[A01 e]at cM;exact tm cM
   by_cases e2:zh<kI
   .rw[A01 e2]at cT;exact tm cT
   obtain rfl:zh=kI:=Int.le_antisymm (Int.not_lt.mp e) (Int.not_lt.mp e2)
   simp only[decide_eq_false e,beq_self_eq_true]at cM cT
   rw[ih cM cT]
class inductive dq (h:Heap):List Value->List (List Int)->Prop
 |nil:dq h [] []
 |cons {a:Addr}{us:List Value}{n:Nat}{ns:List Int}{vs:List Value}{l:List (List Int)} (ha:h.get? a=some (seqObj "tuple" us.toArray n)) (hi:IntsAre us ns) (r:dq h vs l):dq h (.ref a::vs) (ns::l)
section
variable {L D:Addr} {vs:List Value}
theorem Ie(F:Fr dX L s.heap m)(N:News dX L s.heap ((D,seqObj "list" vs.toArray n)::news))(Kn:∀p∈news,p.1≠D)(h2:vs.length<2)
  (h:∀h' c,Fr dX L h' m->News dX L h' ((D,seqObj "list" vs.toArray c)::news)->Q (.done (.ret .none)) { s with heap:=h' }):wpAny (model prog w) A (Builtin.«list.sort» ⟨[.ref D],[]⟩) Q E s:=by
 refine cI (N _ (.head _)) λ ho hL h0=>?_
 have s1:=Heap.SameBut.update s.heap D (Obj.mapSeq λ _=>(#[]:Array Value))
 obtain⟨e1,S3⟩:∃e1,(s.heap.update D (Obj.mapSeq λ _=>(#[]:Array Value))).get? D=some (seqObj "list" #[] e1):=⟨_,get?_update_seq ho λ _=>#[]⟩
 have keep:∀b o,(s.heap.update D (Obj.mapSeq λ _=>(#[]:Array Value))).get? b=some o->(((s.heap.update D (Obj.mapSeq λ _=>(#[]:Array Value))).push (seqObj "tuple" vs.toArray 0)).push (seqObj "list" #[] 0)).get? b=some o:=λ b o e=>Heap.get?_push_of_some _ (Heap.get?_push_of_some _ e)
 have F3:=(kas_fr F s1 hL h0).kept keep
 have N3:=(kas_news (λ p hp=>N p (.tail _ hp)) s1 Kn).grown keep
 have Qh:=keep _ _ S3
 rw[list_sort_plain]
 refine wpAny_bind (listItems_at ho rfl ?_)
 refine wpAny_bind (listUpdate_at ho rfl ?_ (by simp only[List.size_toArray,sizeLine_eq];lia) (Nat.zero_le _))
 refine wpAny_bind (seqEpoch_at S3 rfl ?_)
 refine wpAny_bind (wpAny_newTuple ?_ (by show vs.length<=_;rw[sizeLine_eq];lia))
 refine wpAny_bind (wpAny_newList ?_ (Nat.zero_le _))
 refine wpAny_holding ?_
 show wpAny (model prog w) A _ Q E { s with heap:=((s.heap.update D (Obj.mapSeq λ _=>(#[]:Array Value))).push (seqObj "tuple" vs.toArray 0)).push (seqObj "list" #[] 0) }
 dsimp only
 rw[if_pos (by rw[List.size_toArray];exact h2),if_pos (by rw[List.size_toArray];exact h2)]
 refine wpAny_bind (wpAny_pure ?_)
 rw[StateT.run_pure]
 refine wpAny_bind (wpAny_pure ?_)
 dsimp only
 have e:(arrOf (SortSt.mk' general' (vs.toArray.zip vs.toArray) #[] 7 none)).map (·.2)=vs.toArray:=by
  show(vs.toArray.zip vs.toArray).map (·.2)=vs.toArray
  simp[List.map_snd_zip]
 rw[e]
 have s2:=Heap.SameBut.update (((s.heap.update D (Obj.mapSeq λ _=>(#[]:Array Value))).push (seqObj "tuple" vs.toArray 0)).push (seqObj "list" #[] 0)) D (Obj.mapSeq λ _=>vs.toArray)
 refine wpAny_bind (seqEpoch_at Qh rfl ?_)
 refine wpAny_bind (listUpdate_at Qh rfl ?_ (Nat.zero_le _) (by simp only[List.size_toArray,sizeLine_eq];lia))
 rw[bne_self_eq_false,if_neg Bool.false_ne_true]
 obtain⟨c2,Oj⟩:∃c2,((((s.heap.update D (Obj.mapSeq λ _=>(#[]:Array Value))).push (seqObj "tuple" vs.toArray 0)).push (seqObj "list" #[] 0)).update D (Obj.mapSeq λ _=>vs.toArray)).get? D=some (seqObj "list" vs.toArray c2):=⟨_,get?_update_seq Qh λ _=>vs.toArray⟩
 refine wpAny_pure (h _ c2 (kas_fr F3 s2 hL h0) λ p hp=>?_)
 rcases A03 hp with rfl|hp
 .exact⟨Oj,hL,h0⟩
 .exact kas_news N3 s2 Kn p hp
inductive R7 (h:Heap)(a b:Addr)(ns ms:List Int):Prop
 |mk {us ws:List Value}{n m:Nat} (ha:h.get? a=some (seqObj "tuple" us.toArray n)) (hi:IntsAre us ns) (hb:h.get? b=some (seqObj "tuple" ws.toArray m)) (hj:IntsAre ws ms)
theorem dq.two{vs:List Value}{l:List (List Int)}(T:dq h vs l)(h2:l.length<=2):(vs.length<2/\cN fR l=l)\/∃a b ns ms,vs=[.ref a,.ref b]/\l=[ns,ms]:=by
 cases T with
 |nil=>exact .inl ⟨Nat.zero_lt_succ _,rfl⟩
 |cons ha hi T=>cases T with
  |nil=>exact .inl ⟨Nat.lt_succ_self _,rfl⟩
  |cons hb hj T=>cases T with
   |cons _ _ _=>exact absurd h2 (Nat.not_le.mpr (Nat.le_add_left _ _))
   |nil=>exact .inr ⟨_,_,_,_,rfl,rfl⟩
theorem dq.twoT(T:dq h [.ref a,.ref b] [ns,ms]):R7 h a b ns ms:=by
 cases T with
 |cons ha hi T=>cases T with
  |cons hb hj _=>exact⟨ha,hi,hb,hj⟩
theorem vZ:cN fR [ns,ms]=if fR ms ns=true then[ms,ns]else[ns,ms]:=by
 refine(?_:(match fR ns ms with | true=>[ns,ms] | false=>[ms,ns])=_)
 cases e1:fR ms ns with
 |true=>rw[qJ e1];rfl
 |false=>cases e2:fR ns ms with
  |true=>rfl
  |false=>rw[yh e1 e2];rfl
theorem DG(r:bG P X [.ref a,.ref b] ([ns,ms].map λ x=>.tup (x.map .int))):bG P X ((if fR ms ns=true then #[1,0]else #[0,1]:Array Nat).toList.map λ i=>[Value.ref a,.ref b].getD i .none) ((cN fR [ns,ms]).map λ x=>.tup (x.map .int)):=by
 rw[vZ]
 cases r with
 |cons r1 r=>cases r with
  |cons r2 _=>cases fR ms ns with
   |true=>exact .cons r2 (.cons r1 .nil)
   |false=>exact .cons r1 (.cons r2 .nil)
theorem GS(F:Fr dX L s.heap m)(N:News dX L s.heap ((D,seqObj "list" vs.toArray n)::news))(Kn:∀p∈news,p.1≠D)(ht:∀h',Fr dX L h' m->News dX L h' news->dq h' vs l)(h2:l.length<=2)(hu:A.in1.units<cLine)
  (h:∀h' cZ c,Fr dX L h' m->News dX L h' ((D,seqObj "list" cZ.toArray c)::news)->(∀{P:Params}{X:XT},bG P X vs (l.map λ x=>.tup (x.map .int))->bG P X cZ ((cN fR l).map λ x=>.tup (x.map .int)))->Q .none { s with heap:=h' }) :
  wpAny (model prog w) A (call (.builtin "list.sort") [.ref D]) Q E s:=by
 refine((ht _ F λ p hp=>N p (.tail _ hp)).two h2).elim (λ z=>aj z λ q e=>?_) λ z=>PJ z λ a b ns ms e1 e2=>?_
 .exact wpAny_call_entry slot_list_sort ⟨_,(N _ (.head _)).1,rfl⟩ entry_list_sort (Ie F N Kn q λ h' c F' N'=>⟨_,rfl,h h' vs c F' N' (by rw[e];exact id)⟩) (args_list_sort _)
 .subst e1 e2
  refine kat_lsort (vs:=[.ref a,.ref b]) F N (.head Kn) rfl (Nat.le_refl _) (by decide:2<64) λ e1 h' F' N'=>(ht h' F' λ p hp=>N' p (.tail _ hp)).twoT.casesOn λ ha hi hb hj=>R6 (s:={ s with heap:=h' }) ha hb hi hj hu (KasFin.intro F' N' (.head Kn) λ a8 c ib pK=>h a8 _ c ib pK DG)
theorem r8(F:Fr dX L s.heap m)(N:News dX L s.heap news)(hl:s.heap.IsList l vs.toArray)(Sf:vs.length<64)
  (h:∀D h',Fr dX L h' m->News dX L h' ((D,listOf vs.toArray 0)::news)->(∀q∈news,q.1<D)->wpAny (model prog w) A.in1 (call (.builtin "list.sort") [.ref D]) (λ _ s'=>Q (.ref D) s') E { s with heap:=h' }) :
  wpAny (model prog w) A (call (.builtin "sorted") [.ref l]) Q E s:=by
 refine Calls.call_function_entry kind_sorted plain_sorted entry_sorted (args_sorted1 _) ?_
 unfold Builtin.«sorted»
 refine wpAny_bind (m:=checkCount "sorted" 1 1 _) (wpAny_pure ?_)
 refine wpAny_bind (collect_list hl ?_ (by rw[sizeLine_eq];lia))
 refine wpAny_bind (wpAny_newList ?_ (by rw[sizeLine_eq];lia))
 have keep:∀b o,s.heap.get? b=some o->((s.heap.push (seqObj "list" #[] 0)).update s.heap.objs.size (Obj.mapSeq (·++vs.toArray))).get? b=some o:=λ b o q=>by
  have gN:b<s.heap.objs.size:=Heap.lt_size q
  simp only[Heap.get?_update_ne _ _ _ _ (Nat.ne_of_lt gN),Heap.get?_push_ne _ _ _ (Nat.ne_of_lt gN)]
  exact q
 refine wpAny_bind (wpAny_holding (wpAny_mono (h _ _ ((F.kept keep).push _) (News.push (F.kept keep) (N.grown keep) _ rfl) λ q hq=>Heap.lt_size (keep _ _ (N q hq).1)) (λ _ s' x=>?_) λ _ _ e=>e))
 exact wpAny_pure ⟨_,rfl,x⟩
end
end
end
inductive ur (K:Frag)(a:Addr):Prop
 |mk (x:Str) (p1 p2 p3 p4:Pos) (kd:Nat) (r:bO) (hf:nT K a r) (hb:r.body=[.Return (some (.Subscript (.Name x p1) (.Constant (.int 0) kd p2) p3)) p4]) (hp:gU r.params=some [x]) (hd:r.dflt=false)
  (hs:eK r.scope=true) (hx:r.scope.names.lookup x=some .local) (jK:(x==("__debug__":Str))=false)
section
variable {a t:Addr}
theorem zB{us:List Value}(Kf:ur g.K a)(hK:g.K.In s.heap)(JN:s.heap.NoLimit)(qS:A.depth<recursionLimit)(ht:s.heap.get? t=some (seqObj "tuple" us.toArray n))(h0:us[0]?=some v)
  (q:∀h' tk,(∀b o,s.heap.get? b=some o->h'.get? b=some o)->Q v { s with heap:=h',toks:=tk }):wpAny (M g) A (call (.ref a) [.ref t]) Q E s:=by
 obtain⟨x,p1,p2,p3,p4,kd,r,⟨oc,od,osl,dV,kV,doc,pm,an,cdv,ct,hl,nN,my⟩,hb,hp,hd,hs,hx,jK⟩:=Kf
 rw[hd]at my
 have my:dV=.none:=my
 have jL:=m2 (kV:=kV) (doc:=doc) (pm:=pm) (an:=an) (cdv:=cdv) (ct:=ct) (vs:=[.ref t]) hp (List.nodup_cons.mpr ⟨List.not_mem_nil,.nil⟩) (s:=s) (dV:=dV) (by rw[hd];exact my) (by rfl)
 obtain⟨rK,G8,G7,ic,_⟩:=Cb hs
 refine wpAny_call (gg (fd:=fnOf r.name r.qual r.params r.body r.scope dV kV doc pm an cdv ct) (body:=r.body) (binds:=[(x,.ref t)]) qS (hK _ _ hl) rfl JN (codeRec_of hK nN) rfl jL rfl (λ y hy=>?_) (λ aB IC=>?_) G8 G7 rK)
 .rw[A04 hy];exact .inl hx
 have I:=IC.toInCall
 have pO:(callEnvC (fnOf r.name r.qual r.params r.body r.scope dV kV doc pm an cdv ct) s.heap.objs.size a).kindOf x=some .local:=hx
 rw[hb]
 refine wpAny_execs_cons (wpAny_Return_some (Subscript_ (wpAny_Name (wpAny_loadName_local rK pO I.ns (v:=.ref t) ?_ ?_) jK)))
 .skip
  rw[fy,if_pos pO]
  exact if_pos rfl
 refine wpAny_Constant_int ?_
 have G1:=I.keep _ _ ht
 refine tail_any (T:="tuple") ⟨_,G1,rfl⟩ slot_tuple_getitem.lookup (PyProof.Rows.getItem_tuple (j:=0) ⟨_,G1,rfl,n,rfl⟩ (by decide) (by decide) ?_ (List.getElem?_toArray.trans h0) ?_) (by with_unfolding_all rfl)
 .exact Fx (Int.le_refl 0) (by exact(List.getElem?_eq_some_iff.mp h0).1)
 .refine fS I.same λ h' tk dz=>?_;subst dz
  exact q _ _ I.keep
end
theorem qQ{α:Type}(lt:α->α->Bool)(x:α):∀l:List α,(ins lt x l).Perm (x::l):=by
 intro zl
 induction zl with
 |nil=>
  exact .refl _
 |cons y r ih=>
  refine(?_:(match lt x y with | true=>x::y::r | false=>y::ins lt x r).Perm _)
  cases lt x y with
  |true=>exact .refl _
  |false=>exact((ih).cons y).trans (.swap _ _ _)
theorem iU{α:Type}(lt:α->α->Bool):∀l:List α,(cN lt l).Perm l:=by
 intro zl
 induction zl with
 |nil=>
  exact .refl _
 |cons x r ih=>
  exact(qQ lt x _).trans ((ih).cons x)
theorem zH{α:Type}(f:α->Int)(x:α):∀{l:List α},l.Pairwise (λ a b=>f a<=f b)->(ins (λ a b=>decide (f a<f b)) x l).Pairwise λ a b=>f a<=f b:=by
 intro zl
 induction zl with
 |nil=>
  intro _
  exact List.pairwise_singleton _ _
 |cons y r ih=>
  intro h
  refine aj (List.pairwise_cons.mp h) λ h1 h2=>(?_:(match decide (f x<f y)with | true=>x::y::r | false=>y::ins (λ a b=>decide (f a<f b)) x r).Pairwise _)
  cases e:decide (f x<f y)with
  |true=>
   have e:=Int.le_of_lt (A00 e)
   exact List.pairwise_cons.mpr ⟨λ z hz=>(A03 hz).elim (λ q=>q▸e) λ q=>Int.le_trans e (h1 z q),h⟩
  |false=>
   have e:=of_decide_eq_false e
   exact List.pairwise_cons.mpr ⟨λ z hz=>(A03 ((qQ _ x r).mem_iff.mp hz)).elim (λ q=>q▸Int.not_lt.mp e) (h1 z),ih h2⟩
theorem lh{α:Type}(f:α->Int):∀l:List α,(cN (λ a b=>decide (f a<f b)) l).Pairwise λ a b=>f a<=f b:=by
 intro zl
 induction zl with
 |nil=>
  exact .nil
 |cons x r ih=>
  exact zH f x (ih)
class inductive KR (P:Params) (X:XT):List (Int×Value)->List (List Int)->Prop
 |nil:KR P X [] []
 |cons {v:Value}{x:List Int}{ps:List (Int×Value)}{l:List (List Int)} (h:bz P X v (.tup (x.map .int))) (r:KR P X ps l):KR P X ((x.headD 0,v)::ps) (x::l)
section
variable {X:XT}
theorem KR.of:∀{l:List (List Int)}{vs:List Value},bG P X vs (l.map λ x=>.tup (x.map .int))->KR P X ((l.map λ x=>x.headD 0).zip vs) l:=by
 intro zl
 induction zl with
 |nil=>
  intro vs r
  exact .nil
 |cons x l ih=>
  intro vs r
  obtain⟨v,vs,rfl,r1,r2⟩:=r.inv
  exact .cons r1 (ih r2)
theorem KR.perm(h:ps.Perm IM):∀{l:List (List Int)},KR P X ps l->∃l',l.Perm l'/\KR P X IM l':=by
 induction h with
 |nil=>exact λ h=>⟨_,.refl _,h⟩
 |cons x _ ih=>
  intro l h
  cases h with
  |cons h r=>refine aD (ih r) λ l' p r=>?_;exact ad _ (.cons _ p) (.cons h r)
 |swap x y l=>
  intro l h
  cases h with
  |cons h r=>cases r with
   |cons h' r=>exact ad _ (.swap _ _ _) (.cons h' (.cons h r))
 |trans _ _ ih ih'=>
  intro l h
  refine aD (ih h) λ l' p r=>aD (ih' r) λ l2 p' r=>ad l2 (p.trans p') r
theorem KR.rep(h:KR P X ps l):bG P X (ps.map (·.2)) (l.map λ x=>.tup (x.map .int))/\ps.map (·.1)=l.map λ x=>x.headD 0:=by
 induction h with
 |nil=>exact⟨.nil,rfl⟩
 |cons h _ ih=>exact⟨.cons h ih.1,congrArg _ ih.2⟩
theorem Du{h:Heap}(k:∀b o,X b=some o->h.get? b=some o):∀{l:List (List Int)}{vs:List Value}{i:Nat}{v:Value}{z:Int},bG P X vs (l.map λ x=>.tup (x.map .int))->(∀x∈l,x≠[])->vs[i]?=some v->(l.map λ x=>x.headD 0)[i]?=some z ->
  ∃t us n tk,v=.ref t/\h.get? t=some (seqObj "tuple" (List.toArray us) n)/\us[0]?=some (.int z tk):=by
 intro zl
 induction zl with
 |nil=>
  intro vs i v z r _ _ e
  exact bJ e
 |cons x l ih=>
  intro vs i v z r g7 e1 e2
  obtain⟨w,vs,rfl,r1,r2⟩:=r.inv
  cases i with
  |succ i=>exact ih r2 (λ y hy=>g7 y (.tail _ hy)) e1 e2
  |zero=>
   (refine sj e1 λ zq=>?_;subst zq)
   obtain⟨t,us,n,rfl,hx,rl⟩:=r1.inv
   cases x with
   |nil=>exact absurd rfl (g7 _ (.head _))
   |cons y x=>
    (refine sj e2 λ zq=>?_;subst zq)
    obtain⟨u,us,rfl,q,_⟩:=rl.inv
    refine aS q.inv λ tk ak=>?_;subst ak
    exact QT t _ n tk rfl (k _ _ hx) rfl
end
section
variable {s:Shared}
theorem aG.keepX(H:aG g c base Y X ρ S s.heap)(F:Fr base c.env.locals s.heap m)(F':Fr base c.env.locals h' m)(N':News base c.env.locals h' news')(hs:∀p∈aI s.heap base [c.env.locals],p∈news'):∀b o,X b=some o->h'.get? b=some o:=λ b o e=>
 (H.after (t:=s.toks) F F' N' hs).2.2 b o (H.x _ _ e) λ q=>by simp only[q,(H.ow _ (.head _)).2.1]at e;exact bJ e
theorem yy(Kf:ur g.K a)(h3:l.length<64)(g7:∀y∈l,y≠[])(hd:∀x∈l,∀y∈l,x.headD 0=y.headD 0->x=y)
  (q:Q (.list ((cN Ic l).map λ x=>.tup (x.map .int))) S) (H:aG g c base Y X ρ S s.heap) (r:bz (Pm g) X v (.list (l.map λ x=>.tup (x.map .int)))) :
  wpAny (M g) c.A (call (.builtin "sorted") [v] [(Str.ofString "key",.ref a)]) (PV g c base Y X ρ s Q) E s:=by
 obtain⟨a',vs,n,rfl,hx,rl⟩:=r.inv
 refine aD H.news λ m F N=>?_
 have hl:=rl.length
 simp only[List.length_map]at hl
 refine ksk_sorted (kz:=l.map λ x=>x.headD 0) (b:=false) F N (aw (H.x _ _ hx)) (by simp only[List.length_map,hl]) (by exact Nat.lt_of_le_of_lt (Nat.le_of_eq ‹_›) ‹_›) (ksk_s1 _ _) (λ x=>ksk_l1 _ _) (λ x=>ksk_t1 _ _) (λ i v z hv hz h tk own F' N'=>?_) λ D h' tk out cc F' N' gN ko=>?_
 .refine PI (Du (H.keepX F F' N' λ p hp=>List.mem_append_left _ hp) rl g7 hv hz) λ t us n tk wT ht h0=>?_;subst wT
  exact zB (s:={ s with heap:=h,toks:=_ }) Kf (H.gd.kin.keeps F'.keep) (H.gd.nl.keeps F'.keep) (Nat.lt_of_le_of_lt (Nat.le_add_right _ _) H.ok.room) ht h0 λ h2 t2 kp=>⟨h2,t2,tk,rfl,rfl,F'.keeps kp,N'.grown kp⟩
 .refine cG ko λ ps hp ho hs=>aD ((KR.of rl).perm hp.symm) λ l' pm kr=>aj kr.rep λ rr e=>?_
  have rise:l'.Pairwise λ a b=>a.headD 0<=b.headD 0:=by
   have:(ps.map (·.1)).Pairwise (·<=·):=List.pairwise_map.mpr hs
   simp only[e]at this
   exact List.pairwise_map.mp this
  have:l'=cN Ic l:=List.Perm.eq_of_pairwise (λ x y hx hy a b=>hd x (pm.mem_iff.mpr hx) y ((iU _ _).mem_iff.mp hy) (Int.le_antisymm a b)) rise (lh (λ x:List Int=>x.headD 0) l) (pm.symm.trans (iU _ l).symm)
  subst this
  simp only[<-ho]at rr
  refine cI (H.after (t:=tk) F F' N' (λ p hp=>.tail _ hp)) λ aZ st _=>aj (aZ.addX (H.newAt N' gN) (N' _ (.head _)).1) λ aU am=>⟨_,_,S,aU,am,st,.list (vs:=out.toList) (n:=cc) (bT ..) (rr.mono aU),q⟩
theorem BY(h1:Lk ρ "sorted" (.bi "sorted"))(h2:Lk ρ "range_first_of" (.ref a))(Kf:ur g.K a)
  (hx:wL g c ρ σ pos [x] (λ ds σ'=>∃l:List (List Int),ds=[.list (l.map λ x=>.tup (x.map .int))]/\l.length<64/\(∀y∈l,y≠[])/\(∀x∈l,∀y∈l,x.headD 0=y.headD 0->x=y)/\Q (.list ((cN Ic l).map λ x=>.tup (x.map .int))) σ') E)
  (he:starEach [x] c.env=[(false,eval x c.env)]):AE g c ρ σ (.Call (.Name "sorted" fp) [x] [⟨some "key",.Name "range_first_of" kp,kq⟩] pos) Q E:=λ base Y X s H=>by
 refine aj (gu h1 H) λ hd L=>wpAny_Call_Name_kw (wpAny_Name (wpAny_mono L (λ v s' z=>?_) λ _ _ z=>z.elim) hd)
 refine aj z λ il r=>?_;subst il
 obtain rfl:=r.inv
 refine callWith_kw ?_ (by rw[he];rfl) (by rw[he];rfl)
 refine wpAny_mono (hx base Y X s' H) ?_ λ _ _ z=>z
 rintro vs aB ⟨bA,ds,aM,aY,aZ,aJ,aL,l,rfl,h3,g7,qV,q⟩
 obtain⟨v,vs,rfl,r,r2⟩:=aL.inv
 rw[show vs=[]from r2.inv]
 refine kws_cons ?_
 refine aj (gu h2 aZ) λ ig L'=>wpAny_Name (wpAny_mono L' (λ v' s' z=>?_) λ _ _ z=>z.elim) ig
 refine aj z λ il r'=>?_;subst il
 obtain rfl:=r'.inv
 refine kws_nil ?_
 exact wpAny_mono (yy Kf h3 g7 qV q aZ r) (λ _ _ z=>z.back aY aJ) λ _ _ z=>z
end
def mq(h:Heap)(d:Addr)(es:Array DictEntry)(ep:Nat):Prop:=∃o,h.get? d=some o/\o.cls=.type "dict"/\o.data=.dict es ep
section
variable {ep i:Nat}
theorem xf{Q:Value->Shared->Prop}(hd:(d==sysModules)=false)(hm:mq s.heap d es ep)
  (hQ:Q (.ref s.heap.objs.size) { s with heap:=s.heap.push { cls:=.type "dict_keyiterator",data:=.fields #[.ref d,.int 0 0,.int es.size 0,.int ep 0] } }):wpAny (model prog w) A (pyIter (.ref d)) Q E s:=by
 refine cG hm λ o ho hc sU=>?_
 have hT:s.TypeIs (.ref d) "dict":=⟨o,ho,hc⟩
 refine wpAny_pyIter_slot hT F.slot_dict_iter (wpAny_call_entry F.slot_dict_iter hT F.entry_dict_iter ?_ (F.args_dict_iter_1 _))
 refine wpAny_bind ?_
 refine wpAny_bind (wpAny_notOrdered_dict hT ?_)
 refine wpAny_pure ?_
 refine(?_:wpAny _ _ (Builtin.Dict.showsAll d >>=_) _ _ s)
 unfold Builtin.Dict.showsAll
 rw[if_neg (by rw[hd];exact Bool.false_ne_true)]
 refine wpAny_bind (wpAny_pure ?_)
 refine wpAny_bind (wpAny_dictEntries ho sU ?_)
 refine wpAny_bind (wpAny_dictEpoch ho sU ?_)
 exact wpAny_bind (wpAny_newObj_type (wpAny_pure ⟨_,rfl,"dict_keyiterator",_,⟨_,Heap.get?_push_size _ rfl,rfl⟩,F.slot_dict_keyiterator_next.lookup,hQ⟩))
theorem pr{Q:Option Value->Shared->Prop}(hh:A.handled=none)(jJ:s.heap.IsKeyIter it d i es.size ep)(hm:mq s.heap d es ep)
  (hQ:∀h',(∀e,es[i]?=some e->h'.IsKeyIter it d (i+1) es.size ep)->Heap.ExtBut it s.heap h'->Q (es[i]?.map (·.key)) { s with heap:=h' }):wpAny (model prog w) A (pyNext (.ref it)) Q E s:=by
 refine cG (id jJ) λ o ho hc hd=>cG (id hm) λ od S2 nN qV=>?_
 have own:Builtin.Dict_items.ownsTuple "dict_keyiterator" = false:=by decide
 refine wpAny_bind (wpAny_attempt (wpAny_callSpecial?_slot (name:=Str.ofString "__next__") jJ.typeIs F.slot_dict_keyiterator_next
  (wpAny_call_entry F.slot_dict_keyiterator_next jJ.typeIs F.entry_dict_keyiterator_next ?_ (F.args_dict_keyiterator_next_1 _))))
 refine wpAny_bind (wpAny_pure (wpAny_bind (wpAny_bind ?_)))
 refine wpAny_bind (wpAny_typeNameOfWhole_keyiter jJ.typeIs (wpAny_pure ?_))
 refine wpAny_bind (wpAny_fieldsOf ho hd ?_)
 refine(?_:wpAny _ _ (if(Value.ref d==Value.none)=true then _ else _) _ _ s)
 refine wpAny_bind (wpAny_pure (wpAny_bind (wpAny_dictEntries S2 qV ?_)))
 rw[if_neg (by simp)]
 refine wpAny_bind (wpAny_pure (wpAny_bind (wpAny_dictEpoch S2 qV ?_)))
 rw[if_neg (by simp)]
 refine wpAny_pure ?_
 dsimp only
 rw[if_neg (Int.not_lt.mpr (Int.ofNat_nonneg i)),Int.toNat_natCast]
 cases he:es[i]? with
 |some e=>
  rw[he]at hQ
  refine wpAny_bind (wpAny_bind (wpAny_typeNameOfWhole_keyiter jJ.typeIs (wpAny_pure ?_)))
  refine wpAny_bind (wpAny_isOneOf_keyiter jJ.typeIs ?_)
  refine(?_:wpAny _ _ (setField (.ref it) 1 (rawInt ((i:Int)+ 1))>>=_) _ _ s)
  refine wpAny_bind (wpAny_setField ho hd (by simp) ?_)
  have kc:(s.heap.update it (Obj.mapFields (·.setIfInBounds 1 (rawInt ((i:Int)+ 1))))).IsKeyIter it d (i+1) es.size ep :=
   ⟨_,Heap.get?_update_self _ ho (Obj.isFreed_of_fields (Obj.data_mapFields hd _)),(Obj.cls_mapFields ..).trans hc,by rw[Obj.data_mapFields hd];simp[rawInt]⟩
  refine wpAny_bind (wpAny_holding ?_)
  refine wpAny_bind (wpAny_isOneOf_keyiter (s:={ s with heap:=s.heap.update it (Obj.mapFields (·.setIfInBounds 1 (rawInt ((i:Int)+ 1)))) }) kc.typeIs ?_)
  exact wpAny_pure (wpAny_pure ⟨_,rfl,wpAny_pure (hQ _ (λ _ _=>kc) (Heap.SameBut.update ..).extBut)⟩)
 |none=>
  rw[he]at hQ
  refine wpAny_bind (wpAny_bind (wpAny_typeNameOfWhole_keyiter jJ.typeIs (wpAny_pure ?_)))
  refine(?_:wpAny _ _ (setField (.ref it) 0 .none >>=_) _ _ s)
  refine wpAny_bind (wpAny_setField ho hd (by simp) ?_)
  refine(?_:wpAny _ _ (newExc (.type "StopIteration") []>>=_) _ _ _)
  refine wpAny_bind ?_
  refine wpAny_bind (wpAny_newObj_type ?_ (by size_fits))
  refine wpAny_bind (m:=firstArgMember _ _) (wpAny_of_eq (a:=Value.none) (by first | rfl | (rfl)) ?_)
  refine wpAny_newObj_type ?_ (by size_fits)
  dsimp only[raiseNew]
  refine wpAny_bind (wpAny_handled ?_)
  rw[show A.in1.handled=none from hh]
  refine wpAny_bind (wpAny_pure (wpAny_throw ?_))
  refine wpAny_bind (wpAny_isInstance (T:="StopIteration") (b:=true) ⟨_,Heap.get?_push_size _ rfl,rfl⟩ isSubtype_stop ?_)
  exact wpAny_pure (hQ _ (λ _ q=>bJ q) (((Heap.SameBut.update ..).extBut.push _).push _))
theorem mq.at{h h':Heap}(x:mq h d es ep)(k:∀o,h.get? d=some o->h'.get? d=some o):mq h' d es ep:=let ⟨o,e,r⟩:=x;⟨o,k _ e,r⟩
theorem mq.lt{h:Heap}(x:mq h d es ep):d<h.objs.size:=let ⟨_,e,_⟩:=x;Heap.lt_size e
theorem vR(hh:A.handled=none)(I d:Addr)(g7:d≠I)(es:Array DictEntry)(ep:Nat):Walks prog w A I [I,d] [I] es.size (λ i v=>∃e,es[i]?=some e/\v=e.key) (λ i h=>h.IsKeyIter I d i es.size ep/\mq h d es ep) where
 sub:=λ b hb=>by simp only[A04 hb];exact .head _
 frame:=λ _ _ _ st hk=>⟨st.1.at λ o e=>hk I (.head _) o e,st.2.at λ o e=>hk d (.tail _ (.head _)) o e⟩
 item:=λ i s Q E hi st hQ=>pr hh st.1 st.2 λ h' kc cz=>by
  rw[Array.getElem?_eq_getElem hi]
  exact hQ _ h' s.toks ⟨_,Array.getElem?_eq_getElem hi,rfl⟩ ⟨kc _ (Array.getElem?_eq_getElem hi),st.2.at λ o e=>cz d o g7 e⟩ λ b o hb e=>cz b o (λ q=>hb (q▸.head _)) e
 done:=λ s Q E st hQ=>pr hh st.1 st.2 λ h' _ cz=>by
  rw[Array.getElem?_eq_none (Nat.le_refl _)]
  exact hQ h' s.toks λ b o hb e=>cz b o (λ q=>hb (q▸.head _)) e
 self:=λ _ _ _ _ st hQ=>wpAny_pyIter_keyiter st.1 hQ
theorem DL(lo:(d==sysModules)=false):KdlSrc prog w "dict" d d es.size (λ i v=>∃e,es[i]?=some e/\v=e.key) (λ h=>mq h d es ep) where
 type:=λ _ hm=>let ⟨o,e,c,_⟩:=hm;⟨o,e,c⟩
 there:=λ _ hm=>⟨hm.lt,hm.lt⟩
 keep:=λ _ _ hm hk=>hm.at λ o e=>hk d (.inl rfl) o e
 notList:=by decide
 notTuple:=by decide
 hint:=λ _ _ _ _ hm hq=>kdl_hint_dict (let ⟨o,e,c,_⟩:=hm;⟨o,e,c⟩) hq
 iter:=λ _ _ hh hm=>⟨_,_,(λ _ _ hq=>xf lo hm hq),vR hh _ d (Nat.ne_of_lt hm.lt) es ep,⟨⟨_,Heap.get?_push_size _ rfl,rfl,rfl⟩,hm.at λ _ e=>Heap.get?_push_of_some _ e⟩⟩
end
theorem dq.get{h:Heap}{vs:List Value}{l:List (List Int)}(T:dq h vs l):vs.length=l.length/\∀{i:Nat}{v:Value},vs[i]?=some v->∃t us n ns,v=.ref t/\h.get? t=some (seqObj "tuple" (List.toArray us) n)/\IntsAre us ns/\l[i]?=some ns:=by
 induction T with
 |nil=>exact⟨rfl,λ e=>bJ e⟩
 |cons ha hi _ ih=>
  refine⟨congrArg (·+1) ih.1,λ{i v} e=>?_⟩
  cases i with
  |zero=>(refine sj e λ zq=>?_;subst zq);exact⟨_,_,_,_,rfl,ha,hi,rfl⟩
  |succ i=>exact ih.2 e
noncomputable abbrev O3(prog:Program)(w:World):HeapKind prog w (List Int):=tupleKind (intKind prog w)
theorem vY{prog:Program}{w:World}{us:List Value}{ns:List Int}(h:IntsAre us ns):ItemsAre (intKind prog w) ns us:=by
 induction h with
 |nil=>exact .nil
 |cons n t _ ih=>exact .cons (intKind_is ..) ih
inductive TJ (prog:Program)(w:World)(aB:Shared)(ax I D C:Addr)(vs:List Value)(l:List (List Int))(k:Nat)(s':Shared):Prop
 |mk (h':Heap) (tk:Nat) (m:Str->Option Value) (i:Nat) (xs:List (List Int×Addr×Value)) (e:s'={ aB with heap:=h',toks:=tk }) (ek:k=vs.length+1-i) (hi:i<=vs.length) (st:h'.IsListIter I ax i/\h'.IsList ax vs.toArray)
  (hd:h'.DictOfH (O3 prog w) D xs) (e1:xs.map (·.1)=l.take i) (e2:xs.map (λ x=>Value.ref x.2.1)=vs.take i) (hn:h'.Ns C m) (kp:∀b o,aB.heap.get? b=some o->h'.get? b=some o)
theorem I1{xs:List (List Int×Addr×Value)}{l:List (List Int)}{i:Nat}{ns:List Int}(ic:l.Nodup)(e1:xs.map (·.1)=l.take i)(hl:l[i]?=some ns):atKey xs ns=none:=atKey_none_of_get λ j p hj=>by
 have:(xs.map (·.1))[j]?=some ns:=by simp only[List.getElem?_map,hj];rfl
 simp only[e1,List.getElem?_take]at this
 by_cases Qt:j<i
 .rw[if_pos Qt]at this
  exact Nat.ne_of_lt Qt ((List.getElem?_inj (List.getElem?_eq_some_iff.mp this).1 ic).mp (this.trans hl.symm))
 .rw[if_neg Qt]at this;exact bJ this
theorem pT{H:Heap}{I ax y:Addr}{i:Nat}{o:Obj}(st:H.IsListIter I ax i)(e:H.get? y=some o)(c:o.cls=.type "tuple")(q:y=I):False:=by
 refine cG st λ o2 g1 g2 _=>?_
 rw[q]at e
 rw[<-A02 (g1.symm.trans e),g2]at c
 injection c with c;exact absurd c (by decide)
theorem HQ{H:Heap}{C y:Addr}{m:Str->Option Value}{o:Obj}{items:Array Value}{n:Nat}(hn:H.Ns C m)(e:H.get? y=some o)(dt:o.data=.seq items n)(q:y=C):False:=by
 refine gH hn λ o2 _ _ g3 g4 _=>?_
 rw[q]at e
 rw[<-A02 (g3.symm.trans e),g4]at dt
 cases dt
section
variable {env:Env}
theorem yz{x:Str}{p1 p2 px pos:Pos}{kd:Nat}{iter:Expr}{scope:Scope}{cenv:Env}{R:Result->Shared->Prop}{aB:Shared}{ax I D:Addr}{vs:List Value}{l:List (List Int)}(hh:A.handled=none)(hu:A.units<cLine)(hk:cenv.scope.kind=.function)(hx:cenv.kindOf x=some .local)(jK:(x==("__debug__":Str))=false)
  (nI:ax≠I/\D≠I/\cenv.locals≠I) (nC:cenv.locals≠D/\ax≠D/\I≠D/\ax≠cenv.locals/\I≠cenv.locals) (old:∀b o,aB.heap.get? b=some o->b≠I/\b≠D/\b≠cenv.locals) (ht:dq aB.heap vs l) (ic:l.Nodup) (h2:l.length<=2)
  (hR:∀h' tk m xs,h'.Ns cenv.locals m->h'.DictOfH (O3 prog w) D xs->xs.map (λ x=>Value.ref x.2.1)=vs->(∀b o,aB.heap.get? b=some o->h'.get? b=some o)->R (.ok .next) { aB with heap:=h',toks:=tk })
  {n:Nat} (hJ:TJ prog w aB ax I D cenv.locals vs l n s):codeAny (model prog w) A (.compLoop (.DictComp (.Name x p1) (.Constant (.bool true) kd p2) [⟨.Name x px,iter,[],0⟩] scope pos) 0 (.ref I) (.ref D) cenv) R s:=by
 refine codeAny_compLoop_testsD (TJ prog w aB ax I D cenv.locals vs l) ?_ n hJ
 rintro k s' ⟨H,tk,m,i,xs,rfl,rfl,hi,st,hd,e1,e2,hn,kp⟩
 have W:=Walks.list (prog:=prog) (w:=w) hh I ax nI.1 vs.toArray
 have wO:vs.toArray.size=vs.length:=List.size_toArray ..
 refine aj ht.get λ tl tg=>?_
 by_cases gN:i<vs.length
 .refine W.item i _ _ _ (by exact gN) st λ v a7 LK hv n3 lw=>?_
  have hv:vs[i]?=some v:=(List.getElem?_toArray ..).symm.trans hv
  have k1:∀b o,b≠I->H.get? b=some o->a7.get? b=some o:=λ b o q e=>lw b o (λ z=>q (A04 z)) e
  refine wpAny_assign_Name (wpAny_storeName_local hx (hn.at' λ o e=>k1 _ o nI.2.2 e) (λ a8 G5 bP=>?_) (by rw[hk];rfl))
  have k2:∀b o,b≠I->b≠cenv.locals->H.get? b=some o->a8.get? b=some o:=λ b o q q' e=>bP.extBut b o q' (k1 b o q e)
  refine wpAny_pure ?_
  simp only[if_pos rfl]
  refine wpAny_Name (wpAny_loadName_local hk hx G5 (if_pos rfl) ?_) jK
  refine wpAny_Constant_bool ?_
  refine PH (tg hv) λ t us n ns wT hg pQ hl=>?_;subst wT
  have Mm:=k2 _ _ (old _ _ hg).1 (old _ _ hg).2.2 (kp _ _ hg)
  obtain⟨od,es,ep,ho,hc,Mt,Ko,Qr,ln⟩:=hd
  have Oh:xs.length<=sizeLine:=by
   have:=congrArg List.length e1
   simp only[List.length_map,List.length_take]at this
   simp only[sizeLine_eq];lia
  have Ms:a8.DictOfH (O3 prog w) D xs:=⟨od,es,ep,k2 _ _ nI.2.1 (Ne.symm nC.1) ho,hc,Mt,Ko,λ y hy=>?_,ln⟩
  .refine wpAny_dictSet_heap (s:={ aB with heap:=a8,toks:=_ }) (knd:=O3 prog w) hu (k:=ns) ⟨_,_,n,Mm,rfl,rfl,vY pQ⟩ Ms (λ EI G6 tv=>?_) Oh
   have k6:∀b o,b≠I->b≠cenv.locals->b≠D->H.get? b=some o->EI.get? b=some o:=λ b o q q' q2 e=>tv.extBut b o q2 (k2 b o q q' e)
   simp only[storedH_new (I1 ic e1 hl)]at G6
   refine⟨vs.length+1-(i+1),by exact Kh (Nat.lt_succ_of_lt ‹_›),EI,_,_,i+1,_,rfl,rfl,gN,?_,G6,?_,?_,G5.sameBut tv nC.1,λ b o e=>let ⟨a,b',c⟩:=old b o e;k6 b o a c b' (kp b o e)⟩
   .exact⟨n3.1.at λ o e=>tv.extBut _ o nC.2.2.1 (bP.extBut _ o nC.2.2.2.2 e),(n3.2.extBut bP.extBut nC.2.2.2.1).extBut tv.extBut nC.2.1⟩
   .simp only[List.map_append,e1,List.take_add_one,hl];rfl
   .simp only[List.map_append,e2,List.take_add_one,hv];rfl
  .refine kT (Qr y hy) λ o' items n' e c dt ia=>v5 o' items n' (k2 _ _ (pT st.1 e c) (HQ hn e dt) e) c dt ia
 .obtain rfl:i=vs.length:=by lia
  refine W.done _ _ _ (by exact st) λ a7 LK lw=>?_
  have k1:∀b o,b≠I->H.get? b=some o->a7.get? b=some o:=λ b o q e=>lw b o (λ z=>q (A04 z)) e
  obtain⟨od,es,ep,ho,hc,Mt,Ko,Qr,ln⟩:=hd
  refine hR a7 _ m xs (hn.at' λ o e=>k1 _ o nI.2.2 e) ⟨od,es,ep,k1 _ _ nI.2.1 ho,hc,Mt,Ko,λ y hy=>?_,ln⟩ (e2.trans (List.take_of_length_le (Nat.le_refl _))) λ b o e=>k1 b o (old b o e).1 (kp b o e)
  refine kT (Qr y hy) λ o' items n' e c dt ia=>v5 o' items n' (k1 _ _ (pT st.1 e c) e) c dt ia
theorem zA{x:Str}{p1 p2 px pos:Pos}{kd:Nat}{iter:Expr}{scope:Scope}{Q:Value->Shared->Prop}(hh:A.handled=none)(hu:A.units<cLine)(qX:closureFor scope env=pure [])(mA:∀y∈scope.names,y.2≠.cell)(eC:scope.kind=.function)
  (lq:∀y∈scope.names,y.2=.local->scope.names.lookup y.1=some .local) (hx:scope.names.lookup x=some .local) (jK:(x==("__debug__":Str))=false)
  (h:wpAny (model prog w) A (eval iter env) (λ xv aB=>∃ax vs l,xv=.ref ax/\aB.heap.IsList ax (List.toArray vs)/\dq aB.heap vs l/\l.Nodup/\l.length<=2/\∀D h' tk es ep,(∀b o,aB.heap.get? b=some o->h'.get? b=some o)->aB.heap.objs.size<=D->mq h' D es ep->es.toList.map (·.key)=vs ->
   Q (.ref D) { aB with heap:=h',toks:=tk }) E s) (hs:∀x,foldedSetIterable iter env x=pure x) :
  wpAny (model prog w) A (eval (.DictComp (.Name x p1) (.Constant (.bool true) kd p2) [⟨.Name x px,iter,[],0⟩] scope pos) env) Q E s:=by
 refine wpAny_comprehension_free (use:=none) rfl hs qX eC lq (wpAny_mono h (λ xv aB z=>?_) λ _ _ e=>e)
 obtain⟨ax,vs,l,rfl,hl,ht,ic,h2,hQ⟩:=z
 have gN:ax<aB.heap.objs.size:=by refine aD hl λ _ e _=>?_;exact Heap.lt_size e
 refine wpAny_pyIter_list hl ?_
 refine wpAny_newObj_type (wpAny_newFunctionEnv mA (by intro y hy;simp at hy) (λ a7 oi og=>?_) eC)
 dsimp only at oi og ⊢
 obtain⟨H1,eH1⟩:∃H1,H1=aB.heap.push { cls:=.type "list_iterator",data:=.fields #[.ref ax,.int 0 0] }:=⟨_,rfl⟩
 rw[<-eH1]at oi og ⊢
 obtain⟨H2,eH2⟩:∃H2,H2=H1.push { cls:=.type "dict",data:=.dict #[] }:=⟨_,rfl⟩
 rw[<-eH2]at oi og ⊢
 have z1:H1.objs.size=aB.heap.objs.size+1:=by simp only[eH1,Heap.size_push]
 have z2:H2.objs.size=aB.heap.objs.size+1+1:=by simp only[eH2,Heap.size_push,z1]
 have up1:∀b o,aB.heap.get? b=some o->H1.get? b=some o:=λ b o e=>eH1▸Heap.get?_push_of_some _ e
 have up2:∀b o,H1.get? b=some o->H2.get? b=some o:=λ b o e=>eH2▸Heap.get?_push_of_some _ e
 have up3:∀b o,b<H2.objs.size->H2.get? b=some o->a7.get? b=some o:=λ b o q e=>og.extBut b o (Nat.ne_of_lt q) (Heap.get?_push_of_some _ e)
 have old:∀b o,aB.heap.get? b=some o->b≠aB.heap.objs.size/\b≠H1.objs.size/\b≠H2.objs.size:=λ b o e=>by
  have:=Heap.lt_size e
  exact eN (by exact Nat.ne_of_lt ‹_›) (by lia) (by lia)
 have st:a7.IsListIter aB.heap.objs.size ax 0/\a7.IsList ax vs.toArray:=by
  refine⟨⟨_,up3 _ _ (by lia) (up2 _ _ (eH1▸Heap.get?_push_size _ rfl)),rfl,rfl⟩,?_⟩
  refine aD hl λ o e r=>ad o (up3 _ _ (by lia) (up2 _ _ (up1 _ _ e))) r
 have loop:∀bu:Shared,bu={ aB with heap:=a7,toks:=aB.toks+([]:List (Str×Value)).length }->codeAny (model prog w) A (.compLoop (.DictComp (.Name x p1) (.Constant (.bool true) kd p2) [⟨.Name x px,iter,[],0⟩] scope pos) 0 (.ref aB.heap.objs.size) (.ref H1.objs.size) (compEnvC scope [] H2.objs.size env))
   (compPost (model prog w) A E none Q (.ref H1.objs.size) H2.objs.size) bu:=by
  rintro bu rfl
  refine yz (cenv:=compEnvC scope [] H2.objs.size env) (aB:=aB) (ax:=ax) (vs:=vs) (l:=l) hh hu eC (lookup_relabel_local hx) jK ⟨by exact Nat.ne_of_lt ‹_›,by lia,?_⟩ ⟨?_,by lia,by lia,?_,?_⟩ old ht ic h2 (λ h' tk m xs hn hd e kp=>?_) (n:=vs.length+1)
   ⟨a7,_,_,0,[],rfl,rfl,Nat.zero_le _,st,?_,rfl,rfl,oi,λ b o e=>up3 b o (by have:=Heap.lt_size e;lia) (up2 _ _ (up1 _ _ e))⟩
  .refine(?_:H2.objs.size≠_);lia
  .refine(?_:H2.objs.size≠_);lia
  .refine(?_:ax≠H2.objs.size);lia
  .refine(?_:_≠H2.objs.size);lia
  .refine ad m hn (λ Uh Mg=>?_)
   refine LC hd λ od es ep ho hc Mt Ko _=>hQ H1.objs.size Uh tk es ep (λ b o e=>Mg.extBut b o (old b o e).2.2 (kp b o e)) (by lia) ⟨od,Mg.extBut _ _ (by lia) ho,hc.1,Mt⟩ ?_
   simp only[Ko,List.map_map];exact e
  .exact⟨_,#[],0,up3 _ _ (by lia) (eH2▸Heap.get?_push_size _ rfl),⟨rfl,rfl,rfl⟩,rfl,rfl,λ _ hx=>(by simp at hx),List.nodup_nil⟩
 exact codeAny_compStart_dict (loop _ rfl) ((Walks.list (prog:=prog) (w:=w) hh _ _ (by exact Nat.ne_of_lt ‹_›) vs.toArray).self 0 _ _ _ st (loop _ rfl))
end
theorem oT{h:Heap}{P:Params}{X:XT}(k:∀b o,X b=some o->h.get? b=some o):∀{l:List (List Int)}{vs:List Value},bG P X vs (l.map λ x=>.tup (x.map .int))->dq h vs l:=by
 intro zl
 induction zl with
 |nil=>
  intro vs r
  rw[show vs=[]from r.inv];exact .nil
 |cons x l ih=>
  intro vs r
  obtain⟨v,vs,rfl,r1,r2⟩:=r.inv
  obtain⟨a,us,n,rfl,hx,rl⟩:=r1.inv
  exact .cons (k _ _ hx) (iX rl) (ih r2)
theorem tR:∀{l:List (List Int)},hH l=true->l.Nodup/\l.length<=2/\cN fR l=l
 |[],_=>⟨.nil,Nat.zero_le _,rfl⟩
 |[a],_=>⟨List.nodup_cons.mpr ⟨List.not_mem_nil,.nil⟩,Nat.le_succ 1,rfl⟩
 |[a,b],h=>by
  have h:fR a b=true:=h
  refine eN (List.nodup_cons.mpr ⟨λ q=>?_,List.nodup_cons.mpr ⟨List.not_mem_nil,.nil⟩⟩) (Nat.le_refl 2) ?_
  .rw[A04 q]at h
   have:=qJ h
   rw[h]at this;exact tm this
  .refine(?_:(match fR a b with | true=>[a,b] | false=>[b,a])=_)
   rw[h]
 |_::_::_::_,h=>dJ h
section
variable {E:D->Prop}
theorem rq{base:Heap}{Y:YT}{X:XT}{s:Shared}{d:Addr}{es:Array DictEntry}{ep:Nat}{vs:List Value}{l:List (List Int)}(hk:0<c.k)(H:aG g c base Y X ρ σ s.heap)(hd:mq s.heap d es ep)(lo:(d==sysModules)=false)(he:es.toList.map (·.key)=vs)(hS:hH l=true)
  (r:bG (Pm g) X vs (l.map λ x=>.tup (x.map .int))) (q:Q (.list (l.map λ x=>.tup (x.map .int))) σ):wpAny (M g) c.A (call (.builtin "sorted") [.ref d]) (PV g c base Y X ρ s Q) (EP g c c.os base Y s E) s:=by
 refine cI (tR hS) λ ic h2 UF=>?_
 have hl:=r.length
 simp only[List.length_map]at hl
 have Ko:es.size=vs.length:=by simp only[<-he,List.length_map,Array.length_toList]
 refine aD H.news λ m F N=>kdu_sorted (DL lo) (H.ok.hand hk) F N hd (by exact bK (Nat.le_trans (Nat.le_of_eq ‹_›) (Nat.le_trans (Nat.le_of_eq ‹_›) ‹_›))) λ D h1 tk vs1 F1 N1 gN e1 e2=>?_
 obtain rfl:vs1=vs:=by
  refine List.ext_getElem? λ i=>?_
  by_cases hi:i<vs1.length
  .refine aD (e2 i _ (List.getElem?_eq_getElem hi)) λ e h3 h4=>?_
   simp only[List.getElem?_eq_getElem hi,h4,<-he,List.getElem?_map,Array.getElem?_toList,h3];rfl
  .rw[List.getElem?_eq_none (by exact Nat.not_lt.mp ‹_›),List.getElem?_eq_none (by lia)]
 refine GS (s:={ s with heap:=h1,toks:=tk }) F1 N1 (λ p hp=>Nat.ne_of_lt (gN p hp)) (λ h' F' N'=>oT (H.keepX F F' N' λ p hp=>hp) r) h2 ?_ λ a8 cZ cc ib pK hr=>?_
 .have:=H.ok.units
  have:=dk c.A
  have:=dk c.A.in1
  lia
 have hr:=hr r
 simp only[UF]at hr
 refine cI (H.after (t:=tk) F ib pK (λ p hp=>.tail _ hp)) λ aZ st _=>aj (aZ.addX (H.newAt pK gN) (pK _ (.head _)).1) λ aU am=>⟨_,_,σ,aU,am,st,.list (bT ..) (hr.mono aU),q⟩
theorem F6{x:Str}{p1 p2 px pos fp cp:Pos}{kd:Nat}{iter:Expr}{scope:Scope}{z:Str}(hk:0<c.k)(h1:Lk ρ "sorted" (.bi "sorted"))(hc:scope.kind=.function)(hn:scope.names=[(z,.local),(x,.local)])(jK:(x==("__debug__":Str))=false)
  (h:AE g c ρ σ iter (λ d σ'=>∃l:List (List Int),d=.list (l.map λ x=>.tup (x.map .int))/\hH l=true/\Q (.list (l.map λ x=>.tup (x.map .int))) σ') E) (hs:∀x,foldedSetIterable iter c.env x=pure x) :
  AE g c ρ σ (.Call (.Name "sorted" fp) [.DictComp (.Name x p1) (.Constant (.bool true) kd p2) [⟨.Name x px,iter,[],0⟩] scope pos] [] cp) Q E:=λ base Y X s H=>by
 refine aj (gu h1 H) λ hd L=>wpAny_bind (wpAny_Name (wpAny_mono L (λ v s' zz=>?_) λ _ _ z=>z.elim) hd)
 refine aj zz λ il r=>?_;subst il
 obtain rfl:=r.inv
 have lx:∀y,y=z\/y=x->scope.names.lookup y=some .local:=λ y hy=>by
  rw[hn,List.lookup_cons]
  cases e:y==z with
  |true=>rfl
  |false=>
   simp only[List.lookup_cons,hy.resolve_left (beq_eq_false_iff_ne.mp e),beq_self_eq_true]
 have mem:∀y∈scope.names,y.2=.local/\(y.1=z\/y.1=x):=λ y hy=>by
  rw[hn]at hy
  rcases A03 hy with rfl|hy
  .exact⟨rfl,.inl rfl⟩
  .rw[A04 hy];exact⟨rfl,.inr rfl⟩
 refine fF rfl (wpAny_items_cons (zA (H.ok.hand hk) (by have:=H.ok.units;exact Pz ‹_›) (by unfold closureFor;rw[hn];rfl) (λ y hy q=>by rw[(mem y hy).1]at q;cases q) hc (λ y hy _=>lx _ (mem y hy).2) (lx _ (.inr rfl)) jK (wpAny_mono (h base Y X s' H) ?_ λ _ _ z=>z) hs))
 rintro v aB ⟨bA,d,aM,aY,aZ,aJ,aL,l,rfl,hS,q⟩
 obtain⟨a,vs,n,rfl,hx,rl⟩:=aL.inv
 refine cI (tR hS) λ ic h2 _=>⟨a,vs,l,rfl,aw (aZ.x _ _ hx),oT aZ.x rl,ic,h2,λ D h' tk es ep kp hD raw he=>?_⟩
 refine wpAny_items_nil (wpAny_pure ?_)
 have am:=aZ.push kp
 refine wpAny_mono (rq (s:={ aB with heap:=h',toks:=tk }) hk am raw ?_ he hS rl q) (λ _ _ z=>z.back aY (aJ.trans (.ext kp))) λ _ _ z=>z.back (aJ.trans (.ext kp))
 have lt:=(aZ.gd.ns.keeps λ b o e=>aZ.x b o (aZ.bx b o e)).lt
 have:mainGlobals=3:=rfl
 exact A05 λ q=>by have:D=1:=q;lia
end
noncomputable def I5:List Str:=["append","pop","extend","join","get","has","ranges","union","opposite","equals","put","has_text","fail","skip","peek","take","begins","put_range","put_string","told"]
noncomputable def l7(m:Nat):Str:=I5.getD m "?"
noncomputable def ec(f:Nat):Option Addr:=match mK[f]? with
 |some (.fn a ..)=>some a
 |some (.cls C ..)=>some C
 |none=>none
noncomputable def eO(f:Nat):Option Addr:=match mK[f]? with
 |some (.fn a ..)=>some a
 |_=>none
structure GF (g:c8)(row:Nat->bO):Prop where
 fn:∀f a,eO f=some a->nT g.K a (row f)
 cal:∀f a,ec f=some a->Bj g.K (.ref a)
 at':∀C f,Kx C f=true->Fj g.K C (bh f)
 st:∀C f,Kx C f=true->K3 g.K C (bh f)
 me:∀C m f a,Kk C m=some f->eO f=some a->Fg g.K C (l7 m) a
 mk':∀(f C i:Nat) (o:Bool) (a:Nat),mK[f]?=some (FE.cls C i o)->eO i=some a->K9 g.K C a
 sm:OL g.K 202 (Str.ofString "of") 130
 is:∀C,C=202\/C=424->OU g.K C
 isn:uq g.K 202 424/\uq g.K 424 202
 bad:Be g/\mh g.K g.aBad
 key:ur g.K 89
section
variable {Hd:aN}
theorem o1{a:W}{x:D}{i:Option Int}(h:t4 a=some i)(ha:VR m a x):f7 x i:=by
 have h:=iQ h ha
 cases x with
 |none=>exact A02 h▸.none
 |int n=>exact A02 h▸.int n
 |_=>exact bJ h
theorem mF(m:List Addr)(a:Addr):(m++[a])[m.length]?=some a:=by simp
theorem PW.new{ds:List D}(h:PW Hd m (.ok (.r s.length) (s++[.list ds])) Q E)(hs:SR Hd m m s S)(a:Addr):rF Q (.ref a) ((a,.list ds)::S) :=
 let ⟨S',h1,h2⟩:=(hs.mono (gL.app m a)).app a (mo:=.list ds) .list
 ⟨S',h1,h _ _ _ (gL.app m a) (.r (by rw[<-hs.len];exact mF m a)) h2⟩
theorem Hf{own:Bool}{x a b c:W}{dx da db dc:D}(h:PW Hd m (Fw own s x a b c) Q E)(hx:VR m x dx)(ha:VR m a da)(hb:VR m b db)(hc:VR m c dc)(hs:SR Hd m m s S):(∃T,ul S dx T)/\Gx g dx da db dc S Q E:=by
 refine PG.onOE h λ lo e1 h=>PG.onOE h λ hi e2 h=>PG.onOE h λ st e3 h=>?_
 have pa:=o1 e1 ha
 have pb:=o1 e2 hb
 have pc:=o1 e3 hc
 clear e1 e2 e3 ha hb hc
 refine PG.elOE h (λ l e h=>?_) λ h=>?_
 .refine PG.needE h λ h1 h=>iK h1 λ a1 a2 a3=>?_
  rw[lH e hx]
  refine⟨⟨_,.bytes⟩,?_⟩
  rw[A00 a1]at pc
  cases pc
  exact xO pa pb (A00 a3) (PW.d h hs)
 refine PG.elOE h (λ l e h=>?_) λ h=>?_
 .refine PG.needE h λ h1 h=>KI h1 λ a1 a2 a3 a4 a5=>?_
  rw[kK e hx]
  refine⟨⟨_,.str⟩,?_⟩
  rw[A00 a1]at pa
  rw[A00 a2]at pb
  rw[A00 a3]at pc
  cases pa;cases pb;cases pc
  exact C9 (A00 a5) (PW.d h hs)
 .refine PG.onOE h λ ds e h=>PG.needE h λ h1 h=>ey h1 λ h1 h2=>?_
  have L:=gE e hx hs
  refine⟨⟨_,.list L⟩,?_⟩
  cases own with
  |true=>exact BR (xN L pa pb pc (bne_iff_ne.mp h1) (A00 h2) λ x=>PW.new h hs x)
  |false=>exact Ca L pa pb pc (bne_iff_ne.mp h1) (A00 h2) (PW.d h hs)
theorem lC{α β:Type}{f:α->Option β}{F:β->α}(hf:∀{a b},f a=some b->a=F b):∀{l:List α}{r:List β},rD f l=some r->l=r.map F:=by
 intro zl
 induction zl with
 |nil=>
  intro _ h
  exact A02 h▸rfl
 |cons a l ih=>
  intro _ h
  refine d8 h λ b e h=>d8 h λ r e2 h=>?_
  simp only[<-A02 h,List.map_cons,hf e,ih e2]
theorem mU{ds:List D}{l:List Int}(h:jR ds=some l):ds=l.map .int:=lC GZ h
theorem Ad{ds:List D}{l:List (List Nat)}(h:uR ds=some l):ds=l.map .str:=lC Fz h
theorem Ee{ds:List D}{l:List (List UInt8)}(h:Ag ds=some l):ds=l.map .bytes:=lC wU h
theorem jP{ds:List D}{l:List (List Int)}(h:jQ ds=some l):ds=l.map λ x=>.tup (x.map .int) :=
 lC (λ h=>let ⟨_,e,h⟩:=fH h;(wc e).trans (congrArg D.tup (mU h))) h
theorem f9(a e:Int)(n:Nat):(cU a e n).length=n:=by
 induction n generalizing a with
 |zero=>rfl
 |succ n ih=>simp[gQ,ih]
theorem lJ(e:Int):∀(n:Nat)(a:Int)(i:Nat),i<n->(cU a e n)[i]?=some (.int (a+i*e)):=by
 intro zl
 induction zl with
 |zero=>
  intro bc cM cT
  exact nomatch cT
 |succ zt ih=>
  intro bc cM cT
  cases cM with
  |zero=>
   simp[gQ]
  |succ zt1=>
   simp only[gQ,List.getElem?_cons_succ,ih (bc+e) zt1 (by exact Nat.lt_of_succ_lt_succ ‹_›)]
   congr 2
   simp only[Int.natCast_succ,Int.add_mul];lia
theorem vC(a:Int)(n:Nat):cU a 1 n=(rangeKs a n).map .int:=by
 apply List.ext_getElem?
 intro i
 by_cases h:i<n
 .simp only[lJ 1 n a i h,List.getElem?_map]
  unfold rangeKs
  simp only[List.getElem?_map,List.getElem?_range h]
  simp
 .rw[List.getElem?_eq_none (by rw[f9];exact Nat.not_lt.mp ‹_›),List.getElem?_eq_none (by unfold rangeKs;simp;exact Nat.not_lt.mp ‹_›)]
theorem LO(a b e:Int):0<=Builtin.Range.rangeSize a b e:=by
 unfold Builtin.Range.rangeSize
 split
 .split
  .exact Int.add_nonneg (Int.ediv_nonneg (by lia) (by exact Int.le_of_lt ‹_›)) (by exact Int.ofNat_nonneg _)
  .exact Int.le_refl _
 .split
  .exact Int.add_nonneg (Int.ediv_nonneg (by lia) (by lia)) (by exact Int.ofNat_nonneg _)
  .exact Int.le_refl _
inductive OP (a b e:Int)(l:List D):Prop where
 |mk (n:Nat) (h1:Builtin.Range.small a b e=true) (h2:Builtin.Range.rangeSize a b e=(n:Int)) (h3:n<=1000000) (h4:l=cU a e n)
theorem tX{a b e:Int}{l:List D}(h:IG a b e=some l):OP a b e l:=by
 refine mC h λ h2 h=>ey h2 λ e1 e2=>⟨_,e1,(Int.toNat_of_nonneg (LO a b e)).symm,Int.toNat_le.mpr (A00 e2),(A02 h).symm⟩
noncomputable def Ot:BI->D
 |.len=>.bi "len" | .ord=>.bi "ord" | .chr=>.bi "chr" | .range=>.ty "range" | .tuple=>.ty "tuple" | .list=>.ty "list" | .bytes=>.ty "bytes" | .max=>.bi "max" | .repr=>.bi "repr" | .sorted=>.bi "sorted" | .ksorted=>.bi "sorted"
noncomputable def Ku:BI->Str
 |.len=>"len" | .ord=>"ord" | .chr=>"chr" | .range=>"range" | .tuple=>"tuple" | .list=>"list" | .bytes=>"bytes" | .max=>"max" | .repr=>"repr" | .sorted=>"sorted" | .ksorted=>"sorted"
theorem Dp{w:W}{d:D}{n:Nat}(h:Dq s w=some n)(hv:VR m w d)(hs:SR Hd m m s S):wI S d n:=by
 cases w with
 |r i=>refine d8 h λ l e h=>?_;exact A02 h▸.list (lT e hv hs)
 |d x=>
  obtain rfl:d=x:=hv
  cases d with
  |tup l=>exact A02 h▸.tup
  |str l=>exact A02 h▸.str
  |bytes l=>exact A02 h▸.bytes
  |list l=>exact A02 h▸.list .frz
  |_=>exact bJ h
theorem vz{l:List Int}(h:BD l=true):∀n∈l,0<=n/\n<256:=λ n hn=>
 let ⟨a,b⟩:=bE (A06 h n hn);⟨A00 a,A00 b⟩
theorem Et{l:List Int}(Sf:l.length<64)(q:Q (.list ((cN (λ a b=>decide (a<b)) l).map .int)) S):AC g k (.bi "sorted") [.list (l.map .int)] S Q E:=wQ rfl λ{c base Y X ρ s v} H r=>by
 obtain⟨a,ws,n,rfl,hx,rl⟩:=r.inv
 refine aD H.news λ m F N=>kso_sorted F N (aw (H.x _ _ hx)) (iX rl) Sf λ D cZ Lv cc h' F' N' gN hi _ hp hs _=>cI (H.after (t:=s.toks) F F' N' (λ p hp=>.tail _ hp)) λ aZ st _=>aj (aZ.addX (H.newAt N' gN) (N' _ (.head _)).1) λ aU am=>?_
 have:Lv=cN (λ a b=>decide (a<b)) l:=List.Perm.eq_of_pairwise (λ _ _ _ _ a b=>Int.le_antisymm a b) hs (lh (λ x:Int=>x) l) (hp.trans (iU _ l).symm)
 subst this
 exact⟨_,_,S,aU,am,st,.list (bT ..) (kO hi),q⟩
theorem Es{l:List (List Int)}(h2:l.length<=2)(q:Q (.list ((cN fR l).map λ x=>.tup (x.map .int))) S):AC g k (.bi "sorted") [.list (l.map λ x=>.tup (x.map .int))] S Q E:=wQ rfl λ{c base Y X ρ s v} H r=>by
 obtain⟨a,vs,n,rfl,hx,rl⟩:=r.inv
 refine aD H.news λ m F N=>?_
 have hl:=rl.length
 rw[List.length_map]at hl
 refine r8 F N (aw (H.x _ _ hx)) (by exact ti (Nat.le_trans (Nat.le_of_eq ‹_›) ‹_›)) λ D h1 F1 N1 gN=>GS (s:={ s with heap:=h1 }) F1 N1 (λ p hp=>Nat.ne_of_lt (gN p hp)) (λ h' F' N'=>oT (H.keepX F F' N' λ p hp=>hp) rl) h2 ?_ λ a8 cZ cc ib pK hr=>?_
 .have:=H.ok.units
  have:=dk c.A
  have:=dk c.A.in1
  lia
 refine cI (H.after (t:=s.toks) F ib pK (λ p hp=>.tail _ hp)) λ aZ st _=>aj (aZ.addX (H.newAt pK gN) (pK _ (.head _)).1) λ aU am=>⟨_,_,S,aU,am,st,.list (bT ..) ((hr rl).mono aU),q⟩
theorem Aq{ds l:List D}(h:ir ds=some l)(q:Q (.list l) S):AC g k (.bi "sorted") [.list ds] S Q E:=by
 unfold ir at h
 cases e:jR ds with
 |some ns=>
  rw[e]at h
  refine mC h λ h1 h2=>?_
  rw[mU e]
  exact Et (A00 h1) (A02 h2▸q)
 |none=>
  rw[e]at h
  refine d8 h λ ts e h2=>mC h2 λ h1 h3=>?_
  rw[jP e]
  exact Es (A00 h1) (A02 h3▸q)
theorem xg{ws:List W}{ds:List D}(h:PW Hd m (BH s .range ws) Q E)(hv:eu m ws ds)(hs:SR Hd m m s S):AC g k (.ty "range") ds S Q E:=by
 refine PG.elOE h (λ w e h=>?_) λ h=>?_
 .refine aD (dY e hv) λ d ak v=>?_;subst ak
  refine PG.onOE h λ i e h=>?_
  rw[cn e v]
  exact At (PW.d h hs)
 refine PG.elOE h (λ w e h=>?_) λ h=>?_
 .refine je (rO e hv) λ d d' dz v v'=>?_;subst dz
  refine PG.onOE h λ i e h=>PG.onOE h λ j e' h=>?_
  simp only[cn e v,cn e' v']
  exact As (PW.d h hs)
 .refine PG.onOE h λ w e h=>kT (HI e hv) λ d d' bn ux v v' bU=>?_;subst ux
  refine PG.onOE h λ i e h=>PG.onOE h λ j e' h=>PG.onOE h λ Tp gK h=>PG.needE h λ h1 h=>?_
  simp only[cn e v,cn e' v',cn gK bU]
  exact Ar (Pv (bE h1).1) (A00 (bE h1).2) (PW.d h hs)
theorem Dk(hk:0<k){ws:List W}{ds:List D}(h:PW Hd m (BH s .list ws) Q E)(hv:eu m ws ds)(hs:SR Hd m m s S):AC g k (.ty "list") ds S Q E:=by
 refine PG.onOE h λ w e h=>aD (dY e hv) λ d ak v=>?_;subst ak
 refine PG.elOE h (λ l e h=>?_) λ h=>?_
 .refine PG.needE h λ h1 h=>KC (gE e v hs) (A00 h1) (PW.d h hs)
 .refine PG.onOE h λ l e h=>PG.needE h λ h1 h=>?_
  have e:=iQ e v
  cases d with
  |tup x=>exact FA (by rw[A02 e];exact A00 h1) (by rw[A02 e];exact PW.d h hs)
  |rng a b t=>
   refine mC e λ ht e=>?_
   obtain rfl:=eq_of_beq ht
   obtain⟨n,a1,a2,a3,rfl⟩:=tX e
   rw[f9]at h1
   rw[vC]at h
   exact FC hk a1 a2 (A00 h1) (PW.d h hs)
  |_=>exact bJ e
theorem DF{d:D}{l:List Nat}(e:kL d=some l)(q:Q (.str l) S):AC g k (.bi "repr") [d] S Q E:=by
 cases d with
 |none=>exact Ew (A02 e▸q)
 |int i=>
  refine mC e λ h e=>Ex (A00 h) (A02 e▸q)
 |_=>exact bJ e
theorem KM(hk:0<k){b:BI}{ws:List W}{ds:List D}(hb:b≠.ksorted)(h:PW Hd m (BH s b ws) Q E)(hv:eu m ws ds)(hs:SR Hd m m s S):AC g k (Ot b) ds S Q E:=by
 cases b with
 |range=>exact xg h hv hs
 |list=>exact Dk hk h hv hs
 |ksorted=>exact absurd rfl hb
 |len=>
  refine PG.onOE h λ w e h=>aD (dY e hv) λ d ak v=>?_;subst ak
  refine PG.onOE h λ n e h=>PG.needE h λ h1 h=>Gl (Dp e v hs) (A00 h1) (PW.d h hs)
 |ord=>
  refine PG.onOE h λ w e h=>aD (dY e hv) λ d ak v=>?_;subst ak
  refine PG.onOE h λ l e h=>PG.onOE h λ c e2 h=>?_
  simp only[kK e v,cF e2]
  exact Nf (PW.d h hs)
 |chr=>
  refine PG.onOE h λ w e h=>aD (dY e hv) λ d ak v=>?_;subst ak
  refine PG.onOE h λ i e h=>PG.needE h λ h1 h=>?_
  rw[cn e v]
  exact Nr (A00 (bE h1).1) (A00 (bE h1).2) (PW.d h hs)
 |tuple=>
  refine PG.onOE h λ w e h=>aD (dY e hv) λ d ak v=>?_;subst ak
  refine PG.onOE h λ l e h=>PG.needE h λ h1 h=>Er (gE e v hs) (A00 h1) (PW.d h hs)
 |bytes=>
  refine PG.onOE h λ w e h=>aD (dY e hv) λ d ak v=>?_;subst ak
  refine PG.onOE h λ l e h=>PG.onOE h λ ns e2 h=>PG.needE h λ h1 h=>FG hk (mU e2▸gE e v hs) (vz (bE h1).1) (A00 (bE h1).2) (PW.d h hs)
 |max=>
  refine PG.onOE h λ w e h=>je (rO e hv) λ d d' dz v v'=>?_;subst dz
  refine PG.onOE h λ i e h=>PG.onOE h λ j e' h=>?_
  simp only[cn e v,cn e' v']
  exact Nj hk (PW.d h hs)
 |repr=>
  refine PG.onOE h λ w e h=>aD (dY e hv) λ d ak v=>?_;subst ak
  refine PG.onOE h λ x e h=>PG.onOE h λ l e2 h=>?_
  rw[cr e v]
  exact DF e2 (PW.d h hs)
 |sorted=>
  refine PG.onOE h λ w e h=>aD (dY e hv) λ d ak v=>?_;subst ak
  refine PG.onOE h λ x e h=>PG.onOE h λ l e2 h=>PG.onOE h λ l' e3 h=>?_
  simp only[cr e v,qN e2]
  exact Aq e3 (PW.d h hs)
theorem Dv{l:List (List Int)}(h:lg l=true):∀x∈l,∀y∈l,x.headD 0=y.headD 0->x=y:=λ x hx y hy e=>by
 have:=A06 (A06 h x hx) y hy
 rcases Bool.or_eq_true_iff.mp this with h|h
 .exact absurd e (bne_iff_ne.mp h)
 .exact eq_of_beq h
theorem Il{ws:List W}{ds:List D}(h:PW Hd m (BH s .ksorted ws) Q E)(hv:eu m ws ds)(hs:SR Hd m m s S):∃l:List (List Int),ds=[.list (l.map λ x=>.tup (x.map .int))]/\l.length<64/\(∀y∈l,y≠[])/\(∀x∈l,∀y∈l,x.headD 0=y.headD 0->x=y)/\Q (.list ((cN Ic l).map λ x=>.tup (x.map .int))) S:=by
 refine PG.onOE h λ w e h=>aD (dY e hv) λ d ak v=>?_;subst ak
 refine PG.onOE h λ x e h=>PG.onOE h λ l e2 h=>PG.onOE h λ l' e3 h=>?_
 simp only[cr e v,qN e2]
 refine d8 e3 λ ts e4 e5=>mC e5 λ h1 h2=>iK h1 λ a1 a2 a3=>⟨ts,by rw[jP e4],Nat.lt_of_le_of_lt (A00 a1) (by decide),λ y hy q=>?_,Dv a3,A02 h2▸PW.d h hs⟩
 have:=A06 a2 y hy
 rw[q]at this;exact dJ this
noncomputable def QR:ut->D
 |.int=>.ty "int" | .bool=>.ty "bool" | .cls C=>.ref C
theorem Lp{α:Type}{o o':Option α}{a:α}(h:o.or o'=some a):o=some a\/o'=some a:=match o,h with
 |some _,h=>.inl h
 |none,h=>.inr h
theorem ED{C C':Nat}{fs:List (Nat×D)}{b:Bool}(gf:GF g row)(h:MN (.inst C fs) (.cls C')=some b)(q:Q (.bool b) S):AC g k (.bi "isinstance") [.inst C fs,.ref C'] S Q E:=by
 rcases Lp h with h|h
 .refine mC h λ e h2=>ey e λ e1 e2=>?_
  rw[<-eq_of_beq e1]
  exact vy (gf.is C ((Bool.or_eq_true_iff.mp e2).imp eq_of_beq eq_of_beq)) (A02 h2▸q)
 .refine mC h λ e h2=>?_
  rw[<-A02 h2]at q
  rcases Bool.or_eq_true_iff.mp e with e|e
  .simp only[eq_of_beq (bE e).1,eq_of_beq (bE e).2]
   exact oK gf.isn.1 q
  .simp only[eq_of_beq (bE e).1,eq_of_beq (bE e).2]
   exact oK gf.isn.2 q
theorem EC{w:W}{t:ut}{d:D}{b:Bool}(gf:GF g row)(h:JA w t=some b)(hv:VR m w d)(q:Q (.bool b) S):AC g k (.bi "isinstance") [d,QR t] S Q E:=by
 have h:=iQ h hv
 cases d with
 |int i=>cases t with
  |int=>exact iJ (A02 h▸q)
  |bool=>exact mX (A02 h▸q)
  |cls _=>exact bJ h
 |none=>cases t with
  |bool=>exact kg (A02 h▸q)
  |_=>exact bJ h
 |inst C fs=>cases t with
  |cls C'=>exact ED gf h q
  |_=>exact bJ h
 |_=>exact bJ h
end
theorem tI(h:Kx C f=true):f<12:=(by decide:∀p∈R5,p.2<12) _ (List.contains_iff_mem.mp h)
theorem lf{α β:Type} [BEq α] [LawfulBEq α] {a:α}{b:β}:∀{l:List (α×β)},l.lookup a=some b->(a,b)∈ l:=by
 intro zl
 induction zl with
 |nil=>
  intro bc
  exact bJ bc
 |cons zh zt ih=>
  intro bc
  obtain⟨x,y⟩:=zh
  rw[List.lookup_cons]at bc
  cases e:a==x with
  |true=>rw[e]at bc;simp only[eq_of_beq e,<-A02 bc];exact .head _
  |false=>rw[e]at bc;exact .tail _ (ih bc)
theorem y0{C m f:Nat}(h:Kk C m=some f):m<20/\(eO f).isSome=true:=(by decide +kernel:∀p∈QD,p.1.2<20/\(eO p.2).isSome=true) _ (lf h)
theorem yc(h:Kk C m=some f):∃a,eO f=some a:=A12 (y0 h).2
theorem ya(h:Kk C m=some f):m<20:=(y0 h).1
theorem yd{α:Type}{fs:List (Nat×α)}(hm:m<20)(h:QE m fs=true):∀p∈fs,p.1<12->bh p.1≠l7 m:=by
 intro p hp hx
 have:∀x:Fin 12,∀m:Fin 20,bh x.1=l7 m.1->m.1=6/\x.1=9:=by decide +kernel
 intro e
 refine aj (this ⟨p.1,hx⟩ ⟨m,hm⟩ e) λ e1 e2=>?_
 dsimp only at e1 e2
 subst e1
 have:=A06 (h) p hp
 rw[e2]at this;exact dJ this
section
variable {m:List Addr}
theorem FW.look(h:FW m fs gs):fs.lookup f=some w->∃d,gs.lookup f=some d/\VR m w d:=by
 induction h with
 |nil=>intro e;exact bJ e
 |@cons f' w' d' fs gs h _ ih=>
  intro e
  simp only[List.lookup_cons]at e ⊢
  cases q:f==f' with
  |true=>rw[q]at e;exact ad _ rfl (A02 e▸h)
  |false=>rw[q]at e;exact ih e
theorem FW.put(h:FW m fs gs)(hv:VR m w d):FW m (nv f w fs) (nO f d gs):=by
 induction h with
 |nil=>exact .cons hv .nil
 |@cons f' w' d' fs gs h r ih=>
  rw[sZ,js]
  cases f==f' with
  |true=>exact .cons hv r
  |false=>exact .cons h ih
theorem FW.len(h:FW m fs gs):fs.length=gs.length:=by
 induction h with
 |nil=>rfl
 |cons _ _ ih=>simp[ih]
theorem FW.keys(h:FW m fs gs):∀p∈gs,∃q∈fs,q.1=p.1:=by
 induction h with
 |nil=>intro p hp;exact cu hp
 |cons _ _ ih=>
  intro p hp
  rcases A03 hp with rfl|hp
  .exact ad _ (.head _) rfl
  .refine aD (ih p hp) λ q h1 h2=>?_;exact ad q (.tail _ h1) h2
end
noncomputable def O9:ME->Option D
 |.fn f=>(eO f).map .ref
 |.app=>some (.bi "list.append") | .pop=>some (.bi "list.pop") | .ext=>some (.bi "list.extend") | .sj=>some (.bi "str.join") | .bj=>some (.bi "bytes.join") | .dget=>some (.bi "dict.get")
def SC(g:c8)(k:Nat)(C:Nat->List W->St->R W):Prop:=∀(f:Nat)(a:Addr)(ws:List W)(ds:List D)(Hd:aN)(m:List Addr)(s:St)(S:aN)(Q:D->aN->Prop)(E:D->Prop),
 ec f=some a->SR Hd m m s S->eu m ws ds->PW Hd m (C f ws s) Q E->wR g k (.ref a) ds S Q E
section
variable {Hd:aN}
theorem IK(h:Rq d=some x):d=x/\d.nobi=true:=by
 cases d with
 |bi _=>exact bJ h
 |_=>exact⟨A02 h,rfl⟩
theorem xd(h:Ph w=some x)(hv:VR m w d):VR m x d/\d.nobi=true:=match w,h,hv with
 |.d y,h,hv=>by
  refine d8 h λ z e h=>aj (IK e) λ e1 e2=>?_
  rw[show d=y from hv,<-A02 h]
  exact⟨e1,e2⟩
 |.r _,h,⟨a,e,hm⟩=>by rw[<-A02 h,e];exact⟨.r hm,rfl⟩
theorem EF(h:MP d=some p):d=.inst p.1 p.2:=by
 cases d with
 |inst C fs=>rw[<-A02 h]
 |_=>exact bJ h
theorem rA(gf:GF g row)(h:m9 s w f=some x)(hv:VR m w d)(hs:SR Hd m m s S)(q:∀d',VR m x d'->Q d' S):AG g d (bh f) S Q E:=match w,h,hv with
 |.d y,h,hv=>by
  refine d8 h λ p e h=>mC h λ e1 h=>d8 h λ z e2 h=>?_
  rw[show d=y from hv,EF e]
  refine aj (xd h (VR.d (m:=m) z)) λ v n=>ER (tI e1) (gf.at' _ _ e1) e2 n (q _ v)
 |.r i,h,⟨a,e0,hm⟩=>by
  refine d8 h λ p e h=>mC h λ e1 h=>d8 h λ z e2 h=>dP (hs.getI (li e) hm) λ dx gs h1 h2=>aD (h2.look e2) λ d' hl hv=>aj (xd h hv) λ v n=>?_
  rw[e0]
  exact zb h1 (tI e1) (gf.at' _ _ e1) hl n (q _ v)
theorem pf(gf:GF g row)(h:pg s w f x=some s')(hv:VR m w d)(hx:VR m x dx)(hs:SR Hd m m s S)(q:∀S',SR Hd m m s' S'->Q S'):AS g d (bh f) dx S Q:=by
 refine d8 h λ i e h=>aD (kM e hv) λ a ak hm=>?_;subst ak
 refine d8 h λ p e h=>mC h λ e1 h=>ey e1 λ e1 e2=>je (hs.setI (li e) hm) λ dy gs h1 _ h2=>aD (h2 _ _ (h1.put (f:=f) hx)) λ S' U EQ=>?_
 rw[A02 h]at EQ
 exact xR U (tI e1) (gf.st _ _ e1) (by rw[<-h1.len];exact A00 e2) (q _ EQ)
inductive Rc (g:c8)(S:aN)(d:D)(n:Nat)(e:ME):Prop where
 |mk (fd:D) (h:O9 e=some fd) (hj:(e=.sj->d=.str [])/\(e=.bj->d=.bytes [])) (k:∀Q:D->List D->aN->Prop,Q fd [d] S->AM g d (l7 n) S Q)
theorem MB(h:eO f=some a):O9 (.fn f)=some (.ref a):=by
 refine(?_:(eO f).map D.ref=_)
 rw[h];rfl
theorem Rw:(ME.fn f=.sj->P)/\(ME.fn f=.bj->Q):=⟨nofun,nofun⟩
theorem MC(L:LV S d ds)(h:mL n=some e):Rc g S d n e:=match n,h with
 |0,h=>by simp only[<-A02 h];exact⟨_,rfl,⟨nofun,nofun⟩,λ Q q=>oO (.list L) PySem.F.plainAttrs_list PySem.F.slot_list_append (by kernel_rfl) q⟩
 |1,h=>by simp only[<-A02 h];exact⟨_,rfl,⟨nofun,nofun⟩,λ Q q=>oO (.list L) PySem.F.plainAttrs_list PySem.F.slot_list_pop (by kernel_rfl) q⟩
 |2,h=>by simp only[<-A02 h];exact⟨_,rfl,⟨nofun,nofun⟩,λ Q q=>oO (.list L) PySem.F.plainAttrs_list PySem.F.slot_list_extend (by kernel_rfl) q⟩
theorem yR(gf:GF g row)(h:Dc s (.d d) n=some e):Rc g S d n e:=by
 cases d with
 |inst C fs=>
  refine mC h λ e2 h=>d8 h λ f e1 h=>aS (yc e1) λ a ha=>?_
  simp only[<-A02 h]
  exact⟨.ref a,MB ha,Rw,λ Q q=>I7 (gf.me _ _ _ _ e1 ha) (yd (ya e1) e2) q⟩
 |dict ks=>
  refine mC h λ e2 h=>?_
  simp only[<-A02 h,eq_of_beq e2]
  exact⟨_,rfl,⟨nofun,nofun⟩,λ Q q=>oO .dict PySem.F.plainAttrs_dict PySem.F.slot_dict_get PySem.F.type_dict_get q⟩
 |str l=>
  refine mC h λ e2 h=>ey e2 λ e2 e3=>?_
  simp only[<-A02 h,eq_of_beq e2,A08 e3]
  exact⟨_,rfl,⟨λ _=>rfl,nofun⟩,λ Q q=>oO .str PySem.F.plainAttrs_str PySem.F.slot_str_join (by kernel_rfl) q⟩
 |bytes l=>
  refine mC h λ e2 h=>ey e2 λ e2 e3=>?_
  simp only[<-A02 h,eq_of_beq e2,A08 e3]
  exact⟨_,rfl,⟨nofun,λ _=>rfl⟩,λ Q q=>oO .bytes FB.plainAttrs_bytes gC (by kernel_rfl) q⟩
 |_=>exact bJ h
theorem Db(gf:GF g row)(h:Dc s w n=some e)(hv:VR m w d)(hs:SR Hd m m s S):Rc g S d n e:=match w,h,hv with
 |.d x,h,hv=>(hv)▸yR gf h
 |.r i,h,⟨a,e0,hm⟩=>by
  refine d8 h λ o e1 h=>?_
  rw[e0]
  cases o with
  |gone=>exact bJ h
  |list ds=>exact MC (.own (hs.getL e1 hm)) h
  |inst C fs=>
   refine mC h λ e2 h=>d8 h λ f e3 h=>aS (yc e3) λ b hb=>dP (hs.getI e1 hm) λ dx gs h1 h2=>?_
   simp only[<-A02 h]
   refine⟨.ref b,MB hb,Rw,λ Q q=>I6 h1 (gf.me _ _ _ _ e3 hb) (λ p hp hx=>?_) q⟩
   refine aD (h2.keys p hp) λ q' hq e=>?_
   rw[<-e]at hx ⊢
   exact yd (ya e3) e2 q' hq hx
theorem jv(h:eO f=some a):ec f=some a:=by
 unfold eO at h;unfold ec
 cases e:mK[f]? with
 |none=>rw[e]at h;exact bJ h
 |some x=>rw[e]at h;cases x with
  |fn a _ _ _ _ _=>exact h
  |cls _ _ _=>exact bJ h
theorem Ed(h:NR d=some l):d=.dict l:=by
 cases d with
 |dict j=>exact congrArg D.dict (A02 h)
 |_=>exact bJ h
theorem Dg(hC:SC g k C)(h:PW Hd m (qH C s e w ws) Q E)(he:O9 e=some fd)(hv:VR m w d)(v6:eu m ws ds)(hs:SR Hd m m s S)
  (hw:(e=.sj->d=.str [])/\(e=.bj->d=.bytes [])):AC g k fd (d::ds) S Q E:=by
 cases e with
 |fn f=>
  have he:(eO f).map D.ref=some fd:=he
  refine aD (Option.map_eq_some_iff.mp he) λ a ha he=>?_
  rw[<-he]
  exact(hC f a _ _ Hd m s S Q E (jv ha) hs (.cons hv v6) h).ac
 |app=>
  refine PG.onOE h λ x e h=>aD (dY e v6) λ dx ak vx=>?_;subst ak
  refine PG.onOE h λ y e h=>PG.onOE h λ i e1 h=>PG.onOE h λ l e2 h=>PG.needE h λ h1 h=>aD (kM e1 hv) λ a ak hm=>?_;subst ak
  refine aD (hs.setL (l++[y]) (fm e2) hm) λ S' U EQ=>?_
  simp only[cr e vx,<-A02 he]
  exact qu U (A00 h1) (PW.d h EQ)
 |pop=>
  refine PG.needE h λ h0 h=>?_
  rw[A08 h0]at v6
  refine PG.onOE h λ i e1 h=>PG.onOE h λ l e2 h=>PG.onOE h λ x e h=>PG.needE h λ h1 h=>aD (kM e1 hv) λ a ak hm=>?_;subst ak
  refine aD (hs.setL l.dropLast (fm e2) hm) λ S' U EQ=>aS (List.getLast?_eq_some_iff.mp e) λ n ak=>?_;subst ak
  rw[List.dropLast_concat]at U EQ h
  simp only[show ds=[]from v6,<-A02 he]
  exact Nc U (Nat.le_trans (by simp only[List.length_append];exact Nat.le_add_right _ _) (A00 h1)) (PW.d h EQ)
 |ext=>
  refine PG.onOE h λ x e h=>aD (dY e v6) λ dx ak vx=>?_;subst ak
  refine PG.onOE h λ y e h=>PG.onOE h λ i e1 h=>PG.onOE h λ l e2 h=>PG.needE h λ h1 h=>aD (kM e1 hv) λ a ak hm=>?_;subst ak
  refine aD (hs.setL (l++y) (fm e2) hm) λ S' U EQ=>?_
  simp only[qN (iQ e vx),<-A02 he]
  exact BB U (A00 h1) (PW.d h EQ)
 |dget=>
  refine PG.onOE h λ x e h=>je (rO e v6) λ d1 d2 dz v1 v2=>?_;subst dz
  refine PG.onOE h λ i e1 h=>PG.onOE h λ y e2 h=>PG.onOE h λ l e3 h=>PG.needE h λ h1 h=>?_
  simp only[cn e1 v1,cr e2 v2,Ed (iQ e3 hv),<-A02 he]
  exact KF (Bool.not_eq_true' _▸h1) (PW.d h hs)
 |sj=>
  refine PG.onOE h λ x e h=>aD (dY e v6) λ dx ak vx=>?_;subst ak
  refine PG.onOE h λ l e1 h=>PG.onOE h λ ts e2 h=>PG.needE h λ h1 h=>?_
  simp only[hw.1 rfl,<-A02 he]
  exact Eu (Ad e2▸gE e1 vx hs) (A00 h1) (PW.d h hs)
 |bj=>
  refine PG.onOE h λ x e h=>aD (dY e v6) λ dx ak vx=>?_;subst ak
  refine PG.onOE h λ l e1 h=>PG.onOE h λ ts e2 h=>PG.needE h λ h1 h=>?_
  simp only[hw.2 rfl,<-A02 he]
  exact FH (Ee e2▸gE e1 vx hs) (A00 h1) (PW.d h hs)
end
noncomputable def On:List Str:=["MAX_CODE","HEX_DIGITS","LEAST_HEX","RANGE_END","SET_BLANKS","SET_SIGNS","SET_DEEP","BACKSLASH","OPENING","CLOSING","STRING_OPENING","STRING_CLOSING","HAT","AND","MINUS","LAST_ASCII","_law_signs"]
noncomputable def zk:List (Nat×Str):=[(0,Str.ofString "hex_code"),(1,Str.ofString "hex_value"),(2,Str.ofString "place_by_half"),(3,Str.ofString "range_bounds"),(4,Str.ofString "range_is_wanted"),(5,Str.ofString "range_merged"),(6,Str.ofString "CodeSet"),(14,Str.ofString "range_are_like"),(21,Str.ofString "setexpr_strings"),(22,Str.ofString "setexpr_put"),(29,Str.ofString "setexpr_digits"),(30,Str.ofString "setexpr_in_braces"),(31,Str.ofString "setexpr_escaped"),(32,Str.ofString "setexpr_code"),(33,Str.ofString "setexpr_begins_property"),(38,Str.ofString "setexpr_begins_set"),(39,Str.ofString "setexpr_set"),(40,Str.ofString "setexpr_string"),(41,Str.ofString "setexpr_range"),(42,Str.ofString "setexpr_list"),(43,Str.ofString "set_of"),(44,Str.ofString "setexpr_written"),(45,Str.ofString "setexpr_range_written"),(46,Str.ofString "strings_octets"),(47,Str.ofString "setexpr_map"),(48,Str.ofString "longest_of"),(49,Str.ofString "_law_next"),(50,Str.ofString "_law_drawn"),(51,Str.ofString "_law_once"),(52,Str.ofString "_law_ranges"),(53,Str.ofString "_law_longest"),(54,Str.ofString "_law_octets"),(55,Str.ofString "_law_are_members_right"),(56,Str.ofString "_law_is_written_right"),(57,Str.ofString "_law_escape"),(58,Str.ofString "_law_is_escape_right"),(59,Str.ofString "_law_is_map_right"),(60,Str.ofString "law"),(61,Str.ofString "CodeStrings"),(62,Str.ofString "RangeMap"),(63,Str.ofString "SetReader"),(64,Str.ofString "SetSoFar")]
noncomputable def Oo(f:Nat):Option Str:=zk.lookup f
noncomputable def Oc:ut->Option Str
 |.int=>some "int" | .bool=>some "bool" | .cls C=>if C=202 then some "CodeSet" else if C=424 then some "CodeStrings" else none
structure bo (g:c8):Prop where
 gv:∀(i:Nat) x d,On[i]?=some x->qY[i]?=some d->g.tab.lookup x=some d
 bi:∀b,g.tab.lookup (Ku b)=some (Ot b)
 isi:g.tab.lookup (Str.ofString "isinstance")=some (D.bi "isinstance")
 ist:∀t x,Oc t=some x->g.tab.lookup x=some (QR t)
 fn:∀f x a,Oo f=some x->ec f=some a->g.tab.lookup x=some (.ref a)
 bad:g.tab.lookup (Str.ofString "BadSet")=some (.ref g.aBad)
 key:g.tab.lookup (Str.ofString "range_first_of")=some (.ref 89)
noncomputable def pl(e:Expr):Bool:=decide (e.ctorIdx≠22)&&(decide (e.ctorIdx≠7)&&decide (e.ctorIdx≠26))
noncomputable def dC(d:D):Option Const:=match d with
 |.none=>some .none
 |.bool a=>some (.bool a)
 |.int a=>some (.int a)
 |.str l=>some (.str ⟨l.toArray⟩)
 |.bytes l=>some (.bytes l)
 |_=>none
noncomputable abbrev Ns:=List (Str×NameKind)
noncomputable def gl(ns:Ns)(x:Str):Bool:=decide ((x,NameKind.globalImplicit)∈ ns)
theorem hP{α:Type}{o:Option α}{f:α->Bool}{G:Prop}(h:oB o f=true)(k:∀a,o=some a->f a=true->G):G:=by
 cases o with
 |none=>exact dJ h
 |some a=>exact k a rfl h
noncomputable def sC(e:Expr)(f:BoolOp->(List Expr)->Pos->Bool):Bool:=if h:e.ctorIdx=0 then Expr.BoolOp.elim (motive_1:=λ _=>Bool) e h f else false
@[elab_as_elim] theorem lV {e:Expr}{f:BoolOp->(List Expr)->Pos->Bool}{M:Expr->Prop} (h:sC e f=true) (k:∀a b p,f a b p=true->M (.BoolOp a b p)):M e :=
 aS (cg h) λ q h=>Expr.BoolOp.elim (motive_1:=λ e=>∀q,Expr.BoolOp.elim (motive_1:=λ _=>Bool) e q f=true->M e) e q (λ _ _ _ _ h=>k _ _ _ h) q h
noncomputable def GO(e:Expr)(f:Expr->Operator->Expr->Pos->Bool):Bool:=if h:e.ctorIdx=2 then Expr.BinOp.elim (motive_1:=λ _=>Bool) e h f else false
@[elab_as_elim] theorem D5 {e:Expr}{f:Expr->Operator->Expr->Pos->Bool}{M:Expr->Prop} (h:GO e f=true) (k:∀a b c p,f a b c p=true->M (.BinOp a b c p)):M e :=
 aS (cg h) λ q h=>Expr.BinOp.elim (motive_1:=λ e=>∀q,Expr.BinOp.elim (motive_1:=λ _=>Bool) e q f=true->M e) e q (λ _ _ _ _ _ h=>k _ _ _ _ h) q h
noncomputable def Ls(e:Expr)(f:Expr->Expr->Expr->Pos->Bool):Bool:=if h:e.ctorIdx=5 then Expr.IfExp.elim (motive_1:=λ _=>Bool) e h f else false
@[elab_as_elim] theorem IX {e:Expr}{f:Expr->Expr->Expr->Pos->Bool}{M:Expr->Prop} (h:Ls e f=true) (k:∀a b c p,f a b c p=true->M (.IfExp a b c p)):M e :=
 aS (cg h) λ q h=>Expr.IfExp.elim (motive_1:=λ e=>∀q,Expr.IfExp.elim (motive_1:=λ _=>Bool) e q f=true->M e) e q (λ _ _ _ _ _ h=>k _ _ _ _ h) q h
noncomputable def lU(e:Expr)(f:Expr->(List Comprehension)->Scope->Pos->Bool):Bool:=if h:e.ctorIdx=8 then Expr.ListComp.elim (motive_1:=λ _=>Bool) e h f else false
@[elab_as_elim] theorem qB {e:Expr}{f:Expr->(List Comprehension)->Scope->Pos->Bool}{M:Expr->Prop} (h:lU e f=true) (k:∀a b c p,f a b c p=true->M (.ListComp a b c p)):M e :=
 aS (cg h) λ q h=>Expr.ListComp.elim (motive_1:=λ e=>∀q,Expr.ListComp.elim (motive_1:=λ _=>Bool) e q f=true->M e) e q (λ _ _ _ _ _ h=>k _ _ _ _ h) q h
noncomputable def ta(e:Expr)(f:Expr->Expr->List Comprehension->Scope->Pos->Bool):Bool:=if h:e.ctorIdx=10 then Expr.DictComp.elim (motive_1:=λ _=>Bool) e h f else false
@[elab_as_elim] theorem vW {e:Expr}{f:Expr->Expr->List Comprehension->Scope->Pos->Bool}{M:Expr->Prop} (h:ta e f=true) (k:∀a b gs c p,f a b gs c p=true->M (.DictComp a b gs c p)):M e :=
 aS (cg h) λ q h=>Expr.DictComp.elim (motive_1:=λ e=>∀q,Expr.DictComp.elim (motive_1:=λ _=>Bool) e q f=true->M e) e q (λ _ _ _ _ _ _ h=>k _ _ _ _ _ h) q h
noncomputable def qC(e:Expr)(f:Expr->(List CmpOp)->(List Expr)->Pos->Bool):Bool:=if h:e.ctorIdx=15 then Expr.Compare.elim (motive_1:=λ _=>Bool) e h f else false
@[elab_as_elim] theorem kt {e:Expr}{f:Expr->(List CmpOp)->(List Expr)->Pos->Bool}{M:Expr->Prop} (h:qC e f=true) (k:∀a b c p,f a b c p=true->M (.Compare a b c p)):M e :=
 aS (cg h) λ q h=>Expr.Compare.elim (motive_1:=λ e=>∀q,Expr.Compare.elim (motive_1:=λ _=>Bool) e q f=true->M e) e q (λ _ _ _ _ _ h=>k _ _ _ _ h) q h
noncomputable def fM(e:Expr)(f:Expr->(List Expr)->(List Keyword)->Pos->Bool):Bool:=if h:e.ctorIdx=16 then Expr.Call.elim (motive_1:=λ _=>Bool) e h f else false
@[elab_as_elim] theorem eB {e:Expr}{f:Expr->(List Expr)->(List Keyword)->Pos->Bool}{M:Expr->Prop} (h:fM e f=true) (k:∀a b c p,f a b c p=true->M (.Call a b c p)):M e :=
 aS (cg h) λ q h=>Expr.Call.elim (motive_1:=λ e=>∀q,Expr.Call.elim (motive_1:=λ _=>Bool) e q f=true->M e) e q (λ _ _ _ _ _ h=>k _ _ _ _ h) q h
noncomputable def iS(e:Expr)(f:Expr->Str->Pos->Bool):Bool:=if h:e.ctorIdx=20 then Expr.Attribute.elim (motive_1:=λ _=>Bool) e h f else false
@[elab_as_elim] theorem fY {e:Expr}{f:Expr->Str->Pos->Bool}{M:Expr->Prop} (h:iS e f=true) (k:∀a b p,f a b p=true->M (.Attribute a b p)):M e :=
 aS (cg h) λ q h=>Expr.Attribute.elim (motive_1:=λ e=>∀q,Expr.Attribute.elim (motive_1:=λ _=>Bool) e q f=true->M e) e q (λ _ _ _ _ h=>k _ _ _ h) q h
noncomputable def t8(e:Expr)(f:Expr->Expr->Pos->Bool):Bool:=if h:e.ctorIdx=21 then Expr.Subscript.elim (motive_1:=λ _=>Bool) e h f else false
@[elab_as_elim] theorem o5 {e:Expr}{f:Expr->Expr->Pos->Bool}{M:Expr->Prop} (h:t8 e f=true) (k:∀a b p,f a b p=true->M (.Subscript a b p)):M e :=
 aS (cg h) λ q h=>Expr.Subscript.elim (motive_1:=λ e=>∀q,Expr.Subscript.elim (motive_1:=λ _=>Bool) e q f=true->M e) e q (λ _ _ _ _ h=>k _ _ _ h) q h
noncomputable def dA(e:Expr)(f:Str->Pos->Bool):Bool:=if h:e.ctorIdx=23 then Expr.Name.elim (motive_1:=λ _=>Bool) e h f else false
@[elab_as_elim] theorem cA {e:Expr}{f:Str->Pos->Bool}{M:Expr->Prop} (h:dA e f=true) (k:∀a p,f a p=true->M (.Name a p)):M e :=
 aS (cg h) λ q h=>Expr.Name.elim (motive_1:=λ e=>∀q,Expr.Name.elim (motive_1:=λ _=>Bool) e q f=true->M e) e q (λ _ _ _ h=>k _ _ h) q h
noncomputable def sB(e:Expr)(f:(List Expr)->Pos->Bool):Bool:=if h:e.ctorIdx=24 then Expr.List.elim (motive_1:=λ _=>Bool) e h f else false
@[elab_as_elim] theorem qA {e:Expr}{f:(List Expr)->Pos->Bool}{M:Expr->Prop} (h:sB e f=true) (k:∀a p,f a p=true->M (.List a p)):M e :=
 aS (cg h) λ q h=>Expr.List.elim (motive_1:=λ e=>∀q,Expr.List.elim (motive_1:=λ _=>Bool) e q f=true->M e) e q (λ _ _ _ h=>k _ _ h) q h
noncomputable def na(e:Expr)(f:(List Expr)->Nat->Pos->Bool):Bool:=if h:e.ctorIdx=25 then Expr.Tuple.elim (motive_1:=λ _=>Bool) e h f else false
@[elab_as_elim] theorem jD {e:Expr}{f:(List Expr)->Nat->Pos->Bool}{M:Expr->Prop} (h:na e f=true) (k:∀a b p,f a b p=true->M (.Tuple a b p)):M e :=
 aS (cg h) λ q h=>Expr.Tuple.elim (motive_1:=λ e=>∀q,Expr.Tuple.elim (motive_1:=λ _=>Bool) e q f=true->M e) e q (λ _ _ _ _ h=>k _ _ _ h) q h
noncomputable def Lq(e:Expr)(f:(Option Expr)->(Option Expr)->(Option Expr)->Pos->Bool):Bool:=if h:e.ctorIdx=26 then Expr.Slice.elim (motive_1:=λ _=>Bool) e h f else false
@[elab_as_elim] theorem IV {e:Expr}{f:(Option Expr)->(Option Expr)->(Option Expr)->Pos->Bool}{M:Expr->Prop} (h:Lq e f=true) (k:∀a b c p,f a b c p=true->M (.Slice a b c p)):M e :=
 aS (cg h) λ q h=>Expr.Slice.elim (motive_1:=λ e=>∀q,Expr.Slice.elim (motive_1:=λ _=>Bool) e q f=true->M e) e q (λ _ _ _ _ _ h=>k _ _ _ _ h) q h
noncomputable def TQ(ns:Ns)(i:Nat)(x:Str):Bool:=oB ns[i]? λ p=>decide (p.1=x)
noncomputable def pM(ns:Ns)(i:Nat)(x:Str):Bool:=oB ns[i]? λ p=>decide (p.1=x)&&decide (p.2=.local\/p.2=.cell)
mutual
noncomputable def Fq:IE->Bool
 |.cond ..=>false
 |.neg _=>false
 |.not x=>Fq x
 |.boo _ xs=>HW xs
 |_=>true
noncomputable def HW:dS->Bool
 |.nil=>true
 |.cons x xs=>Fq x&&HW xs
end
noncomputable def ab(e:Expr):Bool:=!fM e λ _ xs ks _=>xs.isEmpty&&ks.isEmpty
noncomputable def Jt(ns:Ns)(x:Str)(ci:CI)(k:NameKind):Bool:=match ci with
 |.loc=>decide (k=.local)
 |.glb=>decide (k=.globalImplicit)
 |.fre j=>decide (k=.free)&&decide (ns[j]?=some (x,.cell))
noncomputable def Ak(ns:Ns):List CI->Ns->Bool
 |[],r=>r.isEmpty
 |ci::cs,r=>match r with
  |[]=>false
  |(x,k)::r=>Jt ns x ci k&&(decide (x≠"__debug__")&&(decide (x≠"__classdict__")&&Ak ns cs r))
noncomputable def Al(ns:Ns)(cs:List CI)(sc:Scope):Bool:=decide (sc.kind=.function)&&(decide (sc.names.map (·.1)).Nodup&&(decide (ns.map (·.1)).Nodup&&Ak ns cs sc.names))
noncomputable def Gh(ns:Ns)(i:Nat)(e:Expr):Bool:=dA e λ x _=>pM ns i x
noncomputable def gc(ns:Ns):List Nat->List Expr->Bool
 |[],es=>es.isEmpty
 |i::is,es=>match es with
  |[]=>false
  |e::es=>Gh ns i e&&gc ns is es
noncomputable def sy(ns:Ns)(t:IT)(e:Expr):Bool:=match t with
 |.v i=>Gh ns i e
 |.t is=>na e λ es _ _=>gc ns is es
noncomputable def wM(e:Expr)(x:Str):Bool:=dA e λ y _=>decide (y=x)
theorem eY{e:Expr}{x:Str}(h:wM e x=true):∃p,e=.Name x p:=by
 refine cA h λ y p h=>⟨p,by rw[A00 h]⟩
noncomputable def Tn(ns:Ns)(b:BI)(es:List Expr)(ks:List Keyword):Bool:=match b with
 |.ksorted=>gl ns "range_first_of" && (oB (one ks) (λ k=>decide (k.arg=some "key")&&wM k.value "range_first_of")&&oB (one es) pl)
 |_=>ks.isEmpty
mutual
noncomputable def cQ(ns:Ns)(top:Bool):IE->Expr->Bool
 |.k d,e=>fG e λ c _ _=>decide (dC d=some c)
 |.g i,e=>dA e λ x _=>gl ns x&&decide (On[i]?=some x)
 |.v i,e=>dA e λ x _=>TQ ns i x
 |.bin op l r,e=>GO e λ l' GJ r' _=>decide (GJ=op)&&(cQ ns top l l'&&cQ ns top r r')
 |.cmp op l r,e=>qC e λ l' ops rs _=>oB (one rs) λ r'=>decide (ops=[op])&&(pl r'&&(cQ ns top l l'&&cQ ns top r r'))
 |.cmp2 eX cq l m r,e=>qC e λ l' ops rs _=>oB (two rs) λ q=>decide (ops=[eX,cq])&&(pl q.2&&(cQ ns top l l'&&(cQ ns top m q.1&&cQ ns top r q.2)))
 |.not x,e=>D1 e λ op x' _=>decide (op=.Not)&&cQ ns top x x'
 |.neg x,e=>D1 e λ op x' _=>decide (op=.USub)&&cQ ns top x x'
 |.cond t a b,e=>Ls e λ t' a' b' _=>Fq t&&(cQ ns top t t'&&(cQ ns top a a'&&cQ ns top b b'))
 |.boo all xs,e=>sC e λ op es _=>decide (op=if all then .And else .Or)&&dh ns top xs es
 |.tup xs,e=>na e λ es _ _=>dh ns top xs es
 |.lst xs,e=>sB e λ es _=>dh ns top xs es
 |.lsto xs,e=>sB e λ es _=>dh ns top xs es
 |.ix x i,e=>t8 e λ x' i' _=>pl i'&&(cQ ns top x x'&&cQ ns top i i')
 |.sl _ x a b c,e=>t8 e λ x' i' _=>Lq i' λ a' b' c' _=>cQ ns top x x'&&(El ns top a a'&&(El ns top b b'&&El ns top c c'))
 |.bi b xs,e=>fM e λ fn es ks _=>Tn ns b es ks&&(dA fn λ f _=>gl ns f&&(decide (Ku b=f)&&dh ns top xs es))
 |.isi x t,e=>fM e λ fn es ks _=>ks.isEmpty&&(dA fn λ f _=>oB (two es) λ q=>dA q.2 λ y _=>gl ns f&&(decide (f=Str.ofString "isinstance")&&(gl ns y&&(decide (Oc t=some y)&&(pl q.1&&cQ ns top x q.1)))))
 |.call f xs,e=>fM e λ fn es ks pos=>ks.isEmpty&&(dh ns top xs es&&((dA fn λ x _=>gl ns x&&decide (Oo f=some x)) ||
   (iS fn λ o x ap=>dA o λ y _=>decide (f=8)&&(decide (y=Str.ofString "CodeSet")&&(decide (x=Str.ofString "of")&&(gl ns y&&((ap.endLine==pos.line)&&decide (es.length<30))))))))
 |.meth o m xs,e=>fM e λ fn es ks pos=>ks.isEmpty&&(iS fn λ o' x ap=>decide (x=l7 m)&&((ap.endLine==pos.line)&&(ab o'&&(decide (es.length<30)&&(cQ ns top o o'&&dh ns top xs es)))))
 |.attr o f,e=>iS e λ o' x _=>decide (x=bh f)&&(ab o'&&cQ ns top o o')
 |.comp cs t it ifs elt,e=>lU e λ g8 gs sc _=>oB (one gs) λ q=>decide (q.is_async=0)&&(top&&(Al ns cs sc&&(pl q.iter&&(cQ ns top it q.iter&&(sy sc.names t q.target&&(Jr sc.names ifs q.ifs&&cQ sc.names false elt g8))))))
 |.sset x,e=>fM e λ fn args ks _=>wM fn "sorted" && (gl ns "sorted" && (ks.isEmpty&&oB (one args) λ a=>ta a λ k v gs sc _=>oB (one gs) λ q=>dA k λ y _=>decide (q.is_async=0)&&(wM q.target y&&((fG v λ co _ _=>decide (co=.bool true)) &&
  (oB (two sc.names) (λ z=>decide (sc.kind=.function/\z=((z.1.1,.local),(y,.local))/\(y==("__debug__":Str))=false))&&(q.ifs.isEmpty&&(pl q.iter&&cQ ns top x q.iter)))))))
 |.bad,e=>true
noncomputable def dh(ns:Ns)(top:Bool):dS->List Expr->Bool
 |.nil,es=>es.isEmpty
 |.cons x xs,es=>match es with
  |[]=>false
  |e::es=>pl e&&(cQ ns top x e&&dh ns top xs es)
noncomputable def El(ns:Ns)(top:Bool):IO->Option Expr->Bool
 |.none,o=>o.isNone
 |.some x,o=>oB o λ e=>cQ ns top x e
noncomputable def Jr(ns:Ns):IO->List Expr->Bool
 |.none,o=>o.isEmpty
 |.some x,o=>oB (one o) λ e=>Fq x&&cQ ns false x e
end
noncomputable def rU(r:R W):R Bool:=r.bind λ w s=>D7 (cO w) s
def fL(_:List Addr)(a b:Bool):Prop:=a=b
structure mu (c:Cx)(k:Nat)(top:Bool)(ns:Ns):Prop where
 pos:0<k
 k:k=c.k
 sc:top=true->c.env.scope.names=ns
def SE(g:c8)(k:Nat)(C:Nat->List W->St->R W)(ns:Ns)(top:Bool)(ie:IE)(e:Expr):Prop :=
 ∀(c:Cx) (Hd:aN) (ρ:Rh) (vs:V) (m:List Addr) (s:St) (S:aN) (Q:D->aN->Prop) (E:D->Prop),mu c k top ns->RR g.tab m ns vs ρ->SR Hd m m s S->PW Hd m (ao C ie vs s) Q E->AE g c ρ S e Q E
def ST(g:c8)(k:Nat)(C:Nat->List W->St->R W)(ns:Ns)(top:Bool)(ie:IE)(e:Expr):Prop :=
 ∀(c:Cx) (Hd:aN) (ρ:Rh) (vs:V) (m:List Addr) (s:St) (S:aN) (Q:Bool->aN->Prop) (E:D->Prop),mu c k top ns->RR g.tab m ns vs ρ->SR Hd m m s S->PG Hd fL m (rU (ao C ie vs s)) Q E->AT g c ρ S e Q E
def um(g:c8)(k:Nat)(C:Nat->List W->St->R W)(ns:Ns)(top:Bool)(ie:dS)(e:List Expr):Prop :=
 ∀(c:Cx) (Hd:aN) (ρ:Rh) (vs:V) (m:List Addr) (s:St) (S:aN) (pos:Pos) (Q:List D->aN->Prop) (E:D->Prop),mu c k top ns->RR g.tab m ns vs ρ->SR Hd m m s S->PG Hd eu m (fO C ie vs s) Q E->wL g c ρ S pos e Q E
section
variable {Hd:aN} {α β:Type}
theorem SE.run(dX:SE g k C ns top ie e)(hc:mu c k top ns)(hρ:RR g.tab m ns vs ρ)(hs:SR Hd m m s S)(h:PG Hd rel m ((ao C ie vs s).bind f) Q E){Q1:D->aN->Prop}
  (q:∀m' w s' d S',gL m m'->RR g.tab m' ns vs ρ->VR m' w d->SR Hd m' m' s' S'->PG Hd rel m' (f w s') Q E->Q1 d S'):AE g c ρ S e Q1 E :=
 lE (dX c Hd ρ vs m s S _ E hc hρ hs (PG.bind h)) (λ d S' iM=>by obtain⟨m',w,s',l,hv,cz,h'⟩:=iM;exact q m' w s' d S' l (hρ.mono l) hv cz h') λ _ z=>z
theorem um.run{ies:dS}{es:List Expr}{f:List W->St->R α}{pos:Pos}(dX:um g k C ns top ies es)(hc:mu c k top ns)(hρ:RR g.tab m ns vs ρ)(hs:SR Hd m m s S)(h:PG Hd rel m ((fO C ies vs s).bind f) Q E){Q1:List D->aN->Prop}
  (q:∀m' w s' d S',gL m m'->RR g.tab m' ns vs ρ->eu m' w d->SR Hd m' m' s' S'->PG Hd rel m' (f w s') Q E->Q1 d S'):wL g c ρ S pos es Q1 E:=λ base Y X st H=>
 wpAny_mono (dX c Hd ρ vs m s S pos _ E hc hρ hs (PG.bind h) base Y X st H) (λ _ _ iM=>by obtain⟨X',ds,σ',h1,h2,h3,h4,⟨m',w,s',l,hv,cz,h'⟩⟩:=iM;exact⟨X',ds,σ',h1,h2,h3,h4,q m' w s' ds σ' l (hρ.mono l) hv cz h'⟩) λ _ _ z=>z
theorem j0{Q Q':Bool->aN->Prop}(h:AT g c ρ S e Q E)(hq:∀d σ,Q d σ->Q' d σ):AT g c ρ S e Q' E:=λ base Y X s H=>
 wpAny_mono (h base Y X s H) (λ _ _ iM=>by obtain⟨X',σ',h1,h2,h3,h5⟩:=iM;exact⟨X',σ',h1,h2,h3,hq _ _ h5⟩) λ _ _ z=>z
theorem PG.test{A B:St->R α}{r:R W}(h:PG Hd rel m (r.bind λ w s=>Internal.onO (cO w) λ k=>match k with
  |true=>A s
  |false=>B s) Q E):PG Hd fL m (rU r) (λ b S'=>∃m' s',gL m m'/\SR Hd m' m' s' S'/\(b=true->PG Hd rel m' (A s') Q E)/\(b=false->PG Hd rel m' (B s') Q E)) E:=match r,h with
 |.ok w s,h=>by
  refine PG.onOE (h) λ b e h=>(?_:PG Hd fL m (D7 (cO w) s) _ E)
  simp only[e]
  intro m' b' S' l hb hs
  subst hb
  exact MS m' s l hs (λ q=>PG.mono l (by subst q;exact h)) (λ q=>PG.mono l (by subst q;exact h))
 |.err d,h=>h
 |.no,h=>h
theorem ST.run{A B:St->R α}(dX:ST g k C ns top ie e)(hc:mu c k top ns)(hρ:RR g.tab m ns vs ρ)(hs:SR Hd m m s S)(h:PG Hd rel m ((ao C ie vs s).bind λ w s=>onO (cO w) λ k=>match k with
  |true=>A s
  |false=>B s) Q E){Q1:Bool->aN->Prop} (q:∀m' b s' S',gL m m'->RR g.tab m' ns vs ρ->SR Hd m' m' s' S'->(b=true->PG Hd rel m' (A s') Q E)->(b=false->PG Hd rel m' (B s') Q E)->Q1 b S'):AT g c ρ S e Q1 E :=
 j0 (dX c Hd ρ vs m s S _ E hc hρ hs h.test) λ b S' ⟨m',s',l,cz,a,b'⟩=>q m' b s' S' l (hρ.mono l) cz a b'
noncomputable def zD(e:Expr):Bool:=decide (e.ctorIdx≠3)&&(decide (e.ctorIdx≠0)&&(decide (e.ctorIdx≠5)&&decide (e.ctorIdx≠15)))
theorem sP(h:zD e=true)(env:Env)(w:Sem Value):isTrue e env w=(do let v<-w;standAt e.pos;holding [v] (truthy v)):=by
 cases e with
 |UnaryOp _ _ _=>exact dJ h
 |BoolOp _ _ _=>exact dJ h
 |IfExp _ _ _ _=>exact dJ h
 |Compare _ _ _ _=>exact dJ h
 |_=>rfl
theorem PG.ofB{m:List Addr}{w:W}{d:D}{Q:Bool->aN->Prop}(h:PG Hd fL m (D7 (cO w) s) Q E)(hv:VR m w d)(hs:SR Hd m m s S):∃b,d=.bool b/\Q b S:=by
 cases hb:cO w with
 |none=>rw[hb]at h;exact h.elim
 |some b=>rw[hb]at h;exact ad b (gj hb hv) (h.ok rfl hs)
theorem H6(hv:zD e=true)(dX:SE g k C ns top ie e):ST g k C ns top ie e:=λ c Hd ρ vs m s S Q E hc hρ hs h=>
 KQ (dX.run hc hρ hs h (f:=λ w s=>D7 (cO w) s) λ m' w s' d S' l oe hv cz h'=>let ⟨b,e,q⟩:=PG.ofB h' hv cz;e▸gk q) (sP hv _ _)
def wH(g:c8)(k:Nat)(C:Nat->List W->St->R W)(ns:Ns)(top:Bool)(ie:IE)(e:Expr):Prop:=SE g k C ns top ie e/\(Fq ie=true->ST g k C ns top ie e)
theorem wH.val(hv:zD e=true)(dX:SE g k C ns top ie e):wH g k C ns top ie e:=⟨dX,λ _=>H6 hv dX⟩
theorem fb(h:pl e=true)(es:List Expr)(env:Env):starEach (e::es) env=(false,eval e env)::starEach es env:=by
 cases e with
 |Starred _ _=>exact dJ h
 |_=>rfl
theorem jo:∀{es:List Expr}{ies:dS}(_:dh ns top ies es=true)(pos:Pos)(env:Env),(backTo pos (starEach es env)).any (·.1)=false/\(backTo pos (starEach es env)).all (λ p=>!p.1)=true
 |[],_,_,_,_=>⟨rfl,rfl⟩
 |e::es,.nil,h,_,_=>dJ h
 |e::es,.cons x xs,h,pos,env=>by
  refine iK h λ h1 _ h3=>aj (jo h3 pos env) λ i1 i2=>?_
  rw[fb h1]
  unfold backTo at *
  simp only[List.map_cons,List.any_cons,List.all_cons,i1,i2]
  exact⟨rfl,rfl⟩
theorem l9(h:pl e=true)(op:CmpOp):behindInMarks op e=false:=by
 cases e with
 |Set _ _ _=>exact dJ h
 |_=>rfl
theorem wC{f:Expr}{args:List Expr}{kw:List Keyword}{pos:Pos}(h:(args.isEmpty&&kw.isEmpty)=false)(x:Str)(env:Env)(w:Sem Value):attributeBase (.Call f args kw pos) x env w=w:=by
 cases args with
 |cons _ _=>cases f<;>rfl
 |nil=>cases kw with
  |cons _ _=>cases f<;>rfl
  |nil=>exact tm h
theorem u0(h:ab e=true)(x:Str)(env:Env)(w:Sem Value):attributeBase e x env w=w:=by
 cases e with
 |Call f args kw pos=>exact wC (Bool.not_eq_true' _▸h) x env w
 |_=>rfl
theorem H3(h:pl e=true)(o i:Value):subscripted e false o i=operate [o,i] (getItem o i):=by
 cases e with
 |Slice _ _ _ _=>exact dJ h
 |_=>rfl
theorem ku(h:pl e=true)(env:Env)(x:Value):foldedSetIterable e env x=pure x:=by
 cases e with
 |Set _ _ _=>exact dJ h
 |_=>rfl
end
def AB(g:c8)(c:Cx)(ρ:Rh)(σ:aN)(pos:Pos)(op:BoolOp)(es:List Expr)(Q:D->aN->Prop)(E:D->Prop):Prop :=
 ∀base Y X s,aG g c base Y X ρ σ s.heap->wpAny (M g) c.A (boolOp pos op (evalEach es c.env)) (PV g c base Y X ρ s Q) (EP g c c.os base Y s E) s
section
variable {E:D->Prop}
theorem rE{op:BoolOp}{es:List Expr}{pos:Pos}(h:AB g c ρ σ pos op es Q E):AE g c ρ σ (.BoolOp op es pos) Q E:=λ base Y X s H=>h base Y X s H
theorem B6{op:BoolOp}{x:Expr}{pos:Pos}(h:AE g c ρ σ x Q E):AB g c ρ σ pos op [x] Q E:=λ base Y X s H=>h base Y X s H
theorem pI{op:BoolOp}{x y:Expr}{es:List Expr}{pos:Pos}(h:AE g c ρ σ x (λ d σ'=>Oz g d σ' (λ b σ''=>(b=(op==.And)->AB g c ρ σ'' pos op (y::es) Q E)/\(b≠(op==.And)->Q d σ''))) E):AB g c ρ σ pos op (x::y::es) Q E:=λ base Y X s H=>by
 refine wpAny_bind (wpAny_mono (h base Y X s H) ?_ λ _ _ z=>z)
 rintro v aB ⟨bA,d,aM,aY,aZ,aJ,aL,q⟩
 refine wpAny_bind (wpAny_standAt ?_)
 refine wpAny_bind (wpAny_holding ?_)
 refine wpAny_mono (q c base Y bA ρ aB v E aZ aL) ?_ λ _ _ z=>z.back aJ
 rintro b aP ⟨az,a9,aU,am,au,dD⟩
 cases op<;>cases b
 .exact wpAny_pure ⟨az,d,a9,aY.trans aU,am,aJ.trans au,aL.mono aU,dD.2 (by decide)⟩
 .exact wpAny_mono (dD.1 rfl base Y az aP am) (λ _ _ z=>z.back (aY.trans aU) (aJ.trans au)) λ _ _ z=>z.back (aJ.trans au)
 .exact wpAny_mono (dD.1 rfl base Y az aP am) (λ _ _ z=>z.back (aY.trans aU) (aJ.trans au)) λ _ _ z=>z.back (aJ.trans au)
 .exact wpAny_pure ⟨az,d,a9,aY.trans aU,am,aJ.trans au,aL.mono aU,dD.2 (by decide)⟩
end
def ON(g:c8)(k:Nat)(C:Nat->List W->St->R W)(ns:Ns)(top:Bool)(ie:dS)(e:List Expr):Prop :=
 ∀(c:Cx) (Hd:aN) (ρ:Rh) (vs:V) (m:List Addr) (s:St) (S:aN) (pos:Pos) (all:Bool),mu c k top ns->RR g.tab m ns vs ρ->SR Hd m m s S ->
  (∀(Q:D->aN->Prop) (E:D->Prop),PW Hd m (AV C all ie vs s) Q E->AB g c ρ S pos (if all then .And else .Or) e Q E)/\
  (HW ie=true->∀(Q:Bool->aN->Prop) (E:D->Prop),PG Hd fL m (rU (AV C all ie vs s)) Q E->Gw g c ρ S (if all then .And else .Or) e Q E)
def SO(g:c8)(k:Nat)(C:Nat->List W->St->R W)(ns:Ns)(top:Bool)(io:IO)(o:Option Expr):Prop :=
 ∀(c:Cx) (Hd:aN) (ρ:Rh) (vs:V) (m:List Addr) (s:St) (S:aN) (Q:D->aN->Prop) (E:D->Prop),mu c k top ns->RR g.tab m ns vs ρ->SR Hd m m s S->PW Hd m (Bg C io vs s) Q E->AO g c ρ S o Q E
def SI(g:c8)(k:Nat)(C:Nat->List W->St->R W)(ns:Ns)(io:IO)(es:List Expr):Prop :=
 ∀(c:Cx) (Hd:aN) (ρ:Rh) (vs:V) (m:List Addr) (s:St) (S:aN) (Q:Bool->aN->Prop) (E:D->Prop),mu c k false ns->RR g.tab m ns vs ρ->SR Hd m m s S->PG Hd fL m (NK C io vs s) Q E->Gy g c ρ S es Q E
section
variable {g:c8}
theorem SO.run{io:IO}{o:Option Expr}{c:Cx}{Hd:aN}{ρ:Rh}{vs:V}{m:List Addr}{s:St}{S:aN}{E:D->Prop}{α β:Type}{rel:List Addr->α->β->Prop}{f:W->St->R α}{Q:β->aN->Prop}(dX:SO g k C ns top io o)(hc:mu c k top ns)(hρ:RR g.tab m ns vs ρ)(hs:SR Hd m m s S)(h:PG Hd rel m ((Bg C io vs s).bind f) Q E){Q1:D->aN->Prop}
  (q:∀m' w s' d S',gL m m'->RR g.tab m' ns vs ρ->VR m' w d->SR Hd m' m' s' S'->PG Hd rel m' (f w s') Q E->Q1 d S'):AO g c ρ S o Q1 E:=by
 have:=dX c Hd ρ vs m s S _ E hc hρ hs (PG.bind h)
 cases o with
 |none=>obtain⟨m',w,s',l,hv,cz,h'⟩:=this;exact q m' w s' _ S l (hρ.mono l) hv cz h'
 |some e=>exact lE this (λ d S' z=>by obtain⟨m',w,s',l,hv,cz,h'⟩:=z;exact q m' w s' d S' l (hρ.mono l) hv cz h') λ _ z=>z
theorem NU{c:Cx}{ρ:Rh}{S:aN}{E:D->Prop}{Q:D->aN->Prop}{d:D}{co:Const}(h:dC d=some co){i:Nat}{pos:Pos}(q:Q d S):AE g c ρ S (.Constant co i pos) Q E:=by
 cases d with
 |none=>exact A02 h▸uf q
 |bool b=>exact A02 h▸Fa q
 |int b=>exact A02 h▸tJ q
 |str b=>exact A02 h▸KX q
 |bytes b=>exact A02 h▸B1 q
 |_=>exact bJ h
theorem Bt{m:List Addr}:∀{ws:List W}{ds Bh:List D},oS ws=some ds->eu m ws Bh->Bh=ds:=by
 intro zl
 induction zl with
 |nil=>
  intro _ _ h hv
  exact(hv).trans (A02 h)
 |cons w r ih=>
  intro _ _ h hv
  obtain⟨d,es,rfl,hv,hr⟩:=hv
  refine d8 h λ x e h=>d8 h λ l e2 h=>?_
  simp only[cr e hv,ih e2 hr]
  exact A02 h
class inductive kH:Rh->Rh->Prop where
 |refl {ρ:Rh}:kH ρ ρ
 |step {ρ bY ρ':Rh}{x:Str}{d:D} (h:i9 ρ x d bY) (r:kH bY ρ'):kH ρ ρ'
theorem kH.fgt{ρ ρ' cb:Rh}(h:kH ρ ρ')(f:oP ρ cb)(hn:∀x o,(x,SK.loc,o)∈ cb->o=none)(nd:(ρ.map (·.1)).Nodup):oP ρ' cb:=by
 induction h with
 |refl=>exact f
 |step h _ ih=>exact ih (h.fgt f (hn _) nd) (by simp only[h.names];exact nd)
theorem gZ{i:Nat}{x:Str}(h:pM ns i x=true):∃k,ns[i]?=some (x,k)/\(k=.local\/k=.cell):=by
 refine hP h λ p e h=>ey h λ h1 h2=>ad p.2 (by simp only[e,<-A00 h1]) (A00 h2)
section
variable {Q:Rh->aN->Prop}
theorem tn{i:Nat}{x:Str}{pos:Pos}{w:W}{d:D}(h:pM ns i x=true)(hv:VR m w d)(hρ:RR g.tab m ns vs ρ)(q:∀ρ',kH ρ ρ'->RR g.tab m ns (pv vs i w) ρ'->Q ρ' S):AA g c ρ S (.Name x pos) d Q E:=by
 refine aD (gZ h) λ k e1 e2=>aD (hρ.put e1 e2 hv) λ ρ' hp hr=>Fc hp (q ρ' (.step hp .refl) hr)
theorem kH.trans{ρ bY cJ:Rh}(h:kH ρ bY)(k:kH bY cJ):kH ρ cJ:=by
 induction h with
 |refl=>exact k
 |step a _ ih=>exact .step a (ih k)
theorem pu:∀{is:List Nat}{ws:List W}{vs:V},kY vs is ws=some cZ->is.length=ws.length:=by
 intro zl
 induction zl with
 |nil=>
  intro bc cM cT
  cases bc with
  |nil=>
   exact rfl
  |cons zh1 zt1=>
   exact bJ cT
 |cons zh zt ih=>
  intro bc cM cT
  cases bc with
  |nil=>
   exact bJ cT
  |cons kI zt2=>
   exact congrArg (·+1) (ih cT)
theorem eu.len:∀{ws:List W}{ds:List D},eu m ws ds->ws.length=ds.length
 |[],ds,h=>by rw[show ds=[]from h];rfl
 |_::_,_,h=>by
  obtain⟨d,es,rfl,_,r⟩:=h
  exact congrArg (·+1) r.len
theorem qG:∀{is:List Nat}{es:List Expr}{ws:List W}{ds:List D}{vs:V}{ρ:Rh},gc ns is es=true->kY vs is ws=some cZ->eu m ws ds->RR g.tab m ns vs ρ->(∀ρ',kH ρ ρ'->RR g.tab m ns cZ ρ'->Q ρ' S)->
  Bk g c ρ S (es.map λ e=>assign e c.env) ds Q E
 |[],es,[],ds,vs,ρ,h1,h2,hv,hρ,q=>by
  simp only[A08 h1,show ds=[]from hv]
  exact uk (q ρ .refl (A02 h2▸hρ))
 |i::is,e::es,w::ws,ds,vs,ρ,h1,h2,hv,hρ,q=>by
  refine ey h1 λ h0 h3=>cA h0 λ x pos h0=>?_
  obtain⟨d,ds,rfl,hw,hr⟩:=hv
  exact B4 (tn (i:=i) h0 hw hρ λ bY p r=>qG (vs:=pv vs i w) h3 h2 hr r λ ρ' p' r'=>q ρ' (p.trans p') r')
 |[],_,_::_,_,_,_,_,h2,_,_,_=>bJ h2
 |_::_,[],_,_,_,_,h1,_,_,_,_=>dJ h1
 |_::_,_::_,[],_,_,_,_,h2,_,_,_=>bJ h2
inductive Rf (es:List Expr)(n:Nat)(env:Env):Prop where
 |mk (a:(assignEach es env).map (·.2)=(es.map λ e=>assign e env)) (b:(assignEach es env).length=n) (f:(assignEach es env).findIdx? (·.1)=none)
theorem Gq:∀{is:List Nat}{es:List Expr}(_:gc ns is es=true)(env:Env),Rf es is.length env:=by
 intro zl
 induction zl with
 |nil=>
  intro bc cM cT
  rw[A08 cM];exact⟨rfl,rfl,rfl⟩
 |cons zh zt ih=>
  intro bc cM cT
  cases bc with
  |nil=>
   exact dJ cM
  |cons zh1 zt1=>
   refine ey cM λ h0 h3=>cA h0 λ x pos _=>?_
   obtain⟨a,b,f⟩:=ih h3 cT
   refine⟨congrArg (_::·) a,congrArg (·+1) b,?_⟩
   refine(?_:List.findIdx? _ ((false,_)::_)=none)
   rw[List.findIdx?_cons,f];rfl
theorem rT(nL:0<c.k){is:List Nat}{es:List Expr}{k:Nat}{pos:Pos}{ws:List W}{ds:List D}(h1:gc ns is es=true)(h2:kY vs is ws=some cZ)(hv:eu m ws ds)(hρ:RR g.tab m ns vs ρ)(q:∀ρ',kH ρ ρ'->RR g.tab m ns cZ ρ'->Q ρ' S):AA g c ρ S (.Tuple es k pos) (.tup ds) Q E:=by
 obtain⟨a,b,d⟩:=Gq h1 c.env
 exact K1 nL (qG h1 h2 hv hρ q) a (by simp only[b,pu h2,hv.len]) d
theorem eu.ds:∀ds:List D,eu m (ds.map .d) ds:=by
 intro zl
 induction zl with
 |nil=>
  exact .nil
 |cons d ds ih=>
  exact .cons (.d d) (ih)
theorem xm(nL:0<c.k){t:IT}{e:Expr}{x:D}(h1:sy ns t e=true)(h2:gM vs t x=some cZ)(hρ:RR g.tab m ns vs ρ)(q:∀ρ',kH ρ ρ'->RR g.tab m ns cZ ρ'->Q ρ' S):AA g c ρ S e x Q E:=by
 cases t with
 |v i=>
  refine cA h1 λ y pos h=>tn h (.d x) hρ λ ρ' p r=>q ρ' p (A02 h2▸r)
 |t is=>
  refine jD h1 λ es k pos h=>d8 h2 λ ds e h2=>?_
  rw[wc e]
  exact rT nL h h2 (.ds _) hρ q
end
inductive Gr (g:c8)(d:D)(l:List D):Prop where
 |mk (el:Nat->D) (h:Fe g d l.length el (λ _=>True)) (k:∀i,i<l.length->l[i]?=some (el i))
theorem fq{α:Type}(l:List α)(x:α)(i:Nat)(h:i<l.length):l[i]?=some (l.getD i x):=by
 simp only[List.getD_eq_getElem?_getD,List.getElem?_eq_getElem h];rfl
theorem tS{α:Type}{d:D}{l:List α}{f:α->D}{x:α}(h:Fe g d l.length (λ i=>f (l.getD i x)) λ _=>True):Gr g d (l.map f) :=
 ⟨_,by rw[List.length_map];exact h,λ i hi=>by simp only[List.length_map]at hi;simp only[List.getElem?_map,fq l x i hi];rfl⟩
theorem wh{w:W}{d:D}{l:List D}{m:List Addr}(h:nG w=some l)(hv:VR m w d):Gr g d l:=by
 have h:=iQ h hv
 cases d with
 |list ds=>exact A02 h▸⟨_,wi λ _ _=>.frz,fq ds .none⟩
 |tup ds=>exact A02 h▸⟨_,CN,fq ds .none⟩
 |rng a b e=>
  obtain⟨n,h1,h2,h3,rfl⟩:=tX h
  exact⟨_,by rw[f9];exact CP h1 h2,λ i hi=>lJ _ _ _ _ (by simp only[f9]at hi;exact hi)⟩
 |str l=>exact A02 h▸tS CO
 |bytes l=>exact A02 h▸tS vH
 |_=>exact bJ h
theorem RR.at{m:List Addr}{vs:V}{ρ:Rh}{tab:List (Str×D)}(hρ:RR tab m ns vs ρ):∀{j:Nat}{x:Str}{k:NameKind},ns[j]?=some (x,k)->k=.cell->∃o,(x,SK.loc,o)∈ ρ/\∀u,cW vs j=some u->∃d,o=some d/\VR m u d:=by
 induction hρ with
 |nil=>intro j x k e;exact bJ e
 |@loc x k ns w o vs ρ hk h _ ih=>
  intro j x' k' e1 e2
  cases j with
  |zero=>cases e1;exact ad o (.head _) (λ u hu=>h u hu)
  |succ j=>refine aD (ih e1 e2) λ o' h1 h2=>?_;exact ad o' (.tail _ h1) h2
 |fre h _ ih=>
  intro j x' k' e1 e2
  cases j with
  |zero=>cases e1;exact nomatch e2
  |succ j=>refine aD (ih e1 e2) λ o' h1 h2=>?_;exact ad o' (.tail _ h1) h2
 |glb _ ih=>
  intro j x' k' e1 e2
  cases j with
  |zero=>cases e1;exact nomatch e2
  |succ j=>refine aD (ih e1 e2) λ o' h1 h2=>?_;exact ad o' (.tail _ h1) h2
theorem DD{ρ:Rh}{x:Str}{q:SK×Option D}(nd:(ρ.map (·.1)).Nodup)(h:(x,q)∈ ρ):ρ.lookup x=some q:=bW nd h
noncomputable def vQ(ns:Ns)(ρ:Rh)(p:Str×NameKind):Bool:=p.1 != "__debug__" && p.1 != "__classdict__" && p.2 !=.cell&&(p.2 !=.free||(ns.lookup p.1==some .cell&&zE (ρ.lookup p.1)))
theorem Dd{m:List Addr}{vs:V}{ρ:Rh}(hρ:RR g.tab m ns vs ρ)(nd:(ns.map (·.1)).Nodup):∀{cs:List CI}{r:Ns},Ak ns cs r=true->RR g.tab m r (uT vs cs) (hX g.tab ρ r)/\(∀x o,(x,SK.loc,o)∈ hX g.tab ρ r->o=none)/\(∀p∈r,vQ ns ρ p=true):=by
 intro zl
 induction zl with
 |nil=>
  intro bc cM
  rw[A08 cM];exact eN .nil (λ x o cM=>(cu cM)) (λ p cM=>(cu cM))
 |cons zh zt ih=>
  intro bc cM
  cases bc with
  |nil=>
   exact dJ cM
  |cons zh1 zt1=>
   obtain⟨x,k⟩:=zh1
   refine oL cM λ h1 h2 h3 h4=>cI (ih h4) λ i1 i2 i3=>?_
   have nd2:(x != "__debug__" && x != "__classdict__")=true:=Bool.and_eq_true_iff.mpr ⟨bne_iff_ne.mpr (A00 h2),bne_iff_ne.mpr (A00 h3)⟩
   have all (hk:vQ ns ρ (x,k)=true):∀p∈(x,k)::zt1,vQ ns ρ p=true:=λ p hp=>by
    rcases A03 hp with rfl|hp
    .exact hk
    .exact i3 p hp
   cases zh with
   |loc=>
    obtain rfl:=A00 h1
    refine eN (.loc (.inl rfl) (λ u e=>bJ e) i1) (λ y o hy=>?_) (all (by unfold vQ;rw[nd2];rfl))
    rcases A03 hy with e|hy
    .cases e;rfl
    .exact i2 y o hy
   |glb=>
    obtain rfl:=A00 h1
    refine eN (.glb i1) (λ y o hy=>?_) (all (by unfold vQ;rw[nd2];rfl))
    rcases A03 hy with e|hy
    .cases e
    .exact i2 y o hy
   |fre j=>
    refine ey h1 λ h5 h6=>?_
    obtain rfl:=A00 h5
    have h6:=A00 h6
    refine aD (hρ.at h6 rfl) λ o ho hv=>?_
    have hl:ρ.lookup x=some (.loc,o):=DD (by simp only[hρ.nodup];exact nd) ho
    refine eN (.fre (λ u e=>?_) i1) (λ y o hy=>?_) (all (by unfold vQ;simp only[nd2,bW nd (List.mem_of_getElem? h6),hl];rfl))
    .refine aD (hv u e) λ d ak q=>?_;subst ak
     exact ad d (by unfold n6;rw[hl]) q
    .rcases A03 hy with e|hy
     .cases e
     .exact i2 y o hy
theorem pA{c:Cx}{m:List Addr}{vs:V}{ρ:Rh}{cs:List CI}{sc:Scope}(hρ:RR g.tab m ns vs ρ)(ln:c.env.scope.names=ns)(h:Al ns cs sc=true) :
  RR g.tab m sc.names (uT vs cs) (hX g.tab ρ sc.names)/\(∀x o,(x,SK.loc,o)∈ hX g.tab ρ sc.names->o=none)/\eh sc c.env.scope ρ=true:=by
 refine oL h λ h1 h2 h3 h4=>cI (Dd hρ (A00 h3) h4) λ a b d=>eN a b ?_
 unfold eh
 rw[Bool.and_eq_true,Bool.and_eq_true,ln]
 exact⟨⟨by rw[A00 h1];rfl,h2⟩,List.all_eq_true.mpr d⟩
end
section
variable {E:D->Prop}
theorem KY{e:Expr}{Q:D->aN->Prop}(p:σ.Perm σ')(h:AE g c ρ σ' e Q E):AE g c ρ σ e Q E:=λ base Y X s H=>h base Y X s (H.perm p)
theorem F2{e:List Expr}{Q:Bool->aN->Prop}(p:σ.Perm σ')(h:Gy g c ρ σ' e Q E):Gy g c ρ σ e Q E:=λ base Y X s H=>h base Y X s (H.perm p)
end
section
variable {Hd:aN}
theorem SR.hide{as:List Addr}{s:St}{S:aN}(h:SR Hd m as s S)(p:Addr×MO):∃nS,List.Perm (p::S) nS/\SR (p::Hd) m as s nS:=by
 induction h with
 |nil=>exact ad _ (.refl _) .nil
 |obj h _ ih=>refine aD ih λ S' h1 h2=>?_;exact ad _ ((List.Perm.swap _ _ _).trans (.cons _ h1)) (.obj h h2)
 |gone _ ih=>refine aD ih λ S' h1 h2=>?_;exact ad _ h1 (.gone h2)
theorem SR.seek{p:Addr×MO}{as:List Addr}{s:St}{S:aN}(h:SR (p::Hd) m as s S):∃S',List.Perm S (p::S')/\SR Hd m as s S':=by
 induction h with
 |nil=>exact ad _ (.refl _) .nil
 |obj h _ ih=>refine aD ih λ S' h1 h2=>?_;exact ad _ ((List.Perm.cons _ h1).trans (List.Perm.swap _ _ _)) (.obj h h2)
 |gone _ ih=>refine aD ih λ S' h1 h2=>?_;exact ad _ h1 (.gone h2)
inductive VS {α β γ δ:Type}(Hd:aN)(p:Addr×MO)(rel:List Addr->α->β->Prop)(lR:List Addr->γ->δ->Prop)(m:List Addr)(f:α->St->R γ)(Q:δ->aN->Prop)(E:D->Prop)(b:β)(nS:aN):Prop where
 |mk (m':List Addr) (a:α) (s':St) (S:aN) (l:gL m m') (hr:rel m' a b) (hs:SR Hd m' m' s' S) (pm:nS.Perm (p::S)) (h:PG Hd lR m' (f a s') Q E)
theorem PG.bindH{α β γ δ:Type}{rel:List Addr->α->β->Prop}{lR:List Addr->γ->δ->Prop}{E:D->Prop}{r:R α}{f:α->St->R γ}{Q:δ->aN->Prop}(p:Addr×MO)(h:PG Hd lR m (r.bind f) Q E) :
  PG (p::Hd) rel m r (VS Hd p rel lR m f Q E) E:=match r,h with
 |.ok a s,h=>λ m' b S' l hr hs=>by refine aD hs.seek λ S q cz=>?_;exact⟨m',a,s,S,l,hr,cz,q,PG.mono l h⟩
 |.err d,h=>h
 |.no,h=>h
theorem R.bind_assoc{α β γ:Type}(r:R α)(f:α->St->R β)(h:β->St->R γ):(r.bind f).bind h=r.bind λ a s=>(f a s).bind h:=by cases r<;>rfl
theorem PG.noerr{α β:Type}{rel:List Addr->α->β->Prop}{E E':D->Prop}{r:R α}{Q:β->aN->Prop}(h:PG Hd rel m (noerr r) Q E):PG Hd rel m r Q E':=match r,h with
 |.ok a s,h=>h
 |.err d,h=>h.elim
 |.no,h=>h
end
def ro(_:List Addr)(a b:List D):Prop:=a=b
section
variable {ns:Ns}
noncomputable def Kr(C:Nat->List W->St->R W)(cs:List CI)(t:IT)(ifs:IO)(elt:IE)(vs:V)(x:D)(s:St):R (Option D):=onO (gM (uT vs cs) t x) λ cZ=>(NK C ifs cZ s).bind λ b s=>match b with
 |true=>(ao C elt cZ s).bind λ w s=>onO (fV w) λ d=>.ok (some d) s
 |false=>.ok none s
theorem oP.refl:∀ρ:Rh,oP ρ ρ:=by
 intro zl
 induction zl with
 |nil=>
  exact .nil
 |cons p r ih=>
  exact .same (ih)
inductive Gv (Hd:aN)(m:List Addr)(st:D->St->R (Option D))(ds:List D)(Q:D->aN->Prop)(i:Nat)(acc:List D)(σ:aN):Prop where
 |mk (m':List Addr) (s':St) (l:gL m m') (hs:SR Hd m' m' s' σ) (h:PG Hd ro m' (c0 st (ds.drop i) acc s') (λ acc S'=>Q (.list acc) S') FF)
theorem Eg{Hd:aN}{m:List Addr}{st:D->St->R (Option D)}{ds:List D}{s:St}{Q:D->aN->Prop}{E:D->Prop}(h:PW Hd m ((Internal.noerr (c0 st ds [] s)).bind λ l s=>.ok (.d (.list l)) s) Q E):PG Hd ro m (c0 st ds [] s) (λ acc S'=>Q (.list acc) S') FF:=by
 have h1:=PG.noerr (E':=FF) (PG.bind (rel:=ro) h)
 cases hr:c0 st ds [] s with
 |err d=>rw[hr]at h1;exact h1
 |no=>rw[hr]at h1;exact h1
 |ok l s'=>
  rw[hr]at h1
  intro m' b S' l' hb cz
  subst hb
  obtain⟨SB,a,O6,l2,ha,Km,h2⟩:=h1 m' _ S' l' rfl cz
  subst ha
  exact h2.ok (.d _) Km
theorem vr{c:Cx}{vs:V}{Hd:aN}{Lv:Ns}{ρ':Rh}{cs:List CI}{t:IT}{ifs:IO}{elt:IE}{g8:Expr}{g5:List Expr}{Q:D->aN->Prop}{cZ:V}{r:List D}{acc:List D}{x:Addr}{m':List Addr}{s':St}{σ:aN}{I:List D->aN->Prop}
  (hk:k=c.k) (nL:0<k) (hi:SI g k C Lv ifs g5) (he:SE g k C Lv false elt g8) (hr:RR g.tab m' Lv cZ ρ') (cz:SR Hd m' m' s' σ)
  (hI:∀acc au aP dB,gL m' au->SR Hd au au aP dB->PG Hd ro au (c0 (Kr C cs t ifs elt vs) r acc aP) (λ acc S'=>Q (.list acc) S') FF->I acc dB)
  (hp:PG Hd ro m' (((NK C ifs cZ s').bind λ b s=>match b with
   |true=>(ao C elt cZ s).bind λ w s=>onO (fV w) λ d=>.ok (some d) s
   |false=>.ok none s).bind λ o s'=>match o with
   |some d=>c0 (Kr C cs t ifs elt vs) r (acc++[d]) s'
   |none=>c0 (Kr C cs t ifs elt vs) r acc s') (λ acc S'=>Q (.list acc) S') FF) :
  Gy g c ρ' ((x,.list acc)::σ) g5 (λ b σ''=>(b=true->AE g c ρ' σ'' g8 (λ d bb=>∃bq,bb=(x,.list acc)::bq/\I (acc++[d]) bq) FF)/\(b=false->∃bq,σ''=(x,.list acc)::bq/\I acc bq)) FF:=by
 rw[R.bind_assoc]at hp
 refine aD (cz.hide (x,.list acc)) λ ba p1 Qb=>F2 p1 (λ base Y X n3 H=>wpAny_mono (hi c _ ρ' cZ m' s' ba _ FF ⟨nL,hk,nofun⟩ hr Qb (PG.bindH (x,.list acc) hp) base Y X n3 H) ?_ λ _ _ z=>z)
 intro b aP z
 obtain⟨X',a9,a1,a2,a3,au,b',bu,dB,l2,hb,Km,p2,Qe⟩:=z
 subst hb
 refine⟨X',(x,.list acc)::dB,a1,a2.perm p2,a3,λ hb=>?_,λ hb=>?_⟩
 .subst hb
  rw[R.bind_assoc]at Qe
  refine aD (Km.hide (x,.list acc)) λ wG p3 UJ=>KY p3 (ue (lE (he c _ ρ' cZ au bu wG _ FF ⟨nL,hk,nofun⟩ (hr.mono l2) UJ (PG.bindH (x,.list acc) Qe)) (λ d' R8 z=>?_) λ _ z=>z))
  obtain⟨c9,w',dT,OK,l3,hw,UI,p4,Of⟩:=z
  cases e:fV w' with
  |none=>rw[e]at Of;exact Of.elim
  |some d=>
   rw[e]at Of
   rw[cr e hw]
   exact⟨_,p4,OK,rfl,hI _ c9 dT OK (l2.trans l3) UI Of⟩
 .subst hb
  exact ad dB rfl (hI _ au bu dB l2 Km Qe)
theorem uU{c:Cx}{ρ:Rh}{vs:V}{m:List Addr}{s:St}{S:aN}{Hd:aN}{sc:Scope}{cs:List CI}{t:IT}{ifs:IO}{elt:IE}{t' g8:Expr}{g5:List Expr}{w:W}{d:D}{Q:D->aN->Prop}{E:D->Prop}
  (hk:k=c.k) (nL:0<k) (hρ:RR g.tab m ns vs ρ) (ln:c.env.scope.names=ns) (hc:Al ns cs sc=true) (ht:sy sc.names t t'=true) (hi:SI g k C sc.names ifs g5) (he:SE g k C sc.names false elt g8) (hv:VR m w d) (hs:SR Hd m m s S)
  (h:PW Hd m (onO (nG w) λ ds=>need (decide (ds.length<=1000000)) ((Internal.noerr (c0 (Kr C cs t ifs elt vs) ds [] s)).bind λ l s=>.ok (.d (.list l)) s)) Q E):uw g c ρ (hX g.tab ρ sc.names) t' g8 g5 d S (λ acc S'=>Q (.list acc) S'):=by
 refine PG.onOE h λ ds JJ h=>PG.needE h λ hz h=>?_
 have h0:=Eg h
 obtain⟨el,src,Qx⟩:=wh JJ hv
 refine cI (pA hρ ln hc) λ hρc zW G4=>⟨ds.length,el,_,Gv Hd m (Kr C cs t ifs elt vs) ds Q,src,A00 hz,⟨m,s,.refl m,hs,h0⟩,λ _ _ _ _=>⟨trivial,λ _=>trivial⟩,λ c' x i acc σ S9 pQ _ z=>?_,λ acc σ z=>?_⟩
 .obtain⟨m',s',l,cz,hp⟩:=z
  rw[List.drop_eq_getElem_cons pQ,show ds[i]=el i by have:=Qx i pQ;rw[List.getElem?_eq_getElem pQ]at this;exact A02 this]at hp
  cases v6:gM (uT vs cs) t (el i)with
  |none=>
   have hp:PG Hd ro m' (R.bind (onO (gM (uT vs cs) t (el i)) _) _) _ FF:=hp
   rw[v6]at hp;exact hp.elim
  |some cZ=>
   have oe:=hρc.mono l
   have hp:PG Hd ro m' (R.bind (onO (gM (uT vs cs) t (el i)) _) _) _ FF:=hp
   rw[v6]at hp
   refine xm (by simp only[S9,<-hk];exact nL) ht v6 oe λ ρ' eH hr=>⟨eH.fgt (oP.refl _) (λ x o=>zW x o) (by simp only[oe.nodup];exact A00 (ub hc).2.1),?_⟩
   exact vr (I:=Gv Hd m (Kr C cs t ifs elt vs) ds Q (i+1)) (hk.trans S9.symm) nL hi he hr cz (λ acc au aP dB l2 Km hp=>⟨au,aP,l.trans l2,Km,hp⟩) hp
 .obtain⟨m',s',l,cz,hp⟩:=z
  rw[List.drop_length]at hp
  exact hp.ok rfl cz
end
section
variable {top:Bool}
section
variable {Hd:aN}
theorem PG.ts0{o:Option Bool}{Q:Bool->aN->Prop}(h:PG Hd fL m ((Internal.onO o λ k=>.ok (W.d (.bool k)) s).bind λ w s=>D7 (cO w) s) Q E)(hs:SR Hd m m s S):∃b,o=some b/\Q b S:=match o,h with
 |some b,h=>⟨b,rfl,PG.ok (a:=b) h rfl hs⟩
 |none,h=>h.elim
end
theorem C6{op:CmpOp}{l r:IE}{l' r':Expr}{pos:Pos}(hl:SE g k C ns top l l')(hr:SE g k C ns top r r')(zS:pl r'=true):wH g k C ns top (.cmp op l r) (.Compare l' [op] [r'] pos):=by
 refine⟨λ c Hd ρ vs m s S Q E hc hρ hs hp=>?_,λ _ c Hd ρ vs m s S Q E hc hρ hs hp=>?_⟩
 .refine B0 (hl.run hc hρ hs hp λ aJ ck aB bB ba aY aX ag aV aQ=>hr.run hc aX aV aQ λ au kW aP bn dB aU cv cj bP bR=>?_) (l9 zS _)
  refine PG.onOE bR λ b e h=>gz e (ag.mono aU) cj bP (PW.d h bP)
 .unfold rU at hp
  have hp:=show PG Hd fL m (((ao C l vs s).bind _).bind _) Q E from hp
  rw[R.bind_assoc]at hp
  refine KT (hl.run hc hρ hs hp λ aJ ck aB bB ba aY aX ag aV aQ=>?_) (l9 zS _)
  rw[R.bind_assoc]at aQ
  refine hr.run hc aX aV aQ λ au kW aP bn dB aU cv cj bP bR=>aD (PG.ts0 bR bP) λ b e q=>gz e (ag.mono aU) cj bP (qb q)
theorem xF{eX cq:CmpOp}{l q r:IE}{l' q' r':Expr}{pos:Pos}(hl:SE g k C ns top l l')(hq:SE g k C ns top q q')(hr:SE g k C ns top r r')(zS:pl r'=true):wH g k C ns top (.cmp2 eX cq l q r) (.Compare l' [eX,cq] [q',r'] pos):=by
 have hm:∀env,markedEach [eX,cq] [q',r'] [eval q' env,eval r' env]=[eval q' env,eval r' env]:=λ env=>by
  refine(?_:[_,markedBehindIn cq r' _]=_)
  unfold markedBehindIn
  rw[l9 zS]
 refine⟨λ c Hd ρ vs m s S Q E hc hρ hs hp=>?_,λ _ c Hd ρ vs m s S Q E hc hρ hs hp=>?_⟩
 .refine uh (hl.run hc hρ hs hp λ aJ ck aB bB ba aY aX ag aV aQ=>hq.run hc aX aV aQ λ au kW aP bn dB aU cv cj bP bR=>?_) (hm _)
  refine PG.onOE bR λ b e bR=>gz e (ag.mono aU) cj bP (qb ?_)
  cases b with
  |true=>
   refine⟨λ _=>hr.run hc cv bP bR λ c9 vA bu i5 wG bt sS g6 fZ jG=>?_,nofun⟩
   refine PG.onOE jG λ b e h=>gz e (cj.mono bt) g6 fZ (PW.d h fZ)
  |false=>exact⟨nofun,λ _=>PW.d bR bP⟩
 .unfold rU at hp
  have hp:=show PG Hd fL m (((ao C l vs s).bind _).bind _) Q E from hp
  rw[R.bind_assoc]at hp
  refine FV (hl.run hc hρ hs hp λ aJ ck aB bB ba aY aX ag aV aQ=>?_) (hm _)
  rw[R.bind_assoc]at aQ
  refine hq.run hc aX aV aQ λ au kW aP bn dB aU cv cj bP bR=>?_
  cases e:jT aP eX ck kW with
  |none=>rw[e]at bR;exact bR.elim
  |some b=>
   rw[e]at bR
   refine gz e (ag.mono aU) cj bP (qb ?_)
   cases b with
   |true=>
    have bR:=show PG Hd fL au (((ao C r vs aP).bind _).bind _) Q E from bR
    rw[R.bind_assoc]at bR
    refine⟨λ _=>hr.run hc cv bP bR λ c9 vA bu i5 wG bt sS g6 fZ jG=>?_,nofun⟩
    refine aD (PG.ts0 jG fZ) λ b e q=>gz e (cj.mono bt) g6 fZ (qb q)
   |false=>exact⟨nofun,λ _=>PG.ok (a:=false) bR rfl bP⟩
theorem CY{x:IE}{x':Expr}{pos:Pos}(hx:wH g k C ns top x x'):wH g k C ns top (.not x) (.UnaryOp .Not x' pos):=by
 refine⟨λ c Hd ρ vs m s S Q E hc hρ hs hp=>?_,λ ht c Hd ρ vs m s S Q E hc hρ hs hp=>?_⟩
 .refine md (hx.1.run hc hρ hs hp λ aJ ck aB bB ba aY aX ag aV aQ=>?_)
  refine PG.onOE aQ λ b e h=>?_
  rw[gj e ag]
  exact NS (gk (PW.d h aV))
 .refine KS (hx.2 ht c Hd ρ vs m s S (λ b S'=>Q (!b) S') E hc hρ hs ?_)
  have hp:=show PG Hd fL m (((ao C x vs s).bind λ w s=>onO (cO w) λ b=>.ok (.d (.bool !b)) s).bind λ w s=>D7 (cO w) s) Q E from hp
  revert hp
  cases ao C x vs s with
  |no=>exact λ z=>z
  |err d=>exact λ z=>z
  |ok w s'=>
   refine(?_:PG Hd fL m ((onO (cO w) _).bind _) Q E->PG Hd fL m (D7 (cO w) s') _ E)
   cases cO w with
   |none=>exact λ z=>z
   |some b=>exact λ hp m' b' S' l hb cz=>hp m' _ S' l (congrArg (!·) hb) cz
theorem CZ{x:IE}{x':Expr}{pos:Pos}(hx:SE g k C ns top x x'):wH g k C ns top (.neg x) (.UnaryOp .USub x' pos) :=
 ⟨λ c Hd ρ vs m s S Q E hc hρ hs hp=>md (hx.run hc hρ hs hp λ aJ ck aB bB ba aY aX ag aV aQ=>by
  refine PG.onOE aQ λ b e h=>?_
  rw[cn e ag]
  exact GY (PW.d h aV)),nofun⟩
theorem xD{t a b:IE}{t' a' b':Expr}{pos:Pos}(ht:ST g k C ns top t t')(ha:SE g k C ns top a a')(hb:SE g k C ns top b b'):wH g k C ns top (.cond t a b) (.IfExp t' a' b' pos) :=
 ⟨λ c Hd ρ vs m s S Q E hc hρ hs hp=>BZ (ht.run hc hρ hs hp λ aJ Nu aB ba aY aX aV h1 h2=>⟨λ q=>ha c Hd ρ vs _ _ _ _ _ hc aX aV (h1 q),λ q=>hb c Hd ρ vs _ _ _ _ _ hc aX aV (h2 q)⟩),nofun⟩
theorem C7{all:Bool}{xs:dS}{es:List Expr}{pos:Pos}(h:ON g k C ns top xs es):wH g k C ns top (.boo all xs) (.BoolOp (if all then .And else .Or) es pos) :=
 ⟨λ c Hd ρ vs m s S Q E hc hρ hs hp=>rE ((h c Hd ρ vs m s S pos all hc hρ hs).1 Q E hp),λ ht c Hd ρ vs m s S Q E hc hρ hs hp=>FX ((h c Hd ρ vs m s S pos all hc hρ hs).2 ht Q E hp)⟩
theorem PG.items{α β:Type}{Hd:aN}{rel:List Addr->α->β->Prop}{m:List Addr}{ws:List W}{ds:List D}{f:List D->R α}{Q:β->aN->Prop}{E:D->Prop}(h:PG Hd rel m (Internal.onO (oS ws) λ ds=>Internal.need (decide (ds.length<=16777216)) (f ds)) Q E)(hv:eu m ws ds):ds.length<=16777216/\PG Hd rel m (f ds) Q E:=by
 refine PG.onOE h λ l e h=>PG.needE h λ hz h=>?_
 rw[Bt e hv]
 exact⟨A00 hz,h⟩
theorem CU{xs:dS}{es:List Expr}{i:Nat}{pos:Pos}(h:um g k C ns top xs es):SE g k C ns top (.tup xs) (.Tuple es i pos):=λ c Hd ρ vs m s S Q E hc hρ hs hp=>
 mf (h.run hc hρ hs hp λ aJ ck aB bB ba aY aX ag aV aQ=>let ⟨z,h⟩:=PG.items aQ ag;⟨z,PW.d h aV⟩)
theorem C1{xs:dS}{es:List Expr}{pos:Pos}(h:um g k C ns top xs es):SE g k C ns top (.lst xs) (.List es pos):=λ c Hd ρ vs m s S Q E hc hρ hs hp=>
 BX (h.run hc hρ hs hp λ aJ ck aB bB ba aY aX ag aV aQ=>let ⟨z,h⟩:=PG.items aQ ag;⟨z,PW.d h aV⟩)
theorem wy{xs:dS}{es:List Expr}{pos:Pos}(h:um g k C ns top xs es):SE g k C ns top (.lsto xs) (.List es pos):=λ c Hd ρ vs m s S Q E hc hρ hs hp=>
 ue (F7 (h.run hc hρ hs hp λ aJ ck aB bB ba aY aX ag aV aQ=>let ⟨z,h⟩:=PG.items aQ ag;⟨z,λ a=>PW.new h aV a⟩))
theorem Hb{b:BI}{xs:dS}{fp pos:Pos}{es:List Expr}(tb:bo g)(hb:b≠.ksorted)(hf:gl ns (Ku b)=true)(hx:dh ns top xs es=true)(h:um g k C ns top xs es):SE g k C ns top (.bi b xs) (.Call (.Name (Ku b) fp) es [] pos):=λ c Hd ρ vs m s S Q E hc hρ hs hp=>
 j6 (ca (hρ.glob (A00 hf) (tb.bi b)) ⟨by cases b<;>first | exact .bi _ | exact .ty _,h.run hc hρ hs hp λ aJ ck aB bB ba aY aX ag aV aQ=>KM hc.pos hb aQ ag aV⟩) (Nat.le_of_eq hc.k) rfl (jo hx _ _).1
theorem H8{xs:dS}{fp kp kq pos:Pos}{x:Expr}(gf:GF g row)(tb:bo g)(hf:gl ns "sorted" = true)(hk:gl ns "range_first_of" = true)(hp:pl x=true)(h:um g k C ns top xs [x]) :
  SE g k C ns top (.bi .ksorted xs) (.Call (.Name "sorted" fp) [x] [⟨some "key",.Name "range_first_of" kp,kq⟩] pos):=λ c Hd ρ vs m s S Q E hc hρ hs lm=>
 BY (hρ.glob (A00 hf) (tb.bi .ksorted)) (hρ.glob (A00 hk) tb.key) gf.key (h.run hc hρ hs lm λ aJ ck aB bB ba aY aX ag aV aQ=>Il aQ ag aV) (fb hp [] _)
theorem wq{x:IE}{y:Str}{p1 p2 px pos fp cp:Pos}{kd:Nat}{iter:Expr}{sc:Scope}(tb:bo g)(hf:gl ns "sorted" = true)(c1:sc.kind=.function){z:Str}(c2:sc.names=[(z,.local),(y,.local)])(c3:(y==("__debug__":Str))=false)(hp:pl iter=true)(hx:SE g k C ns top x iter) :
  SE g k C ns top (.sset x) (.Call (.Name "sorted" fp) [.DictComp (.Name y p1) (.Constant (.bool true) kd p2) [⟨.Name y px,iter,[],0⟩] sc pos] [] cp):=λ c Hd ρ vs m s S Q E hc hρ hs lm=>by
 refine F6 (hc.k▸hc.pos) (hρ.glob (A00 hf) (tb.bi .sorted)) c1 c2 c3 (hx.run hc hρ hs lm λ aJ ck aB bB ba aY aX ag aV aQ=>?_) (ku hp _)
 refine PG.onOE aQ λ ds e h=>PG.onOE h λ l e2 h=>d8 e λ z e3 e4=>d8 e2 λ ts e5 e6=>mC e6 λ h1 h2=>?_
 have e7:=cr e3 ag
 refine dW ts (by simp only[e7,qN e4,jP e5]) h1 ?_
 simp only[<-jP e5,A02 h2]
 exact PW.d h aV
theorem C2{x:IE}{t:ut}{fp yp pos:Pos}{x':Expr}{y:Str}(gf:GF g row)(tb:bo g)(h1:gl ns (Str.ofString "isinstance")=true)(h3:gl ns y=true)(h4:Oc t=some y)(h5:pl x'=true)(hx:SE g k C ns top x x'):SE g k C ns top (.isi x t) (.Call (.Name (Str.ofString "isinstance") fp) [x',.Name y yp] [] pos):=λ c Hd ρ vs m s S Q E hc hρ hs hp=>by
 refine j6 (ca (hρ.glob (A00 h1) tb.isi) ⟨.bi _,et (hx.run hc hρ hs hp λ aJ ck aB bB ba aY aX ag aV aQ=>?_) (fb h5 _ _)⟩) (Nat.le_of_eq hc.k) rfl (by rw[fb h5];rfl)
 refine et (ca (hρ.glob (A00 h3) (tb.ist t y h4)) (j5 ?_))
 refine PG.onOE aQ λ b e h=>EC gf e ag (PW.d h aV)
theorem JW{f:Nat}{x:Str}(h:Oo f=some x):∃a,ec f=some a:=A12 ((by decide +kernel:∀p∈zk,(ec p.1).isSome=true) _ (lf h))
theorem xG{f:Nat}{xs:dS}{x:Str}{xp pos:Pos}{es:List Expr}(gf:GF g row)(tb:bo g)(hC:SC g k C)(h1:gl ns x=true)(h2:Oo f=some x)(hx:dh ns top xs es=true)(h:um g k C ns top xs es):SE g k C ns top (.call f xs) (.Call (.Name x xp) es [] pos):=λ c Hd ρ vs m s S Q E hc hρ hs hp=>by
 refine aS (JW h2) λ a ha=>j6 (ca (hρ.glob (A00 h1) (tb.fn f x a h2 ha)) ⟨gf.cal f a ha,h.run hc hρ hs hp λ aJ ck aB bB ba aY aX ag aV aQ=>(hC f a _ _ Hd _ _ _ _ _ ha aV ag aQ).ac⟩) (Nat.le_of_eq hc.k) rfl (jo hx _ _).1
theorem uD{xs:dS}{es:List Expr}(hx:dh ns top xs es=true)(h:es.length<30)(pos:Pos)(env:Env):methodCallForm es.length (backTo pos (starEach es env)) []=true:=by
 unfold methodCallForm
 rw[(jo hx pos env).2]
 exact A01 h
theorem H7{xs:dS}{yp ap pos:Pos}{es:List Expr}(gf:GF g row)(tb:bo g)(hC:SC g k C)(h4:gl ns (Str.ofString "CodeSet")=true)(h5:(ap.endLine==pos.line)=true)(h6:es.length<30)(hx:dh ns top xs es=true)(h:um g k C ns top xs es) :
  SE g k C ns top (.call 8 xs) (.Call (.Attribute (.Name (Str.ofString "CodeSet") yp) (Str.ofString "of") ap) es [] pos):=λ c Hd ρ vs m s S Q E hc hρ hs hp=>
 ug (ca (hρ.glob (A00 h4) (tb.fn 6 _ 202 rfl rfl)) (MA gf.sm ⟨gf.cal 8 130 rfl,h.run hc hρ hs hp λ aJ ck aB bB ba aY aX ag aV aQ=>(hC 8 130 _ _ Hd _ _ _ _ _ rfl aV ag aQ).ac⟩)) (Nat.le_of_eq hc.k) rfl h5 (jo hx _ _).1 (uD hx h6 _ _)
theorem Df{e:ME}{fd:D}(gf:GF g row)(h:O9 e=some fd):Bj g.K fd:=by
 cases e with
 |fn f=>
  refine aD (Option.map_eq_some_iff.mp (h)) λ a ha h=>h▸gf.cal f a (jv ha)
 |_=>exact A02 h▸.bi _
theorem wx{o:IE}{n:Nat}{xs:dS}{ap pos:Pos}{o':Expr}{es:List Expr}(gf:GF g row)(hC:SC g k C)(h2:(ap.endLine==pos.line)=true)(h3:ab o'=true)(h4:es.length<30)(ho:SE g k C ns top o o')(hx:dh ns top xs es=true)(h:um g k C ns top xs es) :
  SE g k C ns top (.meth o n xs) (.Call (.Attribute o' (l7 n) ap) es [] pos):=λ c Hd ρ vs m s S Q E hc hρ hs hp=>by
 refine ug (ho.run hc hρ hs hp λ aJ ck aB bB ba aY aX ag aV aQ=>?_) (Nat.le_of_eq hc.k) (u0 h3 _ _ _) h2 (jo hx _ _).1 (uD hx h4 _ _)
 refine PG.onOE aQ λ me e aQ=>?_
 obtain⟨fd,Oi,hj,Uc⟩:=Db gf e ag aV
 exact Uc _ ⟨Df gf Oi,h.run hc aX aV aQ λ au kW aP bn dB aU cv cj bP bR=>Dg hC bR Oi (ag.mono aU) cj bP hj⟩
theorem xJ{o:IE}{f:Nat}{pos:Pos}{o':Expr}(gf:GF g row)(h2:ab o'=true)(ho:SE g k C ns top o o'):SE g k C ns top (.attr o f) (.Attribute o' (bh f) pos):=λ c Hd ρ vs m s S Q E hc hρ hs hp=>by
 refine ui (ho.run hc hρ hs hp λ aJ ck aB bB ba aY aX ag aV aQ=>?_) (by
  refine(?_:(do let o<-attributeBase o' (bh f) c.env (eval o' c.env);standAt pos.atName;let r<-holding [o] (getAttr o (bh f) true);letTemporaryGo o' o r;pure r)=_)
  simp only[u0 h2])
 refine PG.onOE aQ λ x e h=>rA gf e ag aV λ d' v7=>h.ok v7 aV
theorem xE{cs:List CI}{t:IT}{it:IE}{ifs:IO}{elt:IE}{g8 t' mv:Expr}{g5:List Expr}{sc:Scope}{pos:Pos}(h1:top=true)(h2:Al ns cs sc=true)(h3:pl mv=true)(hi:SE g k C ns top it mv)(h5:sy sc.names t t'=true)(h6:SI g k C sc.names ifs g5)(h7:SE g k C sc.names false elt g8) :
  SE g k C ns top (.comp cs t it ifs elt) (.ListComp g8 [⟨t',mv,g5,0⟩] sc pos):=λ c Hd ρ vs m s S Q E hc hρ hs hp=>
 have ln:=hc.sc h1
 F9 (hc.k▸hc.pos) c.env.scope rfl (pA hρ ln h2).2.2 rfl (hi.run hc hρ hs hp λ aJ ck aB bB ba aY aX ag aV aQ=>uU hc.k hc.pos aX ln h2 h5 h6 h7 ag aV aQ) (ku h3 _)
theorem CX{x:IE}{e:Expr}(h:wH g k C ns top x e):ON g k C ns top (.cons x .nil) [e]:=λ c Hd ρ vs m s S pos all hc hρ hs=>by
 refine⟨λ Q E hp=>B6 (h.1 c Hd ρ vs m s S Q E hc hρ hs hp),λ ht Q E hp=>?_⟩
 have hT:=h.2 (bE ht).1 c Hd ρ vs m s S Q E hc hρ hs hp
 cases all with
 |true=>exact u7 (j0 hT λ b S' q=>⟨λ hb=>rB (hb▸q),λ hb=>hb▸q⟩)
 |false=>exact BO (j0 hT λ b S' q=>⟨λ hb=>hb▸q,λ hb=>tH (hb▸q)⟩)
inductive TB (Hd:aN)(m:List Addr)(all:Bool)(f:St->R W)(Q:Bool->aN->Prop)(E:D->Prop)(b:Bool)(S':aN):Prop where
 |mk (m':List Addr) (s':St) (l:gL m m') (hs:SR Hd m' m' s' S') (h1:all=b->PG Hd fL m' (rU (f s')) Q E) (h2:all≠b->Q b S')
theorem PG.tb{Hd:aN}{m:List Addr}{all:Bool}{f:St->R W}{Q:Bool->aN->Prop}{E:D->Prop}{r:R W}(h:PG Hd fL m (rU (r.bind λ w s=>Internal.onO (cO w) λ b=>match all==b with
  |true=>f s
  |false=>.ok w s)) Q E):PG Hd fL m (rU r) (TB Hd m all f Q E) E:=match r,h with
 |.err d,h=>h
 |.no,h=>h
 |.ok w s,h=>by
  have h:=show PG Hd fL m ((Internal.onO (cO w) _).bind _) Q E from h
  refine(?_:PG Hd fL m (D7 (cO w) s) _ E)
  cases e:cO w with
  |none=>rw[e]at h;exact h.elim
  |some b=>
   rw[e]at h
   have h:=show PG Hd fL m ((match all==b with | true=>f s | false=>.ok w s).bind _) Q E from h
   intro m' b' S' l hb cz
   subst hb
   refine⟨m',s,l,cz,λ q=>?_,λ q=>?_⟩
   .rw[beq_iff_eq.mpr q]at h;exact PG.mono l h
   .rw[A05 q]at h
    have h:=show PG Hd fL m (D7 (cO w) s) Q E from h
    rw[e]at h
    exact h m' b S' l rfl cz
theorem ww{x y:IE}{ys:dS}{e gK:Expr}{es:List Expr}(h:wH g k C ns top x e)(ih:ON g k C ns top (.cons y ys) (gK::es)):ON g k C ns top (.cons x (.cons y ys)) (e::gK::es):=λ c Hd ρ vs m s S pos all hc hρ hs=>by
 refine⟨λ Q E hp=>pI (h.1.run hc hρ hs hp λ aJ ck aB bB ba aY aX ag aV aQ=>?_),λ ht Q E hp=>?_⟩
 .refine PG.onOE aQ λ b e aQ=>?_
  have hw:=ag
  rw[gj e ag]at hw ⊢
  refine gk ⟨λ hb=>(ih c Hd ρ vs aJ aB ba pos all hc aX aV).1 Q E ?_,λ hb=>PG.ok (rel:=VR) (a:=ck) (s:=aB) (E:=E) ?_ hw aV⟩
  .cases all<;>subst b<;>first | exact aQ | exact nomatch hb
  .cases all<;>cases b<;>first | exact aQ | exact absurd rfl hb
 .have hT:=h.2 (bE ht).1 c Hd ρ vs m s S _ E hc hρ hs (PG.tb hp)
  have go:=λ m' s' S' l cz=>(ih c Hd ρ vs m' s' S' pos all hc (hρ.mono l) cz).2 (bE ht).2 Q E
  cases all with
  |true=>exact u7 (j0 hT λ b S' z=>by obtain⟨m',s',l,cz,q1,q2⟩:=z;exact⟨λ hb=>go m' s' S' l cz (q1 hb.symm),λ hb=>by subst hb;exact q2 nofun⟩)
  |false=>exact BO (j0 hT λ b S' z=>by obtain⟨m',s',l,cz,q1,q2⟩:=z;exact⟨λ hb=>by subst hb;exact q2 nofun,λ hb=>go m' s' S' l cz (q1 hb.symm)⟩)
theorem H9{x:IE}{e:Expr}(ht:Fq x=true)(h:wH g k C ns false x e):SI g k C ns (.some x) [e]:=λ c Hd ρ vs m s S Q E hc hρ hs hp=>by
 refine F4 (h.2 ht c Hd ρ vs m s S Q E hc hρ hs ?_)
 have hp:=show PG Hd fL m ((ao C x vs s).bind λ w s=>onO (cO w) λ b=>.ok b s) Q E from hp
 revert hp
 cases ao C x vs s with
 |no=>exact λ z=>z
 |err d=>exact λ z=>z
 |ok w s'=>
  cases cO w with
  |none=>exact λ z=>z
  |some b=>exact λ z=>z
end
theorem IE.recs{P:IE->Prop}{Q:dS->Prop}{S:IO->Prop}(p0:∀(d:D),P (.k d))(p1:∀(i:Nat),P (.g i))(p2:∀(i:Nat),P (.v i))(p3:∀(op:Operator)(l:IE)(r:IE),P l->P r->P (.bin op l r))(p4:∀(op:CmpOp)(l:IE)(r:IE),P l->P r->P (.cmp op l r))(p5:∀(eX:CmpOp)(cq:CmpOp)(l:IE)(q:IE)(r:IE),P l->P q->P r->P (.cmp2 eX cq l q r))(p6:∀(x:IE),P x->P (.not x))(p7:∀(x:IE),P x->P (.neg x))(p8:∀(t:IE)(a:IE)(b:IE),P t->P a->P b->P (.cond t a b))(p9:∀(all:Bool)(xs:dS),Q xs->P (.boo all xs))(p10:∀(xs:dS),Q xs->P (.tup xs))(p11:∀(xs:dS),Q xs->P (.lst xs))(p12:∀(xs:dS),Q xs->P (.lsto xs))(p13:∀(x:IE)(i:IE),P x->P i->P (.ix x i))(p14:∀(own:Bool)(x:IE)(a:IO)(b:IO)(d:IO),P x->S a->S b->S d->P (.sl own x a b d))(p15:∀(b:BI)(xs:dS),Q xs->P (.bi b xs))(p16:∀(x:IE)(t:ut),P x->P (.isi x t))(p17:∀(f:Nat)(xs:dS),Q xs->P (.call f xs))(p18:∀(o:IE)(n:Nat)(xs:dS),P o->Q xs->P (.meth o n xs))(p19:∀(o:IE)(f:Nat),P o->P (.attr o f))(p20:∀(cs:List CI)(t:IT)(it:IE)(ifs:IO)(elt:IE),P it->S ifs->P elt->P (.comp cs t it ifs elt))(p21:∀(x:IE),P x->P (.sset x))(p22:P .bad)(q0:Q .nil)(q1:∀x xs,P x->Q xs->Q (.cons x xs))(s0:S .none)(s1:∀x,P x->S (.some x)):(∀e,P e)/\(∀xs,Q xs)/\∀o,S o :=
 ⟨IE.rec (motive_1:=P) (motive_2:=Q) (motive_3:=S) p0 p1 p2 p3 p4 p5 p6 p7 p8 p9 p10 p11 p12 p13 p14 p15 p16 p17 p18 p19 p20 p21 p22 q0 q1 s0 s1,dS.rec (motive_1:=P) (motive_2:=Q) (motive_3:=S) p0 p1 p2 p3 p4 p5 p6 p7 p8 p9 p10 p11 p12 p13 p14 p15 p16 p17 p18 p19 p20 p21 p22 q0 q1 s0 s1,IO.rec (motive_1:=P) (motive_2:=Q) (motive_3:=S) p0 p1 p2 p3 p4 p5 p6 p7 p8 p9 p10 p11 p12 p13 p14 p15 p16 p17 p18 p19 p20 p21 p22 q0 q1 s0 s1⟩
section
variable {C:Nat->List W->St->R W}
def HE(g:c8)(k:Nat)(C:Nat->List W->St->R W)(ie:IE):Prop:=∀ns top e,cQ ns top ie e=true->wH g k C ns top ie e
def Bb(g:c8)(k:Nat)(C:Nat->List W->St->R W)(xs:dS):Prop:=(∀ns top es,dh ns top xs es=true->um g k C ns top xs es)/\∀ns top es,dh ns top xs es=true->ON g k C ns top xs es
def HO(g:c8)(k:Nat)(C:Nat->List W->St->R W)(x:IO):Prop:=(∀ns top o,El ns top x o=true->SO g k C ns top x o)/\∀ns es,Jr ns x es=true->SI g k C ns x es
theorem Pc{d:D}:HE g k C (.k d):=λ ns top e h=>by
 refine di h λ co i pos h=>.val rfl λ c Hd ρ vs m s S Q E hc hρ hs hp=>NU (A00 h) (PW.d hp hs)
theorem Pd{i:Nat}(tb:bo g):HE g k C (.g i):=λ ns top e h=>by
 refine cA h λ x pos h=>ey h λ h1 h2=>.val rfl λ c Hd ρ vs m s S Q E hc hρ hs hp=>PG.onOE hp λ d e hp=>ca (hρ.glob (A00 h1) (tb.gv i x d (A00 h2) e)) (PW.d hp hs)
theorem Pb{i:Nat}:HE g k C (.v i):=λ ns top e h=>by
 refine cA h λ x pos h=>hP h λ p e2 h=>.val rfl λ c Hd ρ vs m s S Q E hc hρ hs hp=>PG.onOE hp λ w e hp=>aD (hρ.get e2 e) λ d hv hl=>ca (A00 h▸hl) (hp.ok hv hs)
theorem ID{op:Operator}{l:IE}{r:IE}(M2:HE g k C l)(MY:HE g k C r):HE g k C (.bin op l r):=λ ns top e h=>by
 refine D5 h λ l' GJ r' pos h=>iK h λ h1 h2 h3=>?_
 obtain rfl:=A00 h1
 exact .val rfl λ c Hd ρ vs m s S Q E hc hρ hs hp=>B2 ((M2 ns top l' h2).1.run hc hρ hs hp λ aJ ck aB bB ba aY aX ag aV aQ=>(MY ns top r' h3).1.run hc aX aV aQ λ au kW aP bn dB aU cv cj bP bR=>FO bR (ag.mono aU) cj bP)
theorem IA{op:CmpOp}{l:IE}{r:IE}(M2:HE g k C l)(MY:HE g k C r):HE g k C (.cmp op l r):=λ ns top e h=>by
 refine kt h λ l' ops rs pos h=>hP h λ r' e h=>oL h λ h1 zS h2 h3=>?_
 simp only[A00 h1,cF e]
 exact C6 (M2 ns top l' h2).1 (MY ns top r' h3).1 zS
theorem Cv{eX:CmpOp}{cq:CmpOp}{l:IE}{q:IE}{r:IE}(M2:HE g k C l)(Tu:HE g k C q)(MY:HE g k C r):HE g k C (.cmp2 eX cq l q r):=λ ns top e h=>by
 refine kt h λ l' ops rs pos h=>hP h λ r' e h=>KI h λ h1 zS h2 h3 h4=>?_
 simp only[A00 h1,ji e]
 exact xF (M2 ns top l' h2).1 (Tu ns top _ h3).1 (MY ns top _ h4).1 zS
theorem Hw{x:IE}(zP:HE g k C x):HE g k C (.not x):=λ ns top e h=>by
 refine sA h λ op x' pos h=>ey h λ h1 h2=>?_
 rw[A00 h1]
 exact CY (zP ns top x' h2)
theorem Hx{x:IE}(zP:HE g k C x):HE g k C (.neg x):=λ ns top e h=>by
 refine sA h λ op x' pos h=>ey h λ h1 h2=>?_
 rw[A00 h1]
 exact CZ (zP ns top x' h2).1
theorem Ct{t:IE}{a:IE}{b:IE}(Tt:HE g k C t)(M7:HE g k C a)(EH:HE g k C b):HE g k C (.cond t a b):=λ ns top e h=>by
 refine IX h λ t' a' b' pos h=>oL h λ ht h1 h2 h3=>xD ((Tt ns top t' h1).2 ht) (M7 ns top a' h2).1 (EH ns top b' h3).1
theorem IB{all:Bool}{xs:dS}(iY:Bb g k C xs):HE g k C (.boo all xs):=λ ns top e h=>by
 refine lV h λ op es pos h=>ey h λ h1 h2=>?_
 rw[A00 h1]
 exact C7 (iY.2 ns top es h2)
theorem Hv{xs:dS}(iY:Bb g k C xs):HE g k C (.tup xs):=λ ns top e h=>by
 refine jD h λ es i pos h=>.val rfl (CU (iY.1 ns top es h))
theorem Hy{xs:dS}(iY:Bb g k C xs):HE g k C (.lst xs):=λ ns top e h=>by
 refine qA h λ es pos h=>.val rfl (C1 (iY.1 ns top es h))
theorem Cs{xs:dS}(iY:Bb g k C xs):HE g k C (.lsto xs):=λ ns top e h=>by
 refine qA h λ es pos h=>.val rfl (wy (iY.1 ns top es h))
theorem LW{x:IE}{i:IE}(zP:HE g k C x)(Tv:HE g k C i):HE g k C (.ix x i):=λ ns top e h=>by
 refine o5 h λ x' i' pos h=>iK h λ h1 h2 h3=>.val rfl λ c Hd ρ vs m s S Q E hc hρ hs hp=>KW ((zP ns top x' h2).1.run hc hρ hs hp λ aJ ck aB bB ba aY aX ag aV aQ=>(Tv ns top i' h3).1.run hc aX aV aQ λ au kW aP bn dB aU cv cj bP bR=>Iy bR (ag.mono aU) cj bP) (H3 h1)
theorem LU{own:Bool}{x:IE}{a:IO}{b:IO}{d:IO}(zP:HE g k C x)(M7:HO g k C a)(EH:HO g k C b)(Tw:HO g k C d):HE g k C (.sl own x a b d):=λ ns top e h=>by
 refine o5 h λ x' i' pos h=>IV h λ a' b' c' sp h=>oL h λ h1 h2 h3 h4=>.val rfl λ c Hd ρ vs m s S Q E hc hρ hs hp=>BW ((zP ns top x' h1).1.run hc hρ hs hp λ aJ ck aB bB ba aY aX ag aV aQ=>(M7.1 ns top a' h2).run hc aX aV aQ λ au kW aP bn dB aU cv cj bP bR=>(EH.1 ns top b' h3).run hc cv bP bR λ c9 vA bu i5 wG bt sS g6 fZ jG=>(Tw.1 ns top c' h4).run hc sS fZ jG λ hU TO dT A5 R8 eG Q4 Ma Mc qT=>Hf qT (ag.mono (aU.trans (bt.trans eG))) (cj.mono (bt.trans eG)) (g6.mono eG) Ma Mc)
theorem LX{row:Nat->bO}{b:BI}{xs:dS}(gf:GF g row)(tb:bo g)(iY:Bb g k C xs):HE g k C (.bi b xs):=λ ns top e h=>by
 refine eB h λ fn es ks pos h=>ey h λ h0 h=>cA h λ f fp h=>iK h λ h2 h3 h4=>?_
 rw[<-A00 h3]
 by_cases q:b=.ksorted
 .subst q
  refine iK h0 λ k1 k2 k3=>aD (gW k2) λ il e1 k2=>?_;obtain⟨arg,v,kq⟩:=il
  refine hP k3 λ x e2 k3=>ey k2 λ k4 k5=>aS (eY k5) λ kp ak=>?_;subst ak
  cases A00 k4
  have h5:=iY.1 ns top es h4
  simp only[cF e2]at h5
  simp only[cF e1,cF e2]
  obtain rfl:=A00 h3
  exact .val rfl (H8 gf tb h2 k1 k3 h5)
 .have h0:ks.isEmpty=true:=by cases b<;>first | exact h0 | exact absurd rfl q
  simp only[A08 h0]
  exact .val rfl (Hb tb q (A00 h3▸h2) h4 (iY.1 ns top es h4))
theorem Hz{row:Nat->bO}{x:IE}{t:ut}(gf:GF g row)(tb:bo g)(zP:HE g k C x):HE g k C (.isi x t):=λ ns top e h=>by
 refine eB h λ fn es ks pos h=>ey h λ h0 h=>cA h λ f fp h=>hP h λ q e h=>?_
 obtain⟨q1,q2⟩:=q
 rw[show es=[q1,q2]from ji e]
 refine cA (e:=q2) h λ y yp h=>Kt h λ h1 h2 h3 h4 h5 h6=>?_
 simp only[A08 h0,A00 h2]
 exact .val rfl (C2 gf tb (A00 h2▸h1) h3 (A00 h4) h5 (zP ns top q1 h6).1)
theorem Cw{row:Nat->bO}{f:Nat}{xs:dS}(gf:GF g row)(tb:bo g)(hC:SC g k C)(iY:Bb g k C xs):HE g k C (.call f xs):=λ ns top e h=>by
 refine eB h λ fn es ks pos h=>iK h λ h0 hx h=>?_
 rw[A08 h0]
 rcases Bool.or_eq_true_iff.mp h with h|h
 .refine cA h λ x xp h=>ey h λ h1 h2=>.val rfl (xG gf tb hC h1 (A00 h2) hx (iY.1 ns top es hx))
 .refine fY h λ o x ap h=>cA h λ y yp h=>Kt h λ h1 h2 h3 h4 h5 h6=>?_
  simp only[A00 h1,A00 h2,A00 h3]
  exact .val rfl (H7 gf tb hC (A00 h2▸h4) h5 (A00 h6) hx (iY.1 ns top es hx))
theorem Cr{row:Nat->bO}{o:IE}{n:Nat}{xs:dS}(gf:GF g row)(hC:SC g k C)(QW:HE g k C o)(iY:Bb g k C xs):HE g k C (.meth o n xs):=λ ns top e h=>by
 refine eB h λ fn es ks pos h=>ey h λ h0 h=>fY h λ o' x ap h=>Kt h λ h1 h2 h3 h4 h5 h6=>?_
 simp only[A08 h0,A00 h1]
 exact .val rfl (wx gf hC h2 h3 (A00 h4) (QW ns top o' h5).1 h6 (iY.1 ns top es h6))
theorem Cy{row:Nat->bO}{o:IE}{f:Nat}(gf:GF g row)(QW:HE g k C o):HE g k C (.attr o f):=λ ns top e h=>by
 refine fY h λ o' x pos h=>iK h λ h1 h2 h3=>?_
 simp only[A00 h1]
 exact .val rfl (xJ gf h2 (QW ns top o' h3).1)
theorem Cu{cs:List CI}{t:IT}{it:IE}{ifs:IO}{elt:IE}(QZ:HE g k C it)(M3:HO g k C ifs)(M4:HE g k C elt):HE g k C (.comp cs t it ifs elt):=λ ns top e h=>by
 refine qB h λ g8 gs sc pos h=>hP h λ q e h=>Ks h λ h0 h1 h2 h3 h4 h5 Uf=>ey Uf λ h6 h7=>?_
 obtain⟨t',mv,g5,a⟩:=q
 simp only[cF e,show a=0 from A00 h0]
 exact .val rfl (xE h1 h2 h3 (QZ ns top mv h4).1 h5 (M3.2 sc.names g5 h6) (M4 sc.names false g8 h7).1)
theorem Cq{x:IE}(tb:bo g)(zP:HE g k C x):HE g k C (.sset x):=λ ns top e h=>by
 refine eB h λ fn args ks cp h=>oL h λ h1 h2 h3 h=>hP h λ a e1 h=>?_
 rw[cF e1]
 refine vW h λ k v gs sc pos h=>aD (gW h) λ il e2 h=>?_;obtain⟨t',mv,g5,a⟩:=il
 refine cA h λ y p1 h=>Ks h λ k1 k2 k3 k4 k5 k6 k7=>aS (eY h1) λ fp ak=>?_;subst ak
 refine aS (eY k2) λ px e3=>di k3 λ co kd p2 k3=>hP k4 λ z e4 k4=>cI (A00 k4) λ c1 c2 c3=>?_
 have c2:sc.names=[(z.1.1,.local),(y,.local)]:=by
  have:=ji e4
  rw[c2]at this;exact this
 have e3:t'=.Name y px:=e3
 subst e3
 simp only[A08 h3,cF e2,show a=0 from A00 k1,show co=.bool true from A00 k3,show g5=[]from A08 k5]
 exact .val rfl (wq tb h2 c1 c2 c3 k6 (zP ns top mv k7).1)
theorem IF:HE g k C .bad:=λ ns top e h=>⟨λ c Hd ρ vs m s S Q E hc hρ hs hp=>hp.elim,λ _ c Hd ρ vs m s S Q E hc hρ hs hp=>hp.elim⟩
theorem Cp:Bb g k C .nil:=⟨λ ns top es h=>by
 simp only[A08 h]
 exact λ c Hd ρ vs m s S pos Q E hc hρ hs hp=>j5 (hp.ok .nil hs),λ ns top es h c Hd ρ vs m s S pos all hc hρ hs=>⟨λ Q E hp=>hp.elim,λ _ Q E hp=>hp.elim⟩⟩
theorem xY{x:IE}{xs:dS}(ix:HE g k C x)(GU:Bb g k C xs):Bb g k C (.cons x xs):=by
 refine⟨λ ns top es h=>?_,λ ns top es h=>?_⟩
 .cases es with
  |nil=>exact dJ h
  |cons e es=>
   refine iK h λ h1 h2 h3=>λ c Hd ρ vs m s S pos Q E hc hρ hs hp=>et ((ix ns top e h2).1.run hc hρ hs hp λ aJ ck aB bB ba aY aX ag aV aQ=>(GU.1 ns top es h3).run hc aX aV aQ λ au kW aP bn dB aU cv cj bP bR=>bR.ok (.cons (ag.mono aU) cj) bP) (fb h1 _ _)
 .cases es with
  |nil=>exact dJ h
  |cons e es=>
   cases xs with
   |nil=>
    refine iK h λ h1 h2 h3=>?_
    simp only[A08 h3]
    exact CX (ix ns top e h2)
   |cons y ys=>
    refine iK h λ h1 h2 h3=>?_
    cases es with
    |nil=>exact dJ h3
    |cons gK es=>exact ww (ix ns top e h2) (GU.2 ns top (gK::es) h3)
theorem Co:HO g k C .none:=by
 refine⟨λ ns top o h=>?_,λ ns es h=>?_⟩
 .simp only[Option.isNone_iff_eq_none.mp h]
  exact λ c Hd ρ vs m s S Q E hc hρ hs hp=>hp.ok (.d _) hs
 .simp only[A08 h]
  exact λ c Hd ρ vs m s S Q E hc hρ hs hp=>F5 (hp.ok rfl hs)
theorem Cn{x:IE}(ix:HE g k C x):HO g k C (.some x):=by
 refine⟨λ ns top o h=>?_,λ ns es h=>?_⟩
 .refine hP h λ e ak h=>?_;subst ak
  exact λ c Hd ρ vs m s S Q E hc hρ hs hp=>(ix ns top e h).1 c Hd ρ vs m s S Q E hc hρ hs hp
 .refine hP h λ e e1 h=>ey h λ h1 h2=>?_
  simp only[cF e1]
  exact H9 h1 (ix ns false e h2)
variable (gf:GF g row)(tb:bo g)(hC:SC g k C)
include gf tb hC
theorem Hc:(∀e,HE g k C e)/\(∀xs,Bb g k C xs)/\∀o,HO g k C o :=
 IE.recs (λ _=>Pc) (λ _=>Pd tb) (λ _=>Pb) (λ _ _ _ a0 a1=>ID a0 a1) (λ _ _ _ a0 a1=>IA a0 a1) (λ _ _ _ _ _ a0 a1 a2=>Cv a0 a1 a2) (λ _ a0=>Hw a0) (λ _ a0=>Hx a0) (λ _ _ _ a0 a1 a2=>Ct a0 a1 a2) (λ _ _ a0=>IB a0) (λ _ a0=>Hv a0) (λ _ a0=>Hy a0) (λ _ a0=>Cs a0) (λ _ _ a0 a1=>LW a0 a1) (λ _ _ _ _ _ a0 a1 a2 a3=>LU a0 a1 a2 a3) (λ _ _ a0=>LX gf tb a0) (λ _ _ a0=>Hz gf tb a0) (λ _ _ a0=>Cw gf tb hC a0) (λ _ _ _ a0 a1=>Cr gf hC a0 a1) (λ _ _ a0=>Cy gf a0) (λ _ _ _ _ _ a0 a1 a2=>Cu a0 a1 a2) (λ _ a0=>Cq tb a0) IF Cp (λ _ _ a b=>xY a b) Co (λ _ a=>Cn a)
theorem gI(ie:IE):HE g k C ie:=(Hc gf tb hC).1 ie
theorem Fv(xs:dS)(ns:Ns)(top:Bool)(es:List Expr)(h:dh ns top xs es=true):um g k C ns top xs es:=((Hc gf tb hC).2.1 xs).1 ns top es h
theorem P7(x:IO)(ns:Ns)(es:List Expr)(h:Jr ns x es=true):SI g k C ns x es:=((Hc gf tb hC).2.2 x).2 ns es h
end
noncomputable def yF(e:Stmt)(f:(Option Expr)->Pos->Bool):Bool:=if h:e.ctorIdx=3 then Stmt.Return.elim (motive_2:=λ _=>Bool) e h f else false
@[elab_as_elim] theorem t9 {e:Stmt}{f:(Option Expr)->Pos->Bool}{M:Stmt->Prop} (h:yF e f=true) (k:∀a p,f a p=true->M (.Return a p)):M e :=
 aS (cg h) λ q h=>Stmt.Return.elim (motive_2:=λ e=>∀q,Stmt.Return.elim (motive_2:=λ _=>Bool) e q f=true->M e) e q (λ _ _ _ h=>k _ _ h) q h
noncomputable def kN(e:Stmt)(f:(List Expr)->Expr->Pos->Bool):Bool:=if h:e.ctorIdx=5 then Stmt.Assign.elim (motive_2:=λ _=>Bool) e h f else false
@[elab_as_elim] theorem fk {e:Stmt}{f:(List Expr)->Expr->Pos->Bool}{M:Stmt->Prop} (h:kN e f=true) (k:∀a b p,f a b p=true->M (.Assign a b p)):M e :=
 aS (cg h) λ q h=>Stmt.Assign.elim (motive_2:=λ e=>∀q,Stmt.Assign.elim (motive_2:=λ _=>Bool) e q f=true->M e) e q (λ _ _ _ _ h=>k _ _ _ h) q h
noncomputable def yI(e:Stmt)(f:Expr->Operator->Expr->Pos->Bool):Bool:=if h:e.ctorIdx=7 then Stmt.AugAssign.elim (motive_2:=λ _=>Bool) e h f else false
@[elab_as_elim] theorem tf {e:Stmt}{f:Expr->Operator->Expr->Pos->Bool}{M:Stmt->Prop} (h:yI e f=true) (k:∀a b c p,f a b c p=true->M (.AugAssign a b c p)):M e :=
 aS (cg h) λ q h=>Stmt.AugAssign.elim (motive_2:=λ e=>∀q,Stmt.AugAssign.elim (motive_2:=λ _=>Bool) e q f=true->M e) e q (λ _ _ _ _ _ h=>k _ _ _ _ h) q h
noncomputable def GN(e:Stmt)(f:Expr->Expr->(List Stmt)->(List Stmt)->Pos->Bool):Bool:=if h:e.ctorIdx=9 then Stmt.For.elim (motive_2:=λ _=>Bool) e h f else false
@[elab_as_elim] theorem D4 {e:Stmt}{f:Expr->Expr->(List Stmt)->(List Stmt)->Pos->Bool}{M:Stmt->Prop} (h:GN e f=true) (k:∀a b c d p,f a b c d p=true->M (.For a b c d p)):M e :=
 aS (cg h) λ q h=>Stmt.For.elim (motive_2:=λ e=>∀q,Stmt.For.elim (motive_2:=λ _=>Bool) e q f=true->M e) e q (λ _ _ _ _ _ _ h=>k _ _ _ _ _ h) q h
noncomputable def GK(e:Stmt)(f:Expr->(List Stmt)->(List Stmt)->Pos->Bool):Bool:=if h:e.ctorIdx=11 then Stmt.While.elim (motive_2:=λ _=>Bool) e h f else false
@[elab_as_elim] theorem D0 {e:Stmt}{f:Expr->(List Stmt)->(List Stmt)->Pos->Bool}{M:Stmt->Prop} (h:GK e f=true) (k:∀a b c p,f a b c p=true->M (.While a b c p)):M e :=
 aS (cg h) λ q h=>Stmt.While.elim (motive_2:=λ e=>∀q,Stmt.While.elim (motive_2:=λ _=>Bool) e q f=true->M e) e q (λ _ _ _ _ _ h=>k _ _ _ _ h) q h
noncomputable def GM(e:Stmt)(f:Expr->(List Stmt)->(List Stmt)->Pos->Bool):Bool:=if h:e.ctorIdx=12 then Stmt.If.elim (motive_2:=λ _=>Bool) e h f else false
@[elab_as_elim] theorem D3 {e:Stmt}{f:Expr->(List Stmt)->(List Stmt)->Pos->Bool}{M:Stmt->Prop} (h:GM e f=true) (k:∀a b c p,f a b c p=true->M (.If a b c p)):M e :=
 aS (cg h) λ q h=>Stmt.If.elim (motive_2:=λ e=>∀q,Stmt.If.elim (motive_2:=λ _=>Bool) e q f=true->M e) e q (λ _ _ _ _ _ h=>k _ _ _ _ h) q h
noncomputable def Lr(e:Stmt)(f:(Option Expr)->(Option Expr)->Pos->Bool):Bool:=if h:e.ctorIdx=16 then Stmt.Raise.elim (motive_2:=λ _=>Bool) e h f else false
@[elab_as_elim] theorem IW {e:Stmt}{f:(Option Expr)->(Option Expr)->Pos->Bool}{M:Stmt->Prop} (h:Lr e f=true) (k:∀a b p,f a b p=true->M (.Raise a b p)):M e :=
 aS (cg h) λ q h=>Stmt.Raise.elim (motive_2:=λ e=>∀q,Stmt.Raise.elim (motive_2:=λ _=>Bool) e q f=true->M e) e q (λ _ _ _ _ h=>k _ _ _ h) q h
noncomputable def GL(e:Stmt)(f:(List Stmt)->(List ExceptHandler)->(List Stmt)->(List Stmt)->Pos->Bool):Bool:=if h:e.ctorIdx=17 then Stmt.Try.elim (motive_2:=λ _=>Bool) e h f else false
@[elab_as_elim] theorem D2 {e:Stmt}{f:(List Stmt)->(List ExceptHandler)->(List Stmt)->(List Stmt)->Pos->Bool}{M:Stmt->Prop} (h:GL e f=true) (k:∀a b c d p,f a b c d p=true->M (.Try a b c d p)):M e :=
 aS (cg h) λ q h=>Stmt.Try.elim (motive_2:=λ e=>∀q,Stmt.Try.elim (motive_2:=λ _=>Bool) e q f=true->M e) e q (λ _ _ _ _ _ _ h=>k _ _ _ _ _ h) q h
noncomputable def Lu(e:Stmt)(f:Expr->Pos->Bool):Bool:=if h:e.ctorIdx=24 then Stmt.Expr.elim (motive_2:=λ _=>Bool) e h f else false
@[elab_as_elim] theorem IY {e:Stmt}{f:Expr->Pos->Bool}{M:Stmt->Prop} (h:Lu e f=true) (k:∀a p,f a p=true->M (.Expr a p)):M e :=
 aS (cg h) λ q h=>Stmt.Expr.elim (motive_2:=λ e=>∀q,Stmt.Expr.elim (motive_2:=λ _=>Bool) e q f=true->M e) e q (λ _ _ _ h=>k _ _ h) q h
noncomputable def yH(e:Expr)(f:(List (Option Expr))->(List Expr)->Pos->Bool):Bool:=if h:e.ctorIdx=6 then Expr.Dict.elim (motive_1:=λ _=>Bool) e h f else false
@[elab_as_elim] theorem yG {e:Expr}{f:(List (Option Expr))->(List Expr)->Pos->Bool}{M:Expr->Prop} (h:yH e f=true) (k:∀a b p,f a b p=true->M (.Dict a b p)):M e :=
 aS (cg h) λ q h=>Expr.Dict.elim (motive_1:=λ e=>∀q,Expr.Dict.elim (motive_1:=λ _=>Bool) e q f=true->M e) e q (λ _ _ _ _ h=>k _ _ _ h) q h
noncomputable def P0(e:Expr)(y:Str):Bool:=iS e λ o t _=>wM o y&&decide (t = "told")
noncomputable def N4(x:Str)(e:Expr):Bool:=qC e λ l ops rs _=>wM l x&&(decide (ops=[.Is])&&oB (one rs) λ r=>fG r λ co _ _=>decide (co=.none))
noncomputable def N2(y:Str)(e:Expr):Bool:=fM e λ fn args ks _=>wM fn "isinstance" && (ks.isEmpty&&oB (two args) λ p=>P0 p.1 y&&wM p.2 "int")
noncomputable def NY(x:Str)(e:Expr):Bool:=fM e λ fn args ks _=>wM fn "len" && (ks.isEmpty&&oB (one args) λ a=>wM a x)
noncomputable def N0(y x:Str)(e:Expr):Bool:=qC e λ l ops rs _=>(fG l λ co _ _=>decide (co=.int 0))&&(decide (ops=[.LtE,.LtE])&&oB (two rs) λ p=>P0 p.1 y&&NY x p.2)
noncomputable def NZ(ns:Ns)(j:Nat)(y a b:Str):Bool:=gl ns "BadSet" && (gl ns "isinstance" && (gl ns "int" && (gl ns "len" && (decide (ns[j]?=some (y,.local)/\ns.lookup y=some .local)&&decide (∀z∈(["isinstance","int","len",a,b]:List Str),z≠y)))))
noncomputable def Ek(ns:Ns)(j a b:Nat)(y:Str)(e:Expr):Bool:=sC e λ op es _=>oB (O4 es) λ q=>oB ns[a]? λ pa=>oB ns[b]? λ pb=>decide (op=.And)&&(NZ ns j y pa.1 pb.1&&(N4 pa.1 q.1&&(N2 y q.2.1&&N0 y pb.1 q.2.2)))
noncomputable def Js(ns:Ns)(j a b:Nat)(h:ExceptHandler):Bool:=match h with
 |.ExceptHandler t n body _=>oB t λ t=>oB n λ y=>oB (one body) λ st=>yF st λ o _=>oB o λ e=>wM t "BadSet" && Ek ns j a b y e
noncomputable def nc(e:Expr):Bool:=decide (e.ctorIdx≠8)&&(decide (e.ctorIdx≠9)&&decide (e.ctorIdx≠10))
theorem n0{v:Expr}(h:nc v=true)(t:Option Expr)(l:Nat)(env:Env):swapsWith v t l env=pure false:=by
 cases v with
 |ListComp _ _ _ _=>exact dJ h
 |SetComp _ _ _ _=>exact dJ h
 |DictComp _ _ _ _ _=>exact dJ h
 |_=>rfl
noncomputable def I2(ns:Ns)(line:Nat)(e:Expr):Option Str:=if h:e.ctorIdx=23 then Expr.Name.elim (motive_1:=λ _=>Option Str) e h λ x p=>gF (decide (ns.lookup x=some .local)&&(p.line==line)) (some x)else none
inductive OS (ns:Ns)(line:Nat)(x:Str)(e:Expr):Prop where
 |mk (p:Pos) (e:e=.Name x p) (h1:ns.lookup x=some .local) (h2:(p.line==line)=true)
theorem th{ns:Ns}{line:Nat}{e:Expr}{x:Str}(h:I2 ns line e=some x):OS ns line x e:=by
 unfold I2 at h
 by_cases q:e.ctorIdx=23
 .rw[dif_pos q]at h
  refine Expr.Name.elim (motive_1:=λ e=>∀q,Expr.Name.elim (motive_1:=λ _=>Option Str) e q _=some x->OS ns line x e) e q (λ y p _ h=>?_) q h
  refine aj (zY (h)) λ h1 h=>aj (bE h1) λ h1 h2=>?_
  (refine sj h λ zq=>?_;subst zq)
  exact⟨p,rfl,A00 h1,h2⟩
 .rw[dif_neg q]at h;exact bJ h
noncomputable def ip(ns:Ns)(line:Nat):List Expr->Option (List Str):=rD (I2 ns line)
noncomputable def HZ(ns:Ns)(ts vs:List Expr):Bool:=(ts.length==2||ts.length==3)&&(vs.length==ts.length&&(vs.all pl&&(!vs.all (foldedForSure 8)&&(!vs.all (constantsAlone 8)&&oB (ip ns ((ts.head?.map (·.pos.line)).getD 0) ts) λ l=>l.eraseDups.length==l.length))))
noncomputable def H0(ts vs:List Expr):Bool:=!(ts.length==2||ts.length==3)||(vs.length==ts.length&&(vs.all pl&&vs.all (foldedForSure 8)))
noncomputable def L6(v:IE):Bool:=IE.casesOn (motive_1:=λ _=>Bool) v (λ d=>d.isNone) (λ _=>false) (λ _=>false) (λ _ _ _=>false) (λ _ _ _=>false) (λ _ _ _ _ _=>false) (λ _=>false) (λ _=>false) (λ _ _ _=>false) (λ _ _=>false) (λ _=>false) (λ _=>false) (λ _=>false) (λ _ _=>false) (λ _ _ _ _ _=>false) (λ _ _=>false) (λ _ _=>false) (λ _ _=>false) (λ _ _ _=>false) (λ _ _=>false) (λ _ _ _ _ _=>false) (λ _=>false) false
theorem DE{v:IE}(h:L6 v=true):v=.k .none:=by
 cases v with
 |k d=>
  cases d with
  |none=>rfl
  |_=>exact dJ h
 |_=>exact dJ h
noncomputable def NB(x:IS):Option Nat:=IS.casesOn (motive_1:=λ _=>Option Nat) x (λ _ _=>none) (λ _ _=>none) (λ _ _ _=>none) (λ _ _ _=>none) (λ _ _ _ _=>none) (λ _ _ _=>none) (λ _ _=>none) (λ _=>none) (λ _=>none) (λ _ _ _=>none) (λ _ _=>none) (λ _ _ _=>none) (λ _=>none) (λ _ _ _ _ _=>none) (λ _ _=>none) some (λ _ _=>none) none
noncomputable def Gb(x:IS):Option (Nat×Nat):=IS.casesOn (motive_1:=λ _=>Option (Nat×Nat)) x (λ _ _=>none) (λ _ _=>none) (λ _ _ _=>none) (λ _ _ _=>none) (λ _ _ _ _=>none) (λ _ _ _=>none) (λ _ _=>none) (λ _=>none) (λ _=>none) (λ _ _ _=>none) (λ _ _=>none) (λ _ _ _=>none) (λ _=>none) (λ _ _ _ _ _=>none) (λ _ _=>none) (λ _=>none) (λ i f=>some (i,f)) none
theorem EU{x:IS}{i:Nat}(h:NB x=some i):x=.frz i:=by
 cases x with
 |frz j=>exact congrArg IS.frz (A02 h)
 |_=>exact bJ h
theorem zg{x:IS}{p:Nat×Nat}(h:Gb x=some p):x=.frzF p.1 p.2:=by
 cases x with
 |frzF i f=>rw[<-A02 h]
 |_=>exact bJ h
theorem NW{M:IE->Prop}{v:IE}(h:decide (v.ctorIdx=20)=true)(k:∀cs t it ifs elt,M (.comp cs t it ifs elt)):M v:=by
 cases v with
 |comp=>exact k _ _ _ _ _
 |_=>exact dJ h
noncomputable def ML(ns:Ns)(i:Nat):Bool:=oB ns[i]? λ p=>decide (p.2=.local\/p.2=.cell)
noncomputable def JE{α:Type}(o:Option α)(f:α->Bool)(b:Bool):Bool:=match o with
 |some a=>f a
 |none=>b
theorem GX{α:Type}{o:Option α}{f:α->Bool}{b:Bool}{G:Prop}(h:JE o f b=true)(k:∀a,o=some a->f a=true->G)(m:o=none->b=true->G):G:=by
 cases o with
 |none=>exact m rfl h
 |some a=>exact k a rfl h
noncomputable def lB{α:Type}(l:List α)(f:α->List α->Bool):Bool:=match l with
 |[]=>false
 |a::r=>f a r
@[elab_as_elim] theorem Th {α:Type}{l:List α}{f:α->List α->Bool}{M:List α->Prop} (h:lB l f=true) (k:∀a r,f a r=true->M (a::r)):M l:=by
 cases l with
 |nil=>exact dJ h
 |cons a r=>exact k a r h
mutual
noncomputable def NX(ns:Ns):IS->Stmt->Bool
 |.asg i v,st=>kN st λ ts e _=>oB (one ts) λ t=>dA t λ x p=>pM ns i x&&(cQ ns true v e&&(nc e||(decide (v.ctorIdx=20)&&lU e λ _ _ sc p'=>
   decide (ns.lookup x=some .local)&&((p.line==p'.line)&&(!(sc.names.any λ(n,k)=>n==x&&(k==.local||k==.cell)))))))
 |.asgt ts v,st=>kN st λ tgs e _=>oB (one tgs) λ t=>na t λ es _ _=>gc ns ts es&&(decide (e.ctorIdx=16)&&cQ ns true v e)
 |.mas sw ts vs,st=>kN st λ tgs e _=>oB (one tgs) λ t=>na t λ es _ _=>na e λ rM _ _=>gc ns ts es&&(dh ns true vs rM&&(if sw then HZ ns es rM else H0 es rM))
 |.seta o f v,st=>kN st λ tgs e _=>oB (one tgs) λ t=>iS t λ o' x _=>decide (x=bh f)&&(nc e&&(cQ ns true v e&&cQ ns true o o'))
 |.auga o f op v,st=>yI st λ t GJ e _=>iS t λ o' x _=>decide (x=bh f)&&(decide (GJ=op)&&(cQ ns true o o'&&cQ ns true v e))
 |.augv i op v,st=>yI st λ t GJ e _=>dA t λ x _=>pM ns i x&&(decide (GJ=op)&&cQ ns true v e)
 |.setx i v,st=>kN st λ tgs e _=>oB (one tgs) λ t=>t8 t λ a j _=>dA a λ x _=>pM ns i x&&(sJ j&&(nc e&&cQ ns true v e))
 |.ex v,st=>Lu st λ e _=>nc e&&cQ ns true v e
 |.ret v,st=>yF st λ o _=>match o with
  |some e=>cQ ns true v e
  |none=>L6 v
 |.iff t a b,st=>GM st λ t' a' b' _=>Fq t&&(cQ ns true t t'&&(jU ns a a'&&jU ns b b'))
 |.whl t b,st=>GK st λ t' b' o _=>o.isEmpty&&(Fq t&&(cQ ns true t t'&&jU ns b b'))
 |.frr t it b,st=>GN st λ t' mv b' o _=>o.isEmpty&&(sy ns t t'&&(pl mv&&(cQ ns true it mv&&jU ns b b')))
 |.raise e,st=>Lr st λ ex cause _=>cause.isNone&&oB ex λ c=>fM c λ fn args ks _=>wM fn "BadSet" && (gl ns "BadSet" && (ks.isEmpty&&oB (one args) λ x=>pl x&&cQ ns true e x))
 |.tryx i e j a b,st=>GL st λ body hs orelse eT _=>orelse.isEmpty&&(eT.isEmpty&&(oB (one hs) (Js ns j a b)&&oB (one body) λ st=>kN st λ ts v _=>oB (one ts) λ t=>dA t λ x _=>pM ns i x&&(nc v&&cQ ns true e v)))
 |.dict i is,st=>kN st λ tgs e _=>oB (one tgs) λ t=>dA t λ x _=>yH e λ ks vs _=>pM ns i x&&(Ac ks vs is&&(!is.isEmpty&&(decide (is.length<=15)&&decide is.Nodup)))
 |.frz _,_=>false
 |.frzF ..,_=>false
 |.bad,_=>true
noncomputable def jU(ns:Ns):bp->List Stmt->Bool
 |.nil,l=>l.isEmpty
 |.cons x xs,l=>JE (NB x) (λ i=>ML ns i&&jU ns xs l) (JE (Gb x) (λ p=>ML ns p.1&&jU ns xs l) (lB l λ st sts=>NX ns x st&&jU ns xs sts))
end
def Pf(m:List Addr)(o:Option W)(f:Fl):Prop:=match o with
 |none=>f=.nx
 |some w=>∃d,f=.ret d/\VR m w d
def IJ(tab:List (Str×D))(ns:Ns)(m:List Addr)(a:Option W×V)(b:Fl×Rh):Prop:=Pf m a.1 b.1/\RR tab m ns a.2 b.2
abbrev PS(g:c8)(ns:Ns)(Hd:aN)(m:List Addr)(r:R (Option W×V))(Q:Fl->Rh->aN->Prop)(E:D->Prop):Prop:=PG Hd (IJ g.tab ns) m r (λ p S=>Q p.1 p.2 S) E
structure TN (c:Cx)(k:Nat)(ns:Ns):Prop where
 ok:mu c k true ns
 fr:∃r,c.frs=c.env::r
 kd:c.env.scope.kind=.function
def SX(g:c8)(k:Nat)(C:Nat->List W->St->R W)(ns:Ns)(is:IS)(st:Stmt):Prop :=
 ∀(c:Cx) (Hd:aN) (ρ:Rh) (vs:V) (m:List Addr) (s:St) (S:aN) (Q:Fl->Rh->aN->Prop) (E:D->Prop),TN c k ns->RR g.tab m ns vs ρ->SR Hd m m s S->PS g ns Hd m (gy C is vs s) Q E->AX g c ρ S st Q E
def B8(g:c8)(k:Nat)(C:Nat->List W->St->R W)(ns:Ns)(is:bp)(st:List Stmt):Prop :=
 ∀(c:Cx) (Hd:aN) (ρ:Rh) (vs:V) (m:List Addr) (s:St) (S:aN) (Q:Fl->Rh->aN->Prop) (E:D->Prop),TN c k ns->RR g.tab m ns vs ρ->SR Hd m m s S->PS g ns Hd m (bN C is vs s) Q E->pR g c ρ S st Q E
section
variable {Hd:aN}
theorem PS.nx(h:PS g ns Hd m (.ok (none,vs) s) Q E)(hr:RR g.tab m ns vs ρ)(hs:SR Hd m m s S):Q .nx ρ S:=h m (Fl.nx,ρ) S (.refl m) ⟨rfl,hr⟩ hs
theorem PS.ret{w:W}{d:D}(h:PS g ns Hd m (.ok (some w,vs) s) Q E)(hr:RR g.tab m ns vs ρ)(hv:VR m w d)(hs:SR Hd m m s S):Q (.ret d) ρ S:=h m (Fl.ret d,ρ) S (.refl m) ⟨⟨d,rfl,hv⟩,hr⟩ hs
theorem pW{line:Nat}{ts:List Expr}{l:List Str}(h:ip ns line ts=some l):l.length=ts.length:=by
 induction ts generalizing l with
 |nil=>rw[<-A02 h];rfl
 |cons e ts ih=>
  refine aD (fH h) λ x _ h=>aD (fH h) λ r h2 h=>?_
  rw[<-A02 h]
  exact congrArg (·+1) (ih h2)
theorem rZ{line:Nat}{env:Env}(ln:env.scope.names=ns){f:Expr->Option Str}(hf:∀x p,f (.Name x p)=if(env.kindOf x==some .local&&p.line==line)=true then some x else none){ts:List Expr}{l:List Str}(h:ip ns line ts=some l):ts.filterMap f=l:=by
 induction ts generalizing l with
 |nil=>simp only[<-A02 h];rfl
 |cons e ts ih=>
  refine aD (fH h) λ x h1 h4=>aD (fH h4) λ r h2 h3=>?_
  obtain⟨p,rfl,a,b⟩:=th h1
  rw[<-A02 h3,List.filterMap_cons,hf,if_pos (Bool.and_eq_true_iff.mpr ⟨by unfold Env.kindOf;rw[ln,a];rfl,b⟩)]
  exact congrArg (x::·) (ih h2)
theorem BU{vs:List Expr}(h:vs.all pl=true){f:Expr->Bool}(hf:∀e,pl e=true->f e=false):vs.any f=false:=by
 rw[List.any_eq_false]
 intro e he
 rw[hf e (A06 h e he)]
 exact Bool.false_ne_true
theorem SA{b:Bool}(h:(!b)=true):b=false:=by cases b with
 |false=>rfl
 |true=>exact dJ h
inductive R9 (ns:Ns)(env:Env)(ts vs:List Expr)(k k':Nat)(p p':Pos):Prop where
 |mk (names:List Str) (h1:swappedStores [.Tuple ts k p] (.Tuple vs k' p') env=pure (some names)) (h2:names.length=ts.length) (h3:ip ns ((ts.head?.map (·.pos.line)).getD 0) ts=some names) (h4:ts.length<=3)
theorem CF{env:Env}{ts vs:List Expr}{k k':Nat}{p p':Pos}(ln:env.scope.names=ns)(hk:env.scope.kind=.function)(h:HZ ns ts vs=true):R9 ns env ts vs k k' p p':=by
 refine PO (ua h) λ h1 h2 h3 h4 h5 h6=>aD (gW h6) λ l e h6=>?_
 have b:=pW e
 refine⟨l,?_,b,e,by rcases Bool.or_eq_true_iff.mp h1 with q|q<;>(rw[eq_of_beq q];decide)⟩
 have hb:(env.blockKind !=.function)=false:=by unfold Env.blockKind;rw[hk];rfl
 delta swappedStores
 dsimp only
 rw[h1,show(vs.length !=ts.length)=false by simp only[bne,h2];rfl,hb,if_neg (show ¬((!true||false||false)=true)from Bool.false_ne_true)]
 rw[BU h3 (λ e he=>by cases e<;>first | rfl | exact dJ he),rZ ln (λ x p=>rfl) e,if_neg Bool.false_ne_true]
 have e1:(l.length !=ts.length||l.eraseDups.length !=l.length)=false:=by rw[b,bne_self_eq_false,bne,<-b,h6];rfl
 rw[e1,if_neg Bool.false_ne_true,SA h4,SA h5]
 rfl
theorem CG{env:Env}{ts vs:List Expr}{k k':Nat}{p p':Pos}(h:H0 ts vs=true):swappedStores [.Tuple ts k p] (.Tuple vs k' p') env=pure none:=by
 delta swappedStores
 dsimp only
 rcases Bool.or_eq_true_iff.mp h with h|h
 .rw[h];rfl
 .refine iK h λ h2 h3 h4=>?_
  rw[BU h3 (λ e he=>by cases e<;>first | rfl | exact dJ he)]
  cases h1:(ts.length==2||ts.length==3)
  .rfl
  .rw[show(vs.length !=ts.length)=false by simp only[bne,h2];rfl]
   by_cases hb:(env.blockKind !=.function)=true
   .rw[hb];rfl
   .rw[Bool.eq_false_iff.mpr hb,if_neg (show ¬((!true||false||false)=true)from Bool.false_ne_true),if_neg Bool.false_ne_true]
    split
    .rfl
    .first | rfl | (rw[h4];rfl)
theorem CE{c:Cx}{Q':Rh->aN->Prop}:∀{is:List Nat}{names:List Str}{ws:List W}{ds:List D}{vs cZ:V}{ρ:Rh},(∀(j:Nat)(x:Str),names[j]?=some x->∃i,is[j]?=some i/\pM ns i x=true)->names.length=is.length->kY vs is ws=some cZ->eu m ws ds->RR g.tab m ns vs ρ->(∀ρ',RR g.tab m ns cZ ρ'->Q' ρ' S)->
  Bk g c ρ S (names.map λ n=>bindName c.env n) ds Q' E:=by
 intro zl
 induction zl with
 |nil=>
  intro bc cM cT gm iG jb jc rI Kz HB HA Gz
  cases bc with
  |nil=>
   cases cM with
   |nil=>
    rw[show cT=[]from HB]
    exact uk (Gz jb (A02 Kz▸HA))
   |cons kI zt2=>
    exact bJ Kz
  |cons zh1 zt1=>
   exact nomatch rI
 |cons zh zt ih=>
  intro bc cM cT gm iG jb jc rI Kz HB HA Gz
  cases bc with
  |nil=>
   exact nomatch rI
  |cons zh3 zt3=>
   cases cM with
   |nil=>
    exact bJ Kz
   |cons zh4 zt4=>
    obtain⟨d,cT,rfl,hw,hr⟩:=HB
    refine aD (jc 0 zh3 rfl) λ i' e1 e2=>?_
    (refine sj e1 λ zq=>?_;subst zq)
    refine aD (gZ e2) λ k e3 e4=>aD (HA.put e3 e4 hw) λ bY hp Oe=>B5 ⟨bY,hp,ih (λ j y e=>jc (j+1) y e) (Nat.succ.inj rI) Kz hr Oe Gz⟩
end
section
variable {ns:Ns}
theorem yQ{line:Nat}:∀{is:List Nat}{es:List Expr}{l:List Str},gc ns is es=true->ip ns line es=some l->∀(j:Nat)(x:Str),l[j]?=some x->∃i,is[j]?=some i/\pM ns i x=true:=by
 intro zl
 induction zl with
 |nil=>
  intro bc cM cT gm iG jb jc
  rw[A08 cT]at gm
  rw[<-A02 gm]at jc
  exact bJ jc
 |cons zh zt ih=>
  intro bc cM cT gm iG jb jc
  cases bc with
  |nil=>
   exact dJ cT
  |cons zh1 zt1=>
   refine ey cT λ h5 h6=>d8 gm λ z h2 h7=>d8 h7 λ r h3 h8=>?_
   obtain⟨p',e',_⟩:=th h2
   subst e'
   have h0:pM ns zh z=true:=h5
   rw[<-A02 h8]at jc
   cases iG with
   |zero=>(refine sj jc λ zq=>?_;subst zq);exact ad zh rfl h0
   |succ iG=>exact ih h6 h3 iG jb jc
theorem eu.append{m:List Addr}{a':List W}{b':List D}:∀{a:List W}{b:List D},eu m a b->eu m a' b'->eu m (a++a') (b++b')
 |[],b,h,k=>by rw[show b=[]from h];exact k
 |w::a,_,h,k=>by
  obtain⟨d,ds,rfl,hw,hr⟩:=h
  exact .cons hw (hr.append k)
theorem eu.rev{m:List Addr}:∀{a:List W}{b:List D},eu m a b->eu m a.reverse b.reverse
 |[],b,h=>by rw[show b=[]from h];exact .nil
 |w::a,_,h=>by
  obtain⟨d,ds,rfl,hw,hr⟩:=h
  simp only[List.reverse_cons,List.reverse_cons];exact hr.rev.append (.cons hw .nil)
theorem wE(es:List Expr)(env:Env):(assignEach es env).length=es.length:=by
 induction es with
 |nil=>rfl
 |cons e es ih=>cases e<;>exact congrArg (·+1) ih
theorem aG.reput{base:Heap}{Y:YT}{X':XT}{ρ ρ':Rh}{σ:aN}{h:Heap}{x:Str}{a:Addr}{d:D}(H:aG g c base Y X' ρ σ h)(hl:(x,SK.loc,some (D.ref a))∈ ρ)(hp:i9 ρ x d ρ')(hd:bz (Pm g) X' (.ref a) d):aG g c base Y X' ρ' σ h:=by
 refine aD H.loc λ m hn hb=>{ H with nn:=by simp only[hp.names];exact H.nn,loc:=⟨m,hn,λ p lm=>?_⟩ }
 rcases hp.cases H.nn p lm with rfl|⟨h1,_⟩
 .obtain⟨q1,⟨q2,q3⟩|⟨q2,a',ez,q3,q4,q5⟩⟩:=hb _ hl
  .refine⟨q1,.inl ⟨q2,λ d' e=>?_⟩⟩
   refine aD (q3 _ rfl) λ v e1 r=>?_
   (refine sj e λ zq=>?_;subst zq);cases r.inv
   exact ad _ e1 hd
  .refine⟨q1,.inr ⟨q2,a',ez,q3,q4,λ d' e=>?_⟩⟩
   refine aD (q5 _ rfl) λ v e1 r=>?_
   (refine sj e λ zq=>?_;subst zq);cases r.inv
   exact ad _ e1 hd
 .exact hb p h1
inductive K2 (Hd:aN)(m as:List Addr)(s:St)(S:aN)(i:Nat)(o:MW)(a:Addr):Prop where
 |mk (mo:MO) (S':aN) (h:MR m o mo) (ht:Tk S (a,mo) S') (hs:SR Hd m as (s.set i .gone) S')
theorem SR.take'{Hd:aN}{m as:List Addr}{s:St}{S:aN}(h:SR Hd m as s S):∀{i:Nat}{o:MW}{a:Addr},s[i]?=some o->as[i]?=some a->o≠.gone->K2 Hd m as s S i o a:=by
 induction h with
 |nil=>intro i o a e;exact bJ e
 |obj h r ih=>intro i o a e1 e2 ho;cases i with
  |zero=>(refine sj e1 λ zq=>?_;subst zq);(refine sj e2 λ zq=>?_;subst zq);exact⟨_,_,h,.here,.gone r⟩
  |succ i=>obtain⟨mo,S',h0,h1,h2⟩:=ih e1 e2 ho;exact⟨mo,_,h0,.there h1,.obj h h2⟩
 |gone _ ih=>intro i o a e1 e2 ho;cases i with
  |zero=>(refine sj e1 λ zq=>?_;subst zq);exact absurd rfl ho
  |succ i=>obtain⟨mo,S',h0,h1,h2⟩:=ih e1 e2 ho;exact⟨mo,_,h0,h1,.gone h2⟩
theorem SR.take{Hd:aN}{m as:List Addr}{s:St}{S:aN}(h:SR Hd m as s S){i:Nat}{ds:List D}{a:Addr}(e1:s[i]?=some (.list ds))(e2:as[i]?=some a):∃S',Tk S (a,MO.list ds) S'/\SR Hd m as (s.set i .gone) S':=by
 obtain⟨mo,S',h0,h1,h2⟩:=h.take' e1 e2 nofun
 exact ad S' ((h0)▸h1) h2
theorem RR.slot{tab:List (Str×D)}{m:List Addr}{vs:V}{ρ:Rh}(hρ:RR tab m ns vs ρ):∀{i:Nat}{x:Str}{k:NameKind}{u:W},ns[i]?=some (x,k)->(k=.local\/k=.cell)->cW vs i=some u->∃d,(x,SK.loc,some d)∈ ρ/\VR m u d:=by
 induction hρ with
 |nil=>intro i x k u e;exact bJ e
 |@loc x k ns w o vs ρ hk h _ ih=>
  intro j x' k' u e1 e2 e3
  cases j with
  |zero=>
   cases e1
   refine aD (h _ (e3)) λ d ak hv=>?_;subst ak;exact ad d (.head _) hv
  |succ j=>refine aD (ih e1 e2 e3) λ d h1 h2=>?_;exact ad d (.tail _ h1) h2
 |fre h _ ih=>
  intro j x' k' u e1 e2 e3
  cases j with
  |zero=>cases e1;rcases e2 with e|e<;>cases e
  |succ j=>refine aD (ih e1 e2 e3) λ d h1 h2=>?_;exact ad d (.tail _ h1) h2
 |glb _ ih=>
  intro j x' k' u e1 e2 e3
  cases j with
  |zero=>cases e1;rcases e2 with e|e<;>cases e
  |succ j=>refine aD (ih e1 e2 e3) λ d h1 h2=>?_;exact ad d (.tail _ h1) h2
theorem FQ{ρ ρ':Rh}{S S':aN}{sts:List Stmt}{x:Str}{a:Addr}{ds:List D}{Q:Fl->Rh->aN->Prop}{E:D->Prop}(hl:(x,SK.loc,some (D.ref a))∈ ρ)(hp:i9 ρ x (.list ds) ρ')(ht:Tk S (a,.list ds) S')(h:pR g c ρ' S' sts Q E):pR g c ρ S sts Q E:=λ base Y X s H=>by
 refine cG (H.freeze (.list ht (.refl _)) (.ref a)) λ X' l H' r=>wpAny_mono (h base Y X' s (H'.reput hl hp r)) (λ _ _ z=>z.back l (.refl _ _ _)) λ _ _ z=>z
theorem vP{P:Params}{X:XT}{f:Nat}{a:Addr}{d:D}(hd:bz P X (.ref a) d):∀{fs:List (Nat×D)}{es:List DictEntry},du P X es fs->fs.lookup f=some (.ref a)->du P X es (nO f d fs):=by
 intro zl
 induction zl with
 |nil=>
  intro _ _ h
  exact bJ h
 |cons zx fs ih=>
  obtain⟨y,d'⟩:=zx
  intro es fK h
  obtain⟨t,v,es,rfl,hx,hr,r⟩:=fK.inv
  rw[List.lookup_cons]at h
  rw[js]
  cases e:f==y with
  |true=>
   rw[e]at h
   (refine sj h λ zq=>?_;subst zq)
   cases hr.inv
   exact .cons hx hd r
  |false=>
   rw[e]at h
   exact .cons hx hr (ih r h)
theorem BK{ρ:Rh}{S ba dB:aN}{sts:List Stmt}{b C dx f:Nat}{gs:List (Nat×D)}{a:Addr}{ds:List D}{Q:Fl->Rh->aN->Prop}{E:D->Prop}(ht:Tk S (a,.list ds) ba)(U:Up ba (b,.inst C dx gs) (b,.inst C dx (nO f (.list ds) gs)) dB)(hl:gs.lookup f=some (.ref a))(h:pR g c ρ dB sts Q E):pR g c ρ S sts Q E:=λ base Y X s H=>by
 refine cG (H.freeze (.list ht (.refl _)) (.ref a)) λ X' l H' r=>aD H'.loc λ m hn hb=>?_
 have hm:=U.mem
 obtain⟨h1,es,n,h2,rf⟩:=H'.sr _ hm
 refine wpAny_mono (h base Y X' s (H'.turnS hb hn (λ _ _ e _ _=>e) U rfl ⟨h1,es,n,h2,vP r rf hl⟩)) (λ _ _ z=>z.back l (.refl _ _ _)) λ _ _ z=>z
end
theorem i9.self{ρ ρ':Rh}{x:Str}{d:D}(h:i9 ρ x d ρ'):Lk ρ' x d:=by
 induction h with
 |here=>exact .here
 |there _ ih=>exact .there ih
theorem i9.lk{ρ ρ':Rh}{x y:Str}{d d':D}(h:i9 ρ x d ρ')(n:y≠x)(l:Lk ρ y d'):Lk ρ' y d':=by
 induction h with
 |here=>cases l with
  |here=>exact absurd rfl n
  |there l=>exact .there l
 |there _ ih=>cases l with
  |here=>exact .here
  |there l=>exact .there (ih n l)
theorem w6{e:Expr}{y:Str}(h:P0 e y=true):∃p q,e=.Attribute (.Name y p) "told" q:=by
 refine fY h λ o t q h=>aj (bE h) λ h1 h2=>aS (eY h1) λ p ak=>?_;subst ak
 exact iB p q (by rw[A00 h2])
section
variable {s s':Shared}
theorem wD{body:List Stmt}{dX:ExceptHandler}{hs:List ExceptHandler}{pos:Pos}{Q:Fl->Rh->aN->Prop}(h:pR g c ρ σ body (λ f ρ' σ'=>f=.nx/\Q .nx ρ' σ') FF):AX g c ρ σ (.Try body (dX::hs) [] [] pos) Q E:=λ base Y X s H=>by
 refine wpAny_Try_except (wpAny_mono (h base Y X s H) ?_ λ _ _ z=>z.ff)
 rintro f aB ⟨bA,f',bY,aM,aY,aZ,aJ,aL,rfl,q⟩
 cases f<;>first | exact aL.elim | skip
 exact wpAny_execs_nil ⟨bA,.nx,bY,aM,aY,aZ,aJ,trivial,q⟩
noncomputable def Cx.caught(c:Cx)(e:Addr):Cx:={ c with A:=c.A.mark (some (.ref e)),k:=0 }
theorem aG.caught(H:aG g c base Y X ρ σ h)(e:Addr):aG g (c.caught e) base Y X ρ σ h :=
 have O:=H.ok
 { H with ok:=⟨O.frames,O.kind,O.glob,O.blt,Nat.lt_of_le_of_lt (Nat.add_le_add_left (Nat.zero_le _) _) O.room,Nat.lt_of_le_of_lt (Nat.add_le_add_right (Nat.add_le_add_left (Nat.mul_le_mul_left _ (Nat.zero_le _)) _) _) O.units,λ q=>absurd q (Nat.lt_irrefl _),O.ownc,O.frame⟩ }
theorem aG.left{e:Addr}(wK:aG g c base Y X' ρ' σ h)(H:aG g (c.caught e) base Y X ρ σ s.heap):aG g c base Y X ρ σ s.heap:={ H with ok:=wK.ok }
structure B7 (g:c8)(y:Str)(e dx:Addr)(i:Int):Prop where
 at':mh g.K g.aBad
 x:∃vs sl od tk,g.ex e=some ⟨.ref g.aBad,some dx,.fields vs,sl⟩/\g.ex dx=some od/\lookIn "told" od=some (some (.int i tk))
theorem sO{x:Str}{e:Expr}{dd:D}{Q:D->aN->Prop}(h:N4 x e=true)(l:Lk ρ x dd)(q:Q (.bool dd.isNone) σ):AE g c ρ σ e Q E:=by
 refine kt h λ l' ops rs p h=>iK h λ h1 h2 h3=>aS (eY h1) λ p1 ak=>?_;subst ak
 cases A00 h2
 refine hP h3 λ r er h4=>?_
 rw[cF er]
 refine di h4 λ co k p2 h5=>?_
 obtain rfl:co=.none:=A00 h5
 exact B0 (ca l (uf (NT q))) rfl
theorem v0{y:Str}{e:Expr}{e0 dx:Addr}{i:Int}{Q:D->aN->Prop}(S:B7 g y e0 dx i)(h:N2 y e=true)(l1:Lk ρ y (.ref e0))(l2:Lk ρ "isinstance" (.bi "isinstance"))(l3:Lk ρ "int" (.ty "int"))(q:Q (.bool true) σ):AE g c ρ σ e Q E:=by
 obtain⟨ha,vs,sl,od,tk,e1,e2,e3⟩:=S
 refine eB h λ fn args ks p h=>iK h λ h1 h2 h3=>?_
 obtain⟨p1,rfl⟩:=eY h1
 cases A08 h2
 refine hP h3 λ r er h4=>?_
 obtain⟨a,b⟩:=r
 refine ey h4 λ h1 h2=>fS (w6 h1) λ p2 p3 e4=>aS (eY h2) λ p4 e5=>?_
 simp only[ji er,show a=_ from e4,show b=_ from e5]
 exact j6 (ca l2 ⟨.bi _,et (ud ha l1 e1 e2 e3 (et (ca l3 (j5 (iJ q)))))⟩) (Nat.zero_le _) rfl rfl
theorem Em{x:Str}{e:Expr}(h:NY x e=true):∃lp op cp,e=.Call (.Name "len" lp) [.Name x op] [] cp:=by
 refine eB h λ fn args ks p h=>iK h λ h1 h2 h3=>?_
 obtain⟨p1,rfl⟩:=eY h1
 cases A08 h2
 refine hP h3 λ r er h4=>?_
 obtain⟨p2,rfl⟩:=eY h4
 rw[cF er]
 exact QU _ _ _ rfl
theorem v4{x y:Str}{e:Expr}{e0 dx:Addr}{i:Int}{bs:List UInt8}{Q:D->aN->Prop}(S:B7 g y e0 dx i)(h:N0 y x e=true)(l1:Lk ρ y (.ref e0))(l4:Lk ρ "len" (.bi "len"))(l6:Lk ρ x (.bytes bs))(hz:bs.length<=1000000000000)(q:Q (.bool (decide (0<=i)&&decide (i<=bs.length))) σ):AE g c ρ σ e Q E:=by
 obtain⟨ha,vs,sl,od,tk,e1,e2,e3⟩:=S
 refine kt h λ l' ops rs p h=>iK h λ h0 h2 h3=>di h0 λ co k p1 h5=>?_
 obtain rfl:co=.int 0:=A00 h5
 cases A00 h2
 refine hP h3 λ r er h4=>?_
 obtain⟨a,b⟩:=r
 refine ey h4 λ h1 h2=>fS (w6 h1) λ p2 p3 e4=>PK (Em h2) λ lp op cp e5=>?_
 simp only[ji er,show a=_ from e4,show b=_ from e5]
 refine uh (tJ (ud ha l1 e1 e2 e3 (JF (qb ⟨λ h0=>?_,λ h0=>?_⟩)))) rfl
 .simp only[h0]at q
  exact j6 (ca l4 ⟨.bi _,et (ca l6 (j5 (Gl .bytes hz (JF q))))⟩) (Nat.zero_le _) rfl rfl
 .simp only[h0]at q;exact q
theorem HL{ns:Ns}{j a b:Nat}{y due oct:Str}{ka kb:NameKind}{ev:Expr}{e0 dx:Addr}{i:Int}{dd:D}{bs:List UInt8}(S:B7 g y e0 dx i)(h:Ek ns j a b y ev=true)(j2:ns[a]?=some (due,ka))(j3:ns[b]?=some (oct,kb))(l1:Lk ρ y (.ref e0))(l2:Lk ρ "isinstance" (.bi "isinstance"))(l3:Lk ρ "int" (.ty "int"))(l4:Lk ρ "len" (.bi "len"))(l5:Lk ρ due dd)(l6:Lk ρ oct (.bytes bs))(hz:bs.length<=1000000000000) :
  AE g c ρ σ ev (λ d σ'=>d=.bool (dd.isNone&&(decide (0<=i)&&decide (i<=bs.length)))/\σ'=σ) E:=by
 refine lV h λ op es p h=>hP h λ q eq h=>?_
 simp only[j2,j3]at h
 refine KI h λ h0 _ hA hB hD=>?_
 obtain rfl:op=.And:=A00 h0
 rw[w9 eq]
 refine rE (pI (sO hA l5 (gk ⟨λ q=>?_,λ q=>⟨?_,rfl⟩⟩)))
 .rw[show dd.isNone=true from q]
  refine pI (v0 S hB l1 l2 l3 (gk ⟨λ _=>?_,λ q=>nomatch q⟩))
  exact B6 (v4 S hD l1 l4 l6 hz ⟨rfl,rfl⟩)
 .rw[show dd.isNone=false from ?_];rfl
  cases hd:dd.isNone with
  |true=>exact absurd hd q
  |false=>rfl
theorem xh{x:Str}{o:Option D}{d:D}:∀{ρ:Rh},(x,SK.loc,o)∈ ρ->∃ρ',i9 ρ x d ρ':=by
 intro zl
 induction zl with
 |nil=>
  intro bc
  exact cu bc
 |cons zh zt ih=>
  intro bc
  rcases A03 bc with rfl|bc
  .exact⟨_,.here⟩
  .refine aS (ih bc) λ r' q=>?_;exact⟨_,.there q⟩
theorem i9.memL{x:Str}{d:D}(h:i9 ρ x d ρ'):(x,SK.loc,some d)∈ ρ':=by
 induction h with
 |here=>exact .head _
 |there _ ih=>exact .tail _ ih
theorem De{x:Str}{o:Option D}{ρ:Rh}(h:(x,SK.loc,o)∈ ρ)(nn:(ρ.map (·.1)).Nodup):∀o',(x,SK.loc,o')∈ ρ->o'=o:=by
 induction ρ with
 |nil=>exact cu h
 |cons p r ih=>
  rw[List.map_cons,List.nodup_cons]at nn
  intro o' h'
  rcases A03 h with q|h
  .rcases A03 h' with q'|h'
   .simp only[<-q]at q';cases q';rfl
   .exact absurd (A11 ⟨_,h',by simp only[<-q]⟩) nn.1
  .rcases A03 h' with q'|h'
   .exact absurd (A11 ⟨_,h,by simp only[<-q']⟩) nn.1
   .exact ih h nn.2 o' h'
def CS(g:c8)(A:Around)(env:Env)(y:Str)(hp:Pos)(Q:Flow->Shared->Prop)(E:Value->Shared->Prop)(r:Result)(s:Shared):Prop:=match r with
 |.ok f=>wpAny (M g) A (do bindName env y .none;unbindBehindTheSuite env y hp) (λ _ bu=>Q f bu) E s
 |.error x=>cameBackBy (M g) A env E x s
theorem Am{A:Around}{env:Env}{e C:Addr}{bm:List Value}{t:Expr}{hp:Pos}{y:Str}{body:List Stmt}{Q:Flow->Shared->Prop}{Ev:Value->Shared->Prop}{o oc:Obj}
  (hn:∀Q E,Q (.ref C) s->wpAny (M g) (A.mark (some (.ref e))) (eval t env) Q E s) (hC:s.heap.get? C=some oc) (JM:Bc C bm oc) (T:bm.contains (.type "BaseException")=true) (he:s.heap.get? e=some o) (hc:o.cls=.ref C)
  (h:codeAny (M g) (A.mark (some (.ref e))) (.handlers (.ref e) [.ExceptHandler none (some y) body hp] env) (CS g A env y hp Q Ev) s):wpAny (M g) A (handleBy (.ref e) env [.ExceptHandler (some t) (some y) body hp]) Q Ev s:=by
 obtain⟨nm,qn,N,Vh,qW,sn,sub,ab,col,Vg,k0,k1,V5,k3,k5,rfl⟩:=JM
 refine wpAny_handleBy_cons (codeAny_handlers_test (hn _ _ ?_)) (by intro q;cases q)
 exact wpAny_excMatches_sub_self hC he hc T h
inductive TK (g:c8)(c:Cx)(base:Heap)(Y:YT)(X:XT)(ρ:Rh)(σ:aN)(e dx:Addr)(i:Int)(h:Heap):Prop
 |mk (H:aG g c base Y X ρ σ h) (vs:Array Value) (sl:Array (Option Value)) (od:Obj) (tk:Tok) (he:h.get? e=some ⟨.ref g.aBad,some dx,.fields vs,sl⟩) (mx:h.get? dx=some od) (g7:dx≠e) (qU:lookIn "told" od=some (some (.int i tk)))
theorem BF{y:Str}{v:D}(hk:c.env.kindOf y=some .local)(H:aG g c base Y X ρ σ h)(hy:(y,SK.loc,some v)∈ ρ):∃m v,h.Ns c.env.locals m/\m y=some v:=by
 refine aD H.loc λ m hn hb=>?_
 obtain⟨_,⟨_,hv⟩|⟨mw,_⟩⟩:=hb _ hy
 .refine aD (hv _ rfl) λ v e _=>?_;exact gJ m v hn e
 .rw[hk]at mw;cases mw
theorem wd{y:Str}{ev:Expr}{rp hp:Pos}{e dx:Addr}{i:Int}{b:Bool}{Q:Flow->Shared->Prop}{Ev:Value->Shared->Prop}(hf:∀Q E,(∀h',TK g c base Y X ρ σ e dx i h'->Q () { s with heap:=h' })->wpAny (M g) (c.caught e).A (setFlight (.ref e) none) Q E s)
  (ha:mh g.K g.aBad) (ne:X e=none/\Y e=none/\e∉c.os/\e∉eD σ) (nd:X dx=none/\Y dx=none/\dx∉c.os/\dx∉eD σ) (hk:c.env.kindOf y=some .local) (hy:(y,SK.loc,none)∈ ρ)
  (hv:∀z bY,B7 (g.at z) y e dx i->i9 ρ y (.ref e) bY->AE (g.at z) (c.caught e) bY σ ev (λ d σ'=>d=.bool b/\σ'=σ) FF)
  (eT:∀X' h' t',fE X X'->aG g c base Y X' ρ σ h'->Q (.ret (.bool b)) { s with heap:=h',toks:=t' }) :
  codeAny (M g) (c.caught e).A (.handlers (.ref e) [.ExceptHandler none (some y) [.Return (some ev) rp] hp] c.env) (CS g c.A c.env y hp Q Ev) s:=by
 refine codeAny_handlers_suite_as (hf _ _ λ cB z=>?_)
 obtain⟨cD,vs,sl,od,tk,he,mx,g7,qU⟩:=z
 refine aj (cD.addX ne he) λ le He=>aj (He.addX ⟨(if_neg g7).trans nd.1,nd.2⟩ mx) λ ld Hd=>aS (xh (d:=.ref e) hy) λ bY eH=>eU (g:=g.at (nA (nA X e _) dx od)) (c:=c.caught e) (s:={ s with heap:=cB }) ((Hd.at _ λ _ _ q=>q).caught e) (.ref e) eH λ de PY fQ=>?_
 have W:=m5 (aI:=[]) (oN (pos:=rp) (lE (hv (nA (nA X e _) dx od) bY ⟨ha,vs,sl,od,tk,ld _ _ (bT ..),bT ..,qU⟩ eH) (λ d σ' z=>wk (Q:=λ f ρ' σ'=>f=.ret (.bool b)/\ρ'=bY/\σ'=σ) ⟨by rw[z.1],rfl,z.2⟩) λ _ z=>z)) base Y _ { s with heap:=de,toks:=PY } fQ
 refine wpAny_mono W ?_ λ _ _ z=>z.ff
 rintro f rY ⟨dH,f',ij,bb,bt,ja,o9,vL,rfl,rfl,rfl⟩
 cases f<;>first | exact vL.elim | skip
 obtain rfl:=(vL).inv
 have ja:=(cD.left (ja.un λ b o z=>bt _ _ (ld _ _ (le _ _ (cD.xe _ _ z)))))
 refine aS (xh (d:=.none) eH.memL) λ Ri oh=>wpAny_bind (wpAny_bindName (eU ja .none oh λ EI LJ j9=>?_))
 have zQ:=De hy cD.nn
 have tM:=j9.forget (oh.fgt (eH.fgt (.refl ρ) zQ cD.nn) zQ ja.nn)
 refine dP (BF hk j9 oh.memL) λ m v hn hv=>wpAny_onRaise (HN (s:={ rY with heap:=EI,toks:=LJ }) tM hk zQ ⟨m,hn,hv⟩ λ Q3 Ka=>?_)
 refine fS o9.sm λ SU Rl e=>?_
 subst e
 exact eT _ Q3 LJ (λ b o z=>bt _ _ (ld _ _ (le _ _ z))) Ka
theorem Kb.inh{frs:List Env}{e dx:Addr}{i:Int}{z:XT}(H:aG g c base Y X ρ σ h)(F:Kb (g.at z) base frs e dx (.int i) h):TK g c base Y X ρ σ e dx i h:=by
 obtain⟨vs,sl,od,v,he,jK,mx,wP,⟨es,ne,qV⟩,qU,Oe,wO,_⟩:=F
 refine aS Oe.inv λ tk q=>?_
 subst q
 exact⟨H,vs,sl,od,tk,he,mx,λ z=>(by rw[z,he]at mx;(refine sj mx λ zq=>?_;subst zq);cases qV),qU⟩
theorem Bx{x y:Str}{p' Lc pos tp rp hp:Pos}{value ev:Expr}{i:Int}{b:Bool}{Q:Flow->Shared->Prop}{Ev:Value->Shared->Prop}(H:aG g c base Y X ρ σ s.heap)
  (B:Be g) (ha:mh g.K g.aBad) (hr:∃r,c.frs=c.env::r) (hk:c.env.kindOf y=some .local) (hy:(y,SK.loc,none)∈ ρ) (l0:Lk ρ "BadSet" (.ref g.aBad)) (hs:swapsWith value (some (.Name x p')) Lc.line c.env=pure false)
  (h:∀z,AE (g.at z) c ρ [] value (λ _ _=>False) (λ d=>d=.int i)) (hv:∀z e dx bY,B7 (g.at z) y e dx i->i9 ρ y (.ref e) bY->AE (g.at z) (c.caught e) bY σ ev (λ d σ'=>d=.bool b/\σ'=σ) FF)
  (eT:∀X' h' t',fE X X'->aG g c base Y X' ρ σ h'->Q (.ret (.bool b)) { s with heap:=h',toks:=t' }) :
  wpAny (M g) c.A (exec (.Try [.Assign [.Name x p'] value Lc] [.ExceptHandler (some (.Name "BadSet" tp)) (some y) [.Return (some ev) rp] hp] [] [] pos) c.env) Q Ev s:=by
 refine aj H.all λ lX wK=>wpAny_Try_except (wpAny_execs_cons (wpAny_Assign_Name (wpAny_mono (h (lI X σ s.heap) base Y _ s wK) (λ v aB z=>?_) (λ v aB z=>?_)) hs))
 .obtain⟨_,_,_,_,_,_,_,f⟩:=z;exact f.elim
 obtain⟨e,dx,t,rfl,F,st,rfl,h5⟩:=z
 refine aS hr λ r hr=>gH H.ok.frame λ e' r' L h1 h2 h3=>?_
 have rL:=H.ok.frames
 rw[hr]at h1;(injection h1 with zq;subst zq)
 rw[hr]at rL F
 refine mH (g:=g.at (lI X σ s.heap)) rL h3 F λ a7 rG sF bB=>ft (g:=g.at (lI X σ s.heap)) (s:={ aB with heap:=a7 }) rG bB λ a8 ib sE bn=>?_
 have Fs:dR c.os Y s { aB with heap:=a8 }:=st.trans (NF.stp (sF.trans sE))
 have am:aG g c base Y X ρ σ a8:=H.err Fs ib.xs
 refine fS st.sm λ SV w0 q=>?_
 subst q
 refine aj (gu l0 (s:={ s with heap:=a8,toks:=w0 }) (am.caught e)) λ hd Ld=>je B.cl λ o bm hK JM T=>?_
 obtain⟨fU,Ro,Rv,bU,Mp,_⟩:=ib.ob
 refine Am (λ Q E q=>wpAny_Name (wpAny_mono Ld (λ v bu z=>?_) λ _ _ z=>z.elim) hd) (am.gd.kin.keeps (λ b o e=>am.x _ _ (am.bx _ _ e)) _ _ hK) JM T.base Mp rfl ?_
 .refine aj z λ zq r=>?_
  subst zq
  obtain rfl:=r.inv
  exact q
 have no:∀b∈[e,dx],X b=none/\Y b=none/\b∉c.os/\b∉eD σ:=λ b hb=>by
  refine cI (h5 b hb) λ q1 q2 q3=>aj (KV H q3) λ q3 q4=>jF q3 q2 q1 q4
 refine wd (λ Q E q=>ft (g:=g.at (lI X σ s.heap)) (s:={ s with heap:=a8,toks:=w0 }) ib bn λ cB OW Pn _=>q cB ?_) ha (no _ (.head _)) (no _ (.tail _ (.head _))) hk hy (λ z bY=>hv z e dx bY) λ X' h' t'=>eT X' h' t'
 exact OW.ob.inh (H.err (Fs.trans (NF.stp (s:={ s with heap:=a8,toks:=w0 }) Pn)) OW.xs)
end
inductive VU (ns:Ns)(j a b:Nat)(h:ExceptHandler):Prop where
 |mk (y:Str) (tp rp hp:Pos) (ev:Expr) (e:h=.ExceptHandler (some (.Name "BadSet" tp)) (some y) [.Return (some ev) rp] hp) (hv:Ek ns j a b y ev=true)
theorem En{ns:Ns}{j a b:Nat}{h:ExceptHandler}(H:Js ns j a b h=true):VU ns j a b h:=by
 obtain⟨t,n,body,hp⟩:=h
 refine hP H λ t zt H=>hP H λ y zy H=>hP H λ st eb H=>?_
 simp only[zt,zy,cF eb]
 refine t9 H λ o rp H=>hP H λ ev ze H=>ey H λ h1 H=>aS (eY h1) λ tp ak=>?_;subst ak
 rw[ze]
 exact⟨y,tp,rp,hp,ev,rfl,H⟩
inductive VP (ns:Ns)(j a b:Nat)(y:Str):Prop where
 |mk (due oct:Str) (ka kb:NameKind) (e2:ns[a]?=some (due,ka)) (e3:ns[b]?=some (oct,kb)) (g:NZ ns j y due oct=true)
theorem Ej{ns:Ns}{j a b:Nat}{y:Str}{ev:Expr}(h:Ek ns j a b y ev=true):VP ns j a b y:=by
 refine lV h λ op es p h=>hP h λ q eq h=>hP h λ pa ea h=>hP h λ pb eb h=>⟨pa.1,pb.1,pa.2,pb.2,ea,eb,(bE (bE h).2).1⟩
theorem PG.imp{α β:Type}{rel:List Addr->α->β->Prop}{Hd:aN}{m:List Addr}{r:R α}{Q Q':β->aN->Prop}{E:D->Prop}(h:PG Hd rel m r Q E)(q:∀b S,Q b S->Q' b S):PG Hd rel m r Q' E:=match r,h with
 |.ok a s,h=>λ m' b S' l hr hs=>q _ _ (h m' b S' l hr hs)
 |.err d,h=>h
 |.no,h=>h
section
variable {g:c8}
theorem PS.bind{Hd:aN}{m:List Addr}{r:R (Option W×V)}{f:V->St->R (Option W×V)}{Q Q':Fl->Rh->aN->Prop}{E:D->Prop}(h:PS g ns Hd m (r.bind λ p s=>match p.1 with
  |none=>f p.2 s
  |some _=>.ok p s) Q E) (nx:∀m' vs s ρ S,RR g.tab m' ns vs ρ->SR Hd m' m' s S->PS g ns Hd m' (f vs s) Q E->Q' .nx ρ S) (rt:∀d ρ S,Q (.ret d) ρ S->Q' (.ret d) ρ S):PS g ns Hd m r Q' E :=
 PG.imp (PG.bind (rel:=IJ g.tab ns) h) λ p dB z=>by
  obtain⟨au,a,aP,aU,⟨ha,hr⟩,bP,bR⟩:=z
  obtain⟨f',cJ⟩:=p
  obtain⟨o,fU⟩:=a
  cases o with
  |none=>simp only[show f'=.nx from ha];exact nx au fU aP cJ dB hr bP bR
  |some w=>refine aD ha λ d e hv=>?_;simp only[show f'=.ret d from e];exact rt d cJ dB (PS.ret (w:=w) (vs:=fU) (s:=aP) bR hr hv bP)
theorem C8{i:Nat}{v:IE}{x:Str}{p pos:Pos}{e:Expr}(h1:pM ns i x=true)(hn:nc e=true)(hv:SE g k C ns true v e):SX g k C ns (.asg i v) (.Assign [.Name x p] e pos):=λ c Hd ρ vs m s S Q E hc hρ hs hp=>by
 refine aD (gZ h1) λ kd e1 e2=>kF (hv.run hc.ok hρ hs hp λ aJ ck aB bB ba aY aX ag aV aQ=>?_) (n0 hn _ _ _)
 refine aD (aX.put e1 e2 ag) λ ρ' eH hr=>ad ρ' eH (PS.nx aQ hr aV)
theorem xL{i:Nat}{cs:List CI}{t:IT}{it:IE}{ifs:IO}{elt:IE}{x:Str}{p p' pos:Pos}{g8 t' mv:Expr}{g5:List Expr}{sc:Scope}(h1:pM ns i x=true)(a1:ns.lookup x=some .local)(a2:(p.line==p'.line)=true)(a3:(!(sc.names.any λ(n,k)=>n==x&&(k==.local||k==.cell)))=true)
  (h2:Al ns cs sc=true) (h3:pl mv=true) (hi:SE g k C ns true it mv) (h5:sy sc.names t t'=true) (h6:SI g k C sc.names ifs g5) (h7:SE g k C sc.names false elt g8) :
  SX g k C ns (.asg i (.comp cs t it ifs elt)) (.Assign [.Name x p] (.ListComp g8 [⟨t',mv,g5,0⟩] sc p') pos):=λ c Hd ρ vs m s S Q E hc hρ hs hp=>by
 refine aD (gZ h1) λ kd e1 e2=>?_
 have ln:=hc.ok.sc rfl
 have hp:=show PS g ns Hd m (((ao C it vs s).bind _).bind _) Q E from hp
 rw[R.bind_assoc]at hp
 refine m8 (hc.ok.k▸hc.ok.pos) c.env.scope rfl (pA hρ ln h2).2.2 rfl ?_ (hi.run hc.ok hρ hs hp λ aJ ck aB bB ba aY aX ag aV aQ=>uU (Q:=λ d S'=>∃ρ',i9 ρ x d ρ'/\Q .nx ρ' S') (E:=E) hc.ok.k hc.ok.pos aX ln h2 h5 h6 h7 ag aV ?_) (ku h3 _)
 .unfold swapsWith
  dsimp only
  have hb:(c.env.blockKind==.function)=true:=by unfold Env.blockKind;rw[hc.kd];rfl
  simp only[hb,show(c.env.kindOf x==some NameKind.local)=true by unfold Env.kindOf;simp only[ln,a1];rfl]
  show pure ((p.line==p'.line)&&_)=_
  simp only[a2,a3];rfl
 .refine PG.imp (PG.bind (rel:=VR) aQ) λ d S' z=>?_
  obtain⟨m',w,s',l,hv,cz,h'⟩:=z
  refine aD ((aX.mono l).put e1 e2 hv) λ ρ' eH hr=>ad ρ' eH (PS.nx h' hr cz)
theorem xK{ts:List Nat}{v:IE}{es args:List Expr}{fn:Expr}{kw:List Keyword}{i:Nat}{p p' pos:Pos}(h1:gc ns ts es=true)(hv:SE g k C ns true v (.Call fn args kw p')):SX g k C ns (.asgt ts v) (.Assign [.Tuple es i p] (.Call fn args kw p') pos):=λ c Hd ρ vs m s S Q E hc hρ hs hp=>by
 refine iL (hv.run hc.ok hρ hs hp λ aJ ck aB bB ba aY aX ag aV aQ=>?_) rfl rfl
 refine aD (PG.onO aQ) λ ds e aQ=>aD (PG.onO aQ) λ cZ e2 aQ=>?_
 simp only[Fp e ag]
 exact rT (hc.ok.k▸hc.ok.pos) h1 e2 (.ds _) aX λ ρ' _ hr=>PS.nx aQ hr aV
theorem wo{ts:List Nat}{xs:dS}{es rM:List Expr}{i i':Nat}{p p' pos:Pos}(h1:gc ns ts es=true)(h3:HZ ns es rM=true)(hv:um g k C ns true xs rM):SX g k C ns (.mas true ts xs) (.Assign [.Tuple es i p] (.Tuple rM i' p') pos):=λ c Hd ρ vs m s S Q E hc hρ hs hp=>by
 obtain⟨names,e1,e2,e3,e4⟩:=CF (k:=i) (k':=i') (p:=p) (p':=p') (hc.ok.sc rfl) hc.kd h3
 refine m7 (hc.ok.k▸hc.ok.pos) e1 (hv.run hc.ok hρ hs hp λ aJ ck aB bB ba aY aX ag aV aQ=>?_) rfl
 refine aD (PG.onO aQ) λ fU e aQ=>?_
 have fN:=pu e
 simp only[List.length_reverse,List.length_reverse]at fN
 have uA:ts.length=names.length:=by
  obtain⟨_,b,_⟩:=Gq h1 c.env
  simp only[e2,<-b]
  exact wE es c.env
 simp only[<-e2,<-uA,fN,ag.len]at e4
 refine eN (by simp only[<-ag.len,<-fN,uA]) (Nat.le_trans e4 (by decide)) (CE (is:=ts.reverse) (ws:=ck.reverse) (vs:=vs) (λ j x hx=>?_) (by simp only[List.length_reverse,List.length_reverse,uA]) e ag.rev aX λ ρ' hr=>PS.nx aQ hr aV)
 have hj:j<names.reverse.length:=(List.getElem?_eq_some_iff.mp hx).1
 simp only[List.length_reverse]at hj
 rw[List.getElem?_reverse hj]at hx
 rw[List.getElem?_reverse (by simp only[uA];exact hj),uA]
 exact yQ h1 e3 _ x hx
theorem C0{ts:List Nat}{xs:dS}{es rM:List Expr}{i i':Nat}{p p' pos:Pos}(h1:gc ns ts es=true)(h3:H0 es rM=true)(hv:um g k C ns true xs rM):SX g k C ns (.mas false ts xs) (.Assign [.Tuple es i p] (.Tuple rM i' p') pos):=λ c Hd ρ vs m s S Q E hc hρ hs hp=>by
 refine iL (mf (hv.run hc.ok hρ hs hp λ aJ ck aB bB ba aY aX ag aV aQ=>?_)) rfl (CG h3)
 refine aD (PG.onO aQ) λ fU e aQ=>aj (PG.need aQ) λ hz aQ=>⟨by rw[<-ag.len];exact Nat.le_trans (A00 hz) (by decide),rT (hc.ok.k▸hc.ok.pos) h1 e ag aX λ ρ' _ hr=>PS.nx aQ hr aV⟩
theorem wu{o v:IE}{f:Nat}{o' e:Expr}{p pos:Pos}(gf:GF g row)(hn:nc e=true)(hv:SE g k C ns true v e)(ho:SE g k C ns true o o'):SX g k C ns (.seta o f v) (.Assign [.Attribute o' (bh f) p] e pos):=λ c Hd ρ vs m s S Q E hc hρ hs hp=>by
 refine tE (hv.run hc.ok hρ hs hp λ aJ ck aB bB ba aY aX ag aV aQ=>ho.run hc.ok aX aV aQ λ au kW aP bn dB aU cv cj bP bR=>?_) (n0 hn _ _ _)
 refine aD (PG.onO bR) λ bu e bR=>pf gf e cj (ag.mono aU) bP λ S' cz=>PS.nx bR cv cz
theorem zJ{Hd:aN}{m:List Addr}{s:St}{S:aN}{E:D->Prop}{α β:Type}{rel:List Addr->α->β->Prop}{f:W->St->R α}{Q:β->aN->Prop}{Q1:D->aN->Prop}{op:Operator}{old x:W}{dold dx:D}(h:PG Hd rel m ((sQ s op old x).bind f) Q E)(ho:VR m old dold)(hx:VR m x dx)(hs:SR Hd m m s S)
  (q:∀m' w s' d S',gL m m'->VR m' w d->SR Hd m' m' s' S'->PG Hd rel m' (f w s') Q E->Q1 d S'):cy g (inplaceOp op) dold dx S Q1 E:=λ c' base Y X ρ' s bI bU H r1 r2=>
 wpAny_mono (EG (PG.bind (rel:=VR) h) ho hx hs c' base Y X ρ' s bI bU H r1 r2) (λ _ _ z=>by
  obtain⟨X',d,σ',q1,q2,q3,q4,c9,vA,bu,bt,g6,fZ,qT⟩:=z
  exact⟨X',d,σ',q1,q2,q3,q4,q c9 vA bu d σ' bt g6 fZ qT⟩) λ _ _ z=>z
theorem xI{o v:IE}{f:Nat}{op:Operator}{o' e:Expr}{p pos:Pos}(gf:GF g row)(ho:SE g k C ns true o o')(hv:SE g k C ns true v e):SX g k C ns (.auga o f op v) (.AugAssign (.Attribute o' (bh f) p) op e pos):=λ c Hd ρ vs m s S Q E hc hρ hs hp=>by
 refine tG (ho.run hc.ok hρ hs hp λ aJ ck aB bB ba aY aX ag aV aQ=>?_)
 refine aD (PG.onO aQ) λ old e0 aQ=>rA gf e0 ag aV λ dold Q8=>hv.run hc.ok aX aV aQ λ au kW aP bn dB aU cv cj bP bR=>zJ bR (Q8.mono aU) cj bP λ c9 vA bu i5 wG bt g6 fZ jG=>aD (PG.onO jG) λ dT e' qT=>pf gf e' (ag.mono (aU.trans bt)) g6 fZ λ S' cz=>PS.nx qT (cv.mono bt) cz
theorem xH{i:Nat}{v:IE}{op:Operator}{x:Str}{e:Expr}{p pos:Pos}(h1:pM ns i x=true)(hv:SE g k C ns true v e):SX g k C ns (.augv i op v) (.AugAssign (.Name x p) op e pos):=λ c Hd ρ vs m s S Q E hc hρ hs hp=>by
 refine aD (gZ h1) λ kd e1 e2=>aD (PG.onO hp) λ old e0 hp=>aD (hρ.get e1 e0) λ dold Q8 qU=>tF qU (hv.run hc.ok hρ hs hp λ au kW aP bn dB aU cv cj bP bR=>?_)
 refine zJ bR (Q8.mono aU) cj bP λ c9 vA bu i5 wG bt g6 fZ jG=>aD ((cv.mono bt).put e1 e2 g6) λ ρ'' eH hr=>ad ρ'' eH (PS.nx jG hr fZ)
theorem wt{v:IE}{e j:Expr}{i:Nat}{x:Str}{p p' pos:Pos}(h1:pM ns i x=true)(h2:sJ j=true)(h3:nc e=true)(hv:SE g k C ns true v e):SX g k C ns (.setx i v) (.Assign [.Subscript (.Name x p) j p'] e pos):=λ c Hd ρ vs m s S Q E hc hρ hs hp=>by
 refine aD (gZ h1) λ kd e1 e2=>aD (PG.onO hp) λ jj e0 hp=>aD (fH e0) λ w e3 e4=>aD (hρ.get e1 e3) λ d Q7 hl=>aD (kM e4 Q7) λ a ak hm=>?_;subst ak
 refine FS hl h2 (λ t l env=>n0 h3 t l env) (hv.run hc.ok hρ hs hp λ aJ ck aB bB ba aY aX ag aV aQ=>?_)
 refine aD (PG.onO aQ) λ x' e5 aQ=>aD (PG.onO aQ) λ ds e6 aQ=>aj (PG.need aQ) λ hn aQ=>?_
 have g7:ds≠[]:=λ q=>by subst q;exact dJ (bE hn).1
 rw[cr e5 ag]
 refine aD (aV.setL (ds.dropLast++[x']) (fm e6) (aY _ _ hm)) λ dB U bP=>MQ ds.dropLast (ds.getLast g7) dB (by rw[List.dropLast_concat_getLast];exact U) (PS.nx aQ aX bP)
theorem Ha{v:IE}{e:Expr}{pos:Pos}(hn:nc e=true)(hv:SE g k C ns true v e):SX g k C ns (.ex v) (.Expr e pos):=λ c Hd ρ vs m s S Q E hc hρ hs hp=>by
 refine FT (hv.run hc.ok hρ hs hp λ aJ ck aB bB ba aY aX ag aV aQ=>?_) (n0 hn _ _ _)
 refine aD (PG.onO aQ) λ x e aQ=>aj (PG.need aQ) λ hf aQ=>?_
 rw[cr e ag]
 exact⟨hf,PS.nx aQ aX aV⟩
theorem CW{v:IE}{e:Expr}{pos:Pos}(hv:SE g k C ns true v e):SX g k C ns (.ret v) (.Return (some e) pos):=λ c Hd ρ vs m s S Q E hc hρ hs hp=>
 oN (hv.run hc.ok hρ hs hp λ aJ ck aB bB ba aY aX ag aV aQ=>PS.ret aQ aX ag aV)
theorem wv{pos:Pos}:SX g k C ns (.ret (.k .none)) (.Return none pos):=λ c Hd ρ vs m s S Q E hc hρ hs hp=>
 m6 (PS.ret (w:=.d .none) (vs:=vs) (s:=s) hp hρ (.d _) hs)
theorem C3{t:IE}{a b:bp}{t':Expr}{a' b':List Stmt}{pos:Pos}(ht:ST g k C ns true t t')(ha:B8 g k C ns a a')(hb:B8 g k C ns b b'):SX g k C ns (.iff t a b) (.If t' a' b' pos):=λ c Hd ρ vs m s S Q E hc hρ hs hp=>
 OD (ht.run hc.ok hρ hs hp λ aJ Nu aB ba aY aX aV q1 q2=>⟨λ q=>ha c Hd ρ vs _ _ _ _ _ hc aX aV (q1 q),λ q=>hb c Hd ρ vs _ _ _ _ _ hc aX aV (q2 q)⟩)
inductive OI (g:c8)(ns:Ns)(Hd:aN)(r:V->St->R (Option W×V))(Q:Fl->Rh->aN->Prop)(E:D->Prop)(ρ:Rh)(σ:aN):Prop where
 |mk (m:List Addr) (vs:V) (s:St) (hr:RR g.tab m ns vs ρ) (hs:SR Hd m m s σ) (h:PS g ns Hd m (r vs s) Q E)
theorem CT{t:IE}{b:bp}{t':Expr}{b':List Stmt}{pos:Pos}(ht:ST g k C ns true t t')(hb:B8 g k C ns b b'):SX g k C ns (.whl t b) (.While t' b' [] pos):=λ c Hd ρ vs m s S Q E hc hρ hs hp=>by
 refine BL (λ n=>OI g ns Hd (iP (ao C t) (bN C b) n) Q E) zc ⟨m,vs,s,hρ,hs,hp⟩ hc.fr λ n ρ' σ z=>?_
 obtain⟨m',cZ,s',oe,cz,lm⟩:=z
 cases n with
 |zero=>exact lm.elim
 |succ n=>
  refine ht.run hc.ok oe cz lm λ aJ Nu aB ba aY aX aV q1 q2=>⟨λ q=>?_,λ q=>PS.nx (q2 q) aX aV⟩
  exact hb c Hd ρ' cZ aJ aB ba _ E hc aX aV (PS.bind (q1 q) (λ au fU aP cJ dB qR bP bR=>⟨n,Nat.lt_succ_self n,au,fU,aP,qR,bP,bR⟩) λ d ρ S q=>yi q)
theorem C5{t:IT}{it:IE}{b:bp}{t' mv:Expr}{b':List Stmt}{pos:Pos}(h1:sy ns t t'=true)(h2:pl mv=true)(hi:SE g k C ns true it mv)(hb:B8 g k C ns b b'):SX g k C ns (.frr t it b) (.For t' mv b' [] pos):=λ c Hd ρ vs m s S Q E hc hρ hs hp=>by
 refine KP (hc.ok.k▸hc.ok.pos) (hi.run hc.ok hρ hs hp λ aJ ck aB bB ba aY aX ag aV aQ=>?_) hc.fr (ku h2 _)
 refine aD (PG.onO aQ) λ ds JJ aQ=>?_
 obtain⟨el,src,Qx⟩:=wh JJ ag
 refine⟨ds.length,el,_,λ i=>OI g ns Hd (eI (λ x vs s=>onO (gM vs t x) λ vs=>bN C b vs s) (ds.drop i)) Q E,src,⟨aJ,vs,aB,aX,aV,aQ⟩,λ _ _ _ _=>trivial,λ i ρ' σ hi z=>?_,λ ρ' σ z=>?_⟩
 .obtain⟨m',cZ,s',oe,cz,lm⟩:=z
  simp only[List.drop_eq_getElem_cons hi,show ds[i]=el i by have:=Qx i hi;simp only[List.getElem?_eq_getElem hi]at this;exact A02 this]at lm
  have lm:=show PS g ns Hd m' (R.bind (onO (gM cZ t (el i)) _) _) Q E from lm
  cases e:gM cZ t (el i)with
  |none=>rw[e]at lm;exact lm.elim
  |some fU=>
   rw[e]at lm
   exact xm (hc.ok.k▸hc.ok.pos) h1 e oe λ cJ _ hr=>hb c Hd cJ fU m' s' σ _ E hc hr cz (PS.bind lm (λ au fU aP cJ dB qR bP bR=>⟨au,fU,aP,qR,bP,bR⟩) λ d ρ S q=>yi q)
 .obtain⟨m',cZ,s',oe,cz,lm⟩:=z
  rw[List.drop_length]at lm
  exact PS.nx lm oe cz
theorem xA{i:Nat}{is:List Int}{x:Str}{p p' pos:Pos}{ks:List (Option Expr)}{Fn:List Expr}(h1:pM ns i x=true)(h2:Ac ks Fn is=true)(h3:is≠[])(h4:is.length<=15)(h5:is.Nodup):SX g k C ns (.dict i is) (.Assign [.Name x p] (.Dict ks Fn p') pos):=λ c Hd ρ vs m s S Q E hc hρ hs hp=>by
 refine aD (gZ h1) λ kd e1 e2=>aD (hρ.put e1 e2 (.d (.dict is))) λ ρ' eH hr=>kF (F8 h2 h3 h4 h5 (by decide +kernel) ⟨ρ',eH,PS.nx (vs:=pv vs i (.d (.dict is))) (s:=s) hp hr hs⟩) rfl
theorem xB{x:IS}{xs:bp}{st:Stmt}{sts:List Stmt}(hx:SX g k C ns x st)(h:B8 g k C ns xs sts):B8 g k C ns (.cons x xs) (st::sts):=λ c Hd ρ vs m s S Q E hc hρ hs hp=>
 m5 (hx c Hd ρ vs m s S _ E hc hρ hs (PS.bind hp (λ au fU aP cJ dB qR bP bR=>Ft (h c Hd cJ fU au aP dB Q E hc qR bP bR)) λ d ρ S q=>wk q))
theorem qZ{Hd:aN}{ρ:Rh}{vs:V}{m:List Addr}{s:St}{S:aN}{i j:Nat}(hk:ML ns i=true)(hρ:RR g.tab m ns vs ρ)(e0:(cW vs i).bind rV=some j):∃x k a,ns[i]?=some (x,k)/\(k=.local\/k=.cell)/\(x,SK.loc,some (.ref a))∈ ρ/\m[j]?=some a:=by
 refine aD (gW hk) λ p e1 h1=>aD (fH e0) λ w e2 e3=>aD (hρ.slot e1 (A00 h1) e2) λ d hd hv=>aD (kM e3 hv) λ a ak hm=>?_;subst ak
 exact v5 p.1 p.2 a e1 (A00 h1) hd hm
theorem C4{i:Nat}{xs:bp}{sts:List Stmt}(hk:ML ns i=true)(h:B8 g k C ns xs sts):B8 g k C ns (.cons (.frz i) xs) sts:=λ c Hd ρ vs m s S Q E hc hρ hs hp=>by
 have hp:=show PS g ns Hd m (R.bind (onO ((cW vs i).bind rV) _) _) Q E from hp
 cases e0:(cW vs i).bind rV with
 |none=>rw[e0]at hp;exact hp.elim
 |some j=>
  rw[e0]at hp
  have hp:=show PS g ns Hd m (R.bind (onO (eM s j) _) _) Q E from hp
  cases e2:eM s j with
  |none=>simp only[e2]at hp;exact hp.elim
  |some ds=>
   simp only[e2]at hp
   refine kT (qZ (Hd:=Hd) (s:=s) (S:=S) hk hρ e0) λ x kd a e h1 hd hm=>aD (hs.take (fm e2) hm) λ S' ht cz=>aD (hρ.put e h1 (.d (.list ds))) λ ρ' eH hr=>FQ hd eH ht (h c Hd ρ' _ m _ S' Q E hc hr cz hp)
theorem wz{i f:Nat}{xs:bp}{sts:List Stmt}(hk:ML ns i=true)(h:B8 g k C ns xs sts):B8 g k C ns (.cons (.frzF i f) xs) sts:=λ c Hd ρ vs m s S Q E hc hρ hs hp=>by
 have hp:=show PS g ns Hd m (R.bind (onO ((cW vs i).bind rV) _) _) Q E from hp
 cases e0:(cW vs i).bind rV with
 |none=>simp only[e0]at hp;exact hp.elim
 |some j=>
 simp only[e0]at hp
 have hp:=show PS g ns Hd m (R.bind (onO (nq s j) _) _) Q E from hp
 cases e2:nq s j with
 |none=>simp only[e2]at hp;exact hp.elim
 |some p=>
 simp only[e2]at hp
 have hp:=show PS g ns Hd m (R.bind (onO ((p.2.lookup f).bind rV) _) _) Q E from hp
 cases e3:(p.2.lookup f).bind rV with
 |none=>simp only[e3]at hp;exact hp.elim
 |some k'=>
 simp only[e3]at hp
 have hp:=show PS g ns Hd m (R.bind (onO (eM s k') _) _) Q E from hp
 cases e4:eM s k' with
 |none=>simp only[e4]at hp;exact hp.elim
 |some ds=>
 simp only[e4]at hp
 refine kT (qZ (Hd:=Hd) (s:=s) (S:=S) hk hρ e0) λ x kd a e h1 hd hm=>?_
 have e2:=li e2
 have e4:=fm e4
 refine aD (fH e3) λ w e5 e6=>dP (hs.getI e2 hm) λ dx gs V9 hf=>aD (hf.look e5) λ d2 Vd UB=>aD (kM e6 UB) λ b ak Mj=>?_;subst ak
 refine aD (hs.take e4 Mj) λ S' ht cz=>?_
 have g7:j≠k':=λ q=>by simp only[q,e4]at e2;cases e2
 refine je (cz.setI (i:=j) (by rw[List.getElem?_set_ne (Ne.symm g7)];exact e2) hm) λ Si Om S6 V8 Qa=>?_
 refine aD (S6.look e5) λ d3 U7 UA=>aD (kM e6 UA) λ b' ak Mi=>?_;subst ak
 simp only[Mj]at Mi
 (refine sj Mi λ zq=>?_;subst zq)
 refine aD (Qa _ _ (S6.put (f:=f) (.d (.list ds)))) λ dB U bP=>BK ht U U7 (h c Hd ρ _ m _ dB Q E hc hρ bP hp)
end
section
variable {ns:Ns}
theorem vI{e:IE}{x:Expr}{p cp pos:Pos}(gf:GF g row)(tb:bo g)(h2:gl ns "BadSet" = true)(h4:pl x=true)(hx:SE g k C ns true e x):SX g k C ns (.raise e) (.Raise (some (.Call (.Name "BadSet" p) [x] [] cp)) none pos):=λ c Hd ρ vs m s S Q E hc hρ hs hp=>by
 refine BM gf.bad.1 (hc.ok.k▸hc.ok.pos) (ca (hρ.glob (A00 h2) tb.bad) ⟨rfl,et (hx.run hc.ok hρ hs hp λ aJ ck aB bB ba aY aX ag aV aQ=>j5 ?_) (fb h4 _ _)⟩) (by rw[fb h4];rfl)
 refine aD (PG.onO aQ) λ i e h=>ad i (by rw[cn e ag]) h
theorem SR.goneNil{Hd:aN}{m as:List Addr}{s:St}{S:aN}(h:SR Hd m as s S):SR [] m as (Internal.goneAll s) []:=by
 induction h with
 |nil=>exact .nil
 |obj h r ih=>exact .gone ih
 |gone r ih=>exact .gone ih
theorem RR.empty{tab:List (Str×D)}{m:List Addr}{ns:List (Str×NameKind)}{vs:V}{ρ:Rh}(h:RR tab m ns vs ρ):∀{j:Nat}{y:Str},ns[j]?=some (y,.local)->cW vs j=none->∃cb,oP ρ cb/\(y,SK.loc,none)∈ cb/\RR tab m ns vs cb:=by
 induction h with
 |nil=>intro j y e;exact bJ e
 |@loc x k ns w o vs ρ hk h r ih=>
  intro j y e1 e2
  cases j with
  |zero=>
   cases e1
   exact dW _ (.drop (.refl _)) (.head _) (.loc hk (λ u e=>by rw[show w=none from e2]at e;cases e) r)
  |succ j=>refine cG (ih e1 e2) λ cb h1 h2 h3=>?_;exact dW _ (.same h1) (.tail _ h2) (.loc hk h h3)
 |@fre x ns w o vs ρ h r ih=>
  intro j y e1 e2
  cases j with
  |zero=>cases e1
  |succ j=>refine cG (ih e1 e2) λ cb h1 h2 h3=>?_;exact dW _ (.same h1) (.tail _ h2) (.fre h h3)
 |glb r ih=>
  intro j y e1 e2
  cases j with
  |zero=>cases e1
  |succ j=>refine cG (ih e1 e2) λ cb h1 h2 h3=>?_;exact dW _ (.same h1) (.tail _ h2) (.glb h3)
theorem GF.at(gf:GF g row)(z:XT):GF (g.at z) row:=⟨gf.fn,gf.cal,gf.at',gf.st,gf.me,gf.mk',gf.sm,gf.is,gf.isn,⟨⟨gf.bad.1.cl,gf.bad.1.ex,gf.bad.1.call,gf.bad.1.ini⟩,gf.bad.2⟩,gf.key⟩
theorem bo.at(tb:bo g)(z:XT):bo (g.at z):=⟨tb.gv,tb.bi,tb.isi,tb.ist,tb.fn,tb.bad,tb.key⟩
theorem CV{i j a b:Nat}{e:IE}{x:Str}{xp p pos:Pos}{v:Expr}{hh:ExceptHandler}(gf:GF g row)(tb:bo g)(h3:Js ns j a b hh=true)(h4:pM ns i x=true)(h5:nc v=true)(h6:SE g k C ns true e v)(h7:∀z,SE (g.at z) k C ns true e v) :
  SX g k C ns (.tryx i e j a b) (.Try [.Assign [.Name x xp] v p] [hh] [] [] pos):=λ c Hd ρ vs m s S Q E hc hρ hs hp=>by
 have hp:PS g ns Hd m (match ao C e vs s with
  |.ok w s=>.ok (none,pv vs i w) s
  |.err _=>caught (ao C e vs (goneAll s)) vs s j a b
  |.no=>.no) Q E:=hp
 obtain⟨y,tp,rp,UL,ev,rfl,hV⟩:=En h3
 cases er:ao C e vs s with
 |no=>rw[er]at hp;exact hp.elim
 |ok w aB=>
  rw[er]at hp
  refine aD (gZ h4) λ kd e1 e2=>wD (m5 (kF (h6 c Hd ρ vs m s S _ FF hc.ok hρ hs ?_) (n0 h5 _ _ _)))
  simp only[er]
  intro m' d S' l hv cz
  refine aD ((hρ.mono l).put e1 e2 hv) λ ρ' eH hr=>ad ρ' eH (Ft (u6 ⟨rfl,hp m' (.nx,ρ') S' l ⟨rfl,hr⟩ cz⟩))
 |err d=>
  simp only[er]at hp
  cases eg:ao C e vs (goneAll s)with
  |ok w s=>rw[eg]at hp;exact hp.elim
  |no=>rw[eg]at hp;exact hp.elim
  |err d'=>
  rw[eg]at hp
  refine PG.onOE hp λ t e1 hp=>PG.onOE hp λ dd e2 hp=>PG.onOE hp λ bs e3 hp=>PG.needE hp λ hn hp=>ey hn λ hn hz=>?_
  obtain⟨due,oct,ka,kb,j2,j3,hG⟩:=Ej hV
  refine Kt hG λ g0 g1 g2 g3 hj nn=>aj (A00 hj) λ j1 jl=>cG (hρ.empty j1 (Option.isNone_iff_eq_none.mp hn)) λ cb f hy kP=>d8 e2 λ w2 a1 a2=>d8 e3 λ y3 b1 b2=>d8 b1 λ w3 b1 b3=>aD (kP.get j2 a1) λ d2 v2 l5=>aD (kP.get j3 b1) λ d3 v3 l6=>?_
  simp only[cr a2 v2]at l5
  simp only[cr b3 v3,wU b2]at l6
  have hk:c.env.kindOf y=some .local:=by unfold Env.kindOf;rw[hc.ok.sc rfl];exact jl
  have nn:=A00 nn
  refine λ base Y X s' H=>Bx (H.forget f) gf.bad.1 gf.bad.2 hc.fr hk hy (kP.glob (A00 g0) tb.bad) (n0 h5 _ _ _) (i:=t) (λ z=>h7 z c [] cb vs m (goneAll s) [] _ _ hc.ok kP hs.goneNil ?_) (λ z e dx bY Sd eH=>HL Sd hV j2 j3 eH.self
   (eH.lk (nn _ (.head _)) (kP.glob (A00 g1) tb.isi)) (eH.lk (nn _ (.tail _ (.head _))) (kP.glob (A00 g2) (tb.ist .int _ rfl))) (eH.lk (nn _ (.tail _ (.tail _ (.head _)))) (kP.glob (A00 g3) (tb.bi .len)))
   (eH.lk (nn _ (.tail _ (.tail _ (.tail _ (.head _))))) l5) (eH.lk (nn _ (.tail _ (.tail _ (.tail _ (.tail _ (.head _)))))) l6) (A00 hz)) λ X' h' t' l H'=>?_
  .rw[eg]
   exact cn (m:=m) e1 (.d _)
  .exact⟨X',.ret (.bool _),cb,S,l,H',(H.forget f).stpY (s':={ s' with heap:=h',toks:=t' }) H' ⟨h',t',rfl⟩,.bool _,hp m (.ret _,cb) S (.refl m) ⟨⟨_,rfl,rfl⟩,kP⟩ hs⟩
end
section
variable (gf:GF g row)(tb:bo g)(hC:∀z,SC (g.at z) k C)
include gf tb hC
theorem xM{i:Nat}{v:IE}{ns:Ns}{x:Str}{p pos:Pos}{e:Expr}(h1:pM ns i x=true)(h2:cQ ns true v e=true)(h0:decide (v.ctorIdx=20)=true)(h:(lU e λ _ _ sc p'=>decide (ns.lookup x=some .local)&&((p.line==p'.line)&&(!(sc.names.any λ(n,k)=>n==x&&(k==.local||k==.cell)))))=true):SX g k C ns (.asg i v) (.Assign [.Name x p] e pos):=by
 refine NW (M:=λ v=>cQ ns true v e=true->SX g k C ns (.asg i v) (.Assign [.Name x p] e pos)) h0 (λ cs t it ifs elt h2=>?_) h2
 refine qB (M:=λ e=>(lU e _=true)->SX g k C ns (.asg i (.comp cs t it ifs elt)) (.Assign [.Name x p] e pos)) h (λ g8 gs sc p' h h2=>?_) h2
 refine iK h λ a1 a2 a3=>hP h2 λ q e1 h2=>Ks h2 λ b0 _ b2 b3 b4 b5 b67=>ey b67 λ b6 b7=>?_
 obtain⟨t',mv,g5,a⟩:=q
 simp only[cF e1,show a=0 from A00 b0]
 exact xL h1 (A00 a1) a2 a3 b2 b3 (gI gf tb (hC g.ex) it ns true mv b4).1 b5 (P7 gf tb (hC g.ex) ifs sc.names g5 b6) (gI gf tb (hC g.ex) elt sc.names false g8 b7).1
end
section
variable {C:Nat->List W->St->R W}
def HS(g:c8)(k:Nat)(C:Nat->List W->St->R W)(is:IS):Prop:=∀ns st,NX ns is st=true->SX g k C ns is st
def Fh(g:c8)(k:Nat)(C:Nat->List W->St->R W)(is:bp):Prop:=∀ns sts,jU ns is sts=true->B8 g k C ns is sts
theorem Hu{row:Nat->bO}{i:Nat}{v:IE}(gf:GF g row)(tb:bo g)(hC:∀z,SC (g.at z) k C):HS g k C (.asg i v):=λ ns st h=>by
 refine fk h λ ts e pos h=>hP h λ t e1 h=>?_
 rw[cF e1]
 refine cA h λ x p h=>iK h λ h1 h2 h3=>?_
 rcases Bool.or_eq_true_iff.mp h3 with hn|h3
 .exact C8 h1 hn (gI gf tb (hC g.ex) v ns true e h2).1
 .exact xM gf tb hC h1 h2 (bE h3).1 (bE h3).2
theorem Cm{row:Nat->bO}{ts:List Nat}{v:IE}(gf:GF g row)(tb:bo g)(hC:∀z,SC (g.at z) k C):HS g k C (.asgt ts v):=λ ns st h=>by
 refine fk h λ tgs e pos h=>hP h λ t e1 h=>?_
 rw[cF e1]
 refine jD h λ es i p h=>iK h λ h1 h2 h3=>Expr.Call.elim (motive_1:=λ e=>cQ ns true v e=true->SX g k C ns (.asgt ts v) (.Assign [.Tuple es i p] e pos)) e (A00 h2) (λ _ _ _ _ h3=>xK h1 (gI gf tb (hC g.ex) v ns true _ h3).1) h3
theorem Ho{row:Nat->bO}{sw:Bool}{ts:List Nat}{xs:dS}(gf:GF g row)(tb:bo g)(hC:∀z,SC (g.at z) k C):HS g k C (.mas sw ts xs):=λ ns st h=>by
 refine fk h λ tgs e pos h=>hP h λ t e1 h=>?_
 rw[cF e1]
 refine jD h λ es i p h5=>jD h5 λ rM i' p' h6=>iK h6 λ h1 h2 h3=>?_
 cases sw with
 |true=>exact wo h1 h3 (Fv gf tb (hC g.ex) xs ns true rM h2)
 |false=>exact C0 h1 h3 (Fv gf tb (hC g.ex) xs ns true rM h2)
theorem Ch{row:Nat->bO}{o:IE}{f:Nat}{v:IE}(gf:GF g row)(tb:bo g)(hC:∀z,SC (g.at z) k C):HS g k C (.seta o f v):=λ ns st h=>by
 refine fk h λ tgs e pos h=>hP h λ t e1 h=>?_
 rw[cF e1]
 refine fY h λ o' x p h=>oL h λ h1 h2 h3 h4=>?_
 rw[A00 h1]
 exact wu gf h2 (gI gf tb (hC g.ex) v ns true e h3).1 (gI gf tb (hC g.ex) o ns true o' h4).1
theorem Cl{row:Nat->bO}{o:IE}{f:Nat}{op:Operator}{v:IE}(gf:GF g row)(tb:bo g)(hC:∀z,SC (g.at z) k C):HS g k C (.auga o f op v):=λ ns st h=>by
 refine tf h λ t GJ e pos h=>fY h λ o' x p h=>oL h λ h1 h2 h3 h4=>?_
 simp only[A00 h1,A00 h2]
 exact xI gf (gI gf tb (hC g.ex) o ns true o' h3).1 (gI gf tb (hC g.ex) v ns true e h4).1
theorem Ck{row:Nat->bO}{i:Nat}{op:Operator}{v:IE}(gf:GF g row)(tb:bo g)(hC:∀z,SC (g.at z) k C):HS g k C (.augv i op v):=λ ns st h=>by
 refine tf h λ t GJ e pos h=>cA h λ x p h=>iK h λ h1 h2 h3=>?_
 rw[A00 h2]
 exact xH h1 (gI gf tb (hC g.ex) v ns true e h3).1
theorem Cg{row:Nat->bO}{i:Nat}{v:IE}(gf:GF g row)(tb:bo g)(hC:∀z,SC (g.at z) k C):HS g k C (.setx i v):=λ ns st h=>by
 refine fk h λ tgs e pos h=>hP h λ t e1 h=>?_
 rw[cF e1]
 refine o5 h λ a j p' h=>cA h λ x p h=>oL h λ h1 h2 h3 h4=>wt h1 h2 h3 (gI gf tb (hC g.ex) v ns true e h4).1
theorem LT{row:Nat->bO}{v:IE}(gf:GF g row)(tb:bo g)(hC:∀z,SC (g.at z) k C):HS g k C (.ex v):=λ ns st h=>by
 refine IY h λ e pos h=>ey h λ h1 h2=>Ha h1 (gI gf tb (hC g.ex) v ns true e h2).1
theorem Hn{row:Nat->bO}{v:IE}(gf:GF g row)(tb:bo g)(hC:∀z,SC (g.at z) k C):HS g k C (.ret v):=λ ns st h=>by
 refine t9 h λ o pos h=>?_
 cases o with
 |some e=>exact CW (gI gf tb (hC g.ex) v ns true e h).1
 |none=>rw[DE h];exact wv
theorem Hq{row:Nat->bO}{t:IE}{a:bp}{b:bp}(gf:GF g row)(tb:bo g)(hC:∀z,SC (g.at z) k C)(M7:Fh g k C a)(EH:Fh g k C b):HS g k C (.iff t a b):=λ ns st h=>by
 refine D3 h λ t' a' b' pos h=>oL h λ h1 h2 h3 h4=>C3 ((gI gf tb (hC g.ex) t ns true t' h2).2 h1) (M7 ns a' h3) (EH ns b' h4)
theorem Hm{row:Nat->bO}{t:IE}{b:bp}(gf:GF g row)(tb:bo g)(hC:∀z,SC (g.at z) k C)(EH:Fh g k C b):HS g k C (.whl t b):=λ ns st h=>by
 refine D0 h λ t' b' o pos h=>oL h λ h0 h1 h2 h3=>?_
 simp only[A08 h0]
 exact CT ((gI gf tb (hC g.ex) t ns true t' h2).2 h1) (EH ns b' h3)
theorem Hs{row:Nat->bO}{t:IT}{it:IE}{b:bp}(gf:GF g row)(tb:bo g)(hC:∀z,SC (g.at z) k C)(EH:Fh g k C b):HS g k C (.frr t it b):=λ ns st h=>by
 refine D4 h λ t' mv b' o pos h=>KI h λ h0 h1 h2 h3 h4=>?_
 simp only[A08 h0]
 exact C5 h1 h2 (gI gf tb (hC g.ex) it ns true mv h3).1 (EH ns b' h4)
theorem xX{row:Nat->bO}{e:IE}(gf:GF g row)(tb:bo g)(hC:∀z,SC (g.at z) k C):HS g k C (.raise e):=λ ns st h=>by
 refine IW h λ ex cause pos h=>ey h λ h0 h=>aD (gW h) λ c ak h=>?_;subst ak
 refine eB h λ fn args ks cp h=>oL h λ h1 h2 h3 h=>aD (gW h) λ x ea h=>ey h λ h4 h5=>aS (eY h1) λ p ak=>?_;subst ak
 simp only[A08 h3,cF ea,Option.isNone_iff_eq_none.mp h0]
 exact vI gf tb h2 h4 (gI gf tb (hC g.ex) e ns true x h5).1
theorem Cf{row:Nat->bO}{i:Nat}{e:IE}{j:Nat}{a:Nat}{b:Nat}(gf:GF g row)(tb:bo g)(hC:∀z,SC (g.at z) k C):HS g k C (.tryx i e j a b):=λ ns st h=>by
 refine D2 h λ body hs orelse eT pos h=>oL h λ h1 h2 h3 h=>hP h3 λ hh e1 h3=>?_
 rw[cF e1]
 refine hP h λ st e2 h=>?_
 rw[cF e2]
 refine fk h λ ts v p h=>hP h λ t e3 h=>?_
 rw[cF e3]
 refine cA h λ x xp h=>iK h λ h4 h5 h6=>?_
 simp only[A08 h1,A08 h2]
 exact CV gf tb h3 h4 h5 (gI gf tb (hC g.ex) e ns true v h6).1 λ z=>(gI (gf.at z) (tb.at z) (hC z) e ns true v h6).1
theorem Cj{i:Nat}{is:List Int}:HS g k C (.dict i is):=λ ns st h=>by
 refine fk h λ tgs e pos h=>hP h λ t e1 h=>?_
 rw[cF e1]
 refine cA h λ x p h=>yG h λ ks vs p' h=>KI h λ h1 h2 h3 h4 h5=>xA h1 h2 (λ q=>by subst q;exact dJ h3) (A00 h4) (A00 h5)
theorem Hr{i:Nat}:HS g k C (.frz i):=λ ns st h=>dJ h
theorem Ci{i:Nat}{f:Nat}:HS g k C (.frzF i f):=λ ns st h=>dJ h
theorem Ht:HS g k C .bad:=λ ns st h=>λ c Hd ρ vs m s S Q E hc hρ hs hp=>hp.elim
theorem Ce:Fh g k C .nil:=λ ns sts h=>by
 simp only[A08 h]
 exact λ c Hd ρ vs m s S Q E hc hρ hs hp=>u6 (PS.nx hp hρ hs)
theorem xW{x:IS}{xs:bp}(i:HS g k C x)(is:Fh g k C xs):Fh g k C (.cons x xs):=λ ns sts h=>by
 refine GX h (λ i e h=>ey h λ h1 h2=>?_) λ e h=>GX h (λ p e2 h=>ey h λ h1 h2=>?_) λ e2 h=>?_
 .rw[EU e]
  exact C4 h1 (is ns sts h2)
 .rw[zg e2]
  exact wz h1 (is ns sts h2)
 .refine Th h λ st sts h=>ey h λ h1 h2=>xB (i ns st h1) (is ns sts h2)
variable (gf:GF g row)(tb:bo g)(hC:∀z,SC (g.at z) k C)
include gf tb hC
theorem Fu(is:bp):Fh g k C is :=
 bp.rec (motive_1:=HS g k C) (motive_2:=Fh g k C) (λ _ _=>Hu gf tb hC) (λ _ _=>Cm gf tb hC) (λ _ _ _=>Ho gf tb hC) (λ _ _ _=>Ch gf tb hC) (λ _ _ _ _=>Cl gf tb hC) (λ _ _ _=>Ck gf tb hC) (λ _ _=>Cg gf tb hC) (λ _=>LT gf tb hC) (λ _=>Hn gf tb hC) (λ _ _ _ a0 a1=>Hq gf tb hC a0 a1) (λ _ _ a0=>Hm gf tb hC a0) (λ _ _ _ a0=>Hs gf tb hC a0) (λ _=>xX gf tb hC) (λ _ _ _ _ _=>Cf gf tb hC) (λ _ _=>Cj) (λ _=>Hr) (λ _ _=>Ci) Ht Ce (λ _ _ a b=>xW a b) is
end
noncomputable def JB(nms:List Str)(ni:NI)(x:Str)(k:NameKind):Bool:=match ni with
 |.arg j=>decide (k=.local\/k=.cell)&&decide (nms[j]?=some x)
 |.loc=>decide (k=.local\/k=.cell)
 |.glb=>decide (k=.globalImplicit)
noncomputable def zL(nms:List Str):List NI->Ns->Bool
 |[],r=>r.isEmpty
 |ni::is,r=>match r with
  |[]=>false
  |(x,k)::r=>JB nms ni x k&&zL nms is r
noncomputable def zm(np:Nat)(df:Bool)(ini:List NI)(body:bp)(r:bO):Bool:=oB (gU r.params) λ nms=>(nms.length==np)&&((r.dflt==df)&&(eK r.scope&&(decide nms.Nodup&&((nms.all λ n=>r.scope.names.lookup n==some .local||r.scope.names.lookup n==some .cell)&&(zL nms ini r.scope.names&&jU r.scope.names body r.body)))))
noncomputable def uF(row:Nat->bO)(f:Nat)(e:FE):Bool:=match e with
 |.fn _ np df _ ini body=>zm np df ini body (row f)
 |.cls _ init _=>(eO init).isSome
section
variable {m:List Addr}
theorem HD{α:Type}:∀{ns:List Str}{ds:List α}{j:Nat}{x:Str}{d:α},ns.Nodup->ns[j]?=some x->ds[j]?=some d->(ns.zip ds).lookup x=some d:=by
 intro zl
 induction zl with
 |nil=>
  intro bc cM cT gm iG jb jc
  exact bJ jb
 |cons zh zt ih=>
  intro bc cM cT gm iG jb jc
  cases bc with
  |nil=>
   exact bJ jc
  |cons zh1 zt1=>
   cases cM with
   |zero=>
    (refine sj jb λ zq=>?_;subst zq);(refine sj jc λ zq=>?_;subst zq);rw[ch,if_pos rfl]
   |succ zt2=>
    rw[List.nodup_cons]at iG
    rw[ch,if_neg (λ q=>iG.1 (q▸List.mem_of_getElem? (l:=zt) jb):¬cT=zh)]
    exact ih iG.2 jb jc
theorem eu.at:∀{ws:List W}{ds:List D},eu m ws ds->∀{j:Nat}{w:W},ws[j]?=some w->∃d,ds[j]?=some d/\VR m w d
 |[],_,_,_,_,e=>bJ e
 |w::ws,_,h,j,u,e=>by
  obtain⟨d,ds,rfl,hw,hr⟩:=h
  cases j with
  |zero=>(refine sj e λ zq=>?_;subst zq);exact ad _ rfl hw
  |succ j=>exact hr.at e
theorem zK{tab:List (Str×D)}{nms:List Str}{ws:List W}{ds:List D}(nd:nms.Nodup)(hv:eu m ws ds):∀{ini:List NI}{r:Ns},zL nms ini r=true->RR tab m r (k9 ws ini) (iT tab (nms.zip ds) r):=by
 intro zl
 induction zl with
 |nil=>
  intro bc cM
  rw[A08 cM];exact .nil
 |cons zh zt ih=>
  intro bc cM
  cases bc with
  |nil=>
   exact dJ cM
  |cons zh1 zt1=>
   obtain⟨x,k⟩:=zh1
   refine aj (bE cM) λ h1 h2=>?_
   have ih:=ih h2
   cases zh with
   |arg j=>
    refine aj (bE h1) λ a b=>?_
    have arg:∀u,ws[j]?=some u->∃d,(nms.zip ds).lookup x=some d/\VR m u d:=λ u e2=>by
     refine aD (hv.at e2) λ d h1 h2=>ad d (HD nd (A00 b) h1) h2
    rcases A00 a with q|q
    .subst q;exact .loc (.inl rfl) arg ih
    .subst q;exact .loc (.inr rfl) arg ih
   |loc=>
    rcases A00 h1 with q|q
    .subst q;exact .loc (.inl rfl) (λ u e=>bJ e) ih
    .subst q;exact .loc (.inr rfl) (λ u e=>bJ e) ih
   |glb=>
    obtain rfl:=A00 h1
    exact .glb ih
theorem wZ:∀{fs:List (Nat×W)}{Ga gs:List (Nat×D)},PX fs=some Ga->FW m fs gs->gs=Ga
 |[],_,_,h,.nil=>A02 h
 |p::r,Ga,_,h,.cons hv hr=>by
  refine aD (fH h) λ x e h=>aD (fH h) λ l e2 h=>?_
  simp only[cr e hv,wZ e2 hr]
  exact A02 h
variable {Hd:aN}
inductive OZ (Hd:aN)(m as:List Addr)(s:St)(S:aN)(n k:Nat)(o:MW)(a:Addr):Prop where
 |mk (mo:MO) (ba S':aN) (h:MR m o mo) (ht:Tk S (a,mo) ba) (hl:S'.Sublist ba) (hs:SR Hd (m.take n) (as.take k) (s.take k) S')
theorem SR.cutTk{n:Nat}{as:List Addr}{s:St}{S:aN}(h:SR Hd m as s S):∀{k i:Nat}{o:MW}{a:Addr},Kg n (s.take k)=true->k<=i->s[i]?=some o->as[i]?=some a->o≠.gone->OZ Hd m as s S n k o a:=by
 induction h with
 |nil=>intro k i o a _ _ e;exact bJ e
 |obj h r ih=>
  intro k i o a w hk e1 e2 ho
  cases i with
  |zero=>
   (refine sj e1 λ zq=>?_;subst zq);(refine sj e2 λ zq=>?_;subst zq)
   rw[Nat.le_zero.mp hk]
   exact⟨_,_,Hd,h,.here,r.hid,.nil⟩
  |succ i=>
   cases k with
   |zero=>
    obtain⟨mo,ba,S',a0,a1,a2,a3⟩:=ih (k:=0) rfl (Nat.zero_le _) e1 e2 ho
    exact⟨mo,_,S',a0,.there a1,.cons _ a2,a3⟩
   |succ k=>
    refine aj (bE w) λ w1 w2=>?_
    obtain⟨mo,ba,S',a0,a1,a2,a3⟩:=ih (k:=k) w2 (Nat.le_of_succ_le_succ hk) e1 e2 ho
    exact⟨mo,_,_,a0,.there a1,.cons_cons _ a2,.obj (h.cut w1) a3⟩
 |gone r ih=>
  intro k i o a w hk e1 e2 ho
  cases i with
  |zero=>(refine sj e1 λ zq=>?_;subst zq);exact absurd rfl ho
  |succ i=>
   cases k with
   |zero=>
    obtain⟨mo,ba,S',a0,a1,a2,a3⟩:=ih (k:=0) rfl (Nat.zero_le _) e1 e2 ho
    exact⟨mo,_,S',a0,a1,a2,a3⟩
   |succ k=>
    obtain⟨mo,ba,S',a0,a1,a2,a3⟩:=ih (k:=k) w (Nat.le_of_succ_le_succ hk) e1 e2 ho
    exact⟨mo,_,_,a0,a1,a2,.gone a3⟩
theorem zf{n:Nat}{s:St}{S:aN}{w:W}{b d:D}(h:JT n s w=some d)(hv:VR m w b)(hw:Kg n (s.take n)=true)(hs:SR Hd m m s S):∃S',Fi b S d S'/\SR Hd (m.take n) (m.take n) (s.take n) S':=by
 cases w with
 |d x=>
  refine aD (hs.cut hw) λ S' h1 h2=>?_
  rw[show b=x from hv,A02 h]
  exact ad S' (.id h1) h2
 |r i=>
  refine aD hv λ a ak hm=>?_;subst ak
  refine aj (zY h) λ uA h=>aD (fH h) λ o e h=>?_
  have uA:=A00 uA
  cases o with
  |gone=>exact bJ h
  |list ds=>
   obtain⟨mo,ba,S',a0,a1,a2,a3⟩:=hs.cutTk hw uA e hm nofun
   obtain rfl:mo=.list ds:=a0
   exact ad S' (A02 h▸.list a1 a2) a3
  |inst C fs=>
   obtain⟨mo,ba,S',a0,a1,a2,a3⟩:=hs.cutTk hw uA e hm nofun
   refine dP a0 λ dx gs dz hf=>?_;subst dz
   refine aD (fH h) λ Ga e2 h=>?_
   rw[wZ e2 hf]at a1
   exact ad S' (A02 h▸.inst a1 a2) a3
set_option tactic.hygienic true in
theorem gL.take{m':List Addr}(l:gL m m'):m'.take m.length=m:=by
 apply List.ext_getElem?
 intro i
 rw[List.getElem?_take]
 split
 .rename_i h;simp only[List.getElem?_eq_getElem h];exact l i _ (List.getElem?_eq_getElem h)
 .rename_i h;simp only[List.getElem?_eq_none (by exact Nat.not_lt.mp ‹_›)]
end
section
variable {row:Nat->bO}
theorem uj{k:Nat}{f:D}{ds:List D}{σ σ':aN}{Q:D->aN->Prop}{E:D->Prop}(p:σ.Perm σ')(h:wR g k f ds σ' Q E):wR g k f ds σ Q E:=λ c base Y X ρ s fv vs hk H=>h c base Y X ρ s fv vs hk (H.perm p)
theorem zu{Hd:aN}{tab:List (Str×D)}{ns:Ns}{tr:Bool}{m:List Addr}{s:St}{r:R (Option W×V)}{Q:D->aN->Prop}{E:D->Prop}(fN:s.length=m.length)(h:PW Hd m (eT tr s.length r) Q E):PG Hd (IJ tab ns) m r (λ p S=>RQ Q p.1 p.2 S) E:=match r,h with
 |.no,h=>h
 |.err d,h=>h
 |.ok p s',h=>λ m' b S' l EL cz=>by
  obtain⟨o,cZ⟩:=p
  obtain⟨bf,bρ⟩:=b
  have SZ:=l.take
  rw[fN]at h
  cases o with
  |none=>
   simp only[show bf=.nx from EL.1]
   cases tr with
   |true=>
    obtain⟨hw,h⟩:=PG.need h
    refine aD (cz.cut hw) λ nS h1 h2=>?_
    rw[SZ]at h2
    exact ad nS h1 (PW.d h h2)
   |false=>exact ad S' (.refl _) (h m' _ S' l (.d _) cz)
  |some w=>
   refine aD EL.1 λ d e Q7=>?_
   simp only[show bf=.ret d from e]
   refine aD (PG.onO h) λ d' e2 h=>aj (PG.need h) λ hw h=>aD (zf e2 Q7 hw cz) λ nS h1 h2=>?_
   simp only[SZ]at h2
   exact gJ d' nS h1 (PW.d h h2)
theorem Ji{m:List Addr}{df:Bool}{np:Nat}{ws:List W}{ds:List D}(fN:(sh df np ws).length=np)(hv:eu m ws ds):pz df np ds.length=true/\eu m (sh df np ws) (ds++vV np ds.length):=by
 unfold sh at fN ⊢
 rw[hv.len]at fN ⊢
 cases q:df&&(np==2&&ds.length==1)with
 |true=>
  simp only[q]at fN
  refine cI (uc q) λ q1 q2 q3=>?_
  have q2:=eq_of_beq q2
  have q3:=eq_of_beq q3
  refine⟨by simp only[q1,q2,q3];rfl,?_⟩
  rw[vV,if_neg (by simp only[q2,q3];decide)]
  exact hv.append (.cons (.d _) .nil)
 |false=>
  rw[q]at fN
  have hl:ds.length=np:=hv.len▸fN
  refine⟨by unfold pz;rw[hl,beq_self_eq_true];rfl,?_⟩
  simp only[vV,if_pos hl,List.append_nil]
  exact hv
theorem ND{Hd:aN}(gf:GF g row)(tb:bo g){C:Nat->List W->St->R W}{n f a' np:Nat}{df tr:Bool}{ini:List NI}{body:bp}{ws:List W}{ds:List D}{m:List Addr}{s:St}{S:aN}{Q:D->aN->Prop}{E:D->Prop}(Qk:0<n)(hC:∀z,SC (g.at z) n C)(U3:eO f=some a')(nM:zm np df ini body (row f)=true)(hs:SR Hd m m s S)(hv:eu m ws ds)(fN:(sh df np ws).length=np)
  (h:PW Hd m (eT tr s.length (bN C body (k9 (sh df np ws) ini) s)) Q E):wR g (n+1) (.ref a') ds S Q E:=by
 refine aD (gW nM) λ nms hp nM=>HF (u9 nM) λ c1 c2 c3 c4 c5 c6 c7=>?_
 have c4:=A00 c4
 refine aj (Ji fN hv) λ p1 p2=>?_
 rw[<-eq_of_beq c1,<-eq_of_beq c2]at p1 p2 h
 refine KZ (gf.fn f a' U3) c3 hp p1 c4 c5 rfl λ c' hk hh jq=>?_
 have c3:=c3
 have eC:c'.env.scope.kind=.function:=by
  rw[jq]
  simp only[eK,Bool.and_eq_true,beq_iff_eq]at c3
  exact c3.1.1.1.1
 exact Fu gf tb hC body _ _ c7 c' Hd _ _ m s S (RQ Q) E ⟨⟨Qk,hk.symm,λ _=>by rw[jq]⟩,hh,eC⟩ (zK c4 p2 c6) hs (zu hs.len.symm h)
theorem uY{Hd TL:aN}{α β γ δ:Type}{rel:List Addr->α->β->Prop}{lR:List Addr->γ->δ->Prop}{m k8:List Addr}{r:R α}{f:α->St->R γ}{Q:δ->aN->Prop}{Q':β->aN->Prop}{E:D->Prop}(h:PG TL lR k8 (r.bind f) Q E)(k:∀a s,PG TL lR k8 (f a s) Q E->∀m' b S',gL m m'->rel m' a b->SR Hd m' m' s S'->Q' b S'):PG Hd rel m r Q' E:=match r,h with
 |.no,h=>h
 |.err d,h=>h
 |.ok a s,h=>k a s h
theorem Jq{Hd:aN}(gf:GF g row){n f Cc init:Nat}{own:Bool}{C:Nat->List W->St->R W}{ws:List W}{ds:List D}{m:List Addr}{s:St}{S:aN}{Q:D->aN->Prop}{E:D->Prop}(hC:SC g n C)(hf:mK[f]?=some (.cls Cc init own))(hi:(eO init).isSome=true)(hs:SR Hd m m s S)(hv:eu m ws ds)
  (h:PW Hd m (NL C ws s (.cls Cc init own)) Q E):wR g (n+1) (.ref Cc) ds S Q E:=by
 refine aS (A12 hi) λ ai Sc=>wF (gf.mk' f Cc init own ai hf Sc) λ x dx=>aD ((hs.mono (gL.app m x)).app x (mo:=.inst Cc dx []) (.inst .nil)) λ S1 p1 Qb=>?_
 have tz:s.length=m.length:=hs.len.symm
 refine uj p1 (hC init ai _ _ Hd (m++[x]) _ S1 _ E (jv Sc) Qb (.cons (.r (i:=s.length) (by rw[tz];exact mF m x)) (hv.mono (gL.app m x))) ?_)
 refine uY h λ w s' h m' b S' l EL cz=>?_
 have l':=(gL.app m x).trans l
 have hx:m'[s.length]?=some x:=l _ _ (by rw[tz];exact mF m x)
 refine aD (PG.onO h) λ u e h=>⟨by rw[sH e EL];rfl,?_⟩
 cases own with
 |true=>exact gJ (.ref x) S' (.id (.refl _)) (h m' _ S' l' (.r hx) cz)
 |false=>
  refine aD (PG.onO h) λ d' e2 h=>aj (PG.need h) λ hw h=>aD (zf e2 (.r hx) hw cz) λ nS h1 h2=>?_
  rw[tz,l'.take]at h2
  rw[tz]at h
  exact gJ d' nS h1 (PW.d h h2)
theorem SC.succF(gf:GF g row)(tb:bo g)(JL:∀(f:Nat) e,mK[f]?=some e->uF row f e=true){n:Nat}{C:Nat->List W->St->R W}(Qk:0<n)(hC:∀z,SC (g.at z) n C):SC g (n+1) (cC C):=by
 intro f a ws ds Hd m s S Q E ha hs hv h
 refine aD (PG.onO h) λ e hf h=>?_
 have nM:=JL f e hf
 unfold ec at ha
 rw[hf]at ha
 cases e with
 |fn a' np df tr ini body=>
  obtain rfl:a'=a:=A02 ha
  refine aj (PG.need h) λ fN h=>ND gf tb Qk hC (by unfold eO;rw[hf]) nM hs hv (eq_of_beq fN) h
 |cls Cc init own=>
  obtain rfl:Cc=a:=A02 ha
  exact Jq gf (hC g.ex) hf nM hs hv h
end
section
theorem BP:∀{l:List Nat}{i:Nat},i∈l->l[at' l i]?=some i:=by
 intro zl
 induction zl with
 |nil=>
  intro bc cM
  exact cu cM
 |cons zh zt ih=>
  intro bc cM
  rw[u8]
  cases e:bc==zh with
  |true=>rw[eq_of_beq e];rfl
  |false=>
   have g7:=ne_of_beq_false e
   exact ih ((A03 cM).resolve_left g7)
theorem OF:∀{l:List Nat}{i:Nat},at' l i<l.length->i∈l:=by
 intro zl
 induction zl with
 |nil=>
  intro i h
  exact absurd h (Nat.not_lt_zero _)
 |cons j r ih=>
  intro i h
  rw[u8]at h
  cases e:i==j with
  |true=>rw[eq_of_beq e];exact .head _
  |false=>rw[e]at h;exact .tail _ (ih (Nat.lt_of_succ_lt_succ h))
theorem Tk.perm{σ σ':aN}{p:Addr×MO}(h:Tk σ p σ'):σ.Perm (p::σ'):=by
 induction h with
 |here=>exact .refl _
 |there _ ih=>exact(ih.cons _).trans (.swap _ _ _)
variable {Hd:aN}
theorem SR.sameGone{as:List Addr}{s:St}{S:aN}{i:Nat}(h:SR Hd m as s S)(e:s[i]?=some .gone):SR Hd m as (s.set i .gone) S:=by
 refine aS (List.getElem?_eq_some_iff.mp e) λ hi e=>?_
 simp only[<-e,List.set_getElem_self];exact h
noncomputable def nu(l:List Nat)(s:St):St:=l.foldl (λ s i=>s.set i .gone) s
theorem rm{m':List Addr}{ρ:Nat->Nat}{w:W}{d:D}(h:VR m w d)(hr:∀j,w=.r j->∀a,m[j]?=some a->m'[ρ j]?=some a):VR m' (pp ρ w) d:=match w,h,hr with
 |.d _,h,_=>h
 |.r j,⟨a,e,h⟩,hr=>⟨a,e,hr j rfl a h⟩
theorem IH{m':List Addr}{ρ:Nat->Nat}{fs:List (Nat×W)}{gs:List (Nat×D)}(h:FW m fs gs)(hr:∀p∈fs,∀j,p.2=.r j->∀a,m[j]?=some a->m'[ρ j]?=some a):FW m' (II ρ fs) gs:=by
 induction h with
 |nil=>exact .nil
 |cons h _ ih=>exact .cons (rm h (hr _ (.head _))) (ih λ p hp=>hr p (.tail _ hp))
theorem rn{m':List Addr}{ρ:Nat->Nat}{o:MW}{mo:MO}(h:MR m o mo)(hr:∀C fs,o=.inst C fs->∀p∈fs,∀j,p.2=.r j->∀a,m[j]?=some a->m'[ρ j]?=some a):MR m' (lQ ρ o) mo:=match o,h,hr with
 |.list _,h,_=>h
 |.inst C fs,⟨dx,gs,e,h⟩,hr=>⟨dx,gs,e,IH h (hr C fs rfl)⟩
theorem HH{k:Nat}{ρ:Nat->Nat}{fs:List (Nat×W)}(h:PR k (II ρ fs)=true)(p:Nat×W)(hp:p∈fs)(j:Nat)(e:p.2=.r j):ρ j<k:=by
 have:=A06 h _ (List.mem_map_of_mem hp)
 rw[e]at this
 exact A00 this
inductive K8 (Hd:aN)(m M:List Addr)(l:List Nat)(s:St)(S:aN)(as:List Addr)(t:St):Prop where
 |mk (Sl ba:aN) (p:S.Perm Sl) (h1:SR Hd m m (nu l s) ba) (h2:SR ba M as t Sl)
theorem Pj{M:List Addr}{ρ:Nat->Nat}{K:Nat}(EK:∀j a,ρ j<K->m[j]?=some a->M[ρ j]?=some a):∀{l:List Nat}{s:St}{S:aN},l.Nodup->SR Hd m m s S->(∀i∈l,i<m.length)->Kg K (l.map λ i=>lQ ρ (s.getD i .gone))=true ->
  K8 Hd m M l s S (l.map λ i=>m.getD i 0) (l.map λ i=>lQ ρ (s.getD i .gone)):=by
 intro zl
 induction zl with
 |nil=>
  intro s S _ hs _ _
  exact⟨S,S,.refl _,hs,.nil⟩
 |cons i l ih=>
  intro s S nd hs hl hw
  rw[List.nodup_cons]at nd
  have hi:i<m.length:=hl i (.head _)
  have pQ:i<s.length:=by rw[<-hs.len];exact hi
  have hm:m[i]?=some (m.getD i 0):=fq _ _ _ hi
  have oj:s[i]?=some (s.getD i .gone):=fq _ _ _ pQ
  have G2:(l.map λ j=>lQ ρ ((s.set i .gone).getD j .gone))=l.map λ j=>lQ ρ (s.getD j .gone) :=
   List.map_congr_left λ j hj=>by simp only[List.getD_eq_getElem?_getD,List.getD_eq_getElem?_getD,List.getElem?_set_ne (λ q=>nd.1 (q▸hj):i≠j)]
  refine ey hw λ w1 w2=>?_
  have go {S':aN} (cz:SR Hd m m (s.set i .gone) S'):=ih nd.2 cz (λ j hj=>hl j (.tail _ hj)) (by rw[G2];exact w2)
  rw[G2]at go
  replace w1:PQ K (lQ ρ (s.getD i .gone))=true:=w1
  simp only[List.map_cons,List.map_cons]
  generalize s.getD i .gone=o at *
  by_cases ho:o=.gone
  .subst ho
   obtain⟨Sl,ba,h1,h2,h3⟩:=go (hs.sameGone oj)
   exact⟨Sl,ba,h1,h2,.gone h3⟩
  .obtain⟨mo,S',h0,ht,cz⟩:=hs.take' oj hm ho
   obtain⟨Sl,ba,h1,h2,h3⟩:=go cz
   exact⟨_,ba,ht.perm.trans (h1.cons _),h2,.obj (rn h0 λ C fs e p hp j e' a ha=>EK j a (HH (by subst e;exact w1) p hp j e') ha) h3⟩
theorem SR.appG{as:List Addr}{s:St}{S:aN}(h:SR Hd m as s S)(a:Addr):SR Hd m (as++[a]) (s++[.gone]) S:=by
 induction h with
 |nil=>exact .gone .nil
 |obj h _ ih=>exact .obj h ih
 |gone _ ih=>exact .gone ih
inductive mr (Hd:aN)(M as:List Addr)(t:St)(S' T nR:aN):Prop where
 |mk (nS:aN) (h:SR Hd M as t nS) (p:(S'++T).Perm (nS++nR))
theorem mr.cons{M as:List Addr}{t:St}{S T T' nR:aN}{p:Addr×MO}(p1:(p::T).Perm T')(h:mr Hd M as t S T' nR):mr Hd M as t (p::S) T nR :=
 let ⟨nS,h2,p2⟩:=h;⟨nS,h2,((List.perm_middle.symm).trans (List.Perm.append_left _ p1)).trans p2⟩
theorem xk{M m':List Addr}{β:Nat->Nat}{nR:aN}(hb:∀j a,m'[j]?=some a->M[β j]?=some a){as:List Addr}{s':St}{S':aN}(h:SR nR m' as s' S'):∀{bs:List Addr}{t:St}{T:aN},SR Hd M bs t T->mr Hd M (bs++as) (t++s'.map (lQ β)) S' T nR:=by
 induction h with
 |nil=>intro bs t T hT;exact⟨T,by simp only[List.append_nil,List.map_nil,List.append_nil];exact hT,List.perm_append_comm⟩
 |@obj a o mo as s S h r ih=>
  intro bs t T hT
  refine aD (hT.app a (rn h λ C fs e p hp j e' a ha=>hb j a ha)) λ T' p1 h1=>?_
  have:=ih h1
  simp only[List.append_assoc,List.append_assoc]at this
  exact this.cons p1
 |@gone a as s S r ih=>
  intro bs t T hT
  have:=ih (hT.appG a)
  simp only[List.append_assoc,List.append_assoc]at this
  exact this
theorem SR.fill{as:List Addr}{s:St}{S:aN}(h:SR Hd m as s S):∀{i:Nat}{a:Addr}{o:MW}{mo:MO},MR m o mo->s[i]?=some .gone->as[i]?=some a->∃S',List.Perm ((a,mo)::S) S'/\SR Hd m as (s.set i o) S':=by
 induction h with
 |nil=>intro i a o mo q e;exact bJ e
 |obj h r ih=>intro i a o mo q e1 e2;cases i with
  |zero=>(refine sj e1 λ zq=>?_;subst zq);exact h.elim
  |succ i=>refine aD (ih q e1 e2) λ S' h1 h2=>?_;exact ad _ ((List.Perm.swap _ _ _).trans (.cons _ h1)) (.obj h h2)
 |gone r ih=>intro i a o mo q e1 e2;cases i with
  |zero=>(refine sj e2 λ zq=>?_;subst zq);exact ad _ (.refl _) (.obj q r)
  |succ i=>refine aD (ih q e1 e2) λ S' h1 h2=>?_;exact ad _ h1 (.gone h2)
theorem push{M m' bs:List Addr}{β:Nat->Nat}{nR:aN}(hb:∀j a,m'[j]?=some a->M[β j]?=some a):∀{l:List Nat}{as:List Addr}{s':St}{S':aN}{t:St}{T:aN},SR nR m' as s' S'->SR Hd M bs t T->l.Nodup->(∀i∈l,t[i]?=some .gone)->(∀(j i:Nat),l[j]?=some i->as[j]?=bs[i]?)->l.length<=s'.length ->
  mr Hd M (bs++as.drop l.length) (xj β l t s') S' T nR:=by
 intro zl
 induction zl with
 |nil=>
  intro as s' S' t T h hT _ _ _ _
  obtain⟨nS,h1,h2⟩:=xk hb h hT
  cases s' with
  |nil=>exact⟨nS,List.append_nil t▸h1,h2⟩
  |cons o s=>exact⟨nS,h1,h2⟩
 |cons i l ih=>
  intro as s' S' t T h hT nd hg ha hz
  rw[List.nodup_cons]at nd
  have S5:∀o,∀j∈l,(t.set i o)[j]?=some .gone:=λ o j hj=>by rw[List.getElem?_set_ne (λ q=>nd.1 (q▸hj):i≠j)];exact hg j (.tail _ hj)
  cases h with
  |nil=>exact absurd hz (Nat.not_succ_le_zero _)
  |@obj a o mo as s S h r=>
   refine aD (hT.fill (rn (m':=M) (ρ:=β) h λ C fs e p hp j e' a ha=>hb j a ha) (hg i (.head _)) ((ha 0 i rfl).symm)) λ T' p1 h1=>(ih r h1 nd.2 (S5 _) (λ j k e=>ha (j+1) k e) (Nat.le_of_succ_le_succ hz)).cons p1
  |@gone a as s S r=>exact ih r (hT.sameGone (hg i (.head _))) nd.2 (S5 _) (λ j k e=>ha (j+1) k e) (Nat.le_of_succ_le_succ hz)
theorem v9{i:Nat}:∀(l:List Nat)(s:St),s[i]?=some MW.gone->(nu l s)[i]?=some .gone:=by
 intro zl
 induction zl with
 |nil=>
  intro s e
  exact e
 |cons k l ih=>
  intro s e
  exact ih _ (by
  rw[List.getElem?_set]
  by_cases q:k=i
  .rw[if_pos q,if_pos (q▸(List.getElem?_eq_some_iff.mp e).1)]
  .rw[if_neg q];exact e)
theorem zZ:∀{l:List Nat}{s:St}{i:Nat},i∈l->i<s.length->(nu l s)[i]?=some .gone:=by
 intro zl
 induction zl with
 |nil=>
  intro bc cM cT gm
  exact cu cT
 |cons zh zt ih=>
  intro bc cM cT gm
  rcases A03 cT with rfl|cT
  .exact v9 zt _ (List.getElem?_set_self gm)
  .exact ih cT (by rw[List.length_set];exact gm)
theorem mD{β:Nat->Nat}:∀{l:List Nat}{t u:St}{s':St},l.length<=s'.length->t.length=u.length->(∀i,i∉l->t[i]?=u[i]?)->xj β l t s'=xj β l u s'
 |[],t,u,s',_,hl,h=>by rw[List.ext_getElem? λ i=>h i List.not_mem_nil]
 |i::l,t,u,[],hz,_,_=>absurd hz (Nat.not_succ_le_zero _)
 |i::l,t,u,o::s',hz,hl,h=>mD (t:=t.set i _) (u:=u.set i _) (Nat.le_of_succ_le_succ hz) (by simp only[List.length_set,List.length_set,hl]) λ j hj=>by
  simp only[List.getElem?_set,List.getElem?_set,hl]
  by_cases q:i=j
  .rw[if_pos q,if_pos q]
  .rw[if_neg q,if_neg q]
   exact h j λ z=>(A03 z).elim (λ e=>q e.symm) hj
theorem vd:∀{l:List Nat}{s:St},(nu l s).length=s.length:=by
 intro zl
 induction zl with
 |nil=>
  intro s
  exact rfl
 |cons j l ih=>
  intro s
  exact(ih).trans List.length_set
theorem vc:∀{l:List Nat}{s:St}{i:Nat},i∉l->(nu l s)[i]?=s[i]?:=by
 intro zl
 induction zl with
 |nil=>
  intro s i _
  exact rfl
 |cons j l ih=>
  intro s i h
  rw[List.mem_cons,not_or]at h
  refine(ih h.2).trans ?_
  rw[List.getElem?_set_ne (Ne.symm h.1)]
theorem tT{s:St}:∀{ws:List W}{i:Nat},W.r i∈ws->i∈eV s ws
 |w::r,i,h=>by
  rcases A03 h with e|h
  .subst e;exact .head _
  .have ih:=tT (s:=s) h
   cases w with
   |r j=>exact .tail _ (List.mem_append_right _ ih)
   |_=>exact ih
theorem DJ{w:W}{d:D}(hv:VR m w d):∀j∈L7 w,j<m.length:=by
 intro j hj
 cases w with
 |r i=>
  refine aD hv λ a _ hm=>?_
  rw[A04 hj]
  exact(List.getElem?_eq_some_iff.mp hm).1
 |_=>exact cu hj
theorem DI{fs:List (Nat×W)}{gs:List (Nat×D)}(h:FW m fs gs):∀j∈GC fs,j<m.length:=by
 induction h with
 |nil=>intro j hj;exact cu hj
 |cons hv _ ih=>
  intro j hj
  exact(A09 hj).elim (DJ hv j) (ih j)
theorem Hi{s:St}{S:aN}(hs:SR Hd m m s S):∀{ws:List W}{ds:List D},eu m ws ds->∀i∈eV s ws,i<m.length:=by
 intro zl
 induction zl with
 |nil=>
  intro _ _ i hi
  exact cu hi
 |cons w ws ih=>
  intro _ h i hi
  obtain⟨d,ds,rfl,hv,hr⟩:=h
  have ih:=ih hr i
  cases w with
  |d _=>exact ih hi
  |r j=>
   refine aD hv λ a _ hm=>?_
   rcases A03 hi with rfl|hi
   .exact(List.getElem?_eq_some_iff.mp hm).1
   rcases A09 hi with hi|hi
   .cases e:s[j]? with
    |none=>rw[e]at hi;exact cu hi
    |some o=>
     rw[e]at hi
     cases o with
     |inst C fs=>
      refine dP (hs.getI e hm) λ dx gs _ hf=>DI hf i hi
     |_=>exact cu hi
   .exact ih hi
end
section
variable {k:Nat}
theorem B3{f:D}{ds:List D}{σ:aN}{Q:D->aN->Prop}{E:D->Prop}(h:wR g k f ds σ (rF Q) E):wR g k f ds σ Q E:=λ c base Y X ρ s fv vs hk H r1 r2=>
 codeAny_mono (h c base Y X ρ s fv vs hk H r1 r2) λ r s' z=>by
  cases r with
  |ok f=>cases f with
   |ret v=>exact PV.perm z
   |_=>exact z
  |error e=>exact z
theorem xc{M m:List Addr}{ρ:Nat->Nat}:∀{ws:List W}{ds:List D},eu m ws ds->(∀i,W.r i∈ws->∀a,m[i]?=some a->M[ρ i]?=some a)->eu M (ws.map (pp ρ)) ds:=by
 intro zl
 induction zl with
 |nil=>
  intro _ h _
  exact h
 |cons w ws ih=>
  intro _ h k
  obtain⟨d,ds,rfl,hv,hr⟩:=h
  exact .cons (rm hv λ j e=>k j (e▸.head _)) (ih hr λ i hi=>k i (.tail _ hi))
theorem Nx{m m':List Addr}{l:List Nat}{n:Nat}(hn:n=m.length)(gN:∀i∈l,i<m.length)(lp:gL (l.map λ i=>m.getD i 0) m')(j:Nat)(x:Addr)(e:m'[j]?=some x):(m++m'.drop l.length)[bk l n j]?=some x:=by
 unfold bk
 cases ei:l[j]? with
 |some i=>
  have h1:=lp j (m.getD i 0) (by simp only[List.getElem?_map,ei];rfl)
  have hi:=gN i (List.mem_of_getElem? ei)
  rw[e]at h1
  (refine sj h1 λ zq=>?_;subst zq)
  exact(List.getElem?_append_left hi).trans (fq _ _ _ hi)
 |none=>
  have U1:l.length<=j:=List.getElem?_eq_none_iff.mp ei
  simp only[hn,List.getElem?_append_right (Nat.le_add_right _ _),Nat.add_sub_cancel_left,List.getElem?_drop,Nat.add_sub_cancel' U1]
  exact e
theorem SC.wrap{F:Nat->List W->St->R W}(hF:SC g k F):SC g k (λ f args s=>Internal.wrap (F f) args s):=by
 intro f a ws ds Hd m s S Q E ha hs hv h
 refine PG.needE h λ e0 h=>ey e0 λ e1 e2=>?_
 have nd:=A00 e1
 have gN:∀i∈eV s ws,i<m.length:=Hi hs hv
 have Qn:∀i,W.r i∈ws->i∈eV s ws:=λ i=>tT
 generalize eV s ws=l at *
 have EK:∀j a,at' l j<l.length->m[j]?=some a->(l.map λ i=>m.getD i 0)[at' l j]?=some a:=λ j a h1 h2=>by
  simp only[List.getElem?_map,BP (OF h1)]
  refine(?_:some (m.getD j 0)=_)
  simp only[List.getD_eq_getElem?_getD,h2];rfl
 obtain⟨Sl,ba,p1,hg,Qo⟩:=Pj (M:=l.map λ i=>m.getD i 0) (ρ:=at' l) EK nd hs gN e2
 have Mx:=xc (ρ:=at' l) hv λ i hi a ha=>EK i a (List.getElem?_eq_some_iff.mp (BP (Qn i hi))).1 ha
 refine uj p1 (B3 (hF f a _ _ ba _ _ Sl _ E ha Qo Mx (uY h λ w s' h m' b S' lp Tz cz=>?_)))
 refine PG.needE h λ hz h=>?_
 have hz:=A00 hz
 have hb:=Nx hs.len.symm gN lp
 have hM:gL m (m++m'.drop l.length):=λ i x e=>(List.getElem?_append_left (List.getElem?_eq_some_iff.mp e).1).trans e
 obtain⟨nS,h1,p2⟩:=push (l:=l) (bs:=m) (t:=nu l s) hb cz (hg.mono hM) nd (λ i hi=>zZ hi (by rw[<-hs.len];exact gN i hi)) (λ j i e=>(lp j (m.getD i 0) (by simp only[List.getElem?_map,e];rfl)).trans (fq _ _ _ (gN i (List.mem_of_getElem? e))).symm) hz
 rw[mD (u:=s) hz vd λ i hi=>vc hi]at h1
 exact ad nS ((List.perm_append_right_iff ba).mp p2) (h _ b nS hM (rm Tz λ j _=>hb j) h1)
theorem SC.all{row:Nat->bO}(gf:GF g row)(tb:bo g)(JL:∀(f:Nat) e,mK[f]?=some e->uF row f e=true):∀n z,SC (g.at z) (n+1) (aW n):=by
 intro zl
 induction zl with
 |zero=>
  intro z
  exact λ f a ws ds Hd m s S Q E ha hs hv h=>h.elim
 |succ n ih=>
  intro z
  exact SC.wrap (SC.succF (gf.at z) (tb.at z) JL (Nat.succ_pos n) λ y=>ih y)
end
noncomputable def GR:List Stmt:=PySem.Challenge.pw_nt0072_01.main.body
noncomputable def GB(q:Str):Stmt->bO
 |.FunctionDef n a b _ _ _ sc _ _ _=>⟨n,q++n,a,b,sc,a.defaults.length==1⟩
 |_=>⟨"","",⟨[],[],none,[],[],none,[]⟩,[],⟨.module,[],false,false,[]⟩,false⟩
noncomputable def cV(i:Nat):bO:=GB Str.empty (GR.getD i (.Pass ⟨0,0,0,0⟩))
noncomputable def KH:Stmt->List Stmt
 |.ClassDef _ _ _ b _ _ _ _ _ _ _=>b
 |_=>[]
noncomputable def eL(i j:Nat)(q:Str):bO:=GB q ((KH (GR.getD i (.Pass ⟨0,0,0,0⟩))).getD j (.Pass ⟨0,0,0,0⟩))
noncomputable def LZ:List bO:=[cV 7,cV 8,cV 10,cV 14,cV 15,cV 16,cV 0,eL 17 0 "CodeSet.",eL 17 1 "CodeSet.",eL 17 2 "CodeSet.",eL 17 3 "CodeSet.",eL 17 5 "CodeSet.",eL 17 8 "CodeSet.",eL 17 10 "CodeSet.",cV 18,eL 19 0 "RangeMap.",eL 19 1 "RangeMap.",eL 19 2 "RangeMap.",eL 54 0 "CodeStrings.",eL 54 1 "CodeStrings.",eL 54 2 "CodeStrings.",cV 55,cV 56,eL 57 0 "SetReader.",eL 57 1 "SetReader.",eL 57 2 "SetReader.",eL 57 3 "SetReader.",eL 57 4 "SetReader.",eL 57 5 "SetReader.",cV 58,cV 60,cV 61,cV 62,cV 63,eL 66 0 "SetSoFar.",eL 66 1 "SetSoFar.",eL 66 2 "SetSoFar.",eL 66 4 "SetSoFar.",cV 67,cV 68,cV 69,cV 70,cV 72,cV 73,cV 74,cV 75,cV 76,cV 77,cV 78,cV 81,cV 82,cV 83,cV 84,cV 85,cV 86,cV 87,cV 88,cV 89,cV 90,cV 91,cV 92]
noncomputable def iw(f:Nat):bO:=LZ.getD f (cV 0)
section
variable {K:Frag}
noncomputable def Sj(d:Data):Option FuncData:=match d with
 |.func F=>some F
 |_=>none
theorem Jm{d:Data}{F:FuncData}(h:Sj d=some F):d=.func F:=by
 cases d with
 |func G=>exact congrArg _ (A02 h)
 |_=>exact bJ h
noncomputable def Op(d:Data):Option (List Value×Nat):=match d with
 |.seq v n=>some (v.toList,n)
 |_=>none
theorem Ae{d:Data}{p:List Value×Nat}(h:Op d=some p):d=.seq p.1.toArray p.2:=by
 cases d with
 |seq v n=>rw[<-A02 h]
 |_=>exact bJ h
noncomputable def Sm(d:FuncBody):Option (List Stmt):=match d with
 |.stmts b=>some b
 |_=>none
theorem yL{o:Obj}{d:Data}(h:o.data=d):o=⟨o.cls,o.dict,d,o.slots⟩:=by rw[<-h]
theorem JV{F:FuncData}{b:List Stmt}(h:Sm F.body=some b)(hg:F.globals=mainGlobals)(hc:F.closure=[])(hu:F.builtins=builtinsNs):F=fnOf F.name F.qualname F.params b F.scope F.defaults F.kwdefaults F.doc F.pyModule F.annotations F.code F.closureTuple:=by
 have e:F.body=.stmts b:=by
  cases e:F.body with
  |stmts b'=>rw[e]at h;exact congrArg _ (A02 h)
  |_=>rw[e]at h;exact bJ h
 rw[fnOf,<-e,<-hg,<-hc,<-hu]
noncomputable def qp(K:Frag)(v:Value):Option Bool:=match v with
 |.none=>some false
 |.ref T=>(K.lookup T).bind λ o=>(Op o.data).bind λ p=>gF (p.1==[.none]) (some true)
 |_=>none
theorem qo{v:Value}{d:Bool}(h:qp K v=some d):if d then ∃T o n,v=.ref T/\K.lookup T=some o/\o.data=.seq #[.none] n else v=.none:=by
 cases v with
 |none=>exact A02 h▸rfl
 |ref T=>exact d8 h λ o e h=>d8 h λ p e1 h=>mC h λ h1 h2=>A02 h2▸⟨T,o,p.2,rfl,e,(Ae e1).trans (by rw[eq_of_beq h1])⟩
 |_=>exact bJ h
noncomputable def om(K:Frag)(a:Addr):Option bO:=(K.lookup a).bind λ o=>(Sj o.data).bind λ F=>(Sm F.body).bind λ b=>gF (codeIn K F.code F.qualname&&(F.globals==mainGlobals&&(F.closure.isEmpty&&F.builtins==builtinsNs))) ((qp K F.defaults).bind λ d=>some ⟨F.name,F.qualname,F.params,b,F.scope,d⟩)
theorem ju{r:bO}(h:om K a=some r):nT K a r :=
 d8 h λ o e h=>d8 h λ F e1 h=>d8 h λ b e2 h=>mC h λ h1 h=>d8 h λ d hd h=>oL h1 λ c1 c2 c3 c4=>A02 h▸.mk o.cls o.dict o.slots F.defaults F.kwdefaults F.doc F.pyModule F.annotations F.code F.closureTuple (e.trans (congrArg some ((yL (Jm e1)).trans (congrArg (λ F'=>(⟨o.cls,o.dict,.func F',o.slots⟩:Obj)) (JV e2 (eq_of_beq c2) (A08 c3) (eq_of_beq c4)))))) c1 (qo hd)
noncomputable def Ir(K:Frag)(C:Addr):Bool:=((K.lookup C).any λ o=>decide (o.data.ctorIdx=8))&&specialIn K (.ref C) "__call__" ==some (some (.builtin "type.__call__"))
theorem Dw(h:Ir K C=true):Bj K (.ref C):=by
 refine ey h λ a b=>?_
 cases e:K.lookup C with
 |none=>rw[e]at a;exact dJ a
 |some o=>
  rw[e]at a
  obtain⟨oc,od,dt,sl⟩:=o
  have a:=A00 (show decide (dt.ctorIdx=8)=true from a)
  cases dt with
  |cls cd=>exact .cls e (eq_of_beq b)
  |_=>exact nomatch a
noncomputable def QP(K:Frag)(C f:Addr):Bool:=makesIn K C&&(findIn K (.ref C) "__init__" ==some (some (.ref f))&&typeIn K (.ref f)==some (.type "function"))
theorem Ip{f:Addr}(h:QP K C f=true):K9 K C f:=iK h λ a b c=>⟨a,eq_of_beq b,eq_of_beq c⟩
noncomputable def SP(K:Frag)(C:Addr)(x:Str):Bool:=plainGet K C x&&(hasDictIn K C&&(findIn K (.ref C) x).any (noGet K))
theorem Iu(h:SP K C x=true):Fj K C x:=iK h λ a b c=>let ⟨t,e,n⟩:=Option.any_eq_true _ _|>.mp c;⟨a,b,t,e,n⟩
noncomputable def SM(K:Frag)(C:Addr)(x:Str):Bool:=findIn K (.ref C) "__setattr__" ==some (some (.builtin "object.__setattr__"))&&(plainOver K C&&(takerIn K C x==some none&&hasDictIn K C))
theorem Im(h:SM K C x=true):K3 K C x:=oL h λ a b c d=>⟨eq_of_beq a,b,eq_of_beq c,d⟩
noncomputable def SN(K:Frag)(C:Addr)(x:Str)(f:Addr):Bool:=plainGet K C x&&(findIn K (.ref C) x==some (some (.ref f))&&isFn K (.ref f))
theorem Iq{f:Addr}(h:SN K C x f=true):Fg K C x f:=iK h λ a b c=>⟨a,eq_of_beq b,c⟩
noncomputable def Io(K:Frag)(D C:Addr):Bool:=kin_not K D C&&(plainGet K D "__class__" && (hasDictIn K D&&(findIn K (.ref D) "__class__" ==some (some (.builtin "object.__class__"))&&(specialIn K (.builtin "object.__class__") "__get__" ==some (some (.builtin "getset_descriptor.__get__"))&&(takesIn K (.builtin "object.__class__")==some true&&mroIn K D (.type "object")==some true)))))
theorem to{D C:Addr}(h:Io K D C=true):uq K D C:=Ks h λ a b c d e f g=>⟨a,b,c,eq_of_beq d,eq_of_beq e,eq_of_beq f,eq_of_beq g⟩
noncomputable def zG:List Value->Option (List D)
 |[]=>some []
 |v::r=>match v with
  |.int i _=>(zG r).bind λ l=>some (.int i::l)
  |_=>none
theorem zF{P:Params}{X:XT}:∀{vs:List Value}{l:List D},zG vs=some l->bG P X vs l:=by
 intro zl
 induction zl with
 |nil=>
  intro _ h
  cases h;exact .nil
 |cons v r ih=>
  intro _ h
  cases v with
  |int i t=>refine d8 h λ l e h=>?_;cases h;exact .cons (.int i t) (ih e)
  |_=>exact bJ h
noncomputable def LH(K:Frag)(v:Value):Option D:=match v with
 |.int i _=>some (.int i)
 |.bytes b _=>some (.bytes b.toList)
 |.type n=>some (.ty n)
 |.builtin n=>some (.bi n)
 |.ref a=>some (((K.lookup a).bind λ o=>(Op o.data).bind λ p=>gF (o.cls==.type "tuple" && (o.dict.isNone&&o.slots.isEmpty)) (zG p.1)).elim (.ref a) .tup)
 |_=>none
theorem T8{α β:Type}{o:Option α}{a:β}{f:α->β}{p:β->Prop}(h:p a)(k:∀x,o=some x->p (f x)):p (o.elim a f):=by
 cases o with
 |none=>exact h
 |some x=>exact k x rfl
theorem Bw{o:Obj}{p:List Value×Nat}(e:Op o.data=some p)(c1:(o.cls==.type "tuple")=true)(c2:o.dict.isNone=true)(c3:o.slots.isEmpty=true):o=seqObj "tuple" p.1.toArray p.2:=by
 rw[yL (Ae e),eq_of_beq c1,Option.isNone_iff_eq_none.mp c2,Array.isEmpty_iff.mp c3]
theorem Bp{P:Params}{h:Heap}{v:Value}{d:D}(X:K.In h)(e:LH K v=some d):bz P h.get? v d:=by
 cases v with
 |int i t=>exact A02 e▸.int _ _
 |bytes b t=>exact A02 e▸.bytes _ _
 |type n=>exact A02 e▸.ty _
 |builtin n=>exact A02 e▸.bi _
 |ref a=>exact A02 e▸T8 (p:=λ d=>bz P h.get? (.ref a) d) (.ref a) λ l q=>d8 q λ o e1 q=>d8 q λ p e2 q=>mC q λ h1 h2=>iK h1 λ c1 c2 c3=>.tup ((X _ _ e1).trans (congrArg some (Bw e2 c1 c2 c3))) (zF h2)
 |_=>exact bJ e
noncomputable def lZ(K:Frag)(a:Addr)(x:Str):Option Value:=(K.lookup a).bind λ o=>match o.data with
 |.dict es _=>nsFind es x
 |_=>none
theorem jn{h:Heap}{m:Str->Option Value}(X:K.In h)(n:h.Ns a m)(e:(K.lookup a).isSome=true):lZ K a x=m x:=by
 obtain⟨o',es,ep,nr,hd,_,f⟩:=n
 obtain⟨o,ho⟩:=A12 e
 have:=X _ _ ho
 rw[nr]at this;cases this
 unfold lZ
 rw[ho,<-f x]
 show(match o'.data with | .dict es _=>nsFind es x | _=>none)=_
 rw[hd]
noncomputable def RE(K:Frag)(x:Str):Option D:=((lZ K mainGlobals x).or (lZ K builtinsNs x)).bind (LH K)
theorem JS{g:c8}{base:Heap}{d:D}(X:g.K.In base)(n:base.Ns mainGlobals g.mg)(n':base.Ns builtinsNs g.mb)(e1:(g.K.lookup mainGlobals).isSome=true)(e2:(g.K.lookup builtinsNs).isSome=true)(h:RE g.K x=some d):GV g base x d:=by
 refine d8 h λ v e h=>?_
 rw[jn X n e1,jn X n' e2]at e
 refine⟨v,Bp X h,?_⟩
 cases hm:g.mg x with
 |none=>rw[hm]at e;exact .inr ⟨rfl,e⟩
 |some u=>rw[hm]at e;exact .inl e
end
noncomputable def P1:List (Str×D):=[("isinstance",.bi "isinstance"),("int",.ty "int"),("bool",.ty "bool"),("BadSet",.ref 52),("range_first_of",.ref 89),("CodeSet",.ref 202)]
noncomputable def pV:List (Str×D):=On.zip qY++(P1++(([.len,.ord,.chr,.range,.tuple,.list,.bytes,.max,.repr,.sorted]:List BI).map (λ b=>(Ku b,Ot b))++ zk.filterMap λ p=>(ec p.1).map λ a=>(p.2,.ref a)))
theorem HT:(On.map λ x=>pV.lookup x)=qY.map some:=by kernel_rfl
theorem HU:(zk.map λ p=>pV.lookup p.2)=zk.map λ p=>(ec p.1).map D.ref:=by kernel_rfl
theorem HV(b:BI):pV.lookup (Ku b)=some (Ot b):=by cases b<;>kernel_rfl
theorem CD{t:ut}{x:Str}(h:Oc t=some x):pV.lookup x=some (QR t):=by
 cases t with
 |int=>cases h;kernel_rfl
 |bool=>cases h;kernel_rfl
 |cls C=>
  have h:(if C=202 then some (Str.ofString "CodeSet")else if C=424 then some (Str.ofString "CodeStrings")else none)=some x:=h
  by_cases c1:C=202
  .rw[if_pos c1]at h;rw[c1,<-A02 h];kernel_rfl
  .rw[if_neg c1]at h
   by_cases c2:C=424
   .rw[if_pos c2]at h;rw[c2,<-A02 h];kernel_rfl
   .rw[if_neg c2]at h;exact bJ h
theorem wb{g:c8}(ht:g.tab=pV)(hb:g.aBad=52):bo g where
 gv:=λ i x d e1 e2=>by
  have:=congrArg (·[i]?) HT
  simp only[List.getElem?_map,e1,e2,Option.map_some,Option.some.injEq]at this
  rw[ht];exact this
 bi:=λ b=>by rw[ht];exact HV b
 isi:=by rw[ht];kernel_rfl
 ist:=λ t x h=>by rw[ht];exact CD h
 fn:=λ f x a h e=>by
  have:=List.map_inj_left.mp HU _ (lf h)
  rw[ht,this,e];rfl
 bad:=by rw[ht,hb];kernel_rfl
 key:=by rw[ht];kernel_rfl
noncomputable def L5:bO:=eL 5 0 "UniError."
noncomputable def L4:bO:=cV 13
noncomputable def lO(K:Frag):List (Option bO):=mK.map λ e=>match e with
 |.fn a ..=>om K a
 |.cls ..=>none
noncomputable def lP:List (Option bO):=mK.zipIdx.map λ p=>match p.1 with
 |.fn ..=>some (iw p.2)
 |.cls ..=>none
noncomputable def Nz:ClassData:=⟨"BadSet",[.ref 39],[.ref 52,.ref 39,.type "Exception",.type "BaseException",.type "object"],51,"BadSet",true,[],[],false,none,false⟩
noncomputable def KN:Obj:=⟨.type "type",none,.cls Nz,
 #[some (.ref 43),none,some (.str "BadSet" 231),some (.str "BadSet" 239),some (.builtin "Exception.__new__"),some (.bool true)]⟩
noncomputable def Uj(K:Frag):Bool:=mK.all λ e=>match e with
 |.fn ..=>true
 |.cls C i _=>Ir K C&&oB (eO i) λ a=>QP K C a
noncomputable def VK(K:Frag):Bool:=R5.all λ p=>SP K p.1 (bh p.2)&&SM K p.1 (bh p.2)
noncomputable def Tf(K:Frag):Bool:=QD.all λ p=>oB (eO p.2) λ a=>SN K p.1.1 (l7 p.1.2) a
noncomputable def Tr(K:Frag):Bool:=isIn K (.ref 202) 202&&(isIn K (.ref 424) 424&&(Io K 202 424&&Io K 424 202))
noncomputable def Uk(K:Frag):Bool:=findIn K (.ref 52) "__setattr__" ==some (some (.builtin "object.__setattr__"))&&(findIn K (.ref 52) "told" ==some none&&(mroIn K 52 (.type "object")==some true &&
 (specialIn K (.ref 52) "__call__" ==some (some (.builtin "type.__call__"))&&(findIn K (.ref 52) "__init__" ==some (some (.ref 36))&&(typeIn K (.ref 36)==some (.type "function")&&(findIn K (.ref 52) "__getattribute__" ==some (some (.builtin "BaseException.__getattribute__"))&&(findIn K (.ref 52) "__getattr__" ==some none&&(mroIn K 52 (.type "BaseException")==some true&&hasDictIn K 52))))))))
noncomputable def T3(K:Frag):Bool:=specialIn K (.ref 202) "__getattribute__" ==some (some (.builtin "type.__getattribute__"))&&(typeIn K (.ref 202)==some (.type "type")&&readsIn K 202 (.type "type"))
structure ki where
 rows:List (Option bO)
 ini:Option bO
 key:Option bO
 bad:Option Obj
 tab:List (Option D)
 sm:Option CFound
 sm2:Option Value
 ok:Bool
noncomputable def pj(K:Frag):ki:=⟨lO K,om K 36,om K 89,K.lookup 52,pV.map λ p=>RE K p.1,findCls K (.ref 202) (.type "type") "of",(recIn K 132 "staticmethod").bind List.head?,
 Uj K&&(VK K&&(Tf K&&(Tr K&&(Uk K&&(T3 K&&((K.lookup mainGlobals).isSome&&((K.lookup builtinsNs).isSome&&lZ K mainGlobals "law" ==some (.ref 758))))))))⟩
noncomputable def uC:ki:=⟨lP,some L5,some L4,some KN,pV.map λ p=>some p.2,some (.get (.builtin "staticmethod.__get__") (.ref 132) .none (.ref 202)),some (.ref 130),true⟩
theorem EX{f:Nat}{a:Addr}(h:eO f=some a):∃np df tr ini body,mK[f]?=some (.fn a np df tr ini body):=by
 unfold eO at h
 cases e:mK[f]? with
 |none=>rw[e]at h;exact bJ h
 |some x=>cases x with
  |fn a' np df tr ini body=>rw[e]at h;cases h;exact⟨_,_,_,_,_,rfl⟩
  |cls _ _ _=>rw[e]at h;exact bJ h
theorem DB{K:Frag}(h:lO K=lP){f:Nat}{a:Addr}(e:eO f=some a):nT K a (iw f):=by
 obtain⟨np,df,tr,ini,body,e⟩:=EX e
 have:=congrArg (·[f]?) h
 simp only[lO,lP,List.getElem?_map,List.getElem?_zipIdx,e,Option.map_some,Option.some.injEq,Nat.zero_add]at this
 exact ju this
theorem JZ{f:Nat}{e:FE}(h:mK[f]?=some e):e∈mK:=List.mem_of_getElem? h
theorem GF.of{g:c8}(hb:g.aBad=52)(h:pj g.K=uC):GF g iw:=by
 obtain⟨prog,w,K,mg,mb,aBad,tab,ex⟩:=g
 obtain rfl:aBad=52:=hb
 replace h:pj K=uC:=h
 have hr:=congrArg ki.rows h
 have G4:=congrArg ki.ok h
 refine KI G4 λ U4 Sb UQ Oh G4=>iK G4 λ S7 UG _=>?_
 have fn:∀f a,eO f=some a->nT K a (iw f):=λ f a e=>DB hr e
 have cls:∀{f C i o},mK[f]?=some (FE.cls C i o)->Ir K C=true/\oB (eO i) (λ a=>QP K C a)=true:=λ{f C i o} e=>bE (A06 U4 _ (JZ e))
 refine⟨fn,λ f a e=>?_,λ C f e=>?_,λ C f e=>?_,λ C m f a e1 e2=>?_,λ f C i o a e1 e2=>?_,?_,λ C e=>?_,?_,⟨?_,?_⟩,?_⟩
 .unfold ec at e
  cases q:mK[f]? with
  |none=>rw[q]at e;exact bJ e
  |some x=>cases x with
   |fn a' np df tr ini body=>rw[q]at e;cases e;exact .fn (fn f a (by unfold eO;rw[q]))
   |cls C i o=>rw[q]at e;cases e;exact Dw (cls q).1
 .exact Iu (bE (A06 Sb _ (List.contains_iff_mem.mp e))).1
 .exact Im (bE (A06 Sb _ (List.contains_iff_mem.mp e))).2
 .have:=A06 UQ _ (lf e1)
  dsimp only at this
  rw[e2]at this
  exact Iq this
 .have:=(cls e1).2
  rw[e2]at this
  exact Ip this
 .refine iK UG λ c1 c2 c3=>?_
  have s1:=congrArg ki.sm h
  have s2:=congrArg ki.sm2 h
  obtain⟨l,e1,e2⟩:=Option.bind_eq_some_iff.mp s2
  cases l with
  |nil=>exact bJ e2
  |cons v l=>cases e2;exact⟨eq_of_beq c1,_,132,l,eq_of_beq c2,c3,s1,e1⟩
 .refine oL Oh λ c1 c2 c3 c4=>?_
  rcases e with rfl|rfl
  .exact c1
  .exact c2
 .exact oL Oh λ c1 c2 c3 c4=>⟨to c3,to c4⟩
 .refine Ks S7 λ x1 x2 x3 x4 x5 x6 _=>?_
  have e:K.lookup 52=some KN:=congrArg ki.bad h
  have ei:=congrArg ki.ini h
  refine⟨⟨_,[.ref 39,.type "Exception",.type "BaseException",.type "object"],e,⟨_,_,_,_,_,_,_,_,_,_,_,_,_,_,_,rfl⟩,⟨by decide,by decide,by decide,by decide⟩⟩,⟨eq_of_beq x1,eq_of_beq x2,eq_of_beq x3,⟨Nz,?_,λ self=>?_,rfl⟩⟩,eq_of_beq x4,36,L5,eq_of_beq x5,eq_of_beq x6,ju ei,⟨⟨_,_,_,_,rfl⟩,by kernel_rfl,by kernel_rfl,by kernel_rfl,by kernel_rfl⟩⟩
  .show clsIn K 52=_
   unfold clsIn
   have e:List.lookup 52 K=some KN:=e
   rw[e];rfl
  .exact rfl
 .refine Ks S7 λ _ x2 _ _ _ _ y=>oL y λ y1 y2 y3 y4=>⟨eq_of_beq y1,eq_of_beq y2,eq_of_beq y3,y4,eq_of_beq x2⟩
 .exact .mk _ _ _ _ _ _ L4 (ju (congrArg ki.key h)) rfl (by kernel_rfl) (by kernel_rfl) (by kernel_rfl) (by kernel_rfl) (by kernel_rfl)
section
variable {K:Nat->List W->St->R W}
theorem bC{α:Type}{b:Bool}{r:R α}(h:b=true):need b r=r:=by subst h;rfl
theorem dL{α β:Type}{r:R α}{f:α->St->R β}{a:α}(h:r=.ok a s):r.bind f=f a s:=by rw[h];rfl
theorem oo{α β:Type}{o:Option α}{f:α->R β}{a:α}(h:o=some a):onO o f=f a:=by rw[h];rfl
theorem dg:ao K (.k d) vs s=.ok (.d d) s:=rfl
theorem Vf{i:Nat}{d:D}(h:qY[i]?=some d):ao K (.g i) vs s=.ok (.d d) s:=oo h
theorem d9{i:Nat}{w:W}(h:cW vs i=some w):ao K (.v i) vs s=.ok w s:=oo h
theorem bZ{a b:W}{x:R W}(a7:ao K l vs s=.ok a aB)(a8:ao K r vs aB=.ok b aP)(cB:m4 aP op a b=x):ao K (.bin op l r) vs s=x:=(dL a7).trans ((dL a8).trans cB)
theorem aH{op:CmpOp}{l r:IE}(a7:ao K l vs s=.ok a aB)(a8:ao K r vs aB=.ok b aP)(cB:jT aP op a b=some k')(hk:k'=k):ao K (.cmp op l r) vs s=.ok (.d (.bool k)) aP:=hk▸(dL a7).trans ((dL a8).trans (oo cB))
theorem uO{eX cq:CmpOp}{l q r:IE}(a7:ao K l vs s=.ok a aB)(a8:ao K q vs aB=.ok b aP)(cB:jT aP eX a b=some cL)(lw:cL=true)(de:ao K r vs aP=.ok d bu)(iC:jT bu cq b d=some k')(hk:k'=k):ao K (.cmp2 eX cq l q r) vs s=.ok (.d (.bool k)) bu:=hk▸(dL a7).trans ((dL a8).trans ((oo (cB.trans (congrArg some lw))).trans ((dL de).trans (oo iC))))
theorem uP{eX cq:CmpOp}{l q r:IE}(a7:ao K l vs s=.ok a aB)(a8:ao K q vs aB=.ok b aP)(cB:jT aP eX a b=some cL)(lw:cL=false):ao K (.cmp2 eX cq l q r) vs s=.ok (.d (.bool false)) aP:=(dL a7).trans ((dL a8).trans (oo (cB.trans (congrArg some lw))))
theorem ql{x:IE}{b:Bool}(h:ao K x vs s=.ok (.d (.bool b)) aB):ao K (.not x) vs s=.ok (.d (.bool !b)) aB:=(dL h).trans rfl
theorem A1{x:IE}{i:Int}(h:ao K x vs s=.ok (.d (.int i)) aB):ao K (.neg x) vs s=.ok (.d (.int (-i))) aB:=(dL h).trans rfl
theorem d0{r:R W}(a7:ao K t vs s=.ok (.d (.bool true)) aB)(a8:ao K a vs aB=r):ao K (.cond t a b) vs s=r:=(dL a7).trans a8
theorem dK{r:R W}(a7:ao K t vs s=.ok (.d (.bool false)) aB)(a8:ao K b vs aB=r):ao K (.cond t a b) vs s=r:=(dL a7).trans a8
theorem bS(h:AV K all xs vs s=r):ao K (.boo all xs) vs s=r:=h
theorem cH(h:ao K x vs s=r):AV K all (.cons x .nil) vs s=r:=h
theorem cY{ys:dS}{r:R W}(a7:ao K x vs s=.ok (.d (.bool all)) aB)(a8:AV K all (.cons y ys) vs aB=r):AV K all (.cons x (.cons y ys)) vs s=r:=by
 refine(dL a7).trans ?_
 refine(?_:(match all==all with | true=>AV K all (.cons y ys) vs aB | false=>_)=_);rw[beq_self_eq_true];exact a8
theorem d7{x y:IE}{ys:dS}(a7:ao K x vs s=.ok (.d (.bool b)) aB)(hb:(all==b)=false):AV K all (.cons x (.cons y ys)) vs s=.ok (.d (.bool b)) aB:=by
 refine(dL a7).trans ?_
 refine(?_:(match all==b with | true=>AV K all (.cons y ys) vs aB | false=>R.ok (W.d (.bool b)) aB)=_);rw[hb]
theorem aT:fO K .nil vs s=.ok [] s:=rfl
theorem aE{w:W}{ws:List W}(a7:ao K x vs s=.ok w aB)(a8:fO K xs vs aB=.ok ws aP):fO K (.cons x xs) vs s=.ok (w::ws) aP:=(dL a7).trans (dL a8)
theorem A0{xs:dS}{ws:List W}{ds:List D}(h:fO K xs vs s=.ok ws aB)(hu:oS ws=some ds)(hz:decide (ds.length<=16777216)=true):ao K (.tup xs) vs s=.ok (.d (.tup ds)) aB:=(dL h).trans ((oo hu).trans (bC hz))
theorem Gc{xs:dS}{ws:List W}{ds:List D}(h:fO K xs vs s=.ok ws aB)(hu:oS ws=some ds)(hz:decide (ds.length<=16777216)=true):ao K (.lst xs) vs s=.ok (.d (.list ds)) aB:=(dL h).trans ((oo hu).trans (bC hz))
theorem RH{xs:dS}{ws:List W}{ds:List D}(h:fO K xs vs s=.ok ws aB)(hu:oS ws=some ds)(hz:decide (ds.length<=16777216)=true):ao K (.lsto xs) vs s=.ok (.r aB.length) (aB++[.list ds]):=(dL h).trans ((oo hu).trans (bC hz))
theorem dQ{a b:W}{r:R W}(a7:ao K x vs s=.ok a aB)(a8:ao K i vs aB=.ok b aP)(cB:tq aP a b=r):ao K (.ix x i) vs s=r:=(dL a7).trans ((dL a8).trans cB)
theorem cP:Bg K .none vs s=.ok (.d .none) s:=rfl
theorem lW(h:ao K x vs s=r):Bg K (.some x) vs s=r:=h
theorem ke{a b d:IO}{w a' b' d':W}{r:R W}(a7:ao K x vs s=.ok w aB)(a8:Bg K a vs aB=.ok a' aP)(cB:Bg K b vs aP=.ok b' bu)(de:Bg K d vs bu=.ok d' dT)(iC:Fw own dT w a' b' d'=r):ao K (.sl own x a b d) vs s=r:=(dL a7).trans ((dL a8).trans ((dL cB).trans ((dL de).trans iC)))
theorem cm{b:BI}{xs:dS}(a7:fO K xs vs s=.ok ws aB)(a8:BH aB b ws=r):ao K (.bi b xs) vs s=r:=(dL a7).trans a8
theorem Sh{x:IE}{t:ut}(a7:ao K x vs s=.ok w aB)(a8:JA w t=some b):ao K (.isi x t) vs s=.ok (.d (.bool b)) aB:=(dL a7).trans (oo a8)
theorem aF{f:Nat}{xs:dS}(a7:fO K xs vs s=.ok ws aB)(a8:K f ws aB=r):ao K (.call f xs) vs s=r:=(dL a7).trans a8
theorem ar{o:IE}{m:Nat}(a7:ao K o vs s=.ok w aB)(a8:Dc aB w m=some e)(cB:fO K xs vs aB=.ok ws aP)(de:qH K aP e w ws=r):ao K (.meth o m xs) vs s=r:=(dL a7).trans ((oo a8).trans ((dL cB).trans de))
theorem sb{o:IE}{f:Nat}{w x:W}(a7:ao K o vs s=.ok w aB)(a8:m9 aB w f=some x):ao K (.attr o f) vs s=.ok x aB:=(dL a7).trans (oo a8)
theorem ay{i:Nat}{e:IE}{w:W}(h:ao K e vs s=.ok w aB):gy K (.asg i e) vs s=.ok (none,pv vs i w) aB:=dL h
theorem xV{ts:List Nat}{e:IE}{ds:List D}(h:ao K e vs s=.ok (.d (.tup ds)) aB)(a8:kY vs ts (ds.map .d)=some ah):gy K (.asgt ts e) vs s=.ok (none,ah) aB:=(dL h).trans ((oo (o:=tV (W.d (.tup ds))) rfl).trans (oo a8))
theorem gT{ts:List Nat}{es:dS}{ws:List W}(h:fO K es vs s=.ok ws aB)(a8:kY vs ts.reverse ws.reverse=some ah):gy K (.mas true ts es) vs s=.ok (none,ah) aB:=(dL h).trans (oo a8)
theorem xT{ts:List Nat}{es:dS}{ws:List W}(h:fO K es vs s=.ok ws aB)(a8:kY vs ts ws=some ah)(hz:decide (ws.length<=100)=true):gy K (.mas false ts es) vs s=.ok (none,ah) aB:=(dL h).trans ((oo a8).trans (bC hz))
theorem ri{o e:IE}{f:Nat}{w x:W}(a7:ao K e vs s=.ok x aB)(a8:ao K o vs aB=.ok w aP)(cB:pg aP w f x=some bu):gy K (.seta o f e) vs s=.ok (none,vs) bu:=(dL a7).trans ((dL a8).trans (oo cB))
theorem Pa{o e:IE}{f:Nat}{w old x y:W}(a7:ao K o vs s=.ok w aB)(a8:m9 aB w f=some old)(cB:ao K e vs aB=.ok x aP)(de:sQ aP op old x=.ok y bu)(iC:pg bu w f y=some dT):gy K (.auga o f op e) vs s=.ok (none,vs) dT:=(dL a7).trans ((oo a8).trans ((dL cB).trans ((dL de).trans (oo iC))))
theorem xU{i:Nat}{op:Operator}(a7:cW vs i=some old)(a8:ao K e vs s=.ok x aB)(cB:sQ aB op old x=.ok y aP):gy K (.augv i op e) vs s=.ok (none,pv vs i y) aP:=(oo a7).trans ((dL a8).trans (dL cB))
theorem fX{d:D}(h:ao K e vs s=.ok (.d d) aB)(hf:d.flat=true):gy K (.ex e) vs s=.ok (none,vs) aB:=(dL h).trans (bC hf)
theorem be{e:IE}{w:W}(h:ao K e vs s=.ok w aB):gy K (.ret e) vs s=.ok (some w,vs) aB:=dL h
theorem br{a b:bp}{r:R (Option W×V)}(a7:ao K t vs s=.ok (.d (.bool true)) aB)(a8:bN K a vs aB=r):gy K (.iff t a b) vs s=r:=(dL a7).trans a8
theorem ae{a b:bp}{r:R (Option W×V)}(a7:ao K t vs s=.ok (.d (.bool false)) aB)(a8:bN K b vs aB=r):gy K (.iff t a b) vs s=r:=(dL a7).trans a8
theorem aK:bN K .nil vs s=.ok (none,vs) s:=rfl
theorem aA{xs:bp}{r:R (Option W×V)}(a7:gy K x vs s=.ok (none,ah) aB)(a8:bN K xs ah aB=r):bN K (.cons x xs) vs s=r:=(dL a7).trans a8
theorem aq{x:IS}{xs:bp}{w:W}(a7:gy K x vs s=.ok (some w,ah) aB):bN K (.cons x xs) vs s=.ok (some w,ah) aB:=dL a7
theorem lN(h:iP (ao K t) (bN K b) zc vs s=r):gy K (.whl t b) vs s=r:=h
theorem gP{b:bp}{n:Nat}(a7:ao K t vs s=.ok (.d (.bool false)) aB):iP (ao K t) (bN K b) (n+1) vs s=.ok (none,vs) aB:=(dL a7).trans rfl
theorem oQ{n:Nat}{r:R (Option W×V)}(a7:ao K t vs s=.ok (.d (.bool true)) aB)(a8:bN K b vs aB=.ok (none,ah) aP)(cB:iP (ao K t) (bN K b) n ah aP=r):iP (ao K t) (bN K b) (n+1) vs s=r:=(dL a7).trans ((dL a8).trans cB)
theorem mN{f:Nat}{a np:Nat}{df tr:Bool}{ini:List NI}{body:bp}{args:List W}{r:R (Option W×V)}{x:R W}(h:mK[f]?=some (.fn a np df tr ini body))(h2:(sh df np args).length=np)(hb:bN K body (k9 (sh df np args) ini) s=r)(hx:eT tr s.length r=x):cC K f args s=x :=
 (oo h).trans ((bC (beq_iff_eq.mpr h2)).trans (hb▸hx))
theorem aR(h:mK[f]?=some (.fn a np df tr ini body))(h2:(sh df np args).length=np)(hb:bN K body (k9 (sh df np args) ini) s=.ok (some w,ah) aB)(hx:eT tr s.length (.ok (some w,ah) aB)=x):cC K f args s=x:=mN h h2 hb hx
theorem jw(h:mK[f]?=some (.fn a np df tr ini body))(h2:(sh df np args).length=np)(hb:bN K body (k9 (sh df np args) ini) s=.ok (none,ah) aB)(hx:eT tr s.length (.ok (none,ah) aB)=x):cC K f args s=x:=mN h h2 hb hx
theorem eJ{w:W}{n:Nat}(h:Dq s w=some n)(hz:n<=1000000000000):BH s .len [w]=.ok (.d (.int n)) s:=by
 exact(oo h).trans (bC (A01 hz))
theorem dG(h:a=true)(k:b=true):(a&&b)=true:=by simp only[h,k];rfl
theorem jA{l:List UInt8}{i:Int}{n:Nat}(hi:i=n)(h:n<l.length)(hz:l.length<=1000000):tq s (.d (.bytes l)) (.d (.int i))=.ok (.d (.int (l.getD n 0).toNat)) s:=by
 subst hi
 exact bC (dG (A01 (by lia)) (dG (A01 (by lia)) (A01 hz)))
end
noncomputable abbrev rd(o:List UInt8)(p:Nat):MW:=.inst 497 [(6,.d (.bytes o)),(7,.d .none),(8,.d (.int p))]
section
variable {o:List UInt8} {K:Nat->List W->St->R W}
theorem kk(s:St):∀ds:List D,eV s (ds.map .d)=[]:=by
 intro zl
 induction zl with
 |nil=>
  exact rfl
 |cons d ds ih=>
  exact ih
theorem kl(ρ:Nat->Nat):∀ds:List D,(ds.map W.d).map (pp ρ)=ds.map .d:=by
 intro zl
 induction zl with
 |nil=>
  exact rfl
 |cons d ds ih=>
  simp only[List.map_cons,List.map_cons,ih];rfl
theorem jV{f:Nat}{ds:List D}{d:D}(h:cC (aW n) f (.r 0::ds.map .d) [rd o p]=.ok (.d d) [rd o p']):aW (n+1) f (.r 0::ds.map .d) (rd o p::t)=.ok (.d d) (rd o p'::t):=by
 show wrap (cC (aW n) f) _ _=_
 unfold wrap
 have e:eV (rd o p::t) (.r 0::ds.map .d)=[0]:=by
  show 0::([]++ eV _ (ds.map .d))=[0]
  rw[kk];rfl
 have e2:(W.r 0::ds.map W.d).map (pp (at' [0]))=.r 0::ds.map .d:=by simp only[List.map_cons,kl];rfl
 rw[e,e2]
 show R.bind (cC (aW n) f (.r 0::ds.map .d) [rd o p]) _=_
 rw[h]
 rfl
noncomputable def pk(o:List UInt8)(p:Nat):Int:=if p<o.length then((o.getD p 0).toNat:Int)else -1
theorem J4(hz:o.length<=1000000):cC K 26 [.r 0] [rd o p]=.ok (.d (.int (pk o p))) [rd o p]:=by
 unfold pk
 by_cases h:p<o.length
 .rw[if_pos h]
  apply aR (f:=26) rfl rfl
  .unfold R3;(apply aq;apply be;apply d0<;>(repeat' (first | assumption | (with_reducible first | apply dQ | apply aH | apply cm | apply eJ | apply jA) | rfl | omega | (simp;omega))))
  .rfl
 .rw[if_neg h]
  apply aR (f:=26) rfl rfl
  .unfold R3;(apply aq;apply be;apply dK<;>(repeat' (first | assumption | (with_reducible first | apply dQ | apply aH | apply cm | apply eJ | apply jA) | rfl | omega | (simp;omega))))
  .rfl
theorem Av(hz:o.length<=1000000):aW (n+1) 26 [.r 0] (rd o p::t)=.ok (.d (.int (pk o p))) (rd o p::t):=jV (ds:=[]) (J4 hz)
theorem bF{c:UInt8}{r:List UInt8}(h:o.drop p=c::r):p<o.length/\o.getD p 0=c/\o.drop (p+1)=r:=by
 have hl:p<o.length:=by
  rcases Nat.lt_or_ge p o.length with q|q
  .exact q
  .rw[List.drop_eq_nil_of_le q]at h;cases h
 rw[List.drop_eq_getElem_cons hl]at h
 injection h with h1 h2
 exact⟨hl,by rw[List.getD_eq_getElem?_getD,List.getElem?_eq_getElem hl];exact h1,h2⟩
theorem BQ(h:o.drop p=[]):¬p<o.length:=λ q=>by
 rw[List.drop_eq_getElem_cons q]at h;cases h
theorem jX{c:UInt8}{r:List UInt8}(hz:o.length<=1000000)(h:o.drop p=c::r):aW (n+1) 26 [.r 0] (rd o p::t)=.ok (.d (.int c.toNat)) (rd o p::t):=by
 obtain⟨h1,h2,_⟩:=bF h
 have:=Av (n:=n) (t:=t) (p:=p) hz
 rw[pk,if_pos h1,h2]at this
 exact this
theorem Ez(hz:o.length<=1000000)(h:o.drop p=[]):aW (n+1) 26 [.r 0] (rd o p::t)=.ok (.d (.int (-1))) (rd o p::t):=by
 have:=Av (n:=n) (t:=t) (p:=p) hz
 rw[pk,if_neg (BQ h)]at this
 exact this
theorem GI{x:Int}{y:List UInt8}{c:UInt8}{s:St}{k:Bool}(hx:x=c.toNat)(h:y.contains c=k):jT s .In (.d (.int x)) (.d (.bytes y))=some k:=by
 subst hx h
 show gF (decide (0<=(c.toNat:Int))&&decide ((c.toNat:Int)<256)) (some (y.contains (c.toNat:Int).toNat.toUInt8))=_
 rw[A01 (by lia),A01 (by have:=c.toNat_lt;lia)]
 show some _=_
 simp only[Int.toNat_natCast,Nat.toUInt8_eq,UInt8.ofNat_toNat]
noncomputable def f5(c:UInt8):Bool:=[32,9,10,13].contains c
theorem J1(hz:o.length<=1000000)(h:∀c r,o.drop p=c::r->f5 c=false):cC K 25 [.r 0] [rd o p]=.ok (.d .none) [rd o p]:=by
 apply jw (f:=25) rfl rfl
 .unfold Sy
  apply aA
  .apply lN
   apply gP (n:=4095)
   apply bS
   cases hd:o.drop p with
   |nil=>
    have h1:=BQ hd
    (apply d7 (b:=false)<;>(repeat' (first | assumption | (with_reducible first | apply dQ | apply aH | apply cm | apply eJ | apply jA) | rfl | omega | (simp;omega))))
   |cons c r=>
    obtain⟨h1,h2,_⟩:=bF hd
    have h3:=h c r hd
    apply cY
    ·(repeat' (first | assumption | (with_reducible first | apply dQ | apply aH | apply cm | apply eJ | apply jA) | rfl | omega | (simp;omega)))
    .apply cH
     apply aH
     ·(repeat' (first | assumption | (with_reducible first | apply dQ | apply aH | apply cm | apply eJ | apply jA) | rfl | omega | (simp;omega)))
     .exact rfl
     .rw[h2];exact GI rfl h3
     .rfl
  ·(repeat' (first | assumption | (with_reducible first | apply dQ | apply aH | apply cm | apply eJ | apply jA) | rfl | omega | (simp;omega)))
 .rfl
theorem pB(hz:o.length<=1000000)(h:∀c r,o.drop p=c::r->f5 c=false):aW (n+1) 25 [.r 0] (rd o p::t)=.ok (.d .none) (rd o p::t):=jV (ds:=[]) (J1 hz h)
theorem J0{c:UInt8}{r:List UInt8}(hz:o.length<=1000000)(h:o.drop p=c::r)(hc:c.toNat<=127):cC K 27 [.r 0] [rd o p]=.ok (.d (.int c.toNat)) [rd o (p+1)]:=by
 obtain⟨h1,h2,_⟩:=bF h
 apply aR (f:=27) rfl rfl
 .unfold Sx
  apply aA
  .apply ae
   .apply bS
    apply cY
    ·(repeat' (first | assumption | (with_reducible first | apply dQ | apply aH | apply cm | apply eJ | apply jA) | rfl | omega | (simp;omega)))
    .apply cH
     apply aH
     ·(repeat' (first | assumption | (with_reducible first | apply dQ | apply aH | apply cm | apply eJ | apply jA) | rfl | omega | (simp;omega)))
     .exact rfl
     .rw[h2];rfl
     .simp;lia
   .rfl
  .apply aA
   .exact rfl
   .apply aq
    apply be
    apply dQ
    .exact rfl
    .exact rfl
    .apply jA (n:=p)
     .lia
     .exact h1
     .exact hz
 .rw[h2];rfl
theorem Ao{c:UInt8}{r:List UInt8}(hz:o.length<=1000000)(h:o.drop p=c::r)(hc:c.toNat<=127):aW (n+1) 27 [.r 0] (rd o p::t)=.ok (.d (.int c.toNat)) (rd o (p+1)::t):=jV (ds:=[]) (J0 hz h hc)
end
section
variable {K:Nat->List W->St->R W}
theorem bL{ds:List D}(h:cC (aW n) f (ds.map .d) []=.ok (.d d) []):aW (n+1) f (ds.map .d) s=.ok (.d d) s:=by
 show wrap (cC (aW n) f) _ _=_
 unfold wrap
 rw[kk,kl]
 show R.bind (cC (aW n) f (ds.map .d) []) _=_
 rw[h]
 rfl
noncomputable def sT(x:Int):D:=if 48<=x/\x<=57 then .int (x-48)else if 65<=x/\x<=70 then .int (x-55)else if 97<=x/\x<=102 then .int (x-87)else .none
theorem uL(h:cW vs i=some (.d (.int x)))(hk:(decide (a<=x)&&decide (x<=b))=k):ao K (.cmp2 .LtE .LtE (.k (.int a)) (.v i) (.k (.int b))) vs s=.ok (.d (.bool k)) s:=by
 subst hk
 by_cases q:a<=x
 .rw[A01 q,Bool.true_and]
  exact uO dg (d9 h) (cL:=decide (a<=x)) rfl (A01 q) dg rfl rfl
 .rw[decide_eq_false q,Bool.false_and]
  exact uP dg (d9 h) (cL:=decide (a<=x)) rfl (decide_eq_false q)
theorem NJ(x:Int):cC K 1 [.d (.int x)] []=.ok (.d (sT x)) []:=by
 unfold sT
 have step:∀{a b:Int}{k:Bool}{vs:V}{r:R (Option W×V)}{A:bp},cW vs 0=some (.d (.int x))->(decide (a<=x)&&decide (x<=b))=k->(k=true->bN K A vs []=r)->(k=false->r=.ok (none,vs) [])->gy K (.iff (.cmp2 .LtE .LtE (.k (.int a)) (.v 0) (.k (.int b))) A .nil) vs []=r:=λ{a b k vs r A} h1 h2 h3 h4=>by
  cases k with
  |true=>exact br (uL h1 h2) (h3 rfl)
  |false=>rw[h4 rfl];exact ae (uL h1 h2) aK
 by_cases h1:48<=x/\x<=57
 .rw[if_pos h1]
  apply aR (f:=1) rfl rfl
  .unfold b1
   apply aq
   apply step (k:=true) rfl
   .simp;omega
   .intro _;rfl
   .intro q;cases q
  .rfl
 .rw[if_neg h1]
  by_cases h2:65<=x/\x<=70
  .rw[if_pos h2]
   apply aR (f:=1) rfl rfl
   .unfold b1
    apply aA
    .apply step (k:=false) rfl
     .simp;omega
     .intro q;cases q
     .intro _;rfl
    .apply aq
     apply step (k:=true) rfl
     .simp;omega
     .intro _;rfl
     .intro q;cases q
   .rfl
  .rw[if_neg h2]
   by_cases h3:97<=x/\x<=102
   .rw[if_pos h3]
    apply aR (f:=1) rfl rfl
    .unfold b1
     apply aA
     .apply step (k:=false) rfl
      .simp;omega
      .intro q;cases q
      .intro _;rfl
     .apply aA
      .apply step (k:=false) rfl
       .simp;omega
       .intro q;cases q
       .intro _;rfl
      .apply aq
       apply step (k:=true) rfl
       .simp;omega
       .intro _;rfl
       .intro q;cases q
    .rfl
   .rw[if_neg h3]
    apply aR (f:=1) rfl rfl
    .unfold b1
     apply aA
     .apply step (k:=false) rfl
      .simp;lia
      .intro q;cases q
      .intro _;rfl
     .apply aA
      .apply step (k:=false) rfl
       .simp;lia
       .intro q;cases q
       .intro _;rfl
      .apply aA
       .apply step (k:=false) rfl
        .simp;lia
        .intro q;cases q
        .intro _;rfl
       .rfl
    .rfl
theorem Az(x:Int):aW (n+1) 1 [.d (.int x)] s=.ok (.d (sT x)) s:=bL (ds:=[.int x]) (NJ x)
end
section
variable {o:List UInt8}{p p' n:Nat}{t s:St}{K:Nat->List W->St->R W}
theorem wB(l:List UInt8)(a:List UInt8)(p:Nat):(pick l (some (p:Int)) (some ((p:Int)+ (a.length:Int))) none==a)=((l.drop p).take a.length==a):=by
 rw[show((p:Int)+ (a.length:Int))=((p+a.length:Nat):Int) by lia,pw,List.drop_take]
 congr 1
 rw[Nat.add_sub_cancel_left]
theorem Li(hz:l.length<=16777216)(h:pick l (some a) (some b) none=x):Fw false s (.d (.bytes l)) (.d (.int a)) (.d (.int b)) (.d .none)=.ok (.d (.bytes x)) s:=by
 subst h;exact bC (A01 hz)
theorem AP(hz:o.length<=1000000)(ha:a.length<=100):cC K 28 [.r 0,.d (.bytes a)] [rd o p]=.ok (.d (.bool ((o.drop p).take a.length==a))) [rd o p]:=by
 apply aR (f:=28) rfl rfl
 .unfold Sw
  apply aq
  apply be
  apply aH
  .apply ke
   .rfl
   .rfl
   ·(repeat' (first | (with_reducible first | apply bZ | apply cm | apply lW | apply eJ) | rfl | omega))
   .rfl
   .exact Li (by exact bK ‹_›) rfl
  .rfl
  .rfl
  .exact wB o a p
 .rfl
theorem mY(hz:o.length<=1000000)(ha:a.length<=100)(hk:((o.drop p).take a.length==a)=k):aW (n+1) 28 [.r 0,.d (.bytes a)] (rd o p::t)=.ok (.d (.bool k)) (rd o p::t):=by
 rw[<-hk];exact jV (ds:=[.bytes a]) (AP hz ha)
noncomputable def dj(l:List UInt8):Bool:=!(l.take 2==[91,58])&&(!(l.take 2==[92,112])&&!(l.take 2==[92,80]))
theorem QA(h:(!b)=true):b=false:=by cases b with
 |false=>rfl
 |true=>exact dJ h
theorem Lw(hx:x≠58):dj (91::x::r)=true:=by
 have:([91,x]==([91,58]:List UInt8))=false:=A05 λ e=>hx (List.cons.inj (List.cons.inj e).2).1
 show(!([91,x]==([91,58]:List UInt8))&&_)=true
 rw[this];rfl
theorem E4(hz:o.length<=1000000)(h:dj (o.drop p)=true):cC (aW (n+1)) 33 [.r 0] [rd o p]=.ok (.d (.bool false)) [rd o p]:=by
 have h1:=A07 h
 have h2:=A07 h1.2
 have c1:=mY (a:=[91,58]) (n:=n) (t:=[]) hz (by decide) (QA h1.1)
 have c2:=mY (a:=[92,112]) (n:=n) (t:=[]) hz (by decide) (QA h2.1)
 have c3:=mY (a:=[92,80]) (n:=n) (t:=[]) hz (by decide) (QA h2.2)
 apply aR (f:=33) rfl rfl
 .unfold Su
  apply aq
  apply be
  apply bS
  apply cY
  .apply ar
   .rfl
   .rfl
   .rfl
   .exact c1
  .apply cY
   .apply ar
    .rfl
    .rfl
    .rfl
    .exact c2
   .apply cH
    apply ar
    .rfl
    .rfl
    .rfl
    .exact c3
 .rfl
theorem pH(hz:o.length<=1000000)(h:dj (o.drop p)=true):aW (n+2) 33 [.r 0] (rd o p::t)=.ok (.d (.bool false)) (rd o p::t):=jV (ds:=[]) (E4 hz h)
end
noncomputable def T0:IE:=.boo true (.cons (.cmp .Lt (.v 4) (.v 2)) (.cons (.cmp .NotEq (.meth (.v 0) 14 .nil) (.neg (.k (.int 1)))) (.cons (.cmp .IsNot (.call 1 (.cons (.meth (.v 0) 14 .nil) .nil)) (.k .none)) .nil)))
noncomputable def Tm:bp:=.cons (.asg 3 (.bin .Add (.bin .Mult (.v 3) (.k (.int 16))) (.call 1 (.cons (.meth (.v 0) 15 .nil) .nil)))) (.cons (.augv 4 .Add (.k (.int 1))) .nil)
noncomputable def hx(c:UInt8):Int:=match sT c.toNat with
 |.int i=>i
 |_=>0
noncomputable def bQ(c:UInt8):Bool:=!(sT c.toNat).isNone
set_option tactic.hygienic true in
theorem M9(h:bQ c=true):sT c.toNat=.int (hx c)/\0<=hx c/\hx c<16/\c.toNat<=127:=by
 unfold bQ at h
 unfold hx
 unfold sT at h ⊢
 split at h
 .rename_i q;rw[if_pos q];exact jF rfl (by dsimp only;lia) (by dsimp only;lia) (by lia)
 .rename_i q
  rw[if_neg q]
  split at h
  .rename_i q2;rw[if_pos q2];exact jF rfl (by dsimp only;lia) (by dsimp only;lia) (by lia)
  .rename_i q2
   rw[if_neg q2]
   split at h
   .rename_i q3;rw[if_pos q3];exact jF rfl (by dsimp only;lia) (by dsimp only;lia) (by lia)
   .exact dJ h
noncomputable def lY(v:Int):List UInt8->Int
 |[]=>v
 |c::r=>lY (v*16+hx c) r
theorem yA:jT s .IsNot (.d x) (.d .none)=some (!x.isNone):=by cases x<;>rfl
section
variable {o:List UInt8}{p p' n:Nat}{t s:St}{K:Nat->List W->St->R W}
noncomputable abbrev wX(least most v j:Int):V:=[some (.r 0),some (.d (.int least)),some (.d (.int most)),some (.d (.int v)),some (.d (.int j)),none]
theorem Ll(h:x.natAbs<18446744073709551616):m4 s .Mult (.d (.int x)) (.d (.int y))=.ok (.d (.int (x*y))) s:=bC (A01 h)
theorem qm{aI:List UInt8}(hz:o.length<=1000000)(hm:most<=8):∀(ds:List UInt8)(p j:Nat)(v:Int)(N:Nat),o.drop p=ds++aI->(∀c∈ds,bQ c=true)->j+ds.length<=most->(j+ds.length=most\/∀c r,aI=c::r->bQ c=false)->0<=v->v<16 ^ j->ds.length<N ->
  iP (ao (aW (n+1)) T0) (bN (aW (n+1)) Tm) N (wX least most v j) [rd o p]=.ok (none,wX least most (lY v ds) ((j+ds.length:Nat):Int)) [rd o (p+ds.length)]:=by
 intro zl
 induction zl with
 |nil=>
  intro p j v N hd _ hj hs h0 h1 _
  rcases N with _|N
  .exact absurd ‹_› (Nat.not_lt_zero _)
  refine gP ?_
  apply bS
  rcases hs with hs|hs
  .apply d7 (b:=false)
   .apply aH
    .rfl
    .rfl
    .rfl
    .subst hs;simp
   .rfl
  .by_cases Vc:j<most
   .apply cY
    .apply aH
     .rfl
     .rfl
     .rfl
     .simp;exact‹_›
    .skip
     cases aI with
     |nil=>
      apply d7 (b:=false)
      .apply aH
       .apply ar
        .rfl
        .rfl
        .rfl
        .exact Ez hz hd
       .rfl
       .rfl
       .rfl
      .rfl
     |cons c r=>
      have hc:=hs c r rfl
      apply cY
      .apply aH
       .apply ar
        .rfl
        .rfl
        .rfl
        .exact jX hz hd
       .rfl
       .rfl
       .first | (simp;done) | (simp;lia)
      .apply cH
       apply aH
       .apply aF
        .apply aE
         .apply ar
          .rfl
          .rfl
          .rfl
          .exact jX hz hd
         .rfl
        .exact Az _
       .rfl
       .exact yA
       .exact hc
   .apply d7 (b:=false)
    .apply aH
     .rfl
     .rfl
     .rfl
     .simp;exact Nat.not_lt.mp ‹_›
    .rfl
 |cons c ds ih=>
  intro p j v N hd hh hj hs h0 h1 hN
  rcases N with _|N
  .exact absurd ‹_› (Nat.not_lt_zero _)
  have hc:=hh c (.head _)
  refine kU (M9 hc) λ e1 e2 e3 e4=>cI (bF (hd)) λ a1 a2 a3=>?_
  have hv:v.natAbs<18446744073709551616:=by
   have:(16:Int) ^ j<=16 ^ 8:=by
    have:=Nat.pow_le_pow_right (n:=16) (by decide) (by lia:j<=8)
    exact_mod_cast this
   lia
  have ih:=ih (p+1) (j+1) (v*16+hx c) N a3 (λ c' h=>hh c' (.tail _ h)) (by exact Ki ‹_›) (hs.imp (λ q=>by exact Pp ‹_›) id) (by lia) (by simp only[Int.pow_succ];lia) (by exact Nat.lt_of_succ_lt_succ ‹_›)
  refine(oQ (ah:=wX least most (v*16+hx c) ((j+1:Nat):Int)) (aB:=[rd o p]) (aP:=[rd o (p+1)]) ?_ ?_ ih).trans ?_
  .skip
   apply bS
   apply cY
   .apply aH
    .rfl
    .rfl
    .rfl
    .simp;exact Lx ‹_›
   .apply cY
    .apply aH
     .apply ar
      .rfl
      .rfl
      .rfl
      .exact jX hz hd
     .rfl
     .rfl
     .first | (simp;done) | (simp;lia)
    .apply cH
     apply aH
     .apply aF
      .apply aE
       .apply ar
        .rfl
        .rfl
        .rfl
        .exact jX hz hd
       .rfl
      .exact Az _
     .rfl
     .exact yA
     .exact hc
  .skip
   apply aA
   .apply ay
    apply bZ
    .apply bZ
     .rfl
     .rfl
     .exact Ll hv
    .apply aF
     .apply aE
      .apply ar
       .rfl
       .rfl
       .rfl
       .exact Ao hz hd e4
      .rfl
     .exact Az _
    .simp only[e1];rfl
   .apply aA
    .apply xU
     .rfl
     .rfl
     .rfl
    .rfl
  .refine(?_:R.ok (none,wX least most (lY (v*16+hx c) ds) ((j+1+ds.length:Nat):Int)) [rd o (p+1+ds.length)]=R.ok (none,wX least most (lY (v*16+hx c) ds) ((j+(ds.length+1):Nat):Int)) [rd o (p+(ds.length+1))])
   simp only[show j+1+ds.length=j+(ds.length+1) by lia,show p+1+ds.length=p+(ds.length+1) by lia]
theorem AL{ds aI:List UInt8}(hz:o.length<=1000000)(hm:most<=8)(hd:o.drop p=ds++aI)(hh:∀c∈ds,bQ c=true)(hl:least<=ds.length)(hj:ds.length<=most)(hs:ds.length=most\/∀c r,aI=c::r->bQ c=false) :
  cC (aW (n+1)) 29 [.r 0,.d (.int least),.d (.int most)] [rd o p]=.ok (.d (.int (lY 0 ds))) [rd o (p+ds.length)]:=by
 have L:=qm (n:=n) (least:=least) (aI:=aI) hz hm ds p 0 0 4096 hd hh (by exact Nat.le_trans (Nat.le_of_eq (Nat.zero_add _)) ‹_›) (hs.imp (λ q=>by exact(Nat.zero_add _).trans ‹_›) id) (by exact Int.ofNat_nonneg _) (by decide) (by lia)
 apply aR (f:=29) rfl rfl
 .skip
  apply aA
  .apply xT
   .rfl
   .rfl
   .rfl
  .apply aA
   .apply lN
    exact L
   .apply aA
    .apply ae
     .apply aH
      .rfl
      .rfl
      .rfl
      .simp;lia
     .rfl
    .rfl
 .rfl
theorem gi{ds aI:List UInt8}(hz:o.length<=1000000)(hm:most<=8)(hd:o.drop p=ds++aI)(hh:∀c∈ds,bQ c=true)(hl:least<=ds.length)(hj:ds.length<=most)(hs:ds.length=most\/∀c r,aI=c::r->bQ c=false) :
  aW (n+2) 29 [.r 0,.d (.int least),.d (.int most)] (rd o p::t)=.ok (.d (.int (lY 0 ds))) (rd o (p+ds.length)::t):=jV (ds:=[.int least,.int most]) (AL hz hm hd hh hl hj hs)
end
section
variable {o:List UInt8}{p p' n:Nat}{t s:St}{K:Nat->List W->St->R W}
theorem bV(hv:cW vs 0=some (.r 0))(hz:o.length<=1000000)(h:o.drop p=c::r):ao (aW (m+1)) (.meth (.v 0) 14 .nil) vs (rd o p::t)=.ok (.d (.int c.toNat)) (rd o p::t) :=
 ar (e:=.fn 26) (d9 hv) rfl aT (jX hz h)
theorem la(hv:cW vs 0=some (.r 0))(hz:o.length<=1000000)(h:o.drop p=c::r)(hc:c.toNat<=127):ao (aW (m+1)) (.meth (.v 0) 15 .nil) vs (rd o p::t)=.ok (.d (.int c.toNat)) (rd o (p+1)::t) :=
 ar (e:=.fn 27) (d9 hv) rfl aT (Ao hz h hc)
theorem I9(hv:cW vs 0=some (.r 0))(hz:o.length<=1000000)(h:∀c r,o.drop p=c::r->f5 c=false):ao (aW (m+1)) (.meth (.v 0) 13 .nil) vs (rd o p::t)=.ok (.d .none) (rd o p::t) :=
 ar (e:=.fn 25) (d9 hv) rfl aT (pB hz h)
theorem eE(hv:cW vs 0=some (.r 0))(hz:o.length<=1000000)(h:o.drop p=c::r)(hc:c.toNat<=127):gy (aW (m+1)) (.ex (.meth (.v 0) 15 .nil)) vs (rd o p::t)=.ok (none,vs) (rd o (p+1)::t) :=
 fX (la hv hz h hc) rfl
theorem f8(hv:cW vs 0=some (.r 0))(hz:o.length<=1000000)(h:∀c r,o.drop p=c::r->f5 c=false):gy (aW (m+1)) (.ex (.meth (.v 0) 13 .nil)) vs (rd o p::t)=.ok (none,vs) (rd o p::t) :=
 fX (I9 hv hz h) rfl
theorem f0(h:o.drop p=a++r):o.drop (p+a.length)=r:=by
 rw[<-List.drop_drop,h,List.drop_left]
theorem AN{ds aI:List UInt8}(hz:o.length<=1000000)(hd:o.drop p=123::(ds++125::aI))(hh:∀c∈ds,bQ c=true)(h1:1<=ds.length)(h6:ds.length<=6):cC (aW (n+2)) 30 [.r 0] [rd o p]=.ok (.d (.int (lY 0 ds))) [rd o (p+1+ds.length+1)]:=by
 obtain⟨_,_,a3⟩:=bF hd
 have a4:=f0 a3
 apply aR (f:=30) rfl rfl
 .unfold Sv
  apply aA
  .exact eE (m:=n+1) rfl hz hd (by decide)
  .apply aA
   .apply ay
    apply aF
    .rfl
    .exact gi (n:=n) (t:=[]) (least:=1) (most:=6) hz (by decide) a3 hh h1 h6 (.inr λ c r e=>by cases e;rfl)
   .apply aA
    .apply ae
     .apply aH
      .exact bV (m:=n+1) rfl hz a4
      .rfl
      .rfl
      .rfl
     .rfl
    .apply aA
     .exact eE (m:=n+1) rfl hz a4 (by decide)
     .rfl
 .rfl
theorem BC{ds aI:List UInt8}(hz:o.length<=1000000)(hd:o.drop p=123::(ds++125::aI))(hh:∀c∈ds,bQ c=true)(h1:1<=ds.length)(h6:ds.length<=6):aW (n+3) 30 [.r 0] (rd o p::t)=.ok (.d (.int (lY 0 ds))) (rd o (p+1+ds.length+1)::t):=jV (ds:=[]) (AN hz hd hh h1 h6)
theorem J7{c:UInt8}{aI:List UInt8}(hz:o.length<=1000000)(hd:o.drop p=92::c::aI)(hc:c∈([45,93,32,92,123]:List UInt8)):cC (aW (n+1)) 31 [.r 0] [rd o p]=.ok (.d (.int c.toNat)) [rd o (p+1+1)]:=by
 obtain⟨_,_,a3⟩:=bF hd
 have v8:c=45\/c=93\/c=32\/c=92\/c=123:=by simpa using hc
 rcases v8 with rfl|rfl|rfl|rfl|rfl
 all_goals
  apply aR (f:=31) rfl rfl
  .unfold Kw
   apply aA
   .rfl
   .apply aA
    .exact eE (m:=n) rfl hz hd (by decide)
    .apply aA
     .apply ay
      exact la (m:=n) rfl hz a3 (by decide)
     .apply aA
      .rfl
      .apply aA
       .apply ae
        .rfl
        .rfl
       .apply aA
        .rfl
        .apply aA
         .apply ae
          .rfl
          .apply aA
           .apply ae
            .rfl
            .apply aA
             .apply ae
              .rfl
              .apply aA
               .apply ae
                .rfl
                .apply aA
                 .apply ae
                  ·(repeat' (first | (with_reducible first | apply aH) | rfl | decide +kernel))
                  .rfl
                 .rfl
               .rfl
             .rfl
           .rfl
         .apply aA
          .apply ae
           .rfl
           .rfl
          .rfl
  .rfl
end
section
variable {o:List UInt8}{p p' n:Nat}{t s aB:St}{K:Nat->List W->St->R W}{vs ah:V}{d:D}
theorem Kv{α β:Type}{r:R α}{f:α->St->R β}(h:r=.err d):r.bind f=.err d:=by rw[h];rfl
theorem Fm{e:IE}(h:ao K e vs s=.err d):gy K (.ex e) vs s=.err d:=Kv h
theorem fz{i:Nat}{e:IE}(h:ao K e vs s=.err d):gy K (.asg i e) vs s=.err d:=Kv h
theorem tY{e:IE}(h:ao K e vs s=.err d):gy K (.ret e) vs s=.err d:=Kv h
theorem cK{x:IS}{xs:bp}(h:gy K x vs s=.err d):bN K (.cons x xs) vs s=.err d:=Kv h
theorem eQ(h:mK[f]?=some (.fn a np df tr ini body))(h2:(sh df np args).length=np)(hb:bN K body (k9 (sh df np args) ini) s=.err d):cC K f args s=.err d:=mN h h2 hb rfl
theorem LG{t:IE}(a7:ao K t vs s=.ok (.d (.bool true)) aB)(a8:bN K b vs aB=.err d):iP (ao K t) (bN K b) (N+1) vs s=.err d:=by
 rw[vB];simp only[a7];refine(?_:R.bind (bN K b vs aB) _=_);simp only[a8];rfl
theorem eo{ds:List D}(h:cC (aW n) f (.r 0::ds.map .d) [rd o p]=.err d):aW (n+1) f (.r 0::ds.map .d) (rd o p::t)=.err d:=by
 refine(?_:wrap (cC (aW n) f) _ _=_)
 unfold wrap
 have e:eV (rd o p::t) (.r 0::ds.map .d)=[0]:=by
  refine(?_:0::([]++ eV _ (ds.map .d))=[0])
  rw[kk];rfl
 have e2:(W.r 0::ds.map W.d).map (pp (at' [0]))=.r 0::ds.map .d:=by simp only[List.map_cons,kl];rfl
 rw[e,e2]
 refine(?_:R.bind (cC (aW n) f (.r 0::ds.map .d) [rd o p]) _=_)
 rw[h];rfl
theorem KD{i:Int}:aW (n+1) 24 [.r 0,.d (.int i)] (rd o p::t)=.err (.int i):=eo (ds:=[.int i]) (eQ (f:=24) rfl rfl rfl)
theorem Ia(hv:cW vs 0=some (.r 0))(he:ao (aW (m+1)) e vs (rd o p::t)=.ok (.d (.int i)) (rd o p::t)):ao (aW (m+1)) (.meth (.v 0) 12 (.cons e .nil)) vs (rd o p::t)=.err (.int i) :=
 ar (e:=.fn 24) (d9 hv) rfl (aE he aT) KD
noncomputable def fP(v:Int)(b p':Nat)(o:List UInt8):R W:=if v<=1114111 then .ok (.d (.int v)) [rd o p']else .err (.int b)
noncomputable def rX:bp:=.cons (.iff (.cmp .Gt (.v 4) (.g 0)) (.cons (.ex (.meth (.v 0) 12 (.cons (.v 1) .nil))) .nil) .nil) (.cons (.ret (.v 4)) .nil)
theorem CB(h4:cW vs 4=some (.d (.int v)))(h:v<=1114111):bN K rX vs s=.ok (some (.d (.int v)),vs) s:=by
 apply aA
 .apply ae
  .apply aH
   .exact d9 h4
   .exact rfl
   .rfl
   .simp;exact‹_›
  .exact aK
 .exact aq (be (d9 h4))
theorem wa(h0:cW vs 0=some (.r 0))(h1:cW vs 1=some (.d (.int b)))(h4:cW vs 4=some (.d (.int v)))(h:1114111<v):bN (aW (m+1)) rX vs [rd o p']=.err (.int b):=by
 apply cK
 apply br
 .apply aH
  .exact d9 h4
  .exact rfl
  .rfl
  .simp;exact‹_›
 .exact cK (Fm (Ia h0 (d9 h1)))
noncomputable abbrev Bo(b:Nat)(c:UInt8)(v:Int):V:=[some (.r 0),some (.d (.int b)),some (.d (.int c.toNat)),some (.d (.dict [97,98,116,110,118,102,114])),some (.d (.int v)),none,none,none,none,none,none]
set_option tactic.hygienic true in
theorem ot{aI:List UInt8}(hz:o.length<=1000000)(hd:o.drop p=92::c::aI)(hc:c=120\/c=117\/c=85)
  (h:gy (aW (m+1)) (match Kw with | .cons _ (.cons _ (.cons _ (.cons _ (.cons _ (.cons _ (.cons x _))))))=>x | _=>.bad) (Bo p c c.toNat) [rd o (p+1+1)]=.ok (none,Bo p c v) [rd o p']) :
  cC (aW (m+1)) 31 [.r 0] [rd o p]=fP v p p' o:=by
 refine cI (bF hd) λ _ _ a3=>?_
 have start:∀{r:R (Option W×V)},bN (aW (m+1)) rX (Bo p c v) [rd o p']=r->bN (aW (m+1)) Kw (k9 [.r 0] [.arg 0,.loc,.loc,.loc,.loc,.glb,.glb,.glb,.glb,.glb,.glb]) [rd o p]=r:=λ{r} ht=>by
  unfold Kw at h ⊢
  dsimp only at h
  apply aA
  .exact rfl
  .apply aA
   .exact eE (m:=m) rfl hz hd (by decide)
   .apply aA
    .apply ay
     exact la (m:=m) rfl hz a3 (by rcases hc with rfl|rfl|rfl<;>decide)
    .apply aA
     .rfl
     .apply aA
      .apply ae
       .apply aH
        .rfl
        .rfl
        .rfl
        .rcases hc with rfl|rfl|rfl<;>decide +kernel
       .exact aK
      .apply aA
       .exact rfl
       .exact aA h ht
 unfold fP
 split
 .rename_i hv
  exact mN (f:=31) rfl rfl (start (CB rfl hv)) rfl
 .rename_i hv
  exact mN (f:=31) rfl rfl (start (wa rfl rfl rfl (by exact Int.not_le.mp ‹_›))) rfl
end
section
variable {o:List UInt8}{p p' n:Nat}{t s aB:St}{K:Nat->List W->St->R W}{vs ah:V}{d:D}
theorem on{least most:Nat}{ds aI:List UInt8}(hz:o.length<=1000000)(hm:most<=8)(hd:o.drop p=ds++aI)(hh:∀c∈ds,bQ c=true)(hl:ds.length<least)(hj:ds.length<=most)(hs:ds.length=most\/∀c r,aI=c::r->bQ c=false) :
  cC (aW (n+1)) 29 [.r 0,.d (.int least),.d (.int most)] [rd o p]=.err (.int ((p+ds.length:Nat):Int)):=by
 have L:=qm (n:=n) (least:=least) (aI:=aI) hz hm ds p 0 0 4096 hd hh (by exact Nat.le_trans (Nat.le_of_eq (Nat.zero_add _)) ‹_›) (hs.imp (λ q=>by exact(Nat.zero_add _).trans ‹_›) id) (by exact Int.ofNat_nonneg _) (by decide) (by lia)
 apply eQ (f:=29) rfl rfl
 apply aA
 .exact rfl
 .apply aA
  .assumption
  .apply cK
   apply br
   .apply aH
    .exact rfl
    .exact rfl
    .rfl
    .simp;lia
   .exact rfl
theorem eR{least most:Nat}{ds aI:List UInt8}(hz:o.length<=1000000)(hm:most<=8)(hd:o.drop p=ds++aI)(hh:∀c∈ds,bQ c=true)(hl:ds.length<least)(hj:ds.length<=most)(hs:ds.length=most\/∀c r,aI=c::r->bQ c=false) :
  aW (n+2) 29 [.r 0,.d (.int least),.d (.int most)] (rd o p::t)=.err (.int ((p+ds.length:Nat):Int)):=eo (ds:=[.int least,.int most]) (on hz hm hd hh hl hj hs)
theorem oq{ds aI:List UInt8}(hz:o.length<=1000000)(hd:o.drop p=123::(ds++aI))(hh:∀c∈ds,bQ c=true)(h6:ds.length<=6)(hs:ds.length=6\/∀c r,aI=c::r->bQ c=false)(hb:ds.length=0\/∃c r,aI=c::r/\c≠125) :
  cC (aW (n+2)) 30 [.r 0] [rd o p]=.err (.int ((p+1+ds.length:Nat):Int)):=by
 refine cI (bF hd) λ _ _ a3=>?_
 apply eQ (f:=30) rfl rfl
 apply aA
 .exact eE (m:=n+1) rfl hz hd (by decide)
 .by_cases h0:ds.length=0
  .apply cK
   apply fz
   apply aF
   .exact rfl
   .exact eR (n:=n) (t:=[]) (least:=1) (most:=6) hz (by decide) a3 hh (by lia) h6 hs
  .refine dP (hb.resolve_left h0) λ c r e g7=>?_
   apply aA
   .apply ay
    apply aF
    .exact rfl
    .exact gi (n:=n) (t:=[]) (least:=1) (most:=6) hz (by decide) a3 hh (by exact Nat.zero_lt_of_ne_zero ‹_›) h6 hs
   .apply cK
    apply br
    .apply aH
     .exact bV (m:=n+1) rfl hz (by rw[<-e];exact f0 a3)
     .exact rfl
     .rfl
     .have:(c.toNat:Int)≠125:=λ q=>g7 (UInt8.toNat_inj.mp (by
       have:c.toNat=125:=by exact tj ‹_›
       exact this))
      simpa using this
    .exact rfl
theorem pG{ds aI:List UInt8}(hz:o.length<=1000000)(hd:o.drop p=123::(ds++aI))(hh:∀c∈ds,bQ c=true)(h6:ds.length<=6)(hs:ds.length=6\/∀c r,aI=c::r->bQ c=false)(hb:ds.length=0\/∃c r,aI=c::r/\c≠125) :
  aW (n+3) 30 [.r 0] (rd o p::t)=.err (.int ((p+1+ds.length:Nat):Int)):=eo (ds:=[]) (oq hz hd hh h6 hs hb)
theorem Lz{c:UInt8}(h:bQ c=true):((c.toNat:Int)==123)=false:=by
 rw[beq_eq_false_iff_ne]
 intro q
 have:c=123:=UInt8.toNat_inj.mp (by have:c.toNat=123:=(by exact tj ‹_›);exact this)
 subst this;exact dJ h
theorem uG{ds aI:List UInt8}(hz:o.length<=1000000)(hd:o.drop p=92::120::(ds++aI))(hh:∀c∈ds,bQ c=true)(hl:ds.length=2):cC (aW (n+2)) 31 [.r 0] [rd o p]=fP (lY 0 ds) p (p+1+1+ds.length) o:=by
 refine cI (bF hd) λ _ _ a3=>cI (bF a3) λ _ _ a4=>?_
 match ds,hl,hh,a4 with
 |[kD,Ef],_,hh,a4=>
  refine ot (c:=120) (m:=n+1) hz hd (.inl rfl) ?_
  apply br
  .exact rfl
  .apply aA
   .apply ay
    apply dK
    .apply aH
     .exact bV (m:=n+1) rfl hz a4
     .exact rfl
     .rfl
     .exact Lz (hh kD (.head _))
    .apply aF
     .exact rfl
     .exact gi (n:=n) (t:=[]) (least:=2) (most:=2) hz (by decide) a4 hh (by simp) (by simp) (.inl rfl)
   .rfl
theorem uI{ds aI:List UInt8}(hz:o.length<=1000000)(hd:o.drop p=92::120::123::(ds++125::aI))(hh:∀c∈ds,bQ c=true)(h1:1<=ds.length)(h6:ds.length<=6):cC (aW (n+3)) 31 [.r 0] [rd o p]=fP (lY 0 ds) p (p+1+1+1+ds.length+1) o:=by
 refine cI (bF hd) λ _ _ a3=>cI (bF a3) λ _ _ a4=>ot (c:=120) (m:=n+2) hz hd (.inl rfl) ?_
 apply br
 .exact rfl
 .apply aA
  .apply ay
   apply d0
   .apply aH
    .exact bV (m:=n+2) rfl hz a4
    .exact rfl
    .rfl
    .rfl
   .apply aF
    .exact rfl
    .exact BC (n:=n) (t:=[]) hz a4 hh h1 h6
  .rfl
theorem uH{ds aI:List UInt8}(hz:o.length<=1000000)(hd:o.drop p=92::117::(ds++aI))(hh:∀c∈ds,bQ c=true)(hl:ds.length=4):cC (aW (n+2)) 31 [.r 0] [rd o p]=fP (lY 0 ds) p (p+1+1+ds.length) o:=by
 refine cI (bF hd) λ _ _ a3=>cI (bF a3) λ _ _ a4=>ot (c:=117) (m:=n+1) hz hd (.inr (.inl rfl)) ?_
 apply ae
 .exact rfl
 .apply aA
  .apply br
   .exact rfl
   .apply aA
    .apply ay
     apply aF
     .exact rfl
     .exact gi (n:=n) (t:=[]) (least:=4) (most:=4) hz (by decide) a4 hh (by exact Nat.le_of_eq (Eq.symm ‹_›)) (by exact Nat.le_of_eq ‹_›) (.inl hl)
    .rfl
  .rfl
theorem uJ{ds aI:List UInt8}(hz:o.length<=1000000)(hd:o.drop p=92::85::(ds++aI))(hh:∀c∈ds,bQ c=true)(hl:ds.length=8):cC (aW (n+2)) 31 [.r 0] [rd o p]=fP (lY 0 ds) p (p+1+1+ds.length) o:=by
 refine cI (bF hd) λ _ _ a3=>cI (bF a3) λ _ _ a4=>ot (c:=85) (m:=n+1) hz hd (.inr (.inr rfl)) ?_
 apply ae
 .exact rfl
 .apply aA
  .apply ae
   .exact rfl
   .apply aA
    .apply br
     .exact rfl
     .apply aA
      .apply ay
       apply aF
       .exact rfl
       .exact gi (n:=n) (t:=[]) (least:=8) (most:=8) hz (by decide) a4 hh (by exact Nat.le_of_eq (Eq.symm ‹_›)) (by exact Nat.le_of_eq ‹_›) (.inl hl)
      .rfl
    .rfl
  .rfl
theorem fu{m:Nat}{c:UInt8}{aI:List UInt8}(hz:o.length<=1000000)(hd:o.drop p=92::c::aI)(hc:c=120\/c=117\/c=85)
  (h:gy (aW (m+1)) (match Kw with | .cons _ (.cons _ (.cons _ (.cons _ (.cons _ (.cons _ (.cons x _))))))=>x | _=>.bad) (Bo p c c.toNat) [rd o (p+1+1)]=.err d) :
  cC (aW (m+1)) 31 [.r 0] [rd o p]=.err d:=by
 refine cI (bF hd) λ _ _ a3=>?_
 apply eQ (f:=31) rfl rfl
 apply aA
 .exact rfl
 .apply aA
  .exact eE (m:=m) rfl hz hd (by decide)
  .apply aA
   .apply ay
    exact la (m:=m) rfl hz a3 (by rcases hc with rfl|rfl|rfl<;>decide)
   .apply aA
    .rfl
    .apply aA
     .apply ae
      .apply aH
       .rfl
       .rfl
       .rfl
       .rcases hc with rfl|rfl|rfl<;>decide +kernel
      .exact aK
     .apply aA
      .exact rfl
      .exact cK h
theorem Mv{c:UInt8}{ds aI r:List UInt8}{b:UInt8}(hh:∀c∈ds,bQ c=true)(hb:b≠123)(hr:∀c r,aI=c::r->c≠123)(h:ds++aI=c::r):((c.toNat:Int)==123)=false:=by
 have hc:c≠123:=by
  cases ds with
  |nil=>exact hr c r h
  |cons x ds=>injection h with h1 _;subst h1;intro q;have:=hh x (.head _);rw[q]at this;exact dJ this
 rw[beq_eq_false_iff_ne]
 intro q
 exact hc (UInt8.toNat_inj.mp (by have:c.toNat=123:=(by exact tj ‹_›);exact this))
theorem qg{ds:List UInt8}{c:UInt8}{r:List UInt8}(hz:o.length<=1000000)(hd:o.drop p=92::120::(ds++c::r))(hh:∀c∈ds,bQ c=true)(hl:ds.length<2)(hc:bQ c=false)(Oj:c≠123):cC (aW (n+2)) 31 [.r 0] [rd o p]=.err (.int ((p+1+1+ds.length:Nat):Int)):=by
 refine cI (bF hd) λ _ _ a3=>cI (bF a3) λ _ _ a4=>fu (c:=120) (m:=n+1) hz hd (.inl rfl) ?_
 apply br
 .exact rfl
 .apply cK
  apply fz
  apply dK
  .obtain⟨x,y,e⟩:∃x y,ds++c::r=x::y:=by
    cases ds with
    |nil=>exact iB _ _ rfl
    |cons a b=>exact iB _ _ rfl
   apply aH
   .exact bV (m:=n+1) rfl hz (a4.trans e)
   .exact rfl
   .rfl
   .exact Mv (b:=c) hh Oj (λ c' r' q=>by injection q with q1 _;subst q1;exact Oj) e
  .apply aF
   .exact rfl
   .exact eR (n:=n) (t:=[]) (least:=2) (most:=2) hz (by decide) a4 hh hl (by exact Nat.le_of_lt ‹_›) (.inr λ c' r' q=>by injection q with q1 _;subst q1;exact hc)
theorem kR{ds aI:List UInt8}(hz:o.length<=1000000)(hd:o.drop p=92::120::123::(ds++aI))(hh:∀c∈ds,bQ c=true)(h6:ds.length<=6)(hs:ds.length=6\/∀c r,aI=c::r->bQ c=false)(hb:ds.length=0\/∃c r,aI=c::r/\c≠125) :
  cC (aW (n+3)) 31 [.r 0] [rd o p]=.err (.int ((p+1+1+1+ds.length:Nat):Int)):=by
 refine cI (bF hd) λ _ _ a3=>cI (bF a3) λ _ _ a4=>fu (c:=120) (m:=n+2) hz hd (.inl rfl) ?_
 apply br
 .exact rfl
 .apply cK
  apply fz
  apply d0
  .apply aH
   .exact bV (m:=n+2) rfl hz a4
   .exact rfl
   .rfl
   .rfl
  .apply aF
   .exact rfl
   .exact pG (n:=n) (t:=[]) hz a4 hh h6 hs hb
theorem qh{ds:List UInt8}{c:UInt8}{r:List UInt8}(hz:o.length<=1000000)(hd:o.drop p=92::117::(ds++c::r))(hh:∀c∈ds,bQ c=true)(hl:ds.length<4)(hc:bQ c=false):cC (aW (n+2)) 31 [.r 0] [rd o p]=.err (.int ((p+1+1+ds.length:Nat):Int)):=by
 refine cI (bF hd) λ _ _ a3=>cI (bF a3) λ _ _ a4=>fu (c:=117) (m:=n+1) hz hd (.inr (.inl rfl)) ?_
 apply ae
 .exact rfl
 .apply cK
  apply br
  .exact rfl
  .apply cK
   apply fz
   apply aF
   .exact rfl
   .exact eR (n:=n) (t:=[]) (least:=4) (most:=4) hz (by decide) a4 hh hl (by exact Nat.le_of_lt ‹_›) (.inr λ c' r' q=>by injection q with q1 _;subst q1;exact hc)
theorem qi{ds:List UInt8}{c:UInt8}{r:List UInt8}(hz:o.length<=1000000)(hd:o.drop p=92::85::(ds++c::r))(hh:∀c∈ds,bQ c=true)(hl:ds.length<8)(hc:bQ c=false):cC (aW (n+2)) 31 [.r 0] [rd o p]=.err (.int ((p+1+1+ds.length:Nat):Int)):=by
 refine cI (bF hd) λ _ _ a3=>cI (bF a3) λ _ _ a4=>fu (c:=85) (m:=n+1) hz hd (.inr (.inr rfl)) ?_
 apply ae
 .exact rfl
 .apply cK
  apply ae
  .exact rfl
  .apply cK
   apply br
   .exact rfl
   .apply cK
    apply fz
    apply aF
    .exact rfl
    .exact eR (n:=n) (t:=[]) (least:=8) (most:=8) hz (by decide) a4 hh hl (by exact Nat.le_of_lt ‹_›) (.inr λ c' r' q=>by injection q with q1 _;subst q1;exact hc)
end
section
variable {o:List UInt8}{p p' n:Nat}{t s aB:St}{K:Nat->List W->St->R W}{vs ah:V}{d:D}
noncomputable def ph:List UInt8:=[91,93,123,125,38,45,92,94]
theorem E3{c:UInt8}{r:List UInt8}(hz:o.length<=1000000)(hd:o.drop p=c::r)(hc:c.toNat<=127)(hs:ph.contains c=false):cC (aW (n+1)) 32 [.r 0] [rd o p]=.ok (.d (.int c.toNat)) [rd o (p+1)]:=by
 apply aR (f:=32) rfl rfl
 .unfold Ow
  apply aA
  .apply ae
   .apply aH
    .exact bV (m:=n) rfl hz hd
    .rfl
    .rfl
    .rw[beq_eq_false_iff_ne]
     intro q
     have:c=92:=UInt8.toNat_inj.mp (by have:c.toNat=92:=(by exact tj ‹_›);exact this)
     subst this;exact tm hs
   .rfl
  .apply aA
   .rfl
   .apply aA
    .apply ay
     exact la (m:=n) rfl hz hd hc
    .apply aA
     .apply ae
      .apply aH
       .rfl
       .rfl
       .exact GI rfl hs
       .rfl
      .rfl
     .rfl
 .rfl
theorem E2{r:R W}{aI:List UInt8}(hz:o.length<=1000000)(hd:o.drop p=92::aI){c:Int}(h:aW (n+1) 31 [.r 0] [rd o p]=.ok (.d (.int c)) [rd o p']):cC (aW (n+1)) 32 [.r 0] [rd o p]=.ok (.d (.int c)) [rd o p']:=by
 apply aR (f:=32) rfl rfl
 .unfold Ow
  apply aq
  apply br
  .apply aH
   .exact bV (m:=n) rfl hz hd
   .rfl
   .rfl
   .rfl
  .apply aq
   apply be
   apply aF
   .rfl
   .exact h
 .rfl
theorem qj{aI:List UInt8}(hz:o.length<=1000000)(hd:o.drop p=92::aI)(h:aW (n+1) 31 [.r 0] [rd o p]=.err d):cC (aW (n+1)) 32 [.r 0] [rd o p]=.err d:=by
 apply eQ (f:=32) rfl rfl
 unfold Ow
 apply cK
 apply br
 .apply aH
  .exact bV (m:=n) rfl hz hd
  .rfl
  .rfl
  .rfl
 .apply cK
  apply tY
  apply aF
  .rfl
  .exact h
def bX(o:List UInt8)(p:Nat)(c:Int)(p':Nat):Prop:=∀n t,aW (n+5) 32 [.r 0] (rd o p::t)=.ok (.d (.int c)) (rd o p'::t)
def dN(o:List UInt8)(p:Nat)(e:Int):Prop:=∀n t,aW (n+5) 32 [.r 0] (rd o p::t)=.err (.int e)
theorem bX.plain{c:UInt8}{r:List UInt8}(hz:o.length<=1000000)(hd:o.drop p=c::r)(hc:c.toNat<=127)(hs:ph.contains c=false):bX o p c.toNat (p+1):=λ n t=>jV (ds:=[]) (E3 (n:=n+3) hz hd hc hs)
theorem bX.esc{aI:List UInt8}{c:Int}(hz:o.length<=1000000)(hd:o.drop p=92::aI)(h:∀n,cC (aW (n+3)) 31 [.r 0] [rd o p]=.ok (.d (.int c)) [rd o p']):bX o p c p':=λ n t=>jV (ds:=[]) (E2 (n:=n+3) (r:=.no) hz hd (jV (ds:=[]) (h n)))
theorem dN.esc{aI:List UInt8}{e:Int}(hz:o.length<=1000000)(hd:o.drop p=92::aI)(h:∀n,cC (aW (n+3)) 31 [.r 0] [rd o p]=.err (.int e)):dN o p e:=λ n t=>eo (ds:=[]) (qj (n:=n+3) hz hd (eo (ds:=[]) (h n)))
theorem bX.sign{c:UInt8}{aI:List UInt8}(hz:o.length<=1000000)(hd:o.drop p=92::c::aI)(hc:c∈([45,93,32,92,123]:List UInt8)):bX o p c.toNat (p+1+1):=.esc hz hd λ n=>J7 (n:=n+2) hz hd hc
theorem bX.x2{ds aI:List UInt8}(hz:o.length<=1000000)(hd:o.drop p=92::120::(ds++aI))(hh:∀c∈ds,bQ c=true)(hl:ds.length=2)(hm:lY 0 ds<=1114111):bX o p (lY 0 ds) (p+1+1+ds.length):=.esc hz hd λ n=>(uG (n:=n+1) hz hd hh hl).trans (if_pos hm)
theorem bX.xb{ds aI:List UInt8}(hz:o.length<=1000000)(hd:o.drop p=92::120::123::(ds++125::aI))(hh:∀c∈ds,bQ c=true)(h1:1<=ds.length)(h6:ds.length<=6)(hm:lY 0 ds<=1114111):bX o p (lY 0 ds) (p+1+1+1+ds.length+1):=.esc hz hd λ n=>(uI (n:=n) hz hd hh h1 h6).trans (if_pos hm)
theorem bX.u{ds aI:List UInt8}(hz:o.length<=1000000)(hd:o.drop p=92::117::(ds++aI))(hh:∀c∈ds,bQ c=true)(hl:ds.length=4)(hm:lY 0 ds<=1114111):bX o p (lY 0 ds) (p+1+1+ds.length):=.esc hz hd λ n=>(uH (n:=n+1) hz hd hh hl).trans (if_pos hm)
theorem bX.U{ds aI:List UInt8}(hz:o.length<=1000000)(hd:o.drop p=92::85::(ds++aI))(hh:∀c∈ds,bQ c=true)(hl:ds.length=8)(hm:lY 0 ds<=1114111):bX o p (lY 0 ds) (p+1+1+ds.length):=.esc hz hd λ n=>(uJ (n:=n+1) hz hd hh hl).trans (if_pos hm)
theorem dN.big{aI:List UInt8}{c:Int}(hz:o.length<=1000000)(hd:o.drop p=92::aI)(h:∀n,cC (aW (n+3)) 31 [.r 0] [rd o p]=fP c p p' o)(hm:1114111<c):dN o p p:=.esc hz hd λ n=>(h n).trans (if_neg (by exact Int.not_le.mpr ‹_›))
end
section
variable {o:List UInt8}{p p' n:Nat}{t s aB:St}{K:Nat->List W->St->R W}{vs ah:V}{d:D}
class inductive dM (o:List UInt8):Nat->List Int->Nat->Prop where
 |nil {p:Nat}{r:List UInt8} (h:o.drop p=125::r):dM o p [] p
 |cons {p eW p':Nat}{c:Int}{cs:List Int}{x:UInt8}{r:List UInt8} (h:o.drop p=x::r) (hx:x≠125) (hb:f5 x=false) (hc:bX o p c eW) (q:dM o eW cs p'):dM o p (c::cs) p'
theorem ne_int{c:UInt8}{k:Nat}(hk:k<256)(h:c≠k.toUInt8):((c.toNat:Int)==(k:Int))=false:=by
 rw[beq_eq_false_iff_ne]
 intro q
 have q:c.toNat=k:=by exact tj ‹_›
 exact h (by rw[<-q];simp)
theorem dM.start{cs:List Int}(h:dM o p cs p'):∀c r,o.drop p=c::r->f5 c=false:=λ c r e=>by
 cases h with
 |nil h=>rw[h]at e;cases e;rfl
 |cons h _ hb _ _=>rw[h]at e;cases e;exact hb
theorem dM.stop{cs:List Int}(h:dM o p cs p'):∃r,o.drop p'=125::r:=by
 induction h with
 |nil h=>exact⟨_,h⟩
 |cons _ _ _ _ _ ih=>exact ih
noncomputable def P4:IE:=.cmp .NotEq (.meth (.v 0) 14 .nil) (.g 11)
noncomputable def SJ:bp:=.cons (.ex (.meth (.v 1) 0 (.cons (.call 32 (.cons (.v 0) .nil)) .nil))) (.cons (.ex (.meth (.v 0) 13 .nil)) .nil)
noncomputable abbrev HK:V:=[some (.r 0),some (.r 1),none,none]
theorem lb{s:St}{i:Nat}{ds:List D}(h:s[i]?=some (.list ds)):eM s i=some ds:=by
 show s[i]?.bind SD=_
 rw[h];rfl
theorem lS{i:Nat}{x:D}{ds:List D}{s s':St}(h:s[i]?=some (.list ds))(hz:ds.length<=16000000)(hs:s.set i (.list (ds++[x]))=s'):qH K s .app (.r i) [.d x]=.ok (.d .none) s':=by
 subst hs
 exact(oo (o:=eM s i) (lb h)).trans (bC (A01 hz))
theorem pX(hz:o.length<=1000000):∀{cs:List Int}{p:Nat}{acc:List D}{N:Nat},dM o p cs p'->cs.length<N->acc.length+cs.length<=1000000 ->
  iP (ao (aW (n+5)) P4) (bN (aW (n+5)) SJ) N HK [rd o p,.list acc]=.ok (none,HK) [rd o p',.list (acc++cs.map .int)]
 |[],p,acc,N+1,h,_,_=>by
  cases h with
  |nil h=>
   refine(gP (aB:=[rd o p',.list acc]) ?_).trans (by simp)
   unfold P4
   apply aH
   .exact bV (m:=n+4) rfl hz h
   .exact rfl
   .rfl
   .rfl
 |c::cs,p,acc,N+1,h,hN,hl=>by
  cases h with
  |@cons _ eW _ _ _ x r h hx hb hc q=>
   rw[List.length_cons]at hN hl
   have ih:=pX hz (acc:=acc++[.int c]) (N:=N) q (by exact Nat.lt_of_succ_lt_succ ‹_›) (by simp;exact Ki ‹_›)
   refine(oQ (ah:=HK) (aB:=[rd o p,.list acc]) (aP:=[rd o eW,.list (acc++[.int c])]) ?_ ?_ ih).trans (by simp)
   .unfold P4
    apply aH
    .exact bV (m:=n+4) rfl hz h
    .exact rfl
    .rfl
    .exact bne_iff_ne.mpr λ q=>hx (UInt8.toNat_inj.mp (show x.toNat=125 by exact tj ‹_›))
   .unfold SJ
    apply aA
    .apply fX
     .apply ar
      .rfl
      .rfl
      .apply aE
       .apply aF
        .exact rfl
        .exact hc n _
       .rfl
      .exact lS (ds:=acc) rfl (by exact bK (GQ ‹_›)) rfl
     .rfl
    .apply aA
     .exact f8 (m:=n+4) rfl hz q.start
     .rfl
theorem AJ{cs:List Int}{r:List UInt8}(hz:o.length<=1000000)(hd:o.drop p=123::r)(h:dM o (p+1) cs p')(hl:cs.length<=1000):cC (aW (n+5)) 40 [.r 0] [rd o p]=.ok (.d (.list (cs.map .int))) [rd o (p'+1)]:=by
 obtain⟨_,hs⟩:=h.stop
 apply aR (f:=40) rfl rfl
 .unfold Sq
  apply aA
  .exact eE (m:=n+4) rfl hz hd (by decide)
  .apply aA
   .exact rfl
   .apply aA
    .exact f8 (m:=n+4) rfl hz h.start
    .apply aA
     .apply lN
      exact pX (n:=n) (acc:=[]) hz h (show cs.length<zc by unfold zc;exact ti ‹_›) (by simp;exact bK ‹_›)
     .apply aA
      .exact eE (m:=n+4) rfl hz hs (by decide)
      .exact rfl
 .rfl
theorem Ap{cs:List Int}{r:List UInt8}(hz:o.length<=1000000)(hd:o.drop p=123::r)(h:dM o (p+1) cs p')(hl:cs.length<=1000):aW (n+6) 40 [.r 0] (rd o p::t)=.ok (.d (.list (cs.map .int))) (rd o (p'+1)::t):=jV (ds:=[]) (AJ hz hd h hl)
end
noncomputable abbrev sf(k:Nat)(w:D)(b:Bool):MW:=.inst 598 [(9,.r k),(10,.d w),(11,.d (.bool b))]
section
variable {o:List UInt8}{p p' n:Nat}{t s aB:St}{K:Nat->List W->St->R W}{vs ah:V}{d w:D}{b:Bool}{rs:List D}
theorem J3(hz:rs.length<=16000000):cC K 35 [.r 0,.d (.int x),.d (.int y)] [sf 1 w b,.list rs]=.ok (.d .none) [sf 1 w false,.list (rs++[.tup [.int x,.int y]])]:=by
 apply jw (f:=35) rfl rfl
 .unfold Ss
  apply aA
  .apply fX
   .apply ar
    .rfl
    .rfl
    .rfl
    .exact lS (ds:=rs) rfl hz rfl
   .rfl
  .rfl
 .rfl
theorem Au(hz:rs.length<=16000000):aW (n+1) 35 [.r 1,.d (.int x),.d (.int y)] [rd o p,sf 2 w b,.list rs]=.ok (.d .none) [rd o p,sf 2 w false,.list (rs++[.tup [.int x,.int y]])]:=by
 show wrap (cC (aW n) 35) _ _=_
 unfold wrap
 show R.bind (cC (aW n) 35 [.r 0,.d (.int x),.d (.int y)] [sf 1 w b,.list rs]) _=_
 rw[J3 hz]
 rfl
inductive j7 (o:List UInt8):Nat->Int->Int->Nat->Prop where
 |one {p p':Nat}{c:Int}{x:UInt8}{r:List UInt8} (hc:bX o p c p') (h:o.drop p'=x::r) (hx:x≠45) (hb:f5 x=false):j7 o p c c p'
 |two {p eW p':Nat}{c c':Int}{y:UInt8}{r:List UInt8} (hc:bX o p c eW) (h:o.drop eW=45::y::r) (hy:y≠93) (hb:f5 y=false) (v8:bX o (eW+1) c' p') (hl:c<=c'):j7 o p c c' p'
theorem E0(hz:o.length<=1000000)(hr:rs.length<=16000000)(h:j7 o p x y p'):cC (aW (n+5)) 41 [.r 0,.r 1] [rd o p,sf 2 w b,.list rs]=.ok (.d .none) [rd o p',sf 2 w false,.list (rs++[.tup [.int x,.int y]])]:=by
 cases h with
 |@one _ c z r hc h hx hb=>
  apply jw (f:=41) rfl rfl
  .unfold Ov
   apply aA
   .rfl
   .apply aA
    .apply ay
     apply aF
     .rfl
     .exact hc n _
    .apply aA
     .exact f8 (m:=n+4) rfl hz λ c' r' e=>by rw[h]at e;cases e;exact hb
     .apply aA
      .rfl
      .apply aA
       .apply ae
        .apply aH
         .exact bV (m:=n+4) rfl hz h
         .rfl
         .rfl
         .exact A05 λ q=>hx (UInt8.toNat_inj.mp (show z.toNat=45 by exact tj ‹_›))
        .exact aK
       .apply aA
        .apply ae
         .apply aH
          .rfl
          .rfl
          .rfl
          .simp
         .exact aK
        .apply aA
         .apply fX
          .apply ar
           .rfl
           .rfl
           .rfl
           .exact Au (n:=n+4) hr
          .rfl
         .exact aK
  .rfl
 |@two eW _ c c' z r hc h hy hb v8 hl=>
  obtain⟨_,_,a3⟩:=bF h
  apply jw (f:=41) rfl rfl
  .unfold Ov
   apply aA
   .rfl
   .apply aA
    .apply ay
     apply aF
     .rfl
     .exact hc n _
    .apply aA
     .exact f8 (m:=n+4) rfl hz λ c' r' e=>by rw[h]at e;cases e;rfl
     .apply aA
      .rfl
      .apply aA
       .apply br
        .apply aH
         .exact bV (m:=n+4) rfl hz h
         .rfl
         .rfl
         .rfl
        .apply aA
         .rfl
         .apply aA
          .exact eE (m:=n+4) rfl hz h (by decide)
          .apply aA
           .exact f8 (m:=n+4) rfl hz λ c' r' e=>by rw[a3]at e;cases e;exact hb
           .apply aA
            .apply ae
             .apply aH
              .exact bV (m:=n+4) rfl hz a3
              .rfl
              .rfl
              .exact A05 λ q=>hy (UInt8.toNat_inj.mp (show z.toNat=93 by exact tj ‹_›))
             .apply aA
              .apply ay
               apply aF
               .rfl
               .exact v8 n _
              .exact aK
            .exact aK
       .apply aA
        .apply ae
         .apply aH
          .rfl
          .rfl
          .rfl
          .simp;lia
         .exact aK
        .apply aA
         .apply fX
          .apply ar
           .rfl
           .rfl
           .rfl
           .exact Au (n:=n+4) hr
          .rfl
         .exact aK
  .rfl
theorem Ey(hz:o.length<=1000000)(hr:rs.length<=16000000)(h:j7 o p x y p'):aW (n+6) 41 [.r 0,.r 1] [rd o p,sf 2 w b,.list rs]=.ok (.d .none) [rd o p',sf 2 w false,.list (rs++[.tup [.int x,.int y]])]:=by
 show wrap (cC (aW (n+5)) 41) _ _=_
 unfold wrap
 show R.bind (cC (aW (n+5)) 41 [.r 0,.r 1] [rd o p,sf 2 w b,.list rs]) _=_
 rw[E0 hz hr h]
 rfl
theorem qt(h:dN o p e):aW (n+6) 41 [.r 0,.r 1] [rd o p,sf 2 w b,.list rs]=.err (.int e):=by
 show wrap (cC (aW (n+5)) 41) _ _=_
 unfold wrap
 show R.bind (cC (aW (n+5)) 41 [.r 0,.r 1] [rd o p,sf 2 w b,.list rs]) _=_
 have:cC (aW (n+5)) 41 [.r 0,.r 1] [rd o p,sf 2 w b,.list rs]=.err (.int e):=by
  apply eQ (f:=41) rfl rfl
  unfold Ov
  apply aA
  .rfl
  .apply cK
   apply fz
   apply aF
   .rfl
   .exact h n _
 rw[this];rfl
end
section
variable {o:List UInt8}{p p' n:Nat}{t s aB:St}{K:Nat->List W->St->R W}{vs ah:V}{d w:D}{b:Bool}{rs:List D}
theorem kC:∀l:List Int,jR (l.map .int)=some l:=by
 intro zl
 induction zl with
 |nil=>
  exact rfl
 |cons x l ih=>
  show(jR (l.map .int)).bind (λ r=>some (x::r))=_;rw[ih];rfl
noncomputable abbrev fA(l:List (List Int)):List D:=l.map λ x=>.tup (x.map .int)
theorem kB:∀l:List (List Int),jQ (fA l)=some l:=by
 intro zl
 induction zl with
 |nil=>
  exact rfl
 |cons x l ih=>
  show(jR (x.map .int)).bind (λ y=>(jQ (fA l)).bind λ r=>some (y::r))=_;simp only[kC,ih];rfl
theorem Jd(h:ao K x vs s=.ok (.d (.list ds)) aB)(a8:wf ds=some l):ao K (.sset x) vs s=.ok (.d (.list l)) aB:=by
 exact(dL h).trans ((oo (o:=some ds) rfl).trans (oo a8))
theorem jk{a b:List D}(hz:a.length+b.length<=16777216):m4 s .Add (.d (.list a)) (.d (.list b))=.ok (.d (.list (a++b))) s:=bC (A01 hz)
noncomputable abbrev wS(ss:List (List Int)):D:=.inst 424 [(4,.inst 202 [(0,.list [])]),(5,.list (fA ss))]
theorem wg:∀{l:List (List Int)},hH l=true->l.length<=2
 |[],_=>Nat.zero_le _
 |[_],_=>Nat.le_succ 1
 |[_,_],_=>Nat.le_refl 2
 |_::_::_::_,h=>dJ h
theorem EE{α:Type}(lt:α->α->Bool)(x:α):∀l:List α,(ins lt x l).length=l.length+1:=by
 intro zl
 induction zl with
 |nil=>
  exact rfl
 |cons y r ih=>
  rw[zI]
  split
  .rfl
  .simp only[List.length_cons,ih,List.length_cons]
theorem jp{α:Type}(lt:α->α->Bool):∀l:List α,(cN lt l).length=l.length:=by
 intro zl
 induction zl with
 |nil=>
  exact rfl
 |cons x r ih=>
  simp only[sN,EE,ih,List.length_cons]
theorem vv(hS:hH l=true):aW (n+1) 21 [.d (.list (fA l))] s=.ok (.d (.list (fA l))) s:=bL (ds:=[.list (fA l)]) (by
 apply aR (f:=21) rfl rfl
 .unfold TA
  apply aq
  apply be
  apply Jd
  .rfl
  .unfold wf;rw[kB]
   show gF (hH l) _=_
   rw[hS];rfl
 .rfl)
theorem NG(hS:hH (ss++[cs])=true):cC (aW (n+6)) 22 [.d (wS ss),.d (wS [cs]),.d (.str [117,110,105,111,110])] []=.ok (.d (wS (ss++[cs]))) []:=by
 have hp:=wg hS
 rw[List.length_append,List.length_singleton]at hp
 apply aR (f:=22) rfl rfl
 .unfold Sz
  apply aq
  apply br
  .rfl
  .apply aq
   apply be
   apply aF
   .apply aE
    .apply ar
     .rfl
     .rfl
     .rfl
     .exact(rfl:aW (n+6) 11 [.d (.inst 202 [(0,.list [])]),.d (.inst 202 [(0,.list [])])] []=.ok (.d (.inst 202 [(0,.list [])])) [])
    .apply aE
     .apply aF
      .apply aE
       .apply bZ
        .rfl
        .rfl
        .exact jk (a:=fA ss) (b:=fA [cs]) (by simp only[List.length_map,List.length_cons,List.length_nil];exact bK ‹_›)
       .rfl
      .have:=vv (n:=n+5) (s:=[]) (l:=ss++[cs]) hS
       rw[show fA ss++fA [cs]=fA (ss++[cs]) by simp[fA]]
       exact this
     .rfl
   .exact(rfl:aW (n+6) 61 [.d (.inst 202 [(0,.list [])]),.d (.list (fA (ss++[cs])))] []=.ok (.d (wS (ss++[cs]))) [])
 .rfl
theorem Nb(hS:hH (ss++[cs])=true):aW (n+7) 22 [.d (wS ss),.d (wS [cs]),.d (.str [117,110,105,111,110])] s=.ok (.d (wS (ss++[cs]))) s:=bL (ds:=[wS ss,wS [cs],.str [117,110,105,111,110]]) (NG hS)
theorem iy(hz:l.length<=16384):BH s .tuple [.d (.list l)]=.ok (.d (.tup l)) s:=bC (A01 hz)
theorem J2(hS:hH (ss++[cs])=true)(hc:cs.length<=1000)(h1:cs.length≠1):cC (aW (n+7)) 36 [.r 0,.d (.list (cs.map .int))] [sf 1 (wS ss) b,.list rs]=.ok (.d .none) [sf 1 (wS (ss++[cs])) false,.list rs]:=by
 apply jw (f:=36) rfl rfl
 .unfold Sr
  apply aA
  .apply ae
   .apply aH
    .apply cm
     .rfl
     .apply eJ
      .rfl
      .simp;exact bK ‹_›
    .rfl
    .rfl
    .simp;lia
   .apply aA
    .apply ri
     .apply aF
      .apply aE
       .rfl
       .apply aE
        .apply aF
         .apply aE
          .apply aF
           .exact aT
           .exact(rfl:aW (n+7) 6 [] [sf 1 (wS ss) b,.list rs]=.ok (.d (.inst 202 [(0,.list [])])) [sf 1 (wS ss) b,.list rs])
          .apply aE
           .apply Gc
            .apply aE
             .apply cm
              .rfl
              .exact iy (by simp;exact bK ‹_›)
             .exact aT
            .rfl
            .rfl
           .exact aT
         .exact(rfl:aW (n+7) 61 [.d (.inst 202 [(0,.list [])]),.d (.list [.tup (cs.map .int)])] [sf 1 (wS ss) b,.list rs]=.ok (.d (wS [cs])) [sf 1 (wS ss) b,.list rs])
        .rfl
      .exact Nb (n:=n) hS
     .rfl
     .rfl
    .exact aK
  .rfl
 .rfl
end
section
variable {o:List UInt8}{p p' n:Nat}{t s aB:St}{K:Nat->List W->St->R W}{vs ah:V}{d w:D}{b:Bool}{rs:List D}
theorem Jy(hS:hH (ss++[cs])=true)(hc:cs.length<=1000)(h1:cs.length≠1):aW (n+8) 36 [.r 1,.d (.list (cs.map .int))] [rd o p,sf 2 (wS ss) b,.list rs]=.ok (.d .none) [rd o p,sf 2 (wS (ss++[cs])) false,.list rs]:=by
 refine(?_:wrap (cC (aW (n+7)) 36) _ _=_)
 refine(?_:R.bind (cC (aW (n+7)) 36 [.r 0,.d (.list (cs.map .int))] [sf 1 (wS ss) b,.list rs]) _=_)
 simp only[J2 hS hc h1]
 rfl
noncomputable abbrev cS(B:List D)(ss:List (List Int)):D:=.inst 424 [(4,.inst 202 [(0,.list B)]),(5,.list (fA ss))]
def rH(rs:List D)(B:List D):Prop:=∀n s,aW (n+5) 8 [.d (.list rs)] s=.ok (.d (.inst 202 [(0,.list B)])) s/\aW (n+5) 11 [.d (.inst 202 [(0,.list [])]),.d (.inst 202 [(0,.list B)])] s=.ok (.d (.inst 202 [(0,.list B)])) s
theorem EY(hb:rH (x::rs) B):cC (aW (n+5)) 37 [.r 0] [sf 1 (wS ss) b,.list (x::rs)]=.ok (.d (cS B ss)) [.inst 598 [(9,.d (.list (x::rs))),(10,.d (wS ss)),(11,.d (.bool b))],.gone]:=by
 apply aR (f:=37) rfl rfl
 .skip
  apply aA
  .rfl
  .apply aA
   .exact rfl
   .apply aq
    apply be
    apply aF
    .apply aE
     .apply ar
      .exact rfl
      .rfl
      .apply aE
       .apply aF
        .exact rfl
        .exact(hb n _).1
       .exact aT
      .exact(hb n _).2
     .exact rfl
    .rfl
 .rfl
theorem J8(hz:o.length<=1000000)(h:o.drop p=x::r)(hx:x≠91)(hn:dj (x::r)=true):cC (aW (n+2)) 38 [.r 0] [rd o p]=.ok (.d (.bool false)) [rd o p]:=by
 apply aR (f:=38) rfl rfl
 .skip
  apply aq
  apply be
  apply bS
  apply cY
  .apply aH
   .exact bV (m:=n+1) rfl hz h
   .exact rfl
   .rfl
   .exact A05 λ q=>hx (UInt8.toNat_inj.mp (by exact tj ‹_›:x.toNat=91))
  .apply cH
   apply aF
   .exact rfl
   .exact pH (n:=n) hz (by rw[h];exact hn)
 .rfl
theorem tA(hz:o.length<=1000000)(h:o.drop p=x::r)(hx:x≠91)(hn:dj (x::r)=true):aW (n+3) 38 [.r 0] (rd o p::t)=.ok (.d (.bool false)) (rd o p::t):=jV (ds:=[]) (J8 hz h hx hn)
noncomputable def d6(x:UInt8):Bool:=!f5 x&&!(([93,45,38,91,123]:List UInt8).contains x)
class inductive cR (o:List UInt8):Nat->Nat->List D->List (List Int)->List D->List (List Int)->Nat->Prop where
 |nil {p:Nat}{rs:List D}{ss:List (List Int)}{r:List UInt8} (h:o.drop p=93::r):cR o 0 p rs ss rs ss p
 |rng {k p eW p':Nat}{rs vM:List D}{ss pY:List (List Int)}{x:UInt8}{r:List UInt8}{a b:Int} (h:o.drop p=x::r) (hx:d6 x=true) (hn:dj (x::r)=true) (hr:j7 o p a b eW) (q:cR o k eW (rs++[.tup [.int a,.int b]]) ss vM pY p'):cR o (k+1) p rs ss vM pY p'
 |str {k p eW p':Nat}{rs vM:List D}{ss pY:List (List Int)}{r:List UInt8}{cs:List Int} (h:o.drop p=123::r) (hc:dM o (p+1) cs eW) (h1:cs.length≠1) (hl:cs.length<=1000) (hS:hH (ss++[cs])=true) (q:cR o k (eW+1) rs (ss++[cs]) vM pY p'):cR o (k+1) p rs ss vM pY p'
theorem cR.start(h:cR o k p rs ss vM pY p'):∀c r,o.drop p=c::r->f5 c=false:=λ c r e=>by
 cases h with
 |nil h=>rw[h]at e;(injection e with zq;subst zq);rfl
 |rng h hx _ _ _=>rw[h]at e;(injection e with zq;subst zq);unfold d6 at hx;simp only[Bool.and_eq_true]at hx;simpa using hx.1
 |str h _ _ _ _ _=>rw[h]at e;(injection e with zq;subst zq);rfl
theorem cR.stop(h:cR o k p rs ss vM pY p'):∃r,o.drop p'=93::r:=by
 induction h with
 |nil h=>exact⟨_,h⟩
 |rng _ _ _ _ _ ih=>exact ih
 |str _ _ _ _ _ _ ih=>exact ih
theorem dF(h:d6 x=true)(hy:y∈([93,45,38,91,123]:List UInt8)):x≠y:=by
 rintro rfl
 unfold d6 at h
 simp only[Bool.and_eq_true]at h
 have h2:(([93,45,38,91,123]:List UInt8).contains x)=false:=by simpa using h.2
 rw[List.contains_eq_mem,decide_eq_false_iff_not]at h2
 exact h2 hy
theorem kS{x y:UInt8}(h:x≠y)(hi:i=y.toNat):((x.toNat:Int)==i)=false:=by
 subst hi
 exact A05 λ q=>h (UInt8.toNat_inj.mp (by exact tj ‹_›))
end
noncomputable def TZ:IE:=.cmp .NotEq (.meth (.v 0) 14 .nil) (.g 9)
noncomputable def Tl:bp:=.cons (.iff (.boo false (.cons (.cmp .Eq (.meth (.v 0) 14 .nil) (.g 14)) (.cons (.cmp .Eq (.meth (.v 0) 14 .nil) (.g 13)) .nil))) (.cons (.ex (.bad)) .nil) (.cons (.iff (.call 38 (.cons (.v 0) .nil)) (.cons (.ex (.bad)) .nil) (.cons (.iff (.cmp .Eq (.meth (.v 0) 14 .nil) (.g 10)) (.cons (.ex (.meth (.v 4) 18 (.cons (.call 40 (.cons (.v 0) .nil)) .nil))) .nil) (.cons (.ex (.call 41 (.cons (.v 0) (.cons (.v 4) .nil)))) .nil)) .nil)) .nil)) (.cons (.asg 5 (.k (.bool false))) (.cons (.ex (.meth (.v 0) 13 .nil)) .nil))
section
variable {o:List UInt8}{p p' n:Nat}{t s aB:St}{K:Nat->List W->St->R W}{vs ah:V}{d w:D}{b:Bool}{rs:List D}
noncomputable abbrev Bn(dp bg:D)(oth fi:Bool):V:=[some (.r 0),some (.d dp),some (.d bg),some (.d (.bool oth)),some (.r 1),some (.d (.bool fi)),none,none,none,none,none,none,none,none,none,none,none,none,none]
theorem sM(hz:o.length<=1000000):∀{k p:Nat}{rs vM:List D}{ss pY:List (List Int)}{b fi:Bool}{N:Nat},cR o k p rs ss vM pY p'->k<N->rs.length+k<=10000 ->
  ∃b' Kq,iP (ao (aW (n+8)) TZ) (bN (aW (n+8)) Tl) N (Bn dp bg oth fi) [rd o p,sf 2 (wS ss) b,.list rs]=.ok (none,Bn dp bg oth Kq) [rd o p',sf 2 (wS pY) b',.list vM]:=by
 intro zl
 induction zl with
 |zero=>
  intro p rs vM ss pY b fi N h _ _
  rcases N with _|N
  .exact absurd ‹_› (Nat.not_lt_zero _)
  cases h with
  |nil h=>
   refine iB b fi (gP ?_)
   apply aH
   .exact bV (m:=n+7) rfl hz h
   .rfl
   .rfl
   .rfl
 |succ k ih=>
  intro p rs vM ss pY b fi N h hN h2
  rcases N with _|N
  .exact absurd ‹_› (Nat.not_lt_zero _)
  cases h with
  |@rng _ _ eW _ _ _ _ _ x r PE PD h hx hn hr q=>
   obtain⟨b',Kq,ih⟩:=ih (b:=false) (fi:=false) (N:=N) q (by exact Nat.lt_of_succ_lt_succ ‹_›) (by simp only[List.length_append,List.length_singleton];exact Ki ‹_›)
   refine iB b' Kq (oQ (ah:=Bn dp bg oth false) (aB:=[rd o p,sf 2 (wS ss) b,.list rs]) (aP:=[rd o eW,sf 2 (wS ss) false,.list (rs++[.tup [.int PE,.int PD]])]) ?_ ?_ ih)
   .skip
    apply aH
    .exact bV (m:=n+7) rfl hz h
    .rfl
    .rfl
    .exact bne_iff_ne.mpr λ q=>dF hx (y:=93) (by decide) (UInt8.toNat_inj.mp (by exact tj ‹_›:x.toNat=93))
   .skip
    apply aA
    .apply ae
     .apply bS
      apply cY
      .apply aH
       .exact bV (m:=n+7) rfl hz h
       .rfl
       .rfl
       .exact kS (y:=45) (dF hx (by decide)) rfl
      .apply cH
       apply aH
       .exact bV (m:=n+7) rfl hz h
       .rfl
       .rfl
       .exact kS (y:=38) (dF hx (by decide)) rfl
     .apply aA
      .apply ae
       .apply aF
        .rfl
        .exact tA (n:=n+5) hz h (dF hx (by decide)) hn
       .apply aA
        .apply ae
         .apply aH
          .exact bV (m:=n+7) rfl hz h
          .rfl
          .rfl
          .exact kS (y:=123) (dF hx (by decide)) rfl
         .apply aA
          .apply fX
           .apply aF
            .rfl
            .exact Ey (n:=n+2) hz (by exact bK (GQ ‹_›)) hr
           .rfl
          .exact aK
        .exact aK
      .exact aK
    .apply aA
     .rfl
     .apply aA
      .exact f8 (m:=n+7) rfl hz q.start
      .rfl
  |@str _ _ eW _ _ _ _ _ r cs h hc g7 hl hS q=>
   obtain⟨b',Kq,ih⟩:=ih (b:=false) (fi:=false) (N:=N) q (by exact Nat.lt_of_succ_lt_succ ‹_›) (by exact Nat.le_of_lt ‹_›)
   refine iB b' Kq (oQ (ah:=Bn dp bg oth false) (aB:=[rd o p,sf 2 (wS ss) b,.list rs]) (aP:=[rd o (eW+1),sf 2 (wS (ss++[cs])) false,.list rs]) ?_ ?_ ih)
   .skip
    apply aH
    .exact bV (m:=n+7) rfl hz h
    .rfl
    .rfl
    .rfl
   .skip
    apply aA
    .apply ae
     .apply bS
      apply cY
      .apply aH
       .exact bV (m:=n+7) rfl hz h
       .rfl
       .rfl
       .rfl
      .apply cH
       apply aH
       .exact bV (m:=n+7) rfl hz h
       .rfl
       .rfl
       .rfl
     .apply aA
      .apply ae
       .apply aF
        .rfl
        .exact tA (n:=n+5) hz h (by decide) (by cases r<;>rfl)
       .apply aA
        .apply br
         .apply aH
          .exact bV (m:=n+7) rfl hz h
          .rfl
          .rfl
          .rfl
         .apply aA
          .apply fX
           .apply ar
            .rfl
            .rfl
            .apply aE
             .apply aF
              .rfl
              .exact Ap (n:=n+2) hz h hc hl
             .exact aT
            .exact Jy (n:=n) hS hl g7
           .rfl
          .exact aK
        .exact aK
      .exact aK
    .apply aA
     .rfl
     .apply aA
      .exact f8 (m:=n+7) rfl hz q.start
      .rfl
end
section
variable {o:List UInt8}{p p' n:Nat}{t s aB:St}{K:Nat->List W->St->R W}{vs ah:V}{d w:D}{b:Bool}{rs:List D}
def Bd(rs B:List D):Prop:=(rs=[]/\B=[])\/(∃x r,rs=x::r/\rH rs B)
theorem Jv{ss:List (List Int)}{B:List D}(h:Bd rs B):∃u,aW (n+6) 37 [.r 1] [rd o p,sf 2 (wS ss) b,.list rs]=.ok (.d (cS B ss)) [rd o p,u,.gone]:=by
 rcases h with⟨rfl,rfl⟩|⟨x,r,rfl,hb⟩
 .refine⟨.inst 598 [(9,.d (.list [])),(10,.d (wS ss)),(11,.d (.bool b))],?_⟩
  rfl
 .refine⟨.inst 598 [(9,.d (.list (x::r))),(10,.d (wS ss)),(11,.d (.bool b))],?_⟩
  show wrap (cC (aW (n+5)) 37) _ _=_
  unfold wrap
  show R.bind (cC (aW (n+5)) 37 [.r 0] [sf 1 (wS ss) b,.list (x::r)]) _=_
  rw[EY (n:=n) hb]
  rfl
theorem N6:aW (n+8) 64 [] [rd o p]=.ok (.r 1) [rd o p,sf 2 (wS []) false,.list []]:=rfl
theorem s7{k:Nat}{x:UInt8}{r:List UInt8}{ss:List (List Int)}{B:List D}{dp:D}(hz:o.length<=1000000)(hd:o.drop p=91::x::r)(hx:x≠94)(h:cR o k (p+1) [] [] rs ss p')(hk:k<=100)(hB:Bd rs B) :
  cC (aW (n+8)) 42 [.r 0,.d dp] [rd o p]=.ok (.d (cS B ss)) [rd o (p'+1)]:=by
 obtain⟨_,_,a3⟩:=bF hd
 obtain⟨_,hs⟩:=h.stop
 obtain⟨b',Kq,L⟩:=sM (n:=n) (dp:=dp) (bg:=.int p) (oth:=false) (b:=false) (fi:=true) (N:=4096) hz h (by omega) (by simp;omega)
 obtain⟨u,T⟩:=Jv (n:=n+2) (o:=o) (p:=p'+1) (b:=b') (ss:=ss) hB
 apply aR (f:=42) rfl rfl
 .unfold R1
  apply aA
  .rfl
  .apply aA
   .exact eE (m:=n+7) rfl hz hd (by decide)
   .apply aA
    .exact f8 (m:=n+7) rfl hz h.start
    .apply aA
     .apply ay
      apply aH (k:=false)
      .exact bV (m:=n+7) rfl hz a3
      .rfl
      .rfl
      .exact kS (y:=94) hx rfl
     .apply aA
      .apply ae
       .rfl
       .exact aK
      .apply aA
       .apply ay
        apply aF
        .exact aT
        .exact N6 (n:=n)
       .apply aA
        .rfl
        .apply aA
         .apply lN
          exact L
         .apply aA
          .exact eE (m:=n+7) rfl hz hs (by decide)
          .apply aA
           .apply ay
            apply ar
            .rfl
            .rfl
            .exact aT
            .exact T
           .apply aA
            .apply ae
             .apply bS
              apply d7 (b:=false)
              .rfl
              .rfl
             .exact aK
            .apply aq
             apply be
             apply dK
             .rfl
             .rfl
 .rfl
end
section
variable {o:List UInt8}{p p' n:Nat}{t s aB:St}{K:Nat->List W->St->R W}{vs ah:V}{d w:D}{b:Bool}{rs:List D}
theorem NE(hz:o.length<=1000000)(hd:o.drop p=91::x::r)(hx:x≠58)(h:cC (aW (n+8)) 42 [.r 0,.d (.int 0)] [rd o p]=.ok (.d res) [rd o p']) :
  cC (aW (n+9)) 39 [.r 0,.d (.int 0)] [rd o p]=.ok (.d res) [rd o p']:=by
 have hn:dj (o.drop p)=true:=hd▸Lw hx
 apply aR (f:=39) rfl rfl
 .unfold R2
  apply aA
  .apply ae
   .apply aF
    .rfl
    .exact pH (n:=n+7) hz hn
   .exact aK
  .apply aA
   .apply ae
    .apply bS
     apply cY
     .apply aH
      .exact bV (m:=n+8) rfl hz hd
      .rfl
      .rfl
      .rfl
     .apply cH
      rfl
    .exact aK
   .apply aq
    apply be
    apply aF
    .rfl
    .exact jV (n:=n+8) (ds:=[.int 0]) h
 .rfl
theorem N7(hz:o.length<=1000000)(hd:o.drop p=91::x::r)(hx:x≠58)(h:cC (aW (n+8)) 42 [.r 0,.d (.int 0)] [rd o p]=.ok (.d res) [rd o p']) :
  aW (n+10) 39 [.r 0,.d (.int 0)] (rd o p::t)=.ok (.d res) (rd o p'::t):=jV (ds:=[.int 0]) (NE hz hd hx h)
noncomputable def Hh(B:List D)(ss:List (List Int)):D:=match ss with
 |[]=>.inst 202 [(0,.list B)]
 |_=>cS B ss
theorem EZ(hz:o.length<=1000000)(hd:o=91::x::r)(hx:x≠58)(h:cC (aW (n+8)) 42 [.r 0,.d (.int 0)] [rd o 0]=.ok (.d (cS B ss)) [rd o o.length]) :
  cC (aW (n+10)) 43 [.d (.bytes o),.d .none] []=.ok (.d (Hh B ss)) []:=by
 have ig:o.drop 0=91::x::r:=hd
 have EO:o.drop o.length=[]:=List.drop_length
 cases ss
 all_goals
  apply aR (f:=43) rfl rfl
  .unfold R0
   apply aA
   .apply ay
    apply aF
    .rfl
    .exact(rfl:aW (n+10) 63 [.d (.bytes o),.d .none] []=.ok (.r 0) [rd o 0])
   .apply aA
    .apply fX
     .apply ar
      .rfl
      .rfl
      .exact aT
      .exact pB (n:=n+9) hz λ c r' e=>by rw[ig]at e;cases e;rfl
     .rfl
    .apply aA
     .apply ay
      apply aF
      .rfl
      .exact N7 (n:=n) hz ig hx h
     .apply aA
      .apply fX
       .apply ar
        .rfl
        .rfl
        .exact aT
        .exact pB (n:=n+9) hz λ c r' e=>by rw[EO]at e;cases e
       .rfl
      .apply aA
       .apply ae
        .apply aH
         .rfl
         ·(repeat' (first | (with_reducible first | apply cm | apply eJ) | rfl | omega))
         .rfl
         .simp
        .exact aK
       .apply aq
        apply be
        rfl
  .rfl
theorem pC(hz:o.length<=1000000)(hd:o=91::x::r)(hx:x≠58)(h:cC (aW (n+8)) 42 [.r 0,.d (.int 0)] [rd o 0]=.ok (.d (cS B ss)) [rd o o.length]) :
  aW (n+11) 43 [.d (.bytes o),.d .none] s=.ok (.d (Hh B ss)) s:=bL (ds:=[.bytes o,.none]) (EZ hz hd hx h)
end
section
variable {o:List UInt8}{p p' n:Nat}{t s aB:St}{K:Nat->List W->St->R W}{vs ah:V}{d w:D}{b:Bool}{rs:List D}
theorem s6(hz:o.length<=1000000)(hd:o.drop p=91::x::r)(hx:d6 x=true)(JQ:x≠94)(hn:dj (x::r)=true)(h:dN o (p+1) e) :
  cC (aW (n+8)) 42 [.r 0,.d dp] [rd o p]=.err (.int e):=by
 obtain⟨_,_,a3⟩:=bF hd
 have hb:f5 x=false:=by unfold d6 at hx;rw[Bool.and_eq_true]at hx;simpa using hx.1
 apply eQ (f:=42) rfl rfl
 unfold R1
 apply aA
 .rfl
 .apply aA
  .exact eE (m:=n+7) rfl hz hd (by decide)
  .apply aA
   .exact f8 (m:=n+7) rfl hz λ c r' e=>by rw[a3]at e;cases e;exact hb
   .apply aA
    .apply ay
     apply aH (k:=false)
     .exact bV (m:=n+7) rfl hz a3
     .rfl
     .rfl
     .exact kS (y:=94) JQ rfl
    .apply aA
     .apply ae
      .rfl
      .exact aK
     .apply aA
      .apply ay
       apply aF
       .exact aT
       .exact N6 (n:=n)
      .apply aA
       .rfl
       .apply cK
        apply lN
        apply LG (N:=4095)
        .apply aH
         .exact bV (m:=n+7) rfl hz a3
         .rfl
         .rfl
         .exact bne_iff_ne.mpr λ q=>dF hx (y:=93) (by decide) (UInt8.toNat_inj.mp (show x.toNat=93 by exact tj ‹_›))
        .apply cK
         apply ae
         .apply bS
          apply cY
          .apply aH
           .exact bV (m:=n+7) rfl hz a3
           .rfl
           .rfl
           .exact kS (y:=45) (dF hx (by decide)) rfl
          .apply cH
           apply aH
           .exact bV (m:=n+7) rfl hz a3
           .rfl
           .rfl
           .exact kS (y:=38) (dF hx (by decide)) rfl
         .apply cK
          apply ae
          .apply aF
           .rfl
           .exact tA (n:=n+5) hz a3 (dF hx (by decide)) hn
          .apply cK
           apply ae
           .apply aH
            .exact bV (m:=n+7) rfl hz a3
            .rfl
            .rfl
            .exact kS (y:=123) (dF hx (by decide)) rfl
           .apply cK
            apply Fm
            apply aF
            .rfl
            .exact qt (n:=n+2) h
theorem vh(hz:o.length<=1000000)(hd:o.drop p=91::x::r)(hx:x≠58)(h:cC (aW (n+8)) 42 [.r 0,.d (.int 0)] [rd o p]=.err e) :
  cC (aW (n+9)) 39 [.r 0,.d (.int 0)] [rd o p]=.err e:=by
 have hn:dj (o.drop p)=true:=hd▸Lw hx
 apply eQ (f:=39) rfl rfl
 unfold R2
 apply aA
 .apply ae
  .apply aF
   .rfl
   .exact pH (n:=n+7) hz hn
  .exact aK
 .apply aA
  .apply ae
   .apply bS
    apply cY
    .apply aH
     .exact bV (m:=n+8) rfl hz hd
     .rfl
     .rfl
     .rfl
    .apply cH
     rfl
   .exact aK
  .apply cK
   apply tY
   apply aF
   .rfl
   .exact eo (n:=n+8) (ds:=[.int 0]) h
theorem sz{ds:List D}(h:cC (aW n) f (ds.map .d) []=.err d):aW (n+1) f (ds.map .d) s=.err d:=by
 show wrap (cC (aW n) f) _ _=_
 unfold wrap
 rw[kk,kl]
 show R.bind (cC (aW n) f (ds.map .d) []) _=_
 rw[h];rfl
theorem qs{r:List UInt8}{e:D}(hz:o.length<=1000000)(hd:o=91::x::r)(hx:x≠58)(h:cC (aW (n+8)) 42 [.r 0,.d (.int 0)] [rd o 0]=.err e) :
  aW (n+11) 43 [.d (.bytes o),.d .none] s=.err e:=sz (ds:=[.bytes o,.none]) (by
 have ig:o.drop 0=91::x::r:=hd
 apply eQ (f:=43) rfl rfl
 unfold R0
 apply aA
 .apply ay
  apply aF
  .rfl
  .exact(rfl:aW (n+10) 63 [.d (.bytes o),.d .none] []=.ok (.r 0) [rd o 0])
 .apply aA
  .apply fX
   .apply ar
    .rfl
    .rfl
    .exact aT
    .exact pB (n:=n+9) hz λ c r' e=>by rw[ig]at e;cases e;rfl
   .rfl
  .apply cK
   apply fz
   apply aF
   .rfl
   .exact eo (n:=n+9) (ds:=[.int 0]) (vh (n:=n) hz ig hx h))
end
section
variable {o:List UInt8}{p p' n:Nat}{t s aB aP:St}{K:Nat->List W->St->R W}{vs ah:V}{d:D}{b:Bool}
noncomputable def g9(K:Nat->List W->St->R W)(cs:List CI)(t:IT)(ifs:IO)(elt:IE)(vs:V)(x:D)(s:St):R (Option D):=onO (gM (uT vs cs) t x) λ cZ=>(NK K ifs cZ s).bind λ b s=>match b with
 |true=>(ao K elt cZ s).bind λ w s=>onO (fV w) λ d=>.ok (some d) s
 |false=>.ok none s
theorem ef{t:IT}(h:ao K it vs s=.ok w aB)(a8:nG w=some ds)(hz:decide (ds.length<=1000000)=true)(cB:c0 (g9 K cs t ifs elt vs) ds [] aB=.ok l aP):ao K (.comp cs t it ifs elt) vs s=.ok (.d (.list l)) aP:=by
 refine(dL h).trans ((oo a8).trans ((bC hz).trans ?_))
 show R.bind (noerr (c0 (g9 K cs t ifs elt vs) ds [] aB)) _=_
 rw[cB];rfl
theorem oz{t:IT}(h:gM (uT vs cs) t x=some ah)(he:ao K elt ah s=.ok (.d y) aB):g9 K cs t .none elt vs x s=.ok (some y) aB:=by
 refine(oo h).trans ((dL (a:=true) rfl).trans ((dL he).trans rfl))
theorem dm{st:D->St->R (Option D)}:∀{ds:List D}{acc:List D},(∀x∈ds,st x s=.ok (some (f x)) s)->c0 st ds acc s=.ok (acc++ds.map f) s:=by
 intro zl
 induction zl with
 |nil=>
  intro acc _
  simp only[List.map_nil,List.append_nil];rfl
 |cons x ds ih=>
  intro acc h
  rw[en]
  rw[h x (.head _)]
  show c0 st ds (acc++[f x]) s=_
  simp only[ih λ y hy=>h y (.tail _ hy),List.append_assoc];rfl
theorem gD{t:IT}(h:ao K it vs s=.ok w aB)(a8:nG w=some ds)(cB:eI (λ x vs s=>onO (gM vs t x) λ vs=>bN K l vs s) ds vs aB=r):gy K (.frr t it l) vs s=r:=(dL h).trans ((oo a8).trans cB)
noncomputable def av:List Int:=[97,98,45,93,32,92,123,233,128512,1114111]
noncomputable def wr(c:Int):List UInt8:=if c=97 then[97]else if c=98 then[98]else if c=45 then[92,45]else if c=93 then[92,93]else if c=32 then[92,32]else if c=92 then[92,92]else if c=123 then[92,123]else if c=233 then[92,120,69,57]
 else if c=128512 then[92,120,123,49,70,54,48,48,125]else[92,120,123,49,48,70,70,70,70,125]
theorem Eo(h:c∈av):aW (n+3) 44 [.d (.int c)] s=.ok (.d (.bytes (wr c))) s:=by
 have h':c=97\/c=98\/c=45\/c=93\/c=32\/c=92\/c=123\/c=233\/c=128512\/c=1114111:=by simpa [av] using h
 rcases h' with rfl|rfl|rfl|rfl|rfl|rfl|rfl|rfl|rfl|rfl<;>rfl
end
section
variable {o:List UInt8}{p p' n:Nat}{t s aB aP:St}
theorem uV{aI:List UInt8}(hz:o.length<=1000000)(hc:c∈av)(h:o.drop p=wr c++aI):bX o p c (p+(wr c).length):=by
 have h':c=97\/c=98\/c=45\/c=93\/c=32\/c=92\/c=123\/c=233\/c=128512\/c=1114111:=by simpa [av] using hc
 rcases h' with rfl|rfl|rfl|rfl|rfl|rfl|rfl|rfl|rfl|rfl
 .exact bX.plain (c:=97) hz h (by decide) (by decide)
 .exact bX.plain (c:=98) hz h (by decide) (by decide)
 .exact bX.sign (c:=45) hz h (by decide)
 .exact bX.sign (c:=93) hz h (by decide)
 .exact bX.sign (c:=32) hz h (by decide)
 .exact bX.sign (c:=92) hz h (by decide)
 .exact bX.sign (c:=123) hz h (by decide)
 .exact bX.x2 (ds:=[69,57]) hz h (by decide) (by decide) (by decide)
 .exact bX.xb (ds:=[49,70,54,48,48]) (aI:=aI) hz h (by decide) (by decide) (by decide) (by decide)
 .exact bX.xb (ds:=[49,48,70,70,70,70]) (aI:=aI) hz h (by decide) (by decide) (by decide) (by decide)
theorem wV(hc:c∈av)(aI:List UInt8):∃x r,wr c++aI=x::r/\d6 x=true/\x≠45/\x≠125/\x≠94/\x≠58/\dj (x::r)=true:=by
 have h':c=97\/c=98\/c=45\/c=93\/c=32\/c=92\/c=123\/c=233\/c=128512\/c=1114111:=by simpa [av] using hc
 rcases h' with rfl|rfl|rfl|rfl|rfl|rfl|rfl|rfl|rfl|rfl<;>exact⟨_,_,rfl,rfl,by decide,by decide,by decide,by decide,rfl⟩
noncomputable def wrs(l:List Int):List UInt8:=l.flatMap wr
theorem Aj{aI:List UInt8}(hz:o.length<=1000000):∀{cs:List Int}{p:Nat},(∀c∈cs,c∈av)->o.drop p=wrs cs++125::aI->dM o p cs (p+(wrs cs).length):=by
 intro zl
 induction zl with
 |nil=>
  intro p _ h
  exact .nil h
 |cons c cs ih=>
  intro p hc h
  have h:o.drop p=wr c++(wrs cs++125::aI):=by rw[h,wrs,List.flatMap_cons,List.append_assoc];rfl
  refine PN (wV (hc c (.head _)) (wrs cs++125::aI)) λ x r e h1 h2 h3 _=>?_
  have q:=ih (p:=p+(wr c).length) (λ c' h'=>hc c' (.tail _ h')) (f0 h)
  simp only[show p+(wr c).length+(wrs cs).length=p+(wrs (c::cs)).length by simp only[wrs,wrs,List.flatMap_cons,List.length_append];exact Nat.add_assoc _ _ _]at q
  exact .cons (h.trans e) h3 (by unfold d6 at h1;simp only[Bool.and_eq_true]at h1;simpa using h1.1) (uV hz (hc c (.head _)) h) q
noncomputable def iO(ss:List (List Int)):List UInt8:=ss.flatMap λ l=>123::(wrs l++[125])
theorem CH{aI:List UInt8}(hz:o.length<=1000000):∀{ss:List (List Int)}{p:Nat}{iH:List (List Int)},hH (iH++ss)=true->(∀l∈ss,(∀c∈l,c∈av)/\l.length≠1/\l.length<=1000)->o.drop p=iO ss++93::aI->cR o ss.length p rs iH rs (iH++ss) (p+(iO ss).length):=by
 intro zl
 induction zl with
 |nil=>
  intro p iH _ _ h
  simp only[List.append_nil];exact .nil h
 |cons l ss ih=>
  intro p iH hS hs h
  refine cI (hs l (.head _)) λ h1 h2 h3=>?_
  have h:o.drop p=123::(wrs l++125::(iO ss++93::aI)):=by
   simp only[h,iO,List.flatMap_cons];simp[iO]
  refine cI (bF h) λ _ _ a3=>?_
  have hc:=Aj (aI:=iO ss++93::aI) hz h1 a3
  have a4:=f0 a3
  refine cI (bF a4) λ _ _ a5=>?_
  have hS1:hH (iH++[l])=true:=by
   cases iH with
   |nil=>rfl
   |cons a dU=>cases dU with
    |nil=>cases ss with
     |nil=>exact hS
     |cons _ _=>exact dJ hS
    |cons b dU=>cases dU<;>exact dJ hS
  rw[show iH++l::ss=iH++[l]++ ss by simp only[List.append_assoc];rfl]at hS ⊢
  have q:=ih hS (λ l' h'=>hs l' (.tail _ h')) a5
  simp only[show p+1+(wrs l).length+1+(iO ss).length=p+(iO (l::ss)).length by rw[iO,iO,List.flatMap_cons,List.length_append,List.length_cons,List.length_append,List.length_singleton];lia]at q
  exact .str h hc h2 h3 hS1 q
theorem CJ(ss:List (List Int))(aI:List UInt8):∃x r,iO ss++93::aI=x::r/\x≠45/\f5 x=false/\x≠94/\x≠58:=by
 cases ss with
 |nil=>exact zO 93 aI rfl (by decide) rfl (by decide) (by decide)
 |cons l ss=>exact zO 123 _ rfl (by decide) rfl (by decide) (by decide)
theorem BV(so:List Int)(ss:List (List Int))(aI:List UInt8)(hs:∀c∈so,c∈av):∃x r,wrs so++(iO ss++93::aI)=x::r/\x≠45/\f5 x=false/\x≠94/\x≠58:=by
 cases so with
 |nil=>exact CJ ss aI
 |cons c so=>
  obtain⟨x,r,e,h1,h2,h3,h4,h5,_⟩:=wV (hs c (.head _)) (wrs so++(iO ss++93::aI))
  exact zO x r (by rw[<-e,wrs,List.flatMap_cons,List.append_assoc];rfl) h2 (by unfold d6 at h1;simp only[Bool.and_eq_true]at h1;simpa using h1.1) h4 h5
theorem KU{aI:List UInt8}(hz:o.length<=1000000)(hS:hH ss=true)(hs:∀l∈ss,(∀c∈l,c∈av)/\l.length≠1/\l.length<=1000):∀{so:List Int}{p:Nat}{rs:List D},(∀c∈so,c∈av)->o.drop p=wrs so++(iO ss++93::aI)->
  cR o (so.length+ss.length) p rs [] (rs++so.map λ c=>.tup [.int c,.int c]) ss (p+(wrs so).length+(iO ss).length):=by
 intro zl
 induction zl with
 |nil=>
  intro p rs _ h
  have:=CH (rs:=rs) (iH:=[]) hz hS hs h
  simp only[List.length_nil,Nat.zero_add,List.map_nil,List.append_nil]
  exact this
 |cons c so ih=>
  intro p rs hc h
  have h:o.drop p=wr c++(wrs so++(iO ss++93::aI)):=by rw[h,wrs,List.flatMap_cons,List.append_assoc];rfl
  have h':=f0 h
  obtain⟨x,r,e,h1,h2,h3,h4,h5,h6⟩:=wV (hc c (.head _)) (wrs so++(iO ss++93::aI))
  refine Bl (BV so ss aI λ c' h'=>hc c' (.tail _ h')) λ y r' e' g1 g2 _=>?_
  have q:=ih (p:=p+(wr c).length) (rs:=rs++[.tup [.int c,.int c]]) (λ c' h'=>hc c' (.tail _ h')) h'
  have ei:=cR.rng (h.trans e) h1 h6 (.one (uV hz (hc c (.head _)) h) (h'.trans e') g1 g2) q
  simp only[show p+(wr c).length+(wrs so).length+(iO ss).length=p+(wrs (c::so)).length+(iO ss).length by simp only[wrs,wrs,List.flatMap_cons,List.length_append];lia,
   show so.length+ss.length+1=(c::so).length+ss.length by exact Nat.add_right_comm _ _ _,List.append_assoc]at ei
  exact ei
end
section
variable {o:List UInt8}{p p' n:Nat}{t s aB aP:St}{K:Nat->List W->St->R W}
theorem jm(hz:a.length+b.length<=16777216):m4 s .Add (.d (.bytes a)) (.d (.bytes b))=.ok (.d (.bytes (a++b))) s:=bC (A01 hz)
theorem jg(h:c∈av):(wr c).length<=10:=by
 have h':c=97\/c=98\/c=45\/c=93\/c=32\/c=92\/c=123\/c=233\/c=128512\/c=1114111:=by simpa [av] using h
 rcases h' with rfl|rfl|rfl|rfl|rfl|rfl|rfl|rfl|rfl|rfl<;>decide
theorem N9(h:c∈av):aW (n+4) 45 [.d (.int c),.d (.int c)] s=.ok (.d (.bytes (wr c))) s:=bL (ds:=[.int c,.int c]) (by
 apply aR (f:=45) rfl rfl
 .unfold RZ
  apply aq
  apply br
  .apply aH
   .rfl
   .rfl
   .rfl
   .simp
  .apply aq
   apply be
   apply aF
   .rfl
   .exact Eo (n:=n) h
 .rfl)
theorem N8(h:c∈av)(h2:c+1∈av):aW (n+4) 45 [.d (.int c),.d (.int (c+1))] s=.ok (.d (.bytes (wr c++wr (c+1)))) s:=bL (ds:=[.int c,.int (c+1)]) (by
 have l1:=jg h
 have l2:=jg h2
 apply aR (f:=45) rfl rfl
 .unfold RZ
  apply aA
  .apply ae
   .apply aH
    .rfl
    .rfl
    .rfl
    .simp;lia
   .exact aK
  .apply aq
   apply be
   apply bZ
   .apply bZ
    .apply aF
     .rfl
     .exact Eo (n:=n) h
    .apply d0
     .apply aH
      .rfl
      .rfl
      .rfl
      .simp
     .rfl
    .exact jm (b:=[]) (by simp;exact bK ‹_›)
   .apply aF
    .rfl
    .exact Eo (n:=n) h2
   .rw[List.append_nil];exact jm (by exact bK (Nat.add_le_add ‹_› ‹_›))
 .rfl)
end
section
variable {o:List UInt8}{p p' n:Nat}{t s aB aP:St}{K:Nat->List W->St->R W}{vs:V}
noncomputable def rJ(a b:Int):List UInt8:=if a=b then wr a else wr a++wr b
def Fd(r:Int×Int):Prop:=r.1∈av/\(r.2=r.1\/(r.2=r.1+1/\r.2∈av))
noncomputable abbrev cE(l:List (Int×Int)):List D:=l.map λ r=>.tup [.int r.1,.int r.2]
theorem RL(h:Fd r):aW (n+4) 45 [.d (.int r.1),.d (.int r.2)] s=.ok (.d (.bytes (rJ r.1 r.2))) s:=by
 obtain⟨a,b⟩:=r
 obtain⟨h1,h2⟩:=h
 dsimp only at *
 unfold rJ
 rcases h2 with rfl|⟨rfl,h2⟩
 .rw[if_pos rfl];exact N9 h1
 .rw[if_neg (by lia)];exact N8 h1 h2
theorem Af:∀l:List (List UInt8),Ag (l.map .bytes)=some l:=by
 intro zl
 induction zl with
 |nil=>
  exact rfl
 |cons x l ih=>
  show(Ag (l.map .bytes)).bind (λ r=>some (x::r))=_;rw[ih];rfl
theorem Lo{l:List (List UInt8)}{ds:List D}(hf:ds.map f=l.map .bytes)(hz:(l.map (λ x:List UInt8=>x.length)).sum<=1000000):qH K s .bj (.d (.bytes [])) [.d (.list (ds.map f))]=.ok (.d (.bytes l.flatten)) s:=by
 rw[hf]
 show onO (Ag (l.map .bytes)) _=_
 exact(oo (Af l)).trans (bC (A01 hz))
theorem Lg(hz:l.length<=16777216):Fw false s (.d (.bytes l)) (.d .none) (.d (.int 1)) (.d .none)=.ok (.d (.bytes (l.take 1))) s:=by
 have:pick l none (some ((1:Nat):Int)) none=l.take 1:=oZ l 1
 rw[<-this];exact bC (dG rfl (A01 hz))
noncomputable def LF:D->D
 |.tup [.int a,.int b]=>.bytes (rJ a b)
 |.int c=>.bytes (wr c)
 |_=>.none
theorem lK{α:Type}{f:α->Nat}:∀{l:List α},(∀x∈l,f x<=k)->(l.map f).sum<=k*l.length:=by
 intro zl
 induction zl with
 |nil=>
  intro _
  exact Nat.zero_le _
 |cons x l ih=>
  intro h
  simp only[List.map_cons,List.sum_cons,List.length_cons,Nat.mul_succ]
  have:=ih λ y hy=>h y (.tail _ hy)
  have:=h x (.head _)
  lia
theorem DT(hz:a.length+b.length<=16777216):sQ s .Add (.d (.bytes a)) (.d (.bytes b))=.ok (.d (.bytes (a++b))) s:=bC (A01 hz)
theorem we{l:List Int}{body:List UInt8}(hl:∀c∈l,c∈av)(hn:l.length<=1000)(hb:body.length<=1000000)(h3:cW vs 3=some (.d (.tup (l.map .int))))(h2:cW vs 2=some (.d (.bytes body))) :
  bN (aW (n+5)) (.cons (.augv 2 .Add (.bin .Add (.bin .Add (.k (.bytes [123])) (.meth (.k (.bytes [])) 3 (.cons (.comp [.loc,.loc,.glb] (.v 1) (.v 3) (.none) (.call 44 (.cons (.v 1) .nil))) .nil))) (.k (.bytes [125])))) .nil) vs s=.ok (none,pv vs 2 (.d (.bytes (body++(123::(wrs l++[125])))))) s:=by
 have hs:((l.map wr).map (λ x:List UInt8=>x.length)).sum<=10*l.length:=by
  have:=lK (f:=λ x:List UInt8=>x.length) (k:=10) (l:=l.map wr) λ x hx=>by
   obtain⟨c,hc,rfl⟩:=A10 hx
   exact jg (hl c hc)
  rw[List.length_map]at this
  exact this
 have hw:(wrs l).length<=10*l.length:=by
  simp only[wrs,List.length_flatMap]
  rw[List.map_map]at hs
  exact hs
 apply aA
 .apply xU
  .exact h2
  .apply bZ
   .apply bZ
    .rfl
    .apply ar
     .rfl
     .rfl
     .apply aE
      .apply ef
       .exact d9 h3
       .rfl
       .exact A01 (by rw[List.length_map];exact bK ‹_›)
       .exact dm (f:=LF) λ x hx=>by
         obtain⟨c,hc,rfl⟩:=A10 hx
         refine oz (ah:=[none,some (.d (.int c)),none]) rfl ?_
         apply aF
         .rfl
         .exact Eo (n:=n+2) (hl c hc)
      .exact aT
     .exact Lo (l:=l.map wr) (f:=LF) (ds:=l.map .int) (by simp only[List.map_map,List.map_map];rfl) (by exact bK (Bf ‹_› ‹_›))
    .exact jm (a:=[123]) (by rw[<-List.flatMap_def];show 1+(wrs l).length<=_;exact bK (Nat.add_le_add (Nat.le_refl _) (Bf ‹_› ‹_›)))
   .rfl
   .exact jm (b:=[125]) (by rw[<-List.flatMap_def];simp only[List.length_append,List.length_singleton];show 1+(wrs l).length+1<=_;exact bK (Nat.add_le_add (Nat.add_le_add (Nat.le_refl _) (Bf ‹_› ‹_›)) (Nat.le_refl _)))
  .exact DT (by rw[<-List.flatMap_def];simp only[List.length_append,List.length_singleton];show body.length+(1+(wrs l).length+1)<=_;exact bK (Nat.add_le_add ‹_› (Nat.add_le_add (Nat.add_le_add (Nat.le_refl _) (Bf ‹_› ‹_›)) (Nat.le_refl _))))
 .have e:([123]++ (l.map wr).flatten++[125]:List UInt8)=123::(wrs l++[125]):=by rw[<-List.flatMap_def];rfl
  rw[e];rfl
end
section
variable {o:List UInt8}{p p' n:Nat}{t s aB aP:St}{K:Nat->List W->St->R W}{vs:V}
noncomputable def QO:bp:=.cons (.augv 2 .Add (.bin .Add (.bin .Add (.k (.bytes [123])) (.meth (.k (.bytes [])) 3 (.cons (.comp [.loc,.loc,.glb] (.v 1) (.v 3) (.none) (.call 44 (.cons (.v 1) .nil))) .nil))) (.k (.bytes [125])))) .nil
theorem kj(h:∀c∈l,c∈av):(wrs l).length<=10*l.length:=by
 simp only[wrs,List.length_flatMap]
 exact lK (f:=λ c=>(wr c).length) (k:=10) λ c hc=>jg (h c hc)
theorem vF:∀{ss:List (List Int)}{body:List UInt8}{y:Option W},(∀l∈ss,(∀c∈l,c∈av)/\l.length<=100)->body.length+1100*ss.length<=1000000 ->
  ∃y',eI (λ x vs s=>onO (gM vs (.v 3) x) λ vs=>bN (aW (n+5)) QO vs s) (fA ss) [a,b,some (.d (.bytes body)),y] s=.ok (none,[a,b,some (.d (.bytes (body++iO ss))),y']) s:=by
 intro zl
 induction zl with
 |nil=>
  intro body y _ _
  exact⟨y,by simp only[iO,List.flatMap_nil,List.append_nil];rfl⟩
 |cons l ss ih=>
  intro body y h hb
  refine aj (h l (.head _)) λ h1 h2=>?_
  have hw:=kj h1
  simp only[List.length_cons]at hb
  obtain⟨y',ih⟩:=ih (body:=body++(123::(wrs l++[125]))) (y:=some (.d (.tup (l.map .int)))) (λ l' h'=>h l' (.tail _ h')) (by simp only[List.length_append,List.length_cons,List.length_nil];lia)
  refine⟨y',?_⟩
  refine(?_:R.bind (bN (aW (n+5)) QO [a,b,some (.d (.bytes body)),some (.d (.tup (l.map .int)))] s) _=_)
  have hs:=we (n:=n) (s:=s) (vs:=[a,b,some (.d (.bytes body)),some (.d (.tup (l.map .int)))]) h1 (by exact bK ‹_›) (by exact GQ ‹_›:body.length<=1000000) rfl rfl
  rw[show bN (aW (n+5)) QO [a,b,some (.d (.bytes body)),some (.d (.tup (l.map .int)))] s=_ from hs]
  refine ih.trans ?_
  rw[iO,iO,List.flatMap_cons,List.append_assoc]
theorem AK(hr:∀r∈rl,Fd r)(hl:rl.length<=100)(hR:∀n s,aW (n+5) 10 [.d (.inst 202 [(0,.list B)])] s=.ok (.d (.list (cE rl))) s)(h58:((rl.flatMap λ r=>rJ r.1 r.2).take 1==[58])=false)
  (hs:∀l∈ss,(∀c∈l,c∈av)/\l.length<=100) (hn:ss.length<=100):cC (aW (n+5)) 46 [.d (cS B ss)] []=.ok (.d (.bytes (91::((rl.flatMap λ r=>rJ r.1 r.2)++ iO ss++[93])))) []:=by
 have wl:∀r∈rl,(rJ r.1 r.2).length<=20:=λ r h=>by
  refine aj (hr r h) λ h1 h2=>?_
  unfold rJ
  have:=jg h1
  by_cases q:r.1=r.2
  .rw[if_pos q];exact bK ‹_›
  .rw[if_neg q]
   rcases h2 with e|⟨_,h2⟩
   .exact absurd e.symm q
   .have:=jg h2
    rw[List.length_append];exact bK (Nat.add_le_add ‹_› ‹_›)
 have Md:((rl.map λ r=>rJ r.1 r.2).map (λ x:List UInt8=>x.length)).sum<=20*rl.length:=by
  have:=lK (f:=λ x:List UInt8=>x.length) (k:=20) (l:=rl.map λ r=>rJ r.1 r.2) λ x hx=>by
   refine aD (A10 hx) λ r h dz=>?_;subst dz
   exact wl r h
  simp only[List.length_map]at this
  exact this
 have Ve:(rl.flatMap λ r=>rJ r.1 r.2).length<=20*rl.length:=by
  simp only[List.length_flatMap]
  simp only[List.map_map]at Md
  exact Md
 have UH:(iO ss).length<=1002*ss.length:=by
  simp only[iO,List.length_flatMap]
  refine lK (f:=λ l:List Int=>(123::(wrs l++[125])).length) (k:=1002) λ l JO=>?_
  have:=kj (hs l JO).1
  have:=(hs l JO).2
  simp only[List.length_append,List.length_cons,List.length_nil];exact bK (Nat.add_le_add (Nat.add_le_add (Bf ‹_› ‹_›) (Nat.le_refl _)) (Nat.le_refl _))
 refine aS (vF (n:=n) (s:=[]) (a:=some (.d (cS B ss))) (b:=some (.d (.list (cE rl|>.map LF)))) (ss:=ss) (body:=rl.flatMap λ r=>rJ r.1 r.2) (y:=none) hs (by lia)) λ y' L=>?_
 apply aR (f:=46) rfl rfl
 .skip
  apply aA
  .apply ay
   apply ef
   .apply ar
    .exact rfl
    .rfl
    .exact aT
    .exact hR n _
   .rfl
   .exact A01 (by rw[List.length_map];exact bK ‹_›)
   .exact dm (f:=LF) λ x hx=>by
     refine aD (A10 hx) λ r h dz=>?_;subst dz
     refine oz (ah:=[none,some (.d (.int r.1)),some (.d (.int r.2)),none]) rfl ?_
     apply aF
     .exact rfl
     .exact RL (n:=n+1) (hr r h)
  .apply aA
   .apply ay
    apply ar
    .rfl
    .rfl
    .exact rfl
    .exact Lo (l:=rl.map λ r=>rJ r.1 r.2) (f:=LF) (ds:=cE rl) (by simp only[List.map_map,List.map_map];rfl) (by exact bK (Bf ‹_› ‹_›))
   .apply aA
    .apply ae
     .apply aH
      .apply ke
       .exact rfl
       .exact cP
       .exact rfl
       .exact cP
       .exact Lg (by exact bK (Bf ‹_› ‹_›))
      .rfl
      .rfl
      .exact h58
     .exact aK
    .apply aA
     .assumption
     .apply aq
      apply be
      apply bZ
      .apply bZ
       .rfl
       .exact rfl
       .exact jm (a:=[91]) (by simp only[List.length_append,List.length_singleton];lia)
      .rfl
      .exact jm (b:=[93]) (by simp only[List.length_append,List.length_singleton];lia)
 .rfl
end
noncomputable def t2:IE:=.cmp .Lt (.v 2) (.v 3)
noncomputable def l2:bp:=.cons (.asg 4 (.bin .FloorDiv (.bin .Add (.v 2) (.v 3)) (.k (.int 2)))) (.cons (.iff (.cmp .LtE (.ix (.v 0) (.v 4)) (.v 1)) (.cons (.asg 2 (.bin .Add (.v 4) (.k (.int 1)))) .nil) (.cons (.asg 3 (.v 4)) .nil)) .nil)
section
variable {n:Nat}{t s aB aP:St}{K:Nat->List W->St->R W}{l:List Int}{x:Int}{k:Nat}
def f6(l:List Int)(x:Int)(k:Nat):Prop:=k<=l.length/\(∀i a,l[i]?=some a->i<k->a<=x)/\∀i a,l[i]?=some a->k<=i->x<a
theorem Lm{ds:List D}{j:Nat}{d:D}(hj:j<9000000000)(h:ds[j]?=some d):Kl ds (j:Int)=some d:=by
 have e1:decide (0<=(j:Int))=true:=A01 (by lia)
 have e2:decide ((j:Int).toNat<9000000000)=true:=A01 (by lia)
 unfold Kl
 refine(?_:gF (decide ((j:Int).toNat<9000000000)) ds[(j:Int).toNat]?=_)
 rw[e2];exact h
theorem iz{ds:List D}{i:Int}{j:Nat}{d:D}{s:St}(hi:i=j)(hj:j<9000000000)(h:ds[j]?=some d):tq s (.d (.list ds)) (.d (.int i))=.ok (.d d) s:=by
 subst hi
 exact oo (Lm hj h)
theorem uB(a b:Nat):((a:Int)+ (b:Int)).fdiv 2=(((a+b) / 2:Nat):Int):=by
 rw[Int.fdiv_eq_ediv_of_nonneg _ (by decide)];lia
theorem xt(hz:l.length<=1000000)(hk:f6 l x k):∀(m lo hi N:Nat)(y:Option W),hi-lo<=m->lo<=k->k<=hi->hi<=l.length->m<N ->
  ∃pQ y',iP (ao K t2) (bN K l2) N [some (.d (.list (l.map .int))),some (.d (.int x)),some (.d (.int lo)),some (.d (.int hi)),y,none] s=.ok (none,[some (.d (.list (l.map .int))),some (.d (.int x)),some (.d (.int k)),some (.d (.int pQ)),y',none]) s:=by
 intro m
 induction m with
 |zero=>
  intro lo hi N y h1 h2 h3 h4 h5
  obtain⟨N,rfl⟩:∃N',N=N'+1:=⟨N-1,by exact(Nat.sub_add_cancel ‹_›).symm⟩
  obtain rfl:lo=k:=by lia
  refine iB hi y (gP ?_)
  apply aH
  .exact rfl
  .exact rfl
  .rfl
  .simp;lia
 |succ m ih=>
  intro lo hi N y h1 h2 h3 h4 h5
  obtain⟨N,rfl⟩:∃N',N=N'+1:=⟨N-1,by lia⟩
  by_cases gN:lo<hi
  .have Ql:(lo+hi) / 2<l.length:=by lia
   have oj:l[(lo+hi) / 2]?=some l[(lo+hi) / 2]:=List.getElem?_eq_getElem Ql
   have hgetD:(l.map D.int)[(lo+hi) / 2]?=some (.int l[(lo+hi) / 2]):=by simp only[List.getElem?_map,oj];rfl
   by_cases uA:l[(lo+hi) / 2]<=x
   .have Mj:(lo+hi) / 2<k:=by
     rcases Nat.lt_or_ge ((lo+hi) / 2) k with q|q
     .exact q
     .have:=hk.2.2 _ _ oj q;lia
    refine fS (ih ((lo+hi) / 2+1) hi N (some (.d (.int (((lo+hi) / 2:Nat):Int)))) (by lia) (by exact‹_›) h3 h4 (by exact Nat.lt_of_succ_lt_succ ‹_›)) λ pQ y' e=>iB pQ y' (oQ (ah:=[some (.d (.list (l.map .int))),some (.d (.int x)),some (.d (.int (((lo+hi) / 2+1:Nat):Int))),some (.d (.int hi)),some (.d (.int (((lo+hi) / 2:Nat):Int))),none]) (aB:=s) (aP:=s) ?_ ?_ e)
    .skip
     apply aH
     .rfl
     .rfl
     .rfl
     .simp;lia
    .skip
     apply aA
     .apply ay
      apply bZ
      .rfl
      .rfl
      .refine(?_:need true (R.ok (W.d (.int (((lo:Int)+ (hi:Int)).fdiv 2))) s)=_)
       rw[uB];rfl
     .apply aA
      .apply br
       .apply aH
        .apply dQ
         .rfl
         .exact d9 rfl
         .exact iz rfl (by lia) hgetD
        .rfl
        .rfl
        .exact A01 uA
       .exact rfl
      .rfl
   .have Mj:k<=(lo+hi) / 2:=by
     rcases Nat.lt_or_ge ((lo+hi) / 2) k with q|q
     .have:=hk.2.1 _ _ oj q;lia
     .exact q
    refine fS (ih lo ((lo+hi) / 2) N (some (.d (.int (((lo+hi) / 2:Nat):Int)))) (by lia) h2 Mj (by exact Nat.le_of_lt ‹_›) (by exact Nat.lt_of_succ_lt_succ ‹_›)) λ pQ y' e=>iB pQ y' (oQ (ah:=[some (.d (.list (l.map .int))),some (.d (.int x)),some (.d (.int lo)),some (.d (.int (((lo+hi) / 2:Nat):Int))),some (.d (.int (((lo+hi) / 2:Nat):Int))),none]) (aB:=s) (aP:=s) ?_ ?_ e)
    .skip
     apply aH
     .rfl
     .rfl
     .rfl
     .simp;lia
    .skip
     apply aA
     .apply ay
      apply bZ
      .rfl
      .rfl
      .refine(?_:need true (R.ok (W.d (.int (((lo:Int)+ (hi:Int)).fdiv 2))) s)=_)
       rw[uB];rfl
     .apply aA
      .apply ae
       .apply aH
        .apply dQ
         .rfl
         .exact d9 rfl
         .exact iz rfl (by exact GP (Nat.lt_of_lt_of_le ‹_› ‹_›)) hgetD
        .rfl
        .rfl
        .exact decide_eq_false uA
       .exact rfl
      .rfl
  .obtain rfl:lo=k:=by lia
   refine iB hi y (gP ?_)
   apply aH
   .rfl
   .rfl
   .rfl
   .simp;exact Nat.not_lt.mp ‹_›
theorem Aw(hz:l.length<=4000)(hk:f6 l x k):aW (n+1) 2 [.d (.list (l.map .int)),.d (.int x)] s=.ok (.d (.int ((k:Int)-1))) s:=bL (ds:=[.list (l.map .int),.int x]) (by
 refine fS (xt (K:=aW n) (s:=[]) (by exact bK ‹_›) hk l.length 0 l.length 4096 none (by exact o8 (Nat.le_refl _)) (by exact Nat.le_add_left _ _) hk.1 (by lia) (by exact ti ‹_›)) λ pQ y' L=>?_
 apply aR (f:=2) rfl rfl
 .skip
  apply aA
  .exact rfl
  .apply aA
   .apply ay
    apply cm
    .exact rfl
    .apply eJ
     .rfl
     .simp;exact bK ‹_›
   .apply aA
    .apply lN
     simp only[List.length_map]
     exact L
    .exact rfl
 .rfl)
end
section
variable {n:Nat}{t s aB aP:St}{K:Nat->List W->St->R W}{l:List Int}{x:Int}{k:Nat}
noncomputable abbrev gb(l:List Int):D:=.inst 202 [(0,.list (l.map .int))]
theorem Np(hz:l.length<=4000)(hk:f6 l x k):aW (n+2) 9 [.d (gb l),.d (.int x)] s=.ok (.d (.bool (((k:Int)-1).fmod 2==0))) s:=bL (ds:=[gb l,.int x]) (by
 apply aR (f:=9) rfl rfl
 .unfold b9
  apply aq
  apply be
  apply aH
  .apply bZ
   .apply aF
    .rfl
    .exact Aw (n:=n) hz hk
   .rfl
   .rfl
  .rfl
  .rfl
  .rfl
 .rfl)
noncomputable abbrev I8(d:D)(l:List Int)(vs:List D):D:=.inst 256 [(1,d),(2,.list (l.map .int)),(3,.list vs)]
theorem Nq(hz:l.length<=4000)(hk:f6 l x (k+1))(hv:vs[k]?=some v):aW (n+2) 16 [.d (I8 d l vs),.d (.int x)] s=.ok (.d v) s:=bL (ds:=[I8 d l vs,.int x]) (by
 have h1:=hk.1
 apply aR (f:=16) rfl rfl
 .unfold TD
  apply aq
  apply be
  apply dQ
  .rfl
  .apply aF
   .rfl
   .exact Aw (n:=n) hz hk
  .exact iz (j:=k) (by lia) (by exact GP (Nat.lt_of_lt_of_le ‹_› ‹_›)) hv
 .rfl)
end
section
variable {n:Nat}{t s aB aP:St}{K:Nat->List W->St->R W}{vs ah:V}
theorem Gg{t:IT}(h:gM (uT vs cs) t x=some ah)(ht:ao K te ah s=.ok (.d (.bool true)) aB)(he:ao K elt ah aB=.ok (.d y) aP):g9 K cs t (.some te) elt vs x s=.ok (some y) aP:=by
 refine(oo h).trans ((dL (a:=true) ((dL ht).trans rfl)).trans ((dL he).trans rfl))
theorem To(a:Int):eZ [.tup [.int a,.int a]]=some [.tup [.int a,.int a]]:=by
 show gF (lg [[a,a]]) (some [D.tup [.int a,.int a]])=_
 rw[show lg [[a,a]]=true by simp[lg]];rfl
theorem Na(a:Int):aW (n+1) 3 [.d (.list [.tup [.int a,.int a]])] s=.ok (.d (.list [.int a,.int (a+1)])) s:=bL (ds:=[.list [.tup [.int a,.int a]]]) (by
 apply aR (f:=3) rfl rfl
 .unfold b3
  apply aA
  .rfl
  .apply aA
   .apply gD
    .apply cm
     .apply aE
      .apply ef
       .rfl
       .rfl
       .rfl
       .exact dm (f:=λ x=>x) λ x hx=>by
         obtain rfl:=A04 hx
         refine Gg (ah:=[none,some (.d (.tup [.int a,.int a]))]) (aB:=[.list []]) rfl ?_ ?_
         .apply aH
          .rfl
          .rfl
          .rfl
          .simp
         .rfl
      .exact aT
     .show onO (eZ [.tup [.int a,.int a]]) _=_
      rw[To];rfl
    .rfl
    .rw[nz]
     show R.bind (bN (aW n) _ [some (.d (.list [.tup [.int a,.int a]])),some (.r 0),some (.d (.int a)),some (.d (.int a)),none,none,none] [.list []]) _=R.ok (none,[some (.d (.list [.tup [.int a,.int a]])),some (.r 0),some (.d (.int a)),some (.d (.int a)),none,none,none]) [.list [.int a,.int (a+1)]]
     rfl
   .rfl
 .rfl)
theorem Nh(a:Int):aW (n+4) 8 [.d (.list [.tup [.int a,.int a]])] s=.ok (.d (.inst 202 [(0,.list [.int a,.int (a+1)])])) s:=bL (ds:=[.list [.tup [.int a,.int a]]]) (by
 apply aR (f:=8) rfl rfl
 .unfold b8
  apply aq
  apply be
  apply aF
  .apply aE
   .apply aF
    .rfl
    .exact Na (n:=n+2) a
   .exact aT
  .rfl
 .rfl)
end
section
variable {n:Nat}{t s aB aP:St}{K:Nat->List W->St->R W}{vs ah:V}
theorem N5(a:Int):aW (n+2) 5 [.d (.list []),.d (.list [.int a,.int (a+1)]),.d (.str [117,110,105,111,110])] s=.ok (.d (.list [.int a,.int (a+1)])) s:=bL (ds:=[.list [],.list [.int a,.int (a+1)],.str [117,110,105,111,110]]) (by
 apply aR (f:=5) rfl rfl
 .unfold b5
  apply aA
  .apply xT
   .rfl
   .rfl
   .rfl
  .apply aA
   .apply lN
    apply oQ (n:=4095)
    .rfl
    .apply aA
     .rfl
     .apply aA
      .rfl
      .apply aA
       .apply br
        .apply bS
         apply cY
         .rfl
         .apply cH
          apply aH (k:=true)
          .rfl
          .rfl
          .rfl
          .simp
        .rfl
       .apply aA
        .rfl
        .apply aA
         .rfl
         .exact aK
    .apply oQ (n:=4094)
     .rfl
     .apply aA
      .rfl
      .apply aA
       .rfl
       .apply aA
        .apply br
         .apply bS
          apply cY
          .rfl
          .apply cH
           apply aH (k:=true)
           .rfl
           .rfl
           .rfl
           .simp
         .rfl
        .apply aA
         .rfl
         .apply aA
          .rfl
          .exact aK
     .apply gP (n:=4093)
      rfl
   .rfl
 .rfl)
end
section
variable {n:Nat}{s:St}
theorem FJ(a:Int):rH [.tup [.int a,.int a]] [.int a,.int (a+1)]:=λ n s=>⟨Nh (n:=n+1) a,bL (ds:=[.inst 202 [(0,.list [])],.inst 202 [(0,.list [.int a,.int (a+1)])]]) (by
 apply aR (f:=11) rfl rfl
 .unfold TF
  apply aq
  apply be
  apply aF
  .apply aE
   .apply aF
    .rfl
    .exact N5 (n:=n+2) a
   .exact aT
  .rfl
 .rfl)⟩
theorem BG(a:Int):Bd [.tup [.int a,.int a]] [.int a,.int (a+1)]:=.inr ⟨_,_,rfl,FJ a⟩
theorem vJ(hz:w.length<=1000)(hc:bX (91::(w++[93])) 1 c (1+w.length))(hb:∃x r,w=x::r/\d6 x=true/\x≠94/\x≠58/\dj (x::(r++[93]))=true) :
  aW (n+11) 43 [.d (.bytes (91::(w++[93]))),.d .none] s=.ok (.d (.inst 202 [(0,.list [.int c,.int (c+1)])])) s:=by
 obtain⟨x,r,rfl,h1,JQ,h58,hn⟩:=hb
 have EO:(91::((x::r)++ [93]):List UInt8).drop (1+(x::r).length)=[93]:=by
  rw[Nat.add_comm,List.drop_succ_cons,List.drop_left]
 have hi:cR (91::((x::r)++ [93])) 1 1 [] [] [.tup [.int c,.int c]] [] (1+(x::r).length) :=
  .rng (x:=x) (r:=r++[93]) rfl h1 hn (.one hc EO (by decide) rfl) (.nil EO)
 have:=pC (n:=n) (s:=s) (o:=91::((x::r)++ [93])) (x:=x) (r:=r++[93]) (ss:=[]) (by simp at hz ⊢;exact bK ‹_›) rfl h58 (by
  have L:=s7 (n:=n) (dp:=.int 0) (p:=0) (k:=1) (rs:=[.tup [.int c,.int c]]) (by simp at hz ⊢;exact bK ‹_›) rfl JQ hi (by decide) (BG c)
  rw[show(91::((x::r)++ [93]):List UInt8).length=1+(x::r).length+1 by simp;exact Nat.add_comm _ _]
  exact L)
 exact this
end
section
variable {n:Nat}{s:St}
theorem vK(hz:r.length<=1000)(hc:dN (91::x::r) 1 e)(h1:d6 x=true)(JQ:x≠94)(h58:x≠58)(hn:dj (x::r)=true) :
  aW (n+11) 43 [.d (.bytes (91::x::r)),.d .none] s=.err (.int e) :=
 qs (n:=n) (o:=91::x::r) (x:=x) (r:=r) (by simp at hz ⊢;exact bK ‹_›) rfl h58 (s6 (n:=n) (dp:=.int 0) (p:=0) (by simp at hz ⊢;exact bK ‹_›) rfl h1 JQ hn hc)
end
section
variable {n:Nat}{s t:St}{K:Nat->List W->St->R W}{r:List Int}{x m:Int}
noncomputable abbrev tp(r:List Int):MW:=.list (r.reverse.map .int)
theorem Lj{x:D}(h:s[i]?=some (.list (ds++[x])))(hz:ds.length<=1000000)(hs:s.set i (.list ds)=s'):qH K s .pop (.r i) []=.ok (.d x) s':=by
 subst hs
 refine(oo (o:=eM s i) (lb h)).trans ((oo (List.getLast?_concat)).trans ?_)
 rw[List.dropLast_concat]
 exact bC (A01 (by simp only[List.length_append,List.length_singleton];exact ti ‹_›))
noncomputable def yN(m:Int):List Int->Int
 |[]=>0
 |x::_=>x.fmod m
theorem J5(hm:m≠0)(hz:r.length<=1000):cC K 49 [.r 0,.d (.int m)] [tp r]=.ok (.d (.int (yN m r))) [tp r.tail]:=by
 cases r with
 |nil=>rfl
 |cons x r=>
  have e:tp (x::r)=.list (r.reverse.map .int++[.int x]):=by simp only[tp,List.reverse_cons,List.map_append];rfl
  rw[e]
  apply aR (f:=49) rfl rfl
  .unfold So
   apply aq
   apply be
   apply d0
   .apply aH
    .rfl
    .rfl
    .rfl
    .simp
   .apply bZ
    .apply ar
     .rfl
     .rfl
     .exact aT
     .exact Lj (ds:=r.reverse.map .int) rfl (by simp at hz ⊢;exact bK ‹_›) rfl
    .rfl
    .exact bC (by simpa using hm)
  .rfl
theorem kE(hm:m≠0)(hz:r.length<=1000):aW (n+1) 49 [.r 0,.d (.int m)] (tp r::t)=.ok (.d (.int (yN m r))) (tp r.tail::t):=by
 show wrap (cC (aW n) 49) _ _=_
 unfold wrap
 show R.bind (cC (aW n) 49 [.r 0,.d (.int m)] [tp r]) _=_
 rw[J5 hm hz]
 rfl
end
section
variable {n:Nat}{t s aB aP:St}{K:Nat->List W->St->R W}{vs ah:V}
noncomputable def fW(acc:List Int)(r:Int×Int):List Int:=match acc.getLast? with
 |some b=>if r.1<=b then acc.dropLast++[max b (r.2+1)]else acc++[r.1,r.2+1]
 |none=>acc++[r.1,r.2+1]
noncomputable def cX(rl:List (Int×Int)):List Int:=rl.foldl fW []
noncomputable def l3:bp:=.cons (.iff (.boo true (.cons (.cmp .NotEq (.v 1) (.lst .nil)) (.cons (.cmp .LtE (.v 2) (.ix (.v 1) (.neg (.k (.int 1))))) .nil))) (.cons (.setx 1 (.bi .max (.cons (.ix (.v 1) (.neg (.k (.int 1)))) (.cons (.bin .Add (.v 3) (.k (.int 1))) .nil)))) .nil) (.cons (.ex (.meth (.v 1) 2 (.cons (.lst (.cons (.v 2) (.cons (.bin .Add (.v 3) (.k (.int 1))) .nil))) .nil))) .nil)) .nil
theorem QG(h:s[i]?=some (.list ds)):lv s (.r i)=some ds:=lb h
theorem t7(h:s[i]?=some (.list (ds++[d])))(hz:ds.length<=1000000):tq s (.r i) (.d (.int (-1)))=.ok (.d d) s:=by
 have e2:Kl (ds++[d]) (-1)=some d:=by
  refine(?_:gF (decide (-(((ds++[d]).length:Nat):Int)<=-1)&&decide ((-9000000000:Int)<=-1)) (ds++[d])[((-1:Int)+ ((ds++[d]).length:Nat)).toNat]?=_)
  simp only[A01 (by simp;lia:-(((ds++[d]).length:Nat):Int)<=-1),A01 (by decide:(-9000000000:Int)<=-1)]
  refine(?_:(ds++[d])[((-1:Int)+ ((ds++[d]).length:Nat)).toNat]?=_)
  rw[show((-1:Int)+ ((ds++[d]).length:Nat)).toNat=ds.length by simp;lia]
  simp
 exact(oo (o:=lv s (.r i)) (QG h)).trans (oo e2)
theorem t6(h:s[i]?=some (.list ds))(hb:(!ds.isEmpty)=b):jT s .NotEq (.r i) (.d (.list []))=some b:=by
 subst hb
 refine(?_:(eM s i).bind _=_)
 rw[lb h];rfl
theorem Hl(a7:cW vs i=some (.r j))(a8:ao K e vs s=.ok (.d x) aB)(cB:aB[j]?=some (.list (ds++[d])))(hz:ds.length<=1000000)(hs:aB.set j (.list (ds++[x]))=aP):gy K (.setx i e) vs s=.ok (none,vs) aP:=by
 subst hs
 refine(oo (a:=j) (by rw[a7];rfl)).trans ((dL a8).trans ((oo (o:=some x) rfl).trans ((oo (lb cB)).trans ?_)))
 rw[List.dropLast_concat]
 exact bC (by simp;exact bK ‹_›)
theorem Ln(h:s[i]?=some (.list ds))(hz:ds.length+xs.length<=1000000)(hs:s.set i (.list (ds++xs))=s'):qH K s .ext (.r i) [.d (.list xs)]=.ok (.d .none) s':=by
 subst hs
 exact(oo (o:=eM s i) (lb h)).trans (bC (A01 (by exact bK ‹_›)))
theorem r7(hz:acc.length<=1000):bN K l3 [x,some (.r 0),some (.d (.int a)),some (.d (.int b)),none,none,none] [.list (acc.map .int)]=.ok (none,[x,some (.r 0),some (.d (.int a)),some (.d (.int b)),none,none,none]) [.list ((fW acc (a,b)).map .int)]:=by
 have Q5:(acc.map D.int).length<=1000:=by simpa using hz
 rcases List.eq_nil_or_concat acc with rfl|⟨p,y,rfl⟩
 .rfl
 .simp only[List.concat_eq_append]at *
  have eg:(p++[y]).getLast?=some y:=List.getLast?_concat
  have em:(p++[y]).map D.int=p.map .int++[.int y]:=by simp
  have Tx:(p.map D.int).length<=1000:=by simp at hz ⊢;exact bK ‹_›
  rw[em]
  by_cases h:a<=y
  .have e2:(fW (p++[y]) (a,b)).map D.int=p.map .int++[.int (if b+1>y then b+1 else y)]:=by
    unfold fW;rw[eg];dsimp only;rw[if_pos h,List.dropLast_concat,List.map_append];refine congrArg (λ z=>p.map D.int++[D.int z]) (?_:max y (b+1)=_);split<;>lia
   rw[e2]
   apply aA
   .apply br
    .apply bS
     apply cY
     .apply aH
      .exact d9 rfl
      .rfl
      .exact t6 rfl rfl
      .simp
     .apply cH
      apply aH (k:=true)
      .exact d9 rfl
      .apply dQ
       .exact d9 rfl
       .exact A1 dg
       .exact t7 (ds:=p.map .int) rfl (by exact bK ‹_›)
      .rfl
      .simpa using h
    .apply aA
     .apply Hl
      .rfl
      .apply cm
       .apply aE
        .apply dQ
         .exact d9 rfl
         .exact A1 dg
         .exact t7 (ds:=p.map .int) rfl (by exact bK ‹_›)
        .apply aE
         .rfl
         .exact aT
       .rfl
      .rfl
      .exact bK ‹_›
      .rfl
     .exact aK
   .exact aK
  .have e2:(fW (p++[y]) (a,b)).map D.int=(p.map .int++[.int y])++ [.int a,.int (b+1)]:=by
    unfold fW;rw[eg];dsimp only;rw[if_neg h];simp
   rw[e2]
   apply aA
   .apply ae
    .apply bS
     apply cY
     .apply aH
      .exact d9 rfl
      .rfl
      .exact t6 rfl rfl
      .simp
     .apply cH
      apply aH (k:=false)
      .exact d9 rfl
      .apply dQ
       .exact d9 rfl
       .exact A1 dg
       .exact t7 (ds:=p.map .int) rfl (by exact bK ‹_›)
      .rfl
      .simpa using h
    .apply aA
     .apply fX
      .apply ar
       .exact d9 rfl
       .rfl
       .rfl
       .exact Ln rfl (by simp at Tx ⊢;exact bK ‹_›) rfl
      .rfl
     .exact aK
   .exact aK
theorem n5:(fW acc r).length<=acc.length+2:=by
 unfold fW
 cases h:acc.getLast? with
 |none=>simp
 |some b=>dsimp only;split<;>simp<;>lia
theorem DK(hf:∀(a b:Int)(p q:Option W) acc,acc.length<=1000->f (.tup [.int a,.int b]) [x,some (.r 0),p,q,none,none,none] [.list (acc.map .int)]=.ok (none,[x,some (.r 0),some (.d (.int a)),some (.d (.int b)),none,none,none]) [.list ((fW acc (a,b)).map .int)]) :
  ∀(rl:List (Int×Int)) (acc:List Int) (p q:Option W),acc.length+2*rl.length<=1000->∃p' q',eI f (cE rl) [x,some (.r 0),p,q,none,none,none] [.list (acc.map .int)]=.ok (none,[x,some (.r 0),p',q',none,none,none]) [.list ((rl.foldl fW acc).map .int)]:=by
 intro zl
 induction zl with
 |nil=>
  intro acc p q _
  exact⟨p,q,rfl⟩
 |cons zx rl ih=>
  obtain⟨a,b⟩:=zx
  intro acc p q h
  simp only[List.length_cons]at h
  refine fS (ih (fW acc (a,b)) (some (.d (.int a))) (some (.d (.int b))) (by have:=n5 (acc:=acc) (r:=(a,b));lia)) λ p' q' e=>iB p' q' ?_
  refine(?_:eI f (.tup [.int a,.int b]::cE rl) _ _=_)
  rw[nz]
  rw[hf a b p q acc (by exact GQ ‹_›)]
  exact e
def wJ(rl:List (Int×Int)):Prop:=(∀r∈rl,r.1<=r.2)/\eZ (cE rl)=some (cE rl)/\rl.length<=100
theorem RN(h1:∀r∈rl,r.1<=r.2)(h2:eZ (cE rl)=some (cE rl'))(h3:rl.length<=100)(h4:rl'.length<=100):aW (n+1) 3 [.d (.list (cE rl))] s=.ok (.d (.list ((cX rl').map .int))) s:=bL (ds:=[.list (cE rl)]) (by
 obtain⟨p',q',L⟩:=DK (x:=some (.d (.list (cE rl)))) (f:=λ x vs s=>onO (gM vs (.t [2,3]) x) λ vs=>bN (aW n) l3 vs s) (λ a b p q acc hz=>by
  exact r7 hz) rl' [] none none (by simp;exact bK (Nat.mul_le_mul_left _ ‹_›))
 apply aR (f:=3) rfl rfl
 .skip
  apply aA
  .rfl
  .apply aA
   .apply gD
    .apply cm
     .apply aE
      .apply ef
       .rfl
       .rfl
       .exact A01 (by simp;exact bK ‹_›)
       .exact dm (f:=λ x=>x) λ x hx=>by
         refine aD (A10 hx) λ il hr dz=>?_;obtain⟨a,b⟩:=il;subst dz
         refine Gg (ah:=[none,some (.d (.tup [.int a,.int b]))]) (aB:=[.list []]) rfl ?_ ?_
         .apply aH
          .rfl
          .rfl
          .rfl
          .exact A01 (h1 _ hr)
         .rfl
      .exact aT
     .refine(?_:onO (eZ ([]++ (cE rl).map λ x=>x)) _=_)
      rw[List.map_id'',List.nil_append,h2];rfl
      intro x;rfl
    .rfl
    .exact L
   .rfl
 .rfl)
theorem Gj(h1:∀r∈rl,r.1<=r.2)(h2:eZ (cE rl)=some (cE rl'))(h3:rl.length<=100)(h4:rl'.length<=100):aW (n+4) 8 [.d (.list (cE rl))] s=.ok (.d (gb (cX rl'))) s:=bL (ds:=[.list (cE rl)]) (by
 apply aR (f:=8) rfl rfl
 .skip
  apply aq
  apply be
  apply aF
  .apply aE
   .apply aF
    .rfl
    .exact RN (n:=n+2) h1 h2 h3 h4
   .exact aT
  .rfl
 .rfl)
theorem Ni(h:wJ rl):aW (n+4) 8 [.d (.list (cE rl))] s=.ok (.d (gb (cX rl))) s:=Gj h.1 h.2.1 h.2.2 h.2.2
end
section
variable {n:Nat}{t s aB aP:St}{K:Nat->List W->St->R W}{vs ah:V}
noncomputable def t5:IE:=.boo false (.cons (.cmp .Lt (.v 4) (.bi .len (.cons (.v 0) .nil))) (.cons (.cmp .Lt (.v 5) (.bi .len (.cons (.v 1) .nil))) .nil))
noncomputable def l5:bp:=.cons (.iff (.boo false (.cons (.cmp .GtE (.v 5) (.bi .len (.cons (.v 1) .nil))) (.cons (.boo true (.cons (.cmp .Lt (.v 4) (.bi .len (.cons (.v 0) .nil))) (.cons (.cmp .LtE (.ix (.v 0) (.v 4)) (.ix (.v 1) (.v 5))) .nil))) .nil))) (.cons (.asg 7 (.ix (.v 0) (.v 4))) .nil) (.cons (.asg 7 (.ix (.v 1) (.v 5))) .nil)) (.cons (.iff (.boo true (.cons (.cmp .Lt (.v 4) (.bi .len (.cons (.v 0) .nil))) (.cons (.cmp .Eq (.ix (.v 0) (.v 4)) (.v 7)) .nil))) (.cons (.augv 4 .Add (.k (.int 1))) .nil) .nil) (.cons (.iff (.boo true (.cons (.cmp .Lt (.v 5) (.bi .len (.cons (.v 1) .nil))) (.cons (.cmp .Eq (.ix (.v 1) (.v 5)) (.v 7)) .nil))) (.cons (.augv 5 .Add (.k (.int 1))) .nil) .nil) (.cons (.asg 8 (.call 4 (.cons (.v 2) (.cons (.cmp .Eq (.bin .Mod (.v 4) (.k (.int 2))) (.k (.int 1))) (.cons (.cmp .Eq (.bin .Mod (.v 5) (.k (.int 2))) (.k (.int 1))) .nil))))) (.cons (.iff (.cmp .NotEq (.v 8) (.v 6)) (.cons (.ex (.meth (.v 3) 0 (.cons (.v 7) .nil))) (.cons (.asg 6 (.v 8)) .nil)) .nil) .nil))))
noncomputable abbrev uS:D:=.str [117,110,105,111,110]
noncomputable def pb(j:Nat):Bool:=(j:Int).fmod 2==1
theorem Le(j:Nat):(pb (j+1) !=pb j)=true:=by
 unfold pb
 rw[Int.fmod_eq_emod_of_nonneg _ (by decide),Int.fmod_eq_emod_of_nonneg _ (by decide)]
 rcases Nat.mod_two_eq_zero_or_one j with h|h
 .rw[show((j:Int)) % 2=0 by lia,show((j+1:Nat):Int) % 2=1 by lia];rfl
 .rw[show((j:Int)) % 2=1 by lia,show((j+1:Nat):Int) % 2=0 by lia];rfl
noncomputable abbrev O2(B:List Int)(j:Nat)(x y:Option W):V:=[some (.d (.list [])),some (.d (.list (B.map .int))),some (.d uS),some (.r 0),some (.d (.int 0)),some (.d (.int j)),some (.d (.bool (pb j))),x,y,none,none]
theorem Ij(B:List Int){s:St}:Dq s (.d (.list (B.map .int)))=some B.length:=by refine(?_:some (B.map D.int).length=_);rw[List.length_map]
theorem jy{B:List Int}(h:cW vs 1=some (.d (.list (B.map .int))))(hz:B.length<=1000):ao K (.bi .len (.cons (.v 1) .nil)) vs s=.ok (.d (.int B.length)) s:=by
 apply cm
 .exact aE (d9 h) aT
 .exact eJ (Ij B) (by exact bK ‹_›)
theorem Bs{B:List Int}{j:Nat}{b:Int}{x y:Option W}(hz:B.length<=1000)(hj:B[j]?=some b):bN (aW (n+1)) l5 (O2 B j x y) [.list ((B.take j).map .int)]=.ok (none,O2 B (j+1) (some (.d (.int b))) (some (.d (.bool (pb (j+1)))))) [.list ((B.take (j+1)).map .int)]:=by
 have gN:j<B.length:=by
  rcases Nat.lt_or_ge j B.length with q|q
  .exact q
  .simp only[List.getElem?_eq_none q]at hj;exact bJ hj
 have hg:(B.map D.int)[j]?=some (.int b):=by simp only[List.getElem?_map,hj];rfl
 have ht:(B.take (j+1)).map D.int=(B.take j).map .int++[.int b]:=by simp only[List.take_add_one,hj];simp
 simp only[ht]
 apply aA
 .apply ae
  .apply bS
   apply cY
   .apply aH (k:=false)
    .exact rfl
    .exact jy rfl hz
    .rfl
    .exact decide_eq_false (by lia)
   .exact rfl
  .apply aA
   .apply ay
    apply dQ
    .exact rfl
    .exact rfl
    .exact iz rfl (by exact GP (Nat.lt_of_lt_of_le ‹_› ‹_›)) hg
   .exact aK
 .apply aA
  .exact rfl
  .apply aA
   .apply br
    .apply bS
     apply cY
     .apply aH (k:=true)
      .exact rfl
      .exact jy rfl hz
      .rfl
      .exact A01 (by exact Kj ‹_›)
     .apply cH
      apply aH (k:=true)
      .apply dQ
       .exact rfl
       .exact rfl
       .exact iz rfl (by exact GP (Nat.lt_of_lt_of_le ‹_› ‹_›)) hg
      .exact rfl
      .rfl
      .exact beq_self_eq_true b
    .exact rfl
   .apply aA
    .exact rfl
    .apply aA
     .apply br
      .apply aH (k:=true)
       .exact rfl
       .exact rfl
       .rfl
       .exact Le j
      .apply aA
       .apply fX
        .apply ar
         .exact rfl
         .rfl
         .exact rfl
         .exact lS rfl (by simp;exact bK (D9 ‹_›)) rfl
        .rfl
       .exact rfl
     .exact aK
theorem Br{B:List Int}(hz:B.length<=1000):∀(m j N:Nat)(x y:Option W),j+m=B.length->m<N->∃x' y',iP (ao (aW (n+1)) t5) (bN (aW (n+1)) l5) N (O2 B j x y) [.list ((B.take j).map .int)]=.ok (none,O2 B B.length x' y') [.list (B.map .int)]:=by
 intro zl
 induction zl with
 |zero=>
  intro j N x y h hN
  obtain⟨N,rfl⟩:∃N',N=N'+1:=⟨N-1,by exact(Nat.sub_add_cancel ‹_›).symm⟩
  obtain rfl:j=B.length:=by lia
  refine iB x y ?_
  rw[List.take_length]
  apply gP
  apply bS
  apply cY
  .rfl
  .apply cH
   apply aH (k:=false)
   .exact rfl
   .exact jy rfl hz
   .rfl
   .exact decide_eq_false (by lia)
 |succ m ih=>
  intro j N x y h hN
  obtain⟨N,rfl⟩:∃N',N=N'+1:=⟨N-1,by lia⟩
  obtain⟨b,hb⟩:∃b,B[j]?=some b:=⟨_,List.getElem?_eq_getElem (by exact Pq ‹_›)⟩
  refine fS (ih (j+1) N (some (.d (.int b))) (some (.d (.bool (pb (j+1))))) (by exact Pp ‹_›) (by exact Nat.lt_of_succ_lt_succ ‹_›)) λ x' y' L=>iB x' y' ?_
  apply oQ
  .skip
   apply bS
   apply cY
   .rfl
   .apply cH
    apply aH (k:=true)
    .exact rfl
    .exact jy rfl hz
    .rfl
    .exact A01 (by exact Kj (Pq ‹_›))
  .exact Bs hz hb
  .exact L
theorem RK{B:List Int}(hz:B.length<=1000):aW (n+2) 5 [.d (.list []),.d (.list (B.map .int)),.d uS] s=.ok (.d (.list (B.map .int))) s:=bL (ds:=[.list [],.list (B.map .int),uS]) (by
 refine fS (Br (n:=n) hz B.length 0 4096 none none (by exact Nat.add_comm _ _) (by exact ti ‹_›)) λ x' y' L=>?_
 apply aR (f:=5) rfl rfl
 .skip
  apply aA
  .exact rfl
  .apply aA
   .assumption
   .exact rfl
 .rfl)
theorem Ep{B:List Int}(hz:B.length<=1000):aW (n+4) 11 [.d (gb []),.d (gb B)] s=.ok (.d (gb B)) s:=bL (ds:=[gb [],gb B]) (by
 apply aR (f:=11) rfl rfl
 .skip
  apply aq
  apply be
  apply aF
  .apply aE
   .apply aF
    .exact rfl
    .exact RK (n:=n+1) hz
   .exact aT
  .rfl
 .rfl)
theorem mZ:∀{rl:List (Int×Int)}{acc:List Int},(rl.foldl fW acc).length<=acc.length+2*rl.length
 |[],acc=>by simp
 |r::rl,acc=>by
  have:=mZ (rl:=rl) (acc:=fW acc r)
  have:=n5 (acc:=acc) (r:=r)
  simp only[List.foldl_cons,List.length_cons];lia
theorem uX{rl rl':List (Int×Int)}(h1:∀r∈rl,r.1<=r.2)(h2:eZ (cE rl)=some (cE rl'))(h3:rl.length<=100)(h4:rl'.length<=100):rH (cE rl) ((cX rl').map .int):=λ n s=>⟨Gj (n:=n+1) h1 h2 h3 h4,Ep (n:=n+1) (by have:=mZ (rl:=rl') (acc:=[]);simp at *;exact bK (Bf ‹_› ‹_›))⟩
theorem KJ{rl:List (Int×Int)}(h:wJ rl):rH (cE rl) ((cX rl).map .int):=uX h.1 h.2.1 h.2.2 h.2.2
theorem FK{rl:List (Int×Int)}(h:wJ rl):Bd (cE rl) ((cX rl).map .int):=by
 cases rl with
 |nil=>exact .inl ⟨rfl,rfl⟩
 |cons r rl=>exact .inr ⟨_,_,rfl,KJ h⟩
end
section
variable {n:Nat}{s t:St}{K:Nat->List W->St->R W}{r:List Int}{x m:Int}{vs:V}
noncomputable def vm:Nat->List Int->List Int
 |0,_=>[]
 |k+1,r=>av.getD (yN 10 r).toNat 0::vm k r.tail
theorem o7(hm:0<m):0<=yN m r/\yN m r<m:=by
 cases r with
 |nil=>exact⟨Int.le_refl 0,hm⟩
 |cons x r=>exact⟨Int.fmod_nonneg_of_pos _ hm,Int.fmod_lt_of_pos _ hm⟩
theorem iq{m:Int}{k:Nat}(h:m=k)(hk:k<=16):nG (.d (.rng 0 m 1))=some (cU 0 1 k):=by
 subst h
 match k,hk with
 |0,_ | 1,_ | 2,_ | 3,_ | 4,_ | 5,_ | 6,_ | 7,_ | 8,_ | 9,_ | 10,_ | 11,_ | 12,_ | 13,_ | 14,_ | 15,_ | 16,_=>rfl
 |k+17,h=>exact absurd h (by lia)
theorem gp{a e:Int}:∀{k:Nat},(cU a e k).length=k
 |0=>rfl
 |k+1=>congrArg (·+1) gp
theorem fw:∀{k:Nat}{r:List Int},(vm k r).length=k:=by
 intro zl
 induction zl with
 |zero=>
  intro _
  exact rfl
 |succ k ih=>
  intro r
  exact congrArg (·+1) ih
theorem LP{i:Int}(h:0<=i/\i<10):tq s (.d (.tup (av.map .int))) (.d (.int i))=.ok (.d (.int (av.getD i.toNat 0))) s:=by
 obtain⟨k,rfl⟩:∃k:Nat,i=k:=⟨i.toNat,by exact(Int.toNat_of_nonneg (And.left ‹_›)).symm⟩
 match k,h with
 |0,_ | 1,_ | 2,_ | 3,_ | 4,_ | 5,_ | 6,_ | 7,_ | 8,_ | 9,_=>rfl
 |k+10,h=>exact absurd h (by lia)
theorem oy{cs:List CI}{t:IT}{elt:IE}{x y:D}{ah:V}{aB s:St}(h:gM (uT vs cs) t x=some ah)(he:ao K elt ah s=.ok (.d y) aB):g9 K cs t .none elt vs x s=.ok (some y) aB :=
 (oo h).trans ((dL (a:=true) rfl).trans ((dL he).trans rfl))
theorem Ea{st:D->St->R (Option D)}(hs:∀x r,r.length<=1000->st x (tp r::t)=.ok (some (.int (av.getD (yN 10 r).toNat 0))) (tp r.tail::t)):∀(ds acc:List D)(r:List Int),r.length<=1000->c0 st ds acc (tp r::t)=.ok (acc++(vm ds.length r).map .int) (tp (r.drop ds.length)::t):=by
 intro zl
 induction zl with
 |nil=>
  intro acc r _
  simp only[show(vm ([]:List D).length r).map D.int=[]from rfl,List.append_nil];rfl
 |cons x ds ih=>
  intro acc r h
  rw[en]
  rw[hs x r h]
  refine(?_:c0 st ds (acc++[.int (av.getD (yN 10 r).toNat 0)]) (tp r.tail::t)=_)
  simp only[ih _ r.tail (by simp only[List.length_tail];exact bK (o8 ‹_›)),List.append_assoc,List.drop_tail]
  rfl
theorem E1{k:Nat}(hm:m=k)(hk:k<=16)(hz:r.length<=1000):cC (aW (n+1)) 50 [.r 0,.d (.int m)] [tp r]=.ok (.d (.list ((vm k r).map .int))) [tp (r.drop k)]:=by
 apply aR (f:=50) rfl rfl
 .skip
  apply aq
  apply be
  apply ef
  .apply cm
   .exact rfl
   .rfl
  .exact iq hm hk
  .rw[gp];exact A01 (by exact bK ‹_›)
  .refine(Ea (t:=[]) (st:=g9 (aW (n+1)) [.loc,.loc,.glb,.glb,.fre 0] (.v 1) .none (.ix (.g 16) (.call 49 (.cons (.v 4) (.cons (.k (.int 10)) .nil)))) [some (.r 0),some (.d (.int m)),none,none,none,none,none]) ?_ _ [] r hz).trans ?_
   .intro x r hz
    refine oy (ah:=[none,some (.d x),none,none,some (.r 0)]) rfl ?_
    apply dQ
    .exact rfl
    .apply aF
     .exact rfl
     .exact kE (by decide) hz
    .exact LP (o7 (by decide))
   .rw[gp]
 .rfl
theorem uW{k:Nat}(hm:m=k)(hk:k<=16)(hz:r.length<=1000):aW (n+2) 50 [.r 0,.d (.int m)] (tp r::t)=.ok (.d (.list ((vm k r).map .int))) (tp (r.drop k)::t):=by
 refine(?_:wrap (cC (aW (n+1)) 50) _ _=_)
 refine(?_:R.bind (cC (aW (n+1)) 50 [.r 0,.d (.int m)] [tp r]) _=_)
 simp only[E1 hm hk hz]
 rfl
structure Rows (α:Type) [BEq α] (e:α->D):Prop where
 inl:∀(l:List α) (a:α),wN (l.map e) (e a)=some (l.contains a)
theorem mT(a b:Int)(n:Nat):ou n (.int a) (.int b)=some (a==b):=by cases n<;>rfl
theorem A9{n:Nat}:∀(a b:List Int),kA (ou n) (a.map .int) (b.map .int)=some (a==b):=by
 intro zl
 induction zl with
 |nil=>
  intro bc
  cases bc with
  |nil=>
   exact rfl
  |cons zh1 zt1=>
   exact rfl
 |cons zh zt ih=>
  intro bc
  cases bc with
  |nil=>
   exact rfl
  |cons kI zt2=>
   refine(?_:I0 and (ou n (.int zh) (.int kI)) (kA (ou n) (zt.map .int) (zt2.map .int))=_)
   simp only[mT,ih zt2];rfl
noncomputable abbrev eF(l:List Int):D:=.tup (l.map .int)
theorem Aa(a b:List Int):ou 4 (eF a) (eF b)=some (a==b):=A9 a b
theorem tW:Rows Int .int:=⟨λ l a=>by
 induction l with
 |nil=>rfl
 |cons x l ih=>
  refine(?_:I0 or (ou 4 (.int x) (.int a)) (wN (l.map .int) (.int a))=_)
  simp only[mT,ih,List.contains_cons,show(a==x)=(x==a)from Bool.eq_iff_iff.mpr ⟨λ h=>beq_iff_eq.mpr (beq_iff_eq.mp h).symm,λ h=>beq_iff_eq.mpr (beq_iff_eq.mp h).symm⟩];rfl⟩
theorem tU:Rows (List Int) eF:=⟨λ l a=>by
 induction l with
 |nil=>rfl
 |cons x l ih=>
  refine(?_:I0 or (ou 4 (eF x) (eF a)) (wN (l.map eF) (eF a))=_)
  simp only[Aa,ih,List.contains_cons,show(a==x)=(x==a)from Bool.eq_iff_iff.mpr ⟨λ h=>beq_iff_eq.mpr (beq_iff_eq.mp h).symm,λ h=>beq_iff_eq.mpr (beq_iff_eq.mp h).symm⟩];rfl⟩
noncomputable def o4{α:Type} [BEq α] (l acc:List α):List α:=match l with
 |[]=>acc
 |x::l=>match acc.contains x with
  |true=>o4 l acc
  |false=>o4 l (acc++[x])
theorem yE{α:Type} [BEq α] {x:α}{l acc:List α}:o4 (x::l) acc=match acc.contains x with | true=>o4 l acc | false=>o4 l (acc++[x]):=rfl
noncomputable def Tj:bp:=.cons (.iff (.cmp .NotIn (.v 2) (.v 1)) (.cons (.ex (.meth (.v 1) 0 (.cons (.v 2) .nil))) .nil) .nil) .nil
theorem dl{f:D->V->St->R (Option W×V)}{x:D}{xs:List D}{ah:V}{aB s:St}{r:R (Option W×V)}(h:f x vs s=.ok (none,ah) aB)(k:eI f xs ah aB=r):eI f (x::xs) vs s=r:=(dL h).trans k
theorem yC{α:Type} [BEq α] {e:α->D}(he:Rows α e){w:Option W}:∀(l acc:List α)(y:Option W),acc.length+l.length<=1000->∃y',eI (λ x vs s=>onO (gM vs (.v 2) x) λ vs=>bN K Tj vs s) (l.map e) [w,some (.r 0),y,none] [.list (acc.map e)]=.ok (none,[w,some (.r 0),y',none]) [.list ((o4 l acc).map e)]:=by
 intro zl
 induction zl with
 |nil=>
  intro acc y _
  exact⟨y,rfl⟩
 |cons x l ih=>
  intro acc y hz
  have hc:∀k,acc.contains x=k->ao K (.cmp .NotIn (.v 2) (.v 1)) [w,some (.r 0),some (.d (e x)),none] [.list (acc.map e)]=.ok (.d (.bool !k)) [.list (acc.map e)]:=λ k hk=>by
   apply aH
   .exact rfl
   .exact rfl
   .refine(?_:(wN (acc.map e) (e x)).bind _=_)
    rw[he.inl,hk];rfl
   .rfl
  rw[yE]
  cases hk:acc.contains x with
  |true=>
   obtain⟨y',L⟩:=ih acc (some (.d (e x))) (by exact Nat.le_of_lt ‹_›)
   exact⟨y',dl (aA (ae (hc _ hk) aK) aK) L⟩
  |false=>
   obtain⟨y',L⟩:=ih (acc++[x]) (some (.d (e x))) (by rw[List.length_append];exact Ki ‹_›)
   refine⟨y',dl (aA (br (hc _ hk) (aA (fX (d:=.none) ?_ rfl) aK)) aK) L⟩
   .apply ar
    .exact rfl
    .rfl
    .exact rfl
    .exact lS rfl (by rw[List.length_map];exact bK (GQ ‹_›)) (by rw[List.map_append];rfl)
theorem pE{α:Type} [BEq α] {e:α->D}(he:Rows α e){ds:List D}{l:List α}(hs:ir ds=some (l.map e))(hz:l.length<=1000):aW (n+1) 51 [.d (.list ds)] s=.ok (.d (.list ((o4 l []).map e))) s:=bL (ds:=[.list ds]) (by
 refine aS (yC he (K:=aW n) (w:=some (.d (.list ds))) l [] none (by simpa using hz)) λ y' L=>?_
 apply aR (f:=51) rfl rfl
 .skip
  apply aA
  .rfl
  .apply aA
   .apply gD
    .apply cm
     .exact rfl
     .refine(?_:onO (ir ds) _=_)
      rw[hs];rfl
    .rfl
    .exact L
   .rfl
 .rfl)
end
section
variable {n:Nat}{s t:St}{S l:List Int}{c x:Int}
noncomputable def sub:Nat->List Int->List (List Int)
 |0,_=>[[]]
 |k+1,l=>match l with
  |[]=>[[]]
  |x::r=>sub (k+1) r++(sub k r).map (x::·)
noncomputable def lM:List (List Int):=sub 3 [32,45,92,93,97,98,123,233,128512,1114111]
noncomputable def srt(l:List Int):List Int:=o4 (cN (λ a b=>decide (a<b)) l) []
theorem CM:(lM.contains (srt [])&&av.all λ a=>lM.contains (srt [a])&&av.all λ b=>lM.contains (srt [a,b])&&av.all λ c=>lM.contains (srt [a,b,c]))=true:=by decide +kernel
theorem CL(h:l.length<=3)(hs:∀c∈l,c∈av):srt l∈lM:=by
 have q:=CM
 simp only[Bool.and_eq_true]at q
 match l,h with
 |[],_=>exact List.contains_iff_mem.mp q.1
 |[a],_=>
  have q:=A06 q.2 a (hs a (by simp))
  simp only[Bool.and_eq_true]at q
  exact List.contains_iff_mem.mp q.1
 |[a,b],_=>
  have q:=A06 q.2 a (hs a (by simp))
  simp only[Bool.and_eq_true]at q
  have q:=A06 q.2 b (hs b (by simp))
  simp only[Bool.and_eq_true]at q
  exact List.contains_iff_mem.mp q.1
 |[a,b,c],_=>
  have q:=A06 q.2 a (hs a (by simp))
  simp only[Bool.and_eq_true]at q
  have q:=A06 q.2 b (hs b (by simp))
  simp only[Bool.and_eq_true]at q
  exact List.contains_iff_mem.mp (A06 q.2 c (hs c (by simp)))
 |_::_::_::_::_,h=>exact absurd h (by simp)
noncomputable def T2(l:List Int)(x:Int):Nat:=(l.takeWhile λ a=>decide (a<=x)).length
noncomputable def Jn(l:List Int)(x:Int)(k:Nat):Bool:=decide (k<=l.length)&&((l.take k).all (λ a=>decide (a<=x))&&(l.drop k).all λ a=>decide (x<a))
theorem wm(h:Jn l x k=true):f6 l x k:=by
 simp only[Jn,Bool.and_eq_true,Bool.and_eq_true]at h
 refine eN (A00 h.1) (λ i a hi hk=>?_) (λ i a hi hk=>?_)
 .exact A00 (A06 h.2.1 a (List.mem_of_getElem? (i:=i) (by rw[List.getElem?_take,if_pos hk];exact hi)))
 .exact A00 (A06 h.2.2 a (List.mem_of_getElem? (i:=i-k) (by rw[List.getElem?_drop,show k+(i-k)=i by exact Nat.add_sub_cancel' ‹_›];exact hi)))
noncomputable def LN(acc:List (Int×Int))(c:Int):List (Int×Int):=match acc with
 |[]=>[(c,c)]
 |(a,b)::r=>match b==c-1 with
  |true=>(a,c)::r
  |false=>(c,c)::(a,b)::r
noncomputable def fB(S:List Int):List (Int×Int):=(S.foldl LN []).reverse
noncomputable abbrev iI(S:List Int):List (Int×Int):=S.map λ c=>(c,c)
noncomputable def flat(rl:List (Int×Int)):List Int:=rl.flatMap λ r=>[r.1,r.2+1]
noncomputable def Ob(rl:List (Int×Int)):Bool:=rl.all (λ r=>decide (r.1<=r.2))&&(cN Ic (rl.map λ r=>[r.1,r.2])==rl.map (λ r=>[r.1,r.2])&&(decide (rl.length<=3)&&lg (rl.map λ r=>[r.1,r.2])))
theorem GT(h:Ob rl=true):wJ rl:=by
 simp only[Ob,Bool.and_eq_true,Bool.and_eq_true,Bool.and_eq_true]at h
 have h3:=A00 h.2.2.1
 refine eN (λ r hr=>A00 (A06 h.1 r hr)) ?_ (by exact bK ‹_›)
 have e:cE rl=fA (rl.map λ r=>[r.1,r.2]):=by simp only[fA,List.map_map];rfl
 simp only[e,eZ,kB]
 refine(?_:gF _ (some ((cN Ic (rl.map λ r=>[r.1,r.2])).map λ x=>D.tup (x.map .int)))=_)
 rw[beq_iff_eq.mp h.2.1]
 have:(decide ((rl.map λ r=>[r.1,r.2]).length<=3)&&((rl.map λ r=>[r.1,r.2]).all (λ x=>!x.isEmpty)&&lg (rl.map λ r=>[r.1,r.2])))=true:=by
  simp only[h.2.2.2,Bool.and_true,Bool.and_eq_true]
  refine⟨A01 (by rw[List.length_map];exact h3),List.all_eq_true.mpr λ x hx=>?_⟩
  refine aD (A10 hx) λ r _ dz=>?_;subst dz
  rfl
 rw[this];rfl
noncomputable def PP(r:Int×Int):Bool:=av.contains r.1&&(r.2==r.1||(r.2==r.1+1&&av.contains r.2))
theorem LE(h:PP r=true):Fd r:=by
 simp only[PP,Bool.and_eq_true,Bool.or_eq_true,Bool.and_eq_true]at h
 exact⟨List.contains_iff_mem.mp h.1,h.2.imp (λ h=>beq_iff_eq.mp h) λ h=>⟨beq_iff_eq.mp h.1,List.contains_iff_mem.mp h.2⟩⟩
noncomputable def T7(S:List Int):Bool:=decide (S.length<=3)&&(S.all (λ c=>av.contains c)&&(Ob (iI S)&&(Ob (fB S)&&(cX (iI S)==cX (fB S)&&(flat (fB S)==cX (fB S)&&((fB S).all PP
 && ((((fB S).flatMap λ r=>rJ r.1 r.2).take 1==[58])==false&&((((fB S).flatMap λ r=>rJ r.1 r.2)==wrs S)&&av.all λ c=>let k:=T2 (cX (iI S)) c;Jn (cX (iI S)) c k&&((((k:Int)-1).fmod 2==0)==S.contains c)))))))))
theorem D6:lM.all T7=true:=by decide +kernel
structure tL (S:List Int):Prop where
 len:S.length<=3
 sg:∀c∈S,c∈av
 ksd:wJ (iI S)
 ks:wJ (fB S)
 rl:(fB S).length<=3
 bd:cX (iI S)=cX (fB S)
 fl:flat (fB S)=cX (fB S)
 wr:∀r∈fB S,Fd r
 h58:(((fB S).flatMap λ r=>rJ r.1 r.2).take 1==[58])=false
 wrs:((fB S).flatMap λ r=>rJ r.1 r.2)=wrs S
 cut:∀c∈av,∃k,f6 (cX (iI S)) c k/\(((k:Int)-1).fmod 2==0)=S.contains c
theorem yJ(h:S∈lM):tL S:=by
 have q:=A06 D6 S h
 refine aj (A07 q) λ q1 q=>aj (A07 q) λ q2 q=>aj (A07 q) λ q3 q=>aj (A07 q) λ q4 q=>aj (A07 q) λ q5 q=>aj (A07 q) λ q6 q=>aj (A07 q) λ q7 q=>aj (A07 q) λ q8 q=>aj (A07 q) λ q9 q=>⟨A00 q1,λ c hc=>List.contains_iff_mem.mp (A06 q2 c hc),GT q3,GT q4,A00 (A07 (A07 (A07 q4).2).2).1,beq_iff_eq.mp q5,beq_iff_eq.mp q6,λ r hr=>LE (A06 q7 r hr),beq_iff_eq.mp q8,beq_iff_eq.mp q9,
  λ c hc=>⟨_,wm (A07 (A06 q c hc)).1,beq_iff_eq.mp (A07 (A06 q c hc)).2⟩⟩
end
section
variable {n:Nat}{s t:St}{S l:List Int}{c x:Int}{K:Nat->List W->St->R W}
noncomputable def Ru(r:R W):Option (List D):=match r with
 |.ok w s=>gF s.isEmpty ((fV w).bind lD)
 |_=>none
theorem IZ(h:Ru r=some ds):r=.ok (.d (.list ds)) []:=by
 cases r with
 |ok w s=>
  cases s with
  |nil=>
   cases w with
   |d x=>cases x<;>first | ((refine sj h λ zq=>?_;subst zq);rfl) | cases h
   |_=>exact bJ h
  |cons _ _=>exact bJ h
 |_=>exact bJ h
theorem uZ{α β:Type}{o:Option α}{f:α->Option β}{y:β}(h:o.bind f=some y):∃x,o=some x/\f x=some y:=by
 cases o with
 |none=>exact bJ h
 |some x=>exact ad x rfl h
theorem HX{l:List D}(h:tD d=some l):d=.tup l:=by
 cases d<;>first | ((refine sj h λ zq=>?_;subst zq);rfl) | cases h
theorem JI(h:iD d=some i):d=.int i:=by
 cases d<;>first | ((refine sj h λ zq=>?_;subst zq);rfl) | cases h
theorem rC{α:Type}{f:D->Option α}{e:α->D}(hf:∀d x,f d=some x->d=e x):∀{ds:List D}{l:List α},rD f ds=some l->ds=l.map e:=by
 intro zl
 induction zl with
 |nil=>
  intro l h
  (refine sj h λ zq=>?_;subst zq);rfl
 |cons d ds ih=>
  intro l h
  refine aD (uZ h) λ y h1 h=>aD (uZ h) λ l' h2 h=>?_
  (refine sj h λ zq=>?_;subst zq)
  simp only[hf _ _ h1,ih h2];rfl
theorem vp{ds:List D}{l:List (List Int)}(h:jQ ds=some l):ds=fA l:=rC (e:=λ x=>.tup (x.map .int)) (λ d x h=>by
 refine aD (uZ h) λ y h1 h2=>?_
 simp only[HX h1,rC (e:=.int) (λ d x h=>JI h) h2]) h
theorem jW(h:rl.length<=3):aW (n+1) 10 [.d (gb (flat rl))] s=.ok (.d (.list (cE rl))) s:=bL (ds:=[gb (flat rl)]) (by
 have e:∀b:Int,b+1-1=b:=λ b=>Int.add_sub_cancel b 1
 match rl,h with
 |[],_=>rfl
 |[(a,b)],_=>exact(by kernel_rfl:cC (aW n) 10 [.d (gb [a,b+1])] []=.ok (.d (.list [.tup [.int a,.int (b+1-1)]])) []).trans (by rw[e];rfl)
 |[(a,b),(a',b')],_=>exact(by kernel_rfl:cC (aW n) 10 [.d (gb [a,b+1,a',b'+1])] []=.ok (.d (.list [.tup [.int a,.int (b+1-1)],.tup [.int a',.int (b'+1-1)]])) []).trans (by rw[e,e];rfl)
 |[(a,b),(a',b'),(OC,Nt)],_=>exact(by kernel_rfl:cC (aW n) 10 [.d (gb [a,b+1,a',b'+1,OC,Nt+1])] []=.ok (.d (.list [.tup [.int a,.int (b+1-1)],.tup [.int a',.int (b'+1-1)],.tup [.int OC,.int (Nt+1-1)]])) []).trans (by rw[e,e,e];rfl)
 |_::_::_::_::_,h=>exact absurd h (by simp))
theorem oJ(h:tL S):aW (n+1) 10 [.d (gb (cX (fB S)))] s=.ok (.d (.list (cE (fB S)))) s:=by
 rw[<-h.fl]
 exact jW h.rl
theorem Ih:(lM.all λ S=>((Ru (cC K 52 [.d (.list (S.map .int))] [])).bind jQ)==some ((fB S).map λ r=>[r.1,r.2]))=true:=by kernel_rfl
theorem KB(h:S∈lM):aW (n+1) 52 [.d (.list (S.map .int))] s=.ok (.d (.list (cE (fB S)))) s:=bL (ds:=[.list (S.map .int)]) (by
 refine aD (uZ (beq_iff_eq.mp (A06 (Ih (K:=aW n)) S h))) λ ds h1 h2=>(IZ h1).trans ?_
 simp only[vp h2,fA,List.map_map];rfl)
theorem BA(h:tL S)(hc:c∈av):aW (n+2) 9 [.d (gb (cX (iI S))),.d (.int c)] s=.ok (.d (.bool (S.contains c))) s:=by
 refine aD (h.cut c hc) λ k h1 h2=>?_
 simp only[<-h2]
 refine Np ?_ h1
 have:=mZ (rl:=iI S) (acc:=[])
 have:=h.len
 simp at *;exact bK (Bf ‹_› ‹_›)
theorem Ng(h:tL S):aW (n+4) 8 [.d (.list (cE (iI S)))] s=.ok (.d (gb (cX (iI S)))) s:=Ni h.ksd
theorem Gi(h:tL S):aW (n+4) 8 [.d (.list (cE (fB S)))] s=.ok (.d (gb (cX (iI S)))) s:=by rw[h.bd];exact Ni h.ks
end
section
variable {n:Nat}{s t:St}{S row:List Int}{ss:List (List Int)}{c x:Int}{K:Nat->List W->St->R W}
noncomputable def ht(S:List Int)(ss:List (List Int)):List Int->Bool
 |[c]=>S.contains c
 |row=>ss.contains row
noncomputable def nK(S:List Int)(ss:List (List Int)):List (List Int):=S.map (λ c=>[c])++ ss
theorem pd(S:List Int)(row:List Int)(h:row.length≠1):(S.map λ c=>[c]).contains row=false:=by
 induction S with
 |nil=>rfl
 |cons a S ih=>
  simp only[List.map_cons,List.contains_cons,ih,Bool.or_false]
  exact A05 λ e=>h (by rw[e];rfl)
theorem xQ(S:List Int)(c:Int):(S.map λ c=>[c]).contains [c]=S.contains c:=by
 induction S with
 |nil=>rfl
 |cons a S ih=>
  simp only[List.map_cons,List.contains_cons,ih,List.contains_cons]
  congr 1
  exact Bool.eq_iff_iff.mpr ⟨λ h=>beq_iff_eq.mpr (List.cons.inj (beq_iff_eq.mp h)).1,λ h=>beq_iff_eq.mpr (by rw[beq_iff_eq.mp h])⟩
theorem D8(h:∀l∈ss,l.length≠1)(c:Int):ss.contains [c]=false:=by
 rw[List.contains_eq_any_beq]
 exact List.any_eq_false.mpr λ l hl q=>h l hl (by rw[<-beq_iff_eq.mp q];rfl)
theorem Mb(hs:∀l∈ss,l.length≠1)(row:List Int):ht S ss row=(nK S ss).contains row:=by
 have e:(nK S ss).contains row=((S.map λ c=>[c]).contains row||ss.contains row):=by
  simp only[nK,List.contains_eq_any_beq,List.contains_eq_any_beq,List.contains_eq_any_beq,List.any_append]
 rw[e]
 match row with
 |[]=>rw[pd _ _ (by decide)];rfl
 |[c]=>simp only[xQ,D8 hs,Bool.or_false];rfl
 |a::b::r=>rw[pd _ _ (by simp)];rfl
theorem RO(h:tL S)(hr:∀c∈row,c∈av)(hz:row.length<=100):aW (n+3) 19 [.d (cS ((cX (iI S)).map .int) ss),.d (.list (row.map .int))] s=.ok (.d (.bool (ht S ss row))) s:=bL (ds:=[cS ((cX (iI S)).map .int) ss,.list (row.map .int)]) (by
 have go:∀k,((row.length:Int)=1<->k=true)->ao (aW (n+2)) (.cmp .Eq (.bi .len (.cons (.v 1) .nil)) (.k (.int 1))) [some (.d (cS ((cX (iI S)).map .int) ss)),some (.d (.list (row.map .int))),none,none] []=.ok (.d (.bool k)) []:=λ k hk=>by
  apply aH
  .apply cm
   .exact rfl
   .exact eJ (Ij row) (by exact bK ‹_›)
  .exact dg
  .exact mT _ _ _
  .exact Bool.eq_iff_iff.mpr (beq_iff_eq.trans hk)
 have no:row.length≠1->cC (aW (n+2)) 19 [.d (cS ((cX (iI S)).map .int) ss),.d (.list (row.map .int))] []=.ok (.d (.bool (ss.contains row))) []:=λ h1=>by
  apply aR (f:=19) rfl rfl
  .unfold R4
   apply aA
   .apply ae
    .exact go false ⟨λ q=>absurd (by exact tj ‹_›) h1,λ q=>dJ q⟩
    .exact aK
   .apply aq
    apply be
    apply aH
    .apply cm
     .exact rfl
     .exact iy (by rw[List.length_map];exact bK ‹_›)
    .exact rfl
    .exact tU.inl ss row
    .rfl
  .rfl
 match row,hr,hz,go,no with
 |[],_,_,_,no=>exact no (by decide)
 |[c],hr,_,go,_=>
  apply aR (f:=19) rfl rfl
  .unfold R4
   apply aq
   apply br
   .exact go true ⟨λ _=>rfl,λ _=>rfl⟩
   .apply aq
    apply be
    apply ar
    .exact rfl
    .rfl
    .apply aE
     .exact rfl
     .exact aT
    .exact BA (n:=n) h (hr c (.head _))
  .rfl
 |a::b::r,_,_,_,no=>exact no (by simp))
end
section
variable {n:Nat}{s t aB:St}{S text:List Int}{ss:List (List Int)}{c x:Int}{K:Nat->List W->St->R W}{vs:V}{a:Nat}
def gB(P:Nat->Prop)(r:Nat):Prop:=(r=0\/P r)/\∀m,P m->m<=r
theorem BJ(h:gB P r)(h':gB P r'):r=r':=by
 have a:r<=r':=h.1.elim (λ e=>by exact bK (Nat.le_of_eq ‹_›)) (h'.2 r)
 have b:r'<=r:=h'.1.elim (λ e=>by exact bK (Nat.le_of_eq ‹_›)) (h.2 r')
 exact Nat.le_antisymm ‹_› ‹_›
theorem gB.iff(h:gB P r)(e:∀m,P m<->P' m):gB P' r:=⟨h.1.imp id (e r).mp,λ m q=>h.2 m ((e m).mpr q)⟩
theorem Lh{a b:Int}(hz:ds.length<=16777216)(h:pick ds (some a) (some b) none=Bh):Fw false s (.d (.list ds)) (.d (.int a)) (.d (.int b)) (.d .none)=.ok (.d (.list Bh)) s:=by
 subst h
 exact bC (dG rfl (A01 hz))
theorem xr(l:List Int)(a k:Nat):pick (l.map D.int) (some (a:Int)) (some ((a:Int)+ (k:Int))) none=((l.drop a).take k).map .int:=by
 rw[show((a:Int)+ (k:Int))=((a+k:Nat):Int) by lia,pw,List.drop_take,<-List.map_drop,<-List.map_take,Nat.add_sub_cancel_left]
theorem A3{k:Nat}(h1:cW vs 1=some (.d (.list (text.map .int))))(h2:cW vs 2=some (.d (.int a)))(he:ao K e vs s=.ok (.d (.int k)) s)(hz:text.length<=100):ao K (.bi .tuple (.cons (.sl false (.v 1) (.some (.v 2)) (.some (.bin .Add (.v 2) e)) .none) .nil)) vs s=.ok (.d (eF ((text.drop a).take k))) s:=by
 apply cm
 .apply aE
  .apply ke
   .exact d9 h1
   .exact lW (d9 h2)
   .exact lW (bZ (d9 h2) he rfl)
   .exact cP
   .exact Lh (by rw[List.length_map];exact bK ‹_›) (xr text a k)
  .exact aT
 .exact iy (by simp only[List.length_map,List.length_take,List.length_drop];exact bK (D9 (o8 ‹_›)))
noncomputable def ET(S u:List Int):Nat:=match u with
 |c::_=>(S.contains c).toNat
 |[]=>0
theorem uM(h:tL S)(ht:∀c∈text,c∈av)(ho:ao (aW (n+2)) o vs s=.ok (.d (gb (cX (iI S)))) s)(h1:cW vs 1=some (.d (.list (text.map .int))))(h2:cW vs 2=some (.d (.int a)))(hz:text.length<=100) :
  ao (aW (n+2)) (.cond (.boo true (.cons (.cmp .Lt (.v 2) (.bi .len (.cons (.v 1) .nil))) (.cons (.meth o 5 (.cons (.ix (.v 1) (.v 2)) .nil)) .nil))) (.k (.int 1)) (.k (.int 0))) vs s=.ok (.d (.int (ET S (text.drop a)))) s:=by
 have rU:∀k,(a<text.length<->k=true)->ao (aW (n+2)) (.cmp .Lt (.v 2) (.bi .len (.cons (.v 1) .nil))) vs s=.ok (.d (.bool k)) s:=λ k hk=>by
  apply aH
  .exact d9 h2
  .exact jy h1 (by exact bK ‹_›)
  .rfl
  .exact Bool.eq_iff_iff.mpr (decide_eq_true_iff.trans ⟨λ q=>hk.mp (by exact Rz ‹_›),λ q=>by have:=hk.mpr q;exact Kj ‹_›⟩)
 by_cases q:a<text.length
 .obtain⟨c,hc⟩:∃c,text[a]?=some c:=⟨_,List.getElem?_eq_getElem q⟩
  have e:text.drop a=c::text.drop (a+1):=by
   simp only[List.drop_eq_getElem_cons q];rw[List.getElem?_eq_getElem q]at hc;(refine sj hc λ zq=>?_;subst zq);rfl
  have hh:ao (aW (n+2)) (.meth o 5 (.cons (.ix (.v 1) (.v 2)) .nil)) vs s=.ok (.d (.bool (S.contains c))) s:=by
   apply ar
   .exact ho
   .rfl
   .apply aE
    .exact dQ (d9 h1) (d9 h2) (iz rfl (by exact GP (Nat.lt_of_lt_of_le ‹_› ‹_›)) (by simp only[List.getElem?_map,hc];rfl))
    .exact aT
   .exact BA (n:=n) h (ht c (List.mem_of_getElem? hc))
  rw[e]
  refine(?_:_=R.ok (W.d (.int ((S.contains c).toNat:Nat))) s)
  cases k:S.contains c with
  |true=>rw[k]at hh;exact d0 (bS (cY (rU true ⟨λ _=>rfl,λ _=>q⟩) (cH hh))) dg
  |false=>rw[k]at hh;exact dK (bS (cY (rU true ⟨λ _=>rfl,λ _=>q⟩) (cH hh))) dg
 .rw[List.drop_eq_nil_of_le (by exact Nat.not_lt.mp ‹_›)]
  exact dK (bS (d7 (rU false ⟨λ z=>absurd z q,λ z=>dJ z⟩) rfl)) dg
theorem s4(S u:List Int):gB (λ m=>m=1/\∃c r,u=c::r/\c∈S) (ET S u):=by
 cases u with
 |nil=>exact⟨.inl rfl,λ m ⟨_,c,r,e,_⟩=>nomatch e⟩
 |cons c r=>
  refine(?_:gB _ (S.contains c).toNat)
  cases k:S.contains c with
  |true=>exact⟨.inr ⟨rfl,c,r,rfl,List.contains_iff_mem.mp k⟩,λ m q=>by rw[q.1];exact Nat.le_refl _⟩
  |false=>exact⟨.inl rfl,λ m ⟨_,c',r',e,hc⟩=>by(injection e with zq;subst zq);rw[List.contains_iff_mem.mpr hc]at k;exact tm k⟩
noncomputable def QN:bp:=.cons (.iff (.boo true (.cons (.cmp .Gt (.bi .len (.cons (.v 4) .nil)) (.v 3)) (.cons (.cmp .Eq (.bi .tuple (.cons (.sl false (.v 1) (.some (.v 2)) (.some (.bin .Add (.v 2) (.bi .len (.cons (.v 4) .nil)))) (.none)) .nil)) (.v 4)) .nil))) (.cons (.asg 3 (.bi .len (.cons (.v 4) .nil))) .nil) .nil) .nil
noncomputable abbrev oR(o:D)(text:List Int)(a f:Nat)(y:Option W):V:=[some (.d o),some (.d (.list (text.map .int))),some (.d (.int a)),some (.d (.int f)),y,none,none,none,none]
theorem Dm(hz:text.length<=100):∀(ls:List (List Int))(f:Nat)(P:Nat->Prop)(y:Option W),(∀l∈ls,l.length<=100)->gB P f ->
  ∃r y',eI (λ x vs s=>onO (gM vs (.v 4) x) λ vs=>bN K QN vs s) (fA ls) (oR o text a f y) []=.ok (none,oR o text a r y') []/\gB (λ m=>P m\/(1<=m/\∃l∈ls,l.length=m/\(text.drop a).take m=l)) r:=by
 intro zl
 induction zl with
 |nil=>
  intro f P y _ h
  exact⟨f,y,rfl,h.iff λ m=>⟨.inl,λ q=>q.elim id λ⟨_,_,q,_⟩=>cu q⟩⟩
 |cons l ls ih=>
  intro f P y hl h
  have Qq:=hl l (.head _)
  have len:ao K (.bi .len (.cons (.v 4) .nil)) (oR o text a f (some (.d (eF l)))) []=.ok (.d (.int l.length)) []:=cm rfl (eJ (by rw[List.length_map]:some (l.map D.int).length=some l.length) (by exact bK ‹_›))
  have t1:∀k,(f<l.length<->k=true)->ao K (.cmp .Gt (.bi .len (.cons (.v 4) .nil)) (.v 3)) (oR o text a f (some (.d (eF l)))) []=.ok (.d (.bool k)) []:=λ k hk=>by
   apply aH
   .exact len
   .exact rfl
   .rfl
   .exact Bool.eq_iff_iff.mpr (decide_eq_true_iff.trans ⟨λ q=>hk.mp (by exact Rz ‹_›),λ q=>by have:=hk.mpr q;exact Kj ‹_›⟩)
  have t2:ao K (.cmp .Eq (.bi .tuple (.cons (.sl false (.v 1) (.some (.v 2)) (.some (.bin .Add (.v 2) (.bi .len (.cons (.v 4) .nil)))) (.none)) .nil)) (.v 4)) (oR o text a f (some (.d (eF l)))) []=.ok (.d (.bool ((text.drop a).take l.length==l))) []:=by
   apply aH
   .exact A3 rfl rfl len hz
   .exact rfl
   .exact Aa _ _
   .rfl
  have no:gB P f->(f<l.length->((text.drop a).take l.length==l)=false)->gB (λ m=>P m\/(1<=m/\l.length=m/\(text.drop a).take m=l)) f:=λ h q=>⟨h.1.imp id .inl,λ m z=>z.elim (h.2 m) λ⟨_,z1,z2⟩=>by
   subst z1
   rcases Nat.lt_or_ge f l.length with w|w
   .exact absurd z2 (beq_eq_false_iff_ne.mp (q w))
   .exact w⟩
  have next:∀{f':Nat},bN K QN (oR o text a f (some (.d (eF l)))) []=.ok (none,oR o text a f' (some (.d (eF l)))) []->gB (λ m=>P m\/(1<=m/\l.length=m/\(text.drop a).take m=l)) f' ->
    ∃r y',eI (λ x vs s=>onO (gM vs (.v 4) x) λ vs=>bN K QN vs s) (fA (l::ls)) (oR o text a f y) []=.ok (none,oR o text a r y') []/\gB (λ m=>P m\/(1<=m/\∃l'∈l::ls,l'.length=m/\(text.drop a).take m=l')) r:=λ{f'} e b=>by
   obtain⟨r,y',L,B⟩:=ih f' _ (some (.d (eF l))) (λ l JO=>hl l (.tail _ JO)) b
   refine gJ r y' (dl e L) (B.iff λ m=>⟨?_,?_⟩)
   .rintro((q|⟨q1,q2,q3⟩)|⟨q1,l',q2,q3⟩)
    .exact .inl q
    .exact .inr ⟨q1,l,.head _,q2,q3⟩
    .exact .inr ⟨q1,l',.tail _ q2,q3⟩
   .rintro(q|⟨q1,l',q2,q3,q4⟩)
    .exact .inl (.inl q)
    .rcases A03 q2 with rfl|q2
     .exact .inl (.inr ⟨q1,q3,q4⟩)
     .exact .inr ⟨q1,l',q2,q3,q4⟩
  by_cases q:f<l.length
  .cases k:((text.drop a).take l.length==l)with
   |true=>
    rw[k]at t2
    refine next (f':=l.length) (aA (br (bS (cY (t1 true ⟨λ _=>rfl,λ _=>q⟩) (cH t2))) (aA (ay len) aK)) aK) ⟨.inr (.inr ⟨by exact O8 ‹_›,rfl,beq_iff_eq.mp k⟩),λ m z=>z.elim (λ z=>by have:=h.2 m z;exact Nat.le_trans ‹_› (Nat.le_of_lt ‹_›)) λ⟨_,z1,_⟩=>by exact Nat.le_of_eq (Eq.symm ‹_›)⟩
   |false=>
    rw[k]at t2
    exact next (aA (ae (bS (cY (t1 true ⟨λ _=>rfl,λ _=>q⟩) (cH t2))) aK) aK) (no h λ _=>k)
  .exact next (aA (ae (bS (d7 (t1 false ⟨λ z=>absurd z q,λ z=>dJ z⟩) rfl)) aK) aK) (no h λ z=>absurd z q)
end
section
variable {n:Nat}{s t aB:St}{S text u:List Int}{ss M:List (List Int)}{c x:Int}{K:Nat->List W->St->R W}{vs:V}{a:Nat}
theorem No(h:tL S)(ht:∀c∈text,c∈av)(hz:text.length<=100):aW (n+3) 48 [.d (gb (cX (iI S))),.d (.list (text.map .int)),.d (.int a)] s=.ok (.d (.int (ET S (text.drop a)))) s:=bL (ds:=[gb (cX (iI S)),.list (text.map .int),.int a]) (by
 apply aR (f:=48) rfl rfl
 .skip
  apply aq
  apply br
  .exact rfl
  .exact aq (be (uM (n:=n) h ht rfl rfl rfl hz))
 .rfl)
theorem Nn(h:tL S)(ht:∀c∈text,c∈av)(hz:text.length<=100)(hs:∀l∈ss,l.length<=100):∃r:Nat,(∀s,aW (n+3) 48 [.d (cS ((cX (iI S)).map .int) ss),.d (.list (text.map .int)),.d (.int a)] s=.ok (.d (.int r)) s)/\
  gB (λ m=>(m=1/\∃c r,text.drop a=c::r/\c∈S)\/(1<=m/\∃l∈ss,l.length=m/\(text.drop a).take m=l)) r:=by
 obtain⟨r,y',L,B⟩:=Dm (K:=aW (n+2)) (o:=cS ((cX (iI S)).map .int) ss) hz ss _ _ none hs (s4 S (text.drop a))
 refine ad r (λ s=>bL (ds:=[cS ((cX (iI S)).map .int) ss,.list (text.map .int),.int a]) ?_) B
 apply aR (f:=48) rfl rfl
 .skip
  apply aA
  .exact rfl
  .apply aA
   .exact ay (uM (n:=n) h ht rfl rfl rfl hz)
   .apply aA
    .assumption
    .exact rfl
 .rfl
theorem CQ{b:Int}{k:Nat}(h:b=k+1)(hk:k<=16):nG (.d (.rng 1 b 1))=some (cU 1 1 k):=by
 subst h
 match k,hk with
 |0,_ | 1,_ | 2,_ | 3,_ | 4,_ | 5,_ | 6,_ | 7,_ | 8,_ | 9,_ | 10,_ | 11,_ | 12,_ | 13,_ | 14,_ | 15,_ | 16,_=>rfl
 |k+17,h=>exact absurd h (by lia)
noncomputable def QM:bp:=.cons (.iff (.cmp .In (.bi .tuple (.cons (.sl false (.v 1) (.some (.v 2)) (.some (.bin .Add (.v 2) (.v 4))) (.none)) .nil)) (.v 0)) (.cons (.asg 3 (.v 4)) .nil) .nil) .nil
noncomputable abbrev rQ(M:List (List Int))(text:List Int)(a f:Nat)(y:Option W):V:=[some (.d (.list (M.map eF))),some (.d (.list (text.map .int))),some (.d (.int a)),some (.d (.int f)),y,none,none,none]
theorem yq(hz:text.length<=100):∀(k j f:Nat)(y:Option W),gB (λ m=>1<=m/\m<=j/\M.contains ((text.drop a).take m)=true) f ->
  ∃r y',eI (λ x vs s=>onO (gM vs (.v 4) x) λ vs=>bN K QM vs s) (cU ((j:Int)+ 1) 1 k) (rQ M text a f y) []=.ok (none,rQ M text a r y') []/\gB (λ m=>1<=m/\m<=j+k/\M.contains ((text.drop a).take m)=true) r:=by
 intro zl
 induction zl with
 |zero=>
  intro j f y h
  exact gJ f y rfl h
 |succ k ih=>
  intro j f y h
  have t1:ao K (.cmp .In (.bi .tuple (.cons (.sl false (.v 1) (.some (.v 2)) (.some (.bin .Add (.v 2) (.v 4))) (.none)) .nil)) (.v 0)) (rQ M text a f (some (.d (.int ((j:Int)+ 1))))) []=.ok (.d (.bool (M.contains ((text.drop a).take (j+1))))) []:=by
   apply aH
   .exact A3 (k:=j+1) rfl rfl rfl hz
   .exact rfl
   .exact tU.inl M _
   .rfl
  have next:∀{f':Nat},bN K QM (rQ M text a f (some (.d (.int ((j:Int)+ 1))))) []=.ok (none,rQ M text a f' (some (.d (.int ((j:Int)+ 1))))) []->gB (λ m=>1<=m/\m<=j+1/\M.contains ((text.drop a).take m)=true) f' ->
    ∃r y',eI (λ x vs s=>onO (gM vs (.v 4) x) λ vs=>bN K QM vs s) (cU ((j:Int)+ 1) 1 (k+1)) (rQ M text a f y) []=.ok (none,rQ M text a r y') []/\gB (λ m=>1<=m/\m<=j+(k+1)/\M.contains ((text.drop a).take m)=true) r:=λ{f'} e b=>by
   refine dP (ih (j+1) f' (some (.d (.int ((j:Int)+ 1)))) b) λ r y' L B=>gJ r y' (dl e L) (B.iff λ m=>by rw[show j+1+k=j+(k+1) by exact Nat.add_right_comm _ _ _])
  cases q:M.contains ((text.drop a).take (j+1))with
  |true=>
   rw[q]at t1
   exact next (f':=j+1) (aA (br t1 (aA rfl aK)) aK) ⟨.inr ⟨by exact Nat.le_add_left _ _,Nat.le_refl _,q⟩,λ m z=>z.2.1⟩
  |false=>
   rw[q]at t1
   refine next (aA (ae t1 aK) aK) (h.iff λ m=>⟨λ z=>⟨z.1,by lia,z.2.2⟩,λ z=>⟨z.1,?_,z.2.2⟩⟩)
   rcases Nat.lt_or_ge j m with w|w
   .obtain rfl:m=j+1:=by lia
    rw[q]at z;exact dJ z.2.2
   .exact w
theorem Nm(hz:text.length<=16)(ha:a<=text.length):∃r:Nat,(∀s,aW (n+1) 53 [.d (.list (M.map eF)),.d (.list (text.map .int)),.d (.int a)] s=.ok (.d (.int r)) s)/\gB (λ m=>1<=m/\m<=text.length-a/\M.contains ((text.drop a).take m)=true) r:=by
 refine dP (yq (K:=aW n) (M:=M) (text:=text) (a:=a) (by exact bK ‹_›) (text.length-a) 0 0 none ⟨.inl rfl,λ m z=>by exact And.left (And.right ‹_›)⟩) λ r y' L B=>ad r (λ s=>bL (ds:=[.list (M.map eF),.list (text.map .int),.int a]) ?_) (B.iff λ m=>by rw[Nat.zero_add])
 apply aR (f:=53) rfl rfl
 .skip
  apply aA
  .exact rfl
  .apply aA
   .apply gD
    .apply cm
     .apply aE dg
      apply aE
      .exact bZ (bZ (jy rfl (by exact bK ‹_›)) rfl rfl) dg rfl
      .exact aT
     .rfl
    .exact CQ (k:=text.length-a) (by lia) (by exact bK (o8 ‹_›))
    .exact L
   .exact rfl
 .rfl
theorem wA(hs:∀l∈ss,l.length≠1)(m:Nat):((m=1/\∃c r,u=c::r/\c∈S)\/(1<=m/\∃l∈ss,l.length=m/\u.take m=l))<->(1<=m/\m<=u.length/\(nK S ss).contains (u.take m)=true):=by
 constructor
 .rintro(⟨rfl,c,r,rfl,hc⟩|⟨h1,l,hl,h2,h3⟩)
  .exact eN (Nat.le_refl _) (by simp) (List.contains_iff_mem.mpr (List.mem_append.mpr (.inl (A11 ⟨c,hc,by simp⟩))))
  .refine eN h1 ?_ (List.contains_iff_mem.mpr (List.mem_append.mpr (.inr (h3▸hl))))
   have:=congrArg List.length h3
   rw[List.length_take]at this;lia
 .rintro⟨h1,h2,h3⟩
  have len:(u.take m).length=m:=by rw[List.length_take];exact Nat.min_eq_left ‹_›
  rcases A09 (List.contains_iff_mem.mp h3)with q|q
  .refine aD (A10 q) λ c hc e=>?_
   have:m=1:=by rw[<-e]at len;exact len.symm
   subst this
   cases u with
   |nil=>cases h2
   |cons a r=>simp at e;exact .inl ⟨rfl,a,r,rfl,e▸hc⟩
  .exact .inr ⟨h1,_,q,len,rfl⟩
theorem Dl(h:tL S)(ht:∀c∈text,c∈av)(hz:text.length<=16)(hs:∀l∈ss,l.length<=100/\l.length≠1)(ha:a<=text.length):∃r:Nat,(∀s,aW (n+3) 48 [.d (cS ((cX (iI S)).map .int) ss),.d (.list (text.map .int)),.d (.int a)] s=.ok (.d (.int r)) s)/\
  (∀s,aW (n+3) 53 [.d (.list ((nK S ss).map eF)),.d (.list (text.map .int)),.d (.int a)] s=.ok (.d (.int r)) s):=by
 refine aD (Nn (n:=n) (a:=a) h ht (by exact bK ‹_›) λ l hl=>(hs l hl).1) λ r e B=>aD (Nm (n:=n+2) (M:=nK S ss) hz ha) λ r' e' B'=>?_
 obtain rfl:r=r':=BJ (B.iff λ m=>by rw[wA λ l hl=>(hs l hl).2,List.length_drop]) B'
 exact ad r e e'
end
section
variable {n:Nat}{s t aB:St}{S text u:List Int}{ss M:List (List Int)}{c x:Int}{K:Nat->List W->St->R W}{vs:V}{a:Nat}
theorem mS{n:Nat}:∀(a b:List (List Int)),kA (ou 4) (a.map eF) (b.map eF)=some (a==b):=by
 intro zl
 induction zl with
 |nil=>
  intro bc
  cases bc with
  |nil=>
   exact rfl
  |cons zh1 zt1=>
   exact rfl
 |cons zh zt ih=>
  intro bc
  cases bc with
  |nil=>
   exact rfl
  |cons kI zt2=>
   refine(?_:I0 and (ou 4 (eF zh) (eF kI)) (kA (ou 4) (zt.map eF) (zt2.map eF))=_)
   simp only[Aa,ih zt2];rfl
theorem pF{x y:D}:aW (n+3) 61 [.d x,.d y] s=.ok (.d (.inst 424 [(4,x),(5,y)])) s:=bL (ds:=[x,y]) rfl
theorem Gm{B:List Int}{pY:List (List Int)}:aW (n+3) 20 [.d (cS (B.map .int) ss),.d (cS (B.map .int) pY)] s=.ok (.d (.bool (ss==pY))) s:=bL (ds:=[cS (B.map .int) ss,cS (B.map .int) pY]) (by
 have eq:aW (n+2) 13 [.d (gb B),.d (gb B)] []=.ok (.d (.bool true)) []:=bL (ds:=[gb B,gb B]) (by
  apply aR (f:=13) rfl rfl
  .skip
   apply aq
   apply be
   apply aH
   .exact rfl
   .exact rfl
   .exact A9 B B
   .exact beq_self_eq_true B
  .rfl)
 apply aR (f:=20) rfl rfl
 .skip
  apply aq
  apply be
  apply bS
  apply cY
  .apply ar
   .exact rfl
   .rfl
   .exact rfl
   .exact eq
  .apply cH
   apply aH
   .exact rfl
   .exact rfl
   .exact mS (n:=4) ss pY
   .rfl
 .rfl)
noncomputable def Ti:bp:=.cons (.iff (.cmp .NotEq (.meth (.v 5) 11 (.cons (.bi .list (.cons (.v 6) .nil)) .nil)) (.cmp .In (.v 6) (.v 3))) (.cons (.ret (.k (.bool false))) .nil) .nil) .nil
noncomputable abbrev rP(S:List Int)(ss:List (List Int))(text:List Int)(y z:Option W):V:=[some (.d (.list (S.map .int))),some (.d (.list (ss.map eF))),some (.d (.list (text.map .int))),some (.d (.list ((nK S ss).map eF))),some (.d (gb (cX (iI S)))),some (.d (cS ((cX (iI S)).map .int) ss)),y,z,none,none,none,none,none,none,none,none,none,none]
theorem IQ{l:List D}(hz:l.length<=16384):BH s .list [.d (.tup l)]=.ok (.d (.list l)) s:=bC (A01 hz)
theorem o3{l:List D}(hz:l.length<=16384):BH s .list [.d (.list l)]=.ok (.d (.list l)) s:=bC (A01 hz)
theorem xZ(h:tL S)(hs:∀l∈ss,l.length≠1){z:Option W}:∀(rows:List (List Int))(y:Option W),(∀r∈rows,(∀c∈r,c∈av)/\r.length<=100)->
  ∃y',eI (λ x vs s=>onO (gM vs (.v 6) x) λ vs=>bN (aW (n+3)) Ti vs s) (rows.map eF) (rP S ss text y z) []=.ok (none,rP S ss text y' z) []:=by
 intro zl
 induction zl with
 |nil=>
  intro y _
  exact⟨y,rfl⟩
 |cons r rows ih=>
  intro y hr
  obtain⟨y',L⟩:=ih (some (.d (eF r))) (λ r h=>hr r (.tail _ h))
  refine aj (hr r (.head _)) λ h1 h2=>⟨y',dl (aA (ae ?_ aK) aK) L⟩
  apply aH (k':=(ht S ss r !=(nK S ss).contains r))
  .apply ar
   .exact rfl
   .rfl
   .apply aE
    .exact cm rfl (IQ (by rw[List.length_map];exact bK ‹_›))
    .exact aT
   .exact RO (n:=n) h h1 h2
  .apply aH
   .exact rfl
   .exact rfl
   .exact tU.inl _ _
   .rfl
  .rfl
  .rw[Mb hs];exact bne_self_eq_false _
noncomputable def QL:bp:=.cons (.iff (.cmp .NotEq (.call 48 (.cons (.v 5) (.cons (.v 2) (.cons (.v 7) .nil)))) (.call 53 (.cons (.v 3) (.cons (.v 2) (.cons (.v 7) .nil))))) (.cons (.ret (.k (.bool false))) .nil) .nil) (.cons (.iff (.cmp .NotEq (.call 48 (.cons (.v 4) (.cons (.v 2) (.cons (.v 7) .nil)))) (.cond (.boo true (.cons (.cmp .NotEq (.sl false (.v 2) (.some (.v 7)) (.none) (.none)) (.lst .nil)) (.cons (.cmp .In (.ix (.v 2) (.v 7)) (.v 0)) .nil))) (.k (.int 1)) (.k (.int 0)))) (.cons (.ret (.k (.bool false))) .nil) .nil) .nil)
theorem Ry{a b:Int}(e:a=b):jT s .NotEq (.d (.int a)) (.d (.int b))=some false:=by
 subst e
 refine(?_:some (a !=a)=_)
 rw[bne_self_eq_false]
theorem Jf{y:Option W}(ht:∀c∈text,c∈av)(hz:text.length<=16)(ha:a<=text.length):ao K (.cond (.boo true (.cons (.cmp .NotEq (.sl false (.v 2) (.some (.v 7)) (.none) (.none)) (.lst .nil)) (.cons (.cmp .In (.ix (.v 2) (.v 7)) (.v 0)) .nil))) (.k (.int 1)) (.k (.int 0))) (rP S ss text y (some (.d (.int a)))) []=.ok (.d (.int (ET S (text.drop a)))) []:=by
 have rU:∀k,(!((text.drop a).map D.int).isEmpty)=k->ao K (.cmp .NotEq (.sl false (.v 2) (.some (.v 7)) (.none) (.none)) (.lst .nil)) (rP S ss text y (some (.d (.int a)))) []=.ok (.d (.bool k)) []:=λ k hk=>by
  apply aH
  .apply ke
   .exact rfl
   .rfl
   .exact cP
   .exact cP
   .refine(bC (dG rfl (A01 (by rw[List.length_map];exact bK ‹_›)))).trans ?_
    refine(?_:R.ok (W.d (.list (pick (text.map D.int) (some (a:Int)) none none))) []=_)
    rw[gq,<-List.map_drop]
  .exact rfl
  .rfl
  .exact hk
 by_cases q:a<text.length
 .obtain⟨c,hc⟩:∃c,text[a]?=some c:=⟨_,List.getElem?_eq_getElem q⟩
  have e:text.drop a=c::text.drop (a+1):=by
   rw[List.drop_eq_getElem_cons q];rw[List.getElem?_eq_getElem q]at hc;(refine sj hc λ zq=>?_;subst zq);rfl
  have hh:ao K (.cmp .In (.ix (.v 2) (.v 7)) (.v 0)) (rP S ss text y (some (.d (.int a)))) []=.ok (.d (.bool (S.contains c))) []:=by
   apply aH
   .exact dQ rfl rfl (iz rfl (by exact GP (Nat.lt_of_lt_of_le ‹_› ‹_›)) (by simp only[List.getElem?_map,hc];rfl))
   .exact rfl
   .exact tW.inl S c
   .rfl
  have t1:=rU true (by rw[e];rfl)
  rw[e]
  refine(?_:_=R.ok (W.d (.int ((S.contains c).toNat:Nat))) [])
  cases k:S.contains c with
  |true=>rw[k]at hh;exact d0 (bS (cY t1 (cH hh))) dg
  |false=>rw[k]at hh;exact dK (bS (cY t1 (cH hh))) dg
 .have e:text.drop a=[]:=List.drop_eq_nil_of_le (by exact Nat.not_lt.mp ‹_›)
  rw[e]
  exact dK (bS (d7 (rU false (by rw[e];rfl)) rfl)) dg
theorem FU(h:tL S)(ht:∀c∈text,c∈av)(hz:text.length<=15)(hs:∀l∈ss,l.length<=100/\l.length≠1){y:Option W}:∀(k j:Nat)(z:Option W),j+k<=text.length+1 ->
  ∃z',eI (λ x vs s=>onO (gM vs (.v 7) x) λ vs=>bN (aW (n+3)) QL vs s) (cU (j:Int) 1 k) (rP S ss text y z) []=.ok (none,rP S ss text y z') []:=by
 intro zl
 induction zl with
 |zero=>
  intro j z _
  exact⟨z,rfl⟩
 |succ k ih=>
  intro j z hj
  obtain⟨z',L⟩:=ih (j+1) (some (.d (.int j))) (by exact Ki ‹_›)
  refine aD (Dl (n:=n) (a:=j) h ht (by exact bK ‹_›) hs (by lia)) λ r e1 e2=>⟨z',dl (aA (aB:=[]) (ae ?_ aK) (aA (ae ?_ aK) aK)) L⟩
  .exact aH (aF rfl (e1 _)) (aF rfl (e2 _)) (Ry rfl) rfl
  .exact aH (aF rfl (No (n:=n) h ht (by exact bK ‹_›))) (Jf ht (by exact bK ‹_›) (by lia)) (Ry rfl) rfl
theorem CC:∀{ss:List (List Int)},ss≠[]->(ss==ss.tail)=false
 |[],h=>absurd rfl h
 |l::ss,_=>A05 λ e=>by
  have:=congrArg List.length e
  simp at this
theorem vw(hS:S∈lM)(ht:∀c∈text,c∈av)(hz:text.length<=15)(hs:∀l∈ss,(∀c∈l,c∈av)/\l.length<=100/\l.length≠1)(hn:ss.length<=100) :
  aW (n+6) 55 [.d (.list (S.map .int)),.d (.list (ss.map eF)),.d (.list (text.map .int))] s=.ok (.d (.bool true)) s:=bL (ds:=[.list (S.map .int),.list (ss.map eF),.list (text.map .int)]) (by
 have h:=yJ hS
 have hl:=h.len
 obtain⟨y,L1⟩:=xZ (n:=n+2) (text:=text) h (λ l hl=>(hs l hl).2.2) (z:=none) (ss++av.map (λ c=>[c])++ [text]) none (λ r hr=>by
  rcases A09 hr with hr|hr
  .rcases A09 hr with hr|hr
   .exact⟨(hs r hr).1,(hs r hr).2.1⟩
   .refine aD (A10 hr) λ c hc dz=>?_;subst dz
    exact⟨λ c' h'=>by rw[A04 h'];exact hc,show 1<=100 by decide⟩
  .rw[A04 hr];exact⟨ht,by exact bK ‹_›⟩)
 refine aS (FU (n:=n+2) (y:=y) h ht hz (λ l hl=>(hs l hl).2) (text.length+1) 0 none (by exact Nat.le_of_eq (Nat.zero_add _))) λ z L2=>?_
 have one:∀{vs:V}{e:IE}{w:W}{l:List Int},ao (aW (n+5)) e vs []=.ok w []->nG w=some (l.map .int)->l.length<=100->ao (aW (n+5)) (.comp [.loc,.loc] (.v 1) e .none (.tup (.cons (.v 1) .nil))) vs []=.ok (.d (.list ((l.map λ c=>[c]).map eF))) []:=λ{vs e w l} he hw hl=>by
  apply ef he hw (A01 (by rw[List.length_map];exact bK ‹_›))
  refine(dm (f:=λ x=>.tup [x]) λ x hx=>?_).trans ?_
  .rfl
  .rw[List.map_map,List.map_map];rfl
 apply aR (f:=55) rfl rfl
 .skip
  apply aA
  .apply ay
   apply bZ
   .exact one rfl rfl (by exact bK ‹_›)
   .exact rfl
   .exact(jk (by simp;exact bK (Nat.add_le_add ‹_› ‹_›))).trans (by simp only[nK,List.map_append]:_=R.ok (W.d (.list ((nK S ss).map eF))) [])
  .apply aA
   .apply ay
    apply aF
    .apply aE
     .apply ef
      .exact rfl
      .rfl
      .exact A01 (by rw[List.length_map];exact bK ‹_›)
      .exact dm (f:=λ x=>.tup [x,x]) λ x hx=>oz rfl rfl
     .exact aT
    .refine Eq.trans ?_ (Ng (n:=n+1) (s:=[]) h)
     simp only[cE,iI,List.map_map,List.map_map];rfl
   .apply aA
    .apply ay
     apply aF
     .exact rfl
     .exact pF (n:=n+2)
    .apply aA
     .apply gD
      .apply bZ
       .apply bZ
        .exact rfl
        .rfl
        .exact jk (by simp[av];exact bK ‹_›)
       .apply Gc
        .apply aE
         .exact cm rfl (iy (by rw[List.length_map];exact bK ‹_›))
         .exact aT
        .rfl
        .rfl
       .exact(jk (by simp[av];exact bK ‹_›)).trans (by rw[List.map_append,List.map_append];rfl:_=R.ok (W.d (.list ((ss++av.map (λ c=>[c])++ [text]).map eF))) [])
      .rfl
      .exact L1
     .apply aA
      .apply gD
       .apply cm
        .exact aE (bZ (cm rfl (eJ (Ij text) (by exact bK ‹_›))) dg rfl) aT
        .rfl
       .exact iq (k:=text.length+1) rfl (by exact ti ‹_›)
       .exact L2
      .apply aA
       .apply ae
        .refine ql (b:=true) (aB:=[]) ?_
         apply ar
         .exact rfl
         .rfl
         .apply aE
          .apply aF
           .apply aE
            .apply aF
             .apply aE
              .exact aF rfl (KB (n:=n+4) hS)
              .rfl
             .exact Gi (n:=n+1) h
            .apply aE
             .exact cm rfl (o3 (by rw[List.length_map];exact bK ‹_›))
             .exact aT
           .exact pF (n:=n+2)
          .exact aT
         .exact(Gm (n:=n+2)).trans (by rw[beq_self_eq_true])
        .exact aK
       .apply aq
        apply be (w:=.d (.bool true))
        by_cases q:ss=[]
        .exact bS (d7 (b:=true) (aB:=[]) (aH (k:=true) rfl rfl (mS (n:=4) ss []) (beq_iff_eq.mpr q)) rfl)
        .apply bS
         apply cY (aB:=[])
         .apply aH
          .exact rfl
          .exact rfl
          .exact mS (n:=4) ss []
          .exact A05 q
         .apply cH
          refine ql (b:=false) (aB:=[]) ?_
          apply ar
          .exact rfl
          .rfl
          .apply aE
           .apply aF
            .apply aE
             .exact rfl
             .apply aE
              .apply ke
               .exact rfl
               .rfl
               .exact cP
               .exact cP
               .refine(bC (dG rfl (A01 (by rw[List.length_map];exact bK ‹_›)))).trans ?_
                refine(?_:R.ok (W.d (.list (pick (ss.map eF) (some ((1:Nat):Int)) none none))) []=R.ok (W.d (.list (ss.tail.map eF))) [])
                rw[gq,<-List.map_drop,List.drop_one]
              .exact aT
            .exact pF (n:=n+2)
           .exact aT
          .exact(Gm (n:=n+2)).trans (by rw[CC q])
 .rfl)
end
section
variable {n:Nat}{s t aB aP:St}{S text u:List Int}{ss M:List (List Int)}{c x:Int}{K:Nat->List W->St->R W}{vs ah:V}{a:Nat}
theorem sq{st:D->St->R (Option D)}:∀{ds acc:List D},(∀x∈ds,st x s=.ok none s)->c0 st ds acc s=.ok acc s:=by
 intro zl
 induction zl with
 |nil=>
  intro acc _
  exact rfl
 |cons x ds ih=>
  intro acc h
  rw[en]
  rw[h x (.head _)]
  exact ih λ y hy=>h y (.tail _ hy)
theorem NV{t:IT}{x:D}(h:gM (uT vs cs) t x=some ah)(ht:ao K te ah s=.ok (.d (.bool false)) aB):g9 K cs t (.some te) elt vs x s=.ok none aB:=by
 refine(oo h).trans ?_
 show R.bind ((ao K te ah s).bind _) _=_
 rw[ht];rfl
structure mj (ss:List (List Int)):Prop where
 len:ss.length<=2
 row:∀l∈ss,(∀c∈l,c∈av)/\l.length<=100/\l.length≠1
 srt:hH ss=true
noncomputable abbrev kZ(S:List Int)(ss:List (List Int)):List UInt8:=91::(wrs S++iO ss++[93])
theorem HG(h:c∈av):∀b∈wr c,b.toNat<=126:=by
 have h':c=97\/c=98\/c=45\/c=93\/c=32\/c=92\/c=123\/c=233\/c=128512\/c=1114111:=by simpa [av] using h
 rcases h' with rfl|rfl|rfl|rfl|rfl|rfl|rfl|rfl|rfl|rfl<;>decide
theorem tP(h:∀c∈l,c∈av):∀b∈wrs l,b.toNat<=126:=λ b hb=>by
 obtain⟨c,hc,hb⟩:=List.mem_flatMap.mp hb
 exact HG (h c hc) b hb
theorem yK(hS:∀c∈S,c∈av)(hs:∀l∈ss,∀c∈l,c∈av):∀b∈kZ S ss,b.toNat<=126:=λ b hb=>by
 rcases A03 hb with rfl|hb
 .decide
 rcases A09 hb with hb|hb
 .rcases A09 hb with hb|hb
  .exact tP hS b hb
  .obtain⟨l,hl,hb⟩:=List.mem_flatMap.mp hb
   rcases A03 hb with rfl|hb
   .decide
   rcases A09 hb with hb|hb
   .exact tP (hs l hl) b hb
   .rw[A04 hb];decide
 .rw[A04 hb];decide
theorem qD(h:tL S)(hs:mj ss):(kZ S ss).length<=3000:=by
 have h1:=kj h.sg
 have h2:(iO ss).length<=1002*ss.length:=by
  simp only[iO,List.length_flatMap]
  refine lK (f:=λ l:List Int=>(123::(wrs l++[125])).length) (k:=1002) λ l JO=>?_
  have:=kj (hs.row l JO).1
  have:=(hs.row l JO).2.1
  simp only[List.length_append,List.length_cons,List.length_nil];exact bK (Nat.add_le_add (Nat.add_le_add (Bf ‹_› ‹_›) (Nat.le_refl _)) (Nat.le_refl _))
 have:=h.len
 have:=hs.len
 simp only[kZ,List.length_append,List.length_cons,List.length_nil];lia
theorem Ax(h:tL S)(hs:mj ss):aW (n+6) 46 [.d (cS ((cX (iI S)).map .int) ss)] s=.ok (.d (.bytes (kZ S ss))) s:=by
 have q:=AK (n:=n) (B:=(cX (iI S)).map .int) (ss:=ss) h.wr (by have:=h.rl;exact bK ‹_›) (λ n s=>by rw[h.bd];exact oJ (n:=n+4) h) h.h58 (λ l hl=>⟨(hs.row l hl).1,(hs.row l hl).2.1⟩) (by have:=hs.len;exact bK ‹_›)
 rw[h.wrs]at q
 exact bL (ds:=[cS ((cX (iI S)).map .int) ss]) q
theorem Jw(h:tL S)(hs:mj ss):aW (n+11) 43 [.d (.bytes (kZ S ss)),.d .none] s=.ok (.d (Hh ((cX (iI S)).map .int) ss)) s:=by
 have hz:(kZ S ss).length<=1000000:=Nat.le_trans (qD h hs) (by decide)
 obtain⟨x,r,e,_,_,JQ,h58⟩:=BV S ss [] h.sg
 have e0:kZ S ss=91::(wrs S++(iO ss++93::[])):=by simp only[kZ,List.append_assoc]
 have I:=KU (o:=kZ S ss) (aI:=[]) (p:=1) (rs:=[]) hz hs.srt (λ l hl=>⟨(hs.row l hl).1,(hs.row l hl).2.2,by have:=(hs.row l hl).2.1;exact bK ‹_›⟩) h.sg (by rw[e0];rfl)
 have F:=s7 (n:=n) (dp:=.int 0) (p:=0) (x:=x) (r:=r) hz (by simp only[e0,e];rfl) JQ I (by have:=h.len;have:=hs.len;exact bK (Nat.add_le_add ‹_› ‹_›)) (by
  have:=FK h.ksd
  simp only[cE,iI,List.map_map]at this
  exact this)
 refine pC hz (by rw[e0,e]) h58 (F.trans ?_)
 rw[show 1+(wrs S).length+(iO ss).length+1=(kZ S ss).length by simp only[kZ,List.length_append,List.length_cons,List.length_nil];lia]
end
section
variable {n:Nat}{s t aB aP:St}{S text u:List Int}{ss M:List (List Int)}{c x:Int}{K:Nat->List W->St->R W}{vs ah:V}{a:Nat}
theorem rj(rl:List (Int×Int)):kA (ou 4) (cE rl) (cE rl)=some true:=by
 have:=mS (n:=4) (rl.map λ r=>[r.1,r.2]) (rl.map λ r=>[r.1,r.2])
 rw[List.map_map,beq_self_eq_true]at this
 exact this
theorem Gd(hz:o.length<=1000000)(h:∀b∈o,b.toNat<=126)(h2:cW vs 2=some (.d (.bytes o))):ao K (.comp [.loc,.loc] (.v 1) (.v 2) (.some (.cmp .Gt (.v 1) (.k (.int 126)))) (.v 1)) vs s=.ok (.d (.list [])) s:=by
 apply ef (d9 h2) rfl (A01 (by rw[List.length_map];lia))
 refine sq λ x hx=>?_
 obtain⟨b,hb,rfl⟩:=A10 hx
 have:=h b hb
 exact NV rfl (aH rfl dg rfl (decide_eq_false (by lia)))
theorem Ju(hS:S∈lM)(hs:mj ss):aW (n+12) 56 [.d (.list (S.map .int)),.d (.list (ss.map eF))] s=.ok (.d (.bool true)) s:=bL (ds:=[.list (S.map .int),.list (ss.map eF)]) (by
 have h:=yJ hS
 have hz:=qD h hs
 have UH:=hs.len
 have low:=yK (ss:=ss) h.sg λ l hl=>(hs.row l hl).1
 have q46:ao (aW (n+11)) (.call 46 (.cons (.call 61 (.cons (.call 8 (.cons (.call 52 (.cons (.v 0) .nil)) .nil)) (.cons (.v 1) .nil))) .nil)) [some (.d (.list (S.map .int))),some (.d (.list (ss.map eF))),none,none,none,none,none,none,none,none,none] []=.ok (.d (.bytes (kZ S ss))) []:=by
  apply aF
  .apply aE
   .apply aF
    .apply aE
     .apply aF
      .apply aE
       .exact aF rfl (KB (n:=n+10) hS)
       .exact aT
      .exact Gi (n:=n+7) h
     .exact rfl
    .exact pF (n:=n+8)
   .exact aT
  .exact Ax (n:=n+5) h hs
 have lr:∀{vs:V},cW vs 0=some (.d (.list (S.map .int)))->ao (aW (n+11)) (.call 52 (.cons (.v 0) .nil)) vs []=.ok (.d (.list (cE (fB S)))) []:=λ{vs} h0=>aF (aE (d9 h0) aT) (KB (n:=n+10) hS)
 have rg:aW (n+11) 10 [.d (gb (cX (iI S)))] []=.ok (.d (.list (cE (fB S)))) []:=by rw[h.bd];exact oJ (n:=n+10) h
 have rd:=Jw (n:=n) (s:=[]) h hs
 cases ss with
 |nil=>
  apply aR (f:=56) rfl rfl
  .unfold RY
   apply aA
   .exact ay q46
   .apply aA
    .apply ae
     .exact aH (Gd (by exact bK ‹_›) low rfl) rfl rfl rfl
     .exact aK
    .apply aA
     .exact ay (aF rfl rd)
     .apply aA
      .apply ae
       .exact aH (k':=false) rfl rfl rfl rfl
       .exact aK
      .apply aq
       apply br
       .exact aH rfl rfl rfl rfl
       .apply aq
        apply be
        exact aH (k':=true) (ar rfl rfl aT rg) (lr rfl) (rj _) rfl
  .rfl
 |cons l ss=>
  apply aR (f:=56) rfl rfl
  .unfold RY
   apply aA
   .exact ay q46
   .apply aA
    .apply ae
     .exact aH (Gd (by exact bK ‹_›) low rfl) rfl rfl rfl
     .exact aK
    .apply aA
     .exact ay (aF rfl rd)
     .apply aA
      .apply ae
       .exact aH (k':=false) rfl rfl rfl rfl
       .exact aK
      .apply aA
       .apply ae
        .exact aH rfl rfl rfl rfl
        .exact aK
       .apply aq
        apply be
        apply bS
        apply cY
        .exact aH (k':=true) (ar rfl rfl aT rg) (lr rfl) (rj _) rfl
        .apply cH
         apply aH
         .exact cm rfl (o3 (by rw[List.length_map];exact bK ‹_›))
         .exact rfl
         .exact mS (n:=4) (l::ss) (l::ss)
         .exact beq_self_eq_true _
  .rfl)
end
section
variable {n:Nat}{s t aB aP:St}{S text u r:List Int}{ss M:List (List Int)}{c x:Int}{K:Nat->List W->St->R W}{vs ah:V}{a:Nat}
theorem Di:∀{a b:List Int},fR a b=false->fR b a=false->a=b:=by
 intro zl
 induction zl with
 |nil=>
  intro bc cM cT
  cases bc with
  |nil=>
   exact rfl
  |cons zh1 zt1=>
   exact tm cM
 |cons zh zt ih=>
  intro bc cM cT
  cases bc with
  |nil=>
   exact tm cT
  |cons kI zt2=>
   rw[qI]at cM cT
   rcases Int.lt_trichotomy zh kI with q|q|q
   .rw[A01 q]at cM;exact tm cM
   .subst q
    simp only[decide_eq_false (Int.lt_irrefl zh),beq_self_eq_true]at cM cT
    rw[ih cM cT]
   .rw[A01 q]at cT;exact tm cT
theorem yg:∀a:List Int,fR a a=false:=by
 intro zl
 induction zl with
 |nil=>
  exact rfl
 |cons a x ih=>
  rw[qI]
  simp only[decide_eq_false (Int.lt_irrefl a),beq_self_eq_true]
  exact ih
def pJ(l:List Int):Prop:=(∀c∈l,c∈av)/\l.length<=100/\l.length≠1
theorem wn{l:List (List Int)}(h:l.length<=2)(hr:∀x∈l,pJ x):∃l',ir (l.map eF)=some (l'.map eF)/\l'.length<=2/\mj (o4 l' []):=by
 have sr:∀{l:List (List Int)},l.length<=2->ir (l.map eF)=some ((cN fR l).map eF):=λ{l} h=>by
  cases l with
  |nil=>rfl
  |cons x l=>
   refine(?_:((jQ (fA (x::l))).bind _)=_)
   rw[kB]
   refine(?_:gF (decide ((x::l).length<=2)) _=_)
   rw[A01 h];rfl
 refine dW _ (sr h) (by rw[jp];exact h) ?_
 match l,h,hr with
 |[],_,_=>exact⟨Nat.zero_le _,(λ _ h=>cu h),rfl⟩
 |[a],_,hr=>exact⟨show 1<=2 by decide,hr,rfl⟩
 |[a,b],_,hr=>
  have ha:=hr a (.head _)
  have hb:=hr b (.tail _ (.head _))
  refine(?_:mj (o4 (match fR a b with | true=>[a,b] | false=>[b,a]) []))
  have two:∀{a b:List Int},pJ a->pJ b->fR a b=true->mj (o4 [a,b] []):=λ{a b} ha hb h=>by
   have e:([a].contains b)=false:=by
    rw[List.contains_cons,A05 λ q=>by subst q;rw[yg]at h;exact dJ h];rfl
   have:o4 [a,b] []=[a,b]:=by
    refine(?_:(match [a].contains b with | true=>[a] | false=>[a]++ [b])=_)
    rw[e];rfl
   simp only[this]
   refine⟨Nat.le_refl 2,λ l hl=>?_,h⟩
   rcases A03 hl with rfl|hl
   .exact ha
   .rw[A04 hl];exact hb
  cases h:fR a b with
  |true=>exact two ha hb h
  |false=>
   cases k:fR b a with
   |true=>exact two hb ha k
   |false=>
    cases Di h k
    have:o4 [a,a] []=[a]:=by
     refine(?_:(match [a].contains a with | true=>[a] | false=>[a]++ [a])=_)
     rw[List.contains_cons,beq_self_eq_true];rfl
    simp only[this]
    exact⟨show 1<=2 by decide,λ l hl=>by rw[A04 hl];exact ha,rfl⟩
theorem Hg{i:Int}(h:0<=i/\i<10):av.getD i.toNat 0∈av:=by
 obtain⟨k,rfl⟩:∃k:Nat,i=k:=⟨i.toNat,by exact(Int.toNat_of_nonneg (And.left ‹_›)).symm⟩
 match k,h with
 |0,_ | 1,_ | 2,_ | 3,_ | 4,_ | 5,_ | 6,_ | 7,_ | 8,_ | 9,_=>decide
 |k+10,h=>exact absurd h (by lia)
theorem se:∀{k:Nat}{r:List Int},∀c∈vm k r,c∈av:=by
 intro zl
 induction zl with
 |zero=>
  intro _ _ h
  exact cu h
 |succ k ih=>
  intro r c h
  rcases A03 h with rfl|h
  .exact Hg (o7 (by decide))
  .exact ih c h
theorem vo{st:D->St->R (Option D)}{P:List Int->Prop}(hs:∀x r,r.length<=1000->∃l r',st x (tp r::t)=.ok (some (eF l)) (tp r'::t)/\r'.length<=r.length/\P l):∀(ds:List D)(acc:List (List Int))(r:List Int),r.length<=1000 ->
  ∃rows r',c0 st ds (acc.map eF) (tp r::t)=.ok ((acc++rows).map eF) (tp r'::t)/\r'.length<=r.length/\rows.length=ds.length/\∀l∈rows,P l:=by
 intro zl
 induction zl with
 |nil=>
  intro acc r _
  exact⟨[],r,by rw[List.append_nil];rfl,Nat.le_refl _,rfl,λ _ h=>cu h⟩
 |cons x ds ih=>
  intro acc r h
  refine je (hs x r h) λ l aL e h1 p=>Bl (ih (acc++[l]) aL (by exact Nat.le_trans ‹_› ‹_›)) λ rows aa e' h2 h3 h4=>MS (l::rows) aa ?_ (by exact Nat.le_trans ‹_› ‹_›) (congrArg (·+1) h3) (λ l' h'=>?_)
  .rw[en]
   rw[e]
   refine(?_:c0 st ds (acc.map eF++[eF l]) (tp aL::t)=_)
   simp only[show acc.map eF++[eF l]=(acc++[l]).map eF by simp only[List.map_append];rfl,e',List.append_assoc];rfl
  .rcases A03 h' with rfl|h'
   .exact p
   .exact h4 l' h'
theorem Dy(h:0<=i/\i<3):∃k:Nat,tq s (.d (.tup [.int 0,.int 2,.int 3])) (.d (.int i))=.ok (.d (.int k)) s/\k<=3/\k≠1:=by
 obtain⟨k,rfl⟩:∃k:Nat,i=k:=⟨i.toNat,by exact(Int.toNat_of_nonneg (And.left ‹_›)).symm⟩
 match k,h with
 |0,_=>exact dW 0 rfl (by decide) (by decide)
 |1,_=>exact dW 2 rfl (by decide) (by decide)
 |2,_=>exact dW 3 rfl (by decide) (by decide)
 |k+3,h=>exact absurd h (by lia)
end
section
variable {n:Nat}{s t aB aP:St}{S text u r:List Int}{ss M:List (List Int)}{c x:Int}{K:Nat->List W->St->R W}{vs ah:V}{a:Nat}
def mi(n f:Nat):Prop:=∀r:List Int,r.length<=1000->∃r':List Int,r'.length<=r.length/\aW n f [.r 0] [tp r]=.ok (.d (.bool true)) [tp r']
theorem dw{m:Nat}(hm:0<m)(r:List Int):∃k:Nat,yN m r=k/\k<m:=by
 refine aj (o7 (r:=r) (m:=m) (by exact Kj ‹_›)) λ h1 h2=>ad ((yN m r).toNat) (by exact(Int.toNat_of_nonneg ‹_›).symm) (by lia)
theorem pZ(h:l.length<=16):ir (l.map .int)=some ((cN (λ a b=>decide (a<b)) l).map .int):=by
 unfold ir
 rw[kC]
 refine(?_:gF (decide (l.length<64)) _=_)
 rw[A01 (by exact ti ‹_›)];rfl
noncomputable abbrev NN:IE:=.bi .tuple (.cons (.call 50 (.cons (.v 5) (.cons (.ix (.tup (.cons (.k (.int 0)) (.cons (.k (.int 2)) (.cons (.k (.int 3)) .nil)))) (.call 49 (.cons (.v 5) (.cons (.k (.int 3)) .nil)))) .nil))) .nil)
theorem DW{x:D}(h:cW vs 1=some (.r 0))(r:List Int)(hz:r.length<=1000):∃l r',g9 (aW (n+2)) [.loc,.loc,.glb,.glb,.glb,.fre 1] (.v 1) .none NN vs x [tp r]=.ok (some (eF l)) [tp r']/\r'.length<=r.length/\pJ l:=by
 refine cG (Dy (s:=[tp r.tail]) (o7 (r:=r) (m:=3) (by decide))) λ k e h1 h2=>?_
 have ht:r.tail.length<=r.length:=by rw[List.length_tail];exact o8 (Nat.le_refl _)
 refine zO (vm k r.tail) (r.tail.drop k) ?_ (by rw[List.length_drop];exact o8 ‹_›) se (by rw[fw];exact bK ‹_›) (by rw[fw];exact h2)
 refine oy (ah:=[none,some (.d x),none,none,none,some (.r 0)]) (by refine(?_:some [none,some (W.d x),none,none,none,cW vs 1]=_);rw[h]) ?_
 apply cm
 .apply aE
  .apply aF
   .apply aE rfl
    apply aE
    .exact dQ rfl (aF rfl (kE (n:=n+1) (t:=[]) (by decide) hz)) e
    .exact aT
   .exact uW (n:=n) (t:=[]) rfl (by exact bK ‹_›) (by exact Nat.le_trans ‹_› ‹_›)
  .exact aT
 .exact iy (by rw[List.length_map,fw];exact bK ‹_›)
noncomputable abbrev HJ(sc:List Int)(x y z:Option W):V:=[some (.d (.list (sc.map .int))),some (.r 0),x,y,z,none,none,none,none,none,none,none,none,none]
theorem uN{k:Nat}(h:cW vs 1=some (.r 0))(hm:m≠0)(e:yN m r=k)(hk:k<=16)(hz:r.length<=48):ao (aW (n+2)) (.call 50 (.cons (.v 1) (.cons (.call 49 (.cons (.v 1) (.cons (.k (.int m)) .nil))) .nil))) vs [tp r]=.ok (.d (.list ((vm k r.tail).map .int))) [tp (r.tail.drop k)] :=
 aF (aE (d9 h) (aE (aF (aE (d9 h) rfl) (kE (n:=n+1) (t:=[]) hm (by exact bK ‹_›))) aT)) (uW (n:=n) (t:=[]) e hk (by rw[List.length_tail];exact bK (o8 ‹_›)))
theorem Jc{script:List Int}(hz:script.length<=63)(h:cW vs 0=some (.d (.list (script.map .int)))):ao K (.sl true (.bi .list (.cons (.sl false (.v 0) (.none) (.some (.k (.int 48))) (.none)) .nil)) (.none) (.none) (.some (.neg (.k (.int 1))))) vs []=.ok (.r 0) [tp (script.take 48)]:=by
 apply ke
 .apply cm
  .apply aE
   .apply ke
    .exact d9 h
    .exact cP
    .exact rfl
    .exact cP
    .refine(bC (dG rfl (A01 (by rw[List.length_map];exact bK ‹_›)))).trans ?_
     refine(?_:R.ok (W.d (.list (pick (script.map D.int) none (some ((48:Nat):Int)) none))) []=R.ok (W.d (.list ((script.take 48).map .int))) [])
     rw[oZ,<-List.map_take]
   .exact aT
  .exact o3 (by simp only[List.length_map,List.length_take];exact bK (D9 ‹_›))
 .exact cP
 .exact cP
 .exact rfl
 .refine(bC (dG rfl (A01 (by simp only[List.length_map,List.length_take];exact bK (D9 ‹_›))))).trans ?_
  refine(?_:R.ok (W.r 0) [.list (pick ((script.take 48).map D.int) none none (some (-1)))]=_)
  rw[xq,<-List.map_reverse]
theorem NH(h58:mi (n+12) 58)(Ug:mi (n+12) 59){script:List Int}(hz:script.length<=63):cC (aW (n+12)) 60 [.d (.list (script.map .int))] []=.ok (.d (.bool true)) []:=by
 have z0:(script.take 48).length<=48:=by rw[List.length_take];exact Po (Nat.le_refl _)
 refine aD (dw (m:=4) (by decide) (script.take 48)) λ k e1 hk=>?_
 have d1:=λ{x y z}=>uN (n:=n+10) (vs:=HJ script x y z) (m:=4) rfl (by decide) e1 (by lia) z0
 have z1:((script.take 48).tail.drop k).length<=48:=by rw[List.length_drop,List.length_tail];exact bK (o8 (o8 ‹_›))
 have hS:=CL (l:=vm k (script.take 48).tail) (by rw[fw];exact Nat.le_of_lt_succ ‹_›) se
 have d2:=pE (n:=n+11) (s:=[tp ((script.take 48).tail.drop k)]) tW (pZ (l:=vm k (script.take 48).tail) (by rw[fw];lia)) (by rw[jp,fw];lia)
 refine aD (dw (m:=3) (by decide) ((script.take 48).tail.drop k)) λ k2 e2 G8=>Bl (vo (t:=[]) (st:=g9 (aW (n+12)) [.loc,.loc,.glb,.glb,.glb,.fre 1] (.v 1) .none NN (HJ script (some (.d (.list ((srt (vm k (script.take 48).tail)).map .int)))) none none)) (λ x r hz=>DW (n:=n+10) rfl r hz) (cU 0 1 k2) [] ((script.take 48).tail.drop k).tail (by rw[List.length_tail];exact bK (o8 ‹_›))) λ rows r2 e3 z2 l3 p3=>?_
 simp only[List.length_tail]at z2
 simp only[gp]at l3
 refine cG (wn (l:=rows) (by lia) p3) λ l' s1 s2 s3=>?_
 have d3:=pE (n:=n+11) (s:=[tp r2]) tU s1 (by exact bK ‹_›)
 refine aD (dw (m:=6) (by decide) r2) λ k3 e4 G7=>?_
 have d4:=λ{x y z}=>uN (n:=n+10) (vs:=HJ script x y z) (m:=6) rfl (by decide) e4 (by lia) (by lia)
 have z3:(r2.tail.drop k3).length<=1000:=by rw[List.length_drop,List.length_tail];lia
 refine aD (h58 (r2.tail.drop k3) z3) λ r4 z4 e5=>aD (Ug r4 (by exact Nat.le_trans ‹_› ‹_›)) λ r5 _ e6=>?_
 have c55:=vw (n:=n+6) (s:=[tp (r2.tail.drop k3)]) (text:=vm k3 r2.tail) hS se (by rw[fw];lia) s3.row (by have:=s3.len;exact bK ‹_›)
 have c56:=Ju (n:=n) (s:=[tp (r2.tail.drop k3)]) hS s3
 apply aR (f:=60) rfl rfl
 .skip
  apply aA
  .exact ay (Jc hz rfl)
  .apply aA
   .exact ay (aF (aE d1 aT) d2)
   .apply aA
    .apply ay
     apply aF
     .apply aE
      .apply ef
       .exact cm (aE (aF rfl (kE (n:=n+11) (t:=[]) (by decide) (by exact bK ‹_›))) aT) rfl
       .exact iq e2 (by lia)
       .rw[gp];exact A01 (by lia)
       .exact e3
      .exact aT
     .exact d3
    .apply aA
     .exact ay d4
     .apply aA
      .apply ae
       .apply bS
        apply cY (aB:=[tp (r2.tail.drop k3)])
        .exact ql (b:=true) (aF rfl c55)
        .exact cH (ql (b:=true) (aF rfl c56))
       .exact aK
      .apply aq
       apply be
       apply bS
       apply cY
       .assumption
       .assumption
 .rfl
end
section
variable {n:Nat}{s t aB aP:St}{K:Nat->List W->St->R W}{vs ah:V}{N k:Nat}{up:Bool}
noncomputable def qe(up:Bool):List Nat:=match up with
 |true=>[48,49,50,51,52,53,54,55,56,57,65,66,67,68,69,70]
 |false=>[48,49,50,51,52,53,54,55,56,57,97,98,99,100,101,102]
noncomputable def AI(up:Bool)(d:Nat):Nat:=(qe up).getD d 0
noncomputable def bw(up:Bool)(N:Nat):Nat->List Nat
 |0=>[]
 |k+1=>AI up (N / 16 ^ k % 16)::bw up N k
noncomputable abbrev byt(l:List Nat):List UInt8:=l.map λ c=>c.toUInt8
theorem EW:([true,false].all λ up=>(List.range 16).all λ d=>bQ (AI up d).toUInt8&&(hx (AI up d).toUInt8==(d:Int)&&decide (AI up d<127)))=true:=by decide +kernel
theorem s5(up:Bool)(h:d<16):bQ (AI up d).toUInt8=true/\hx (AI up d).toUInt8=d/\AI up d<127:=by
 have q:=A06 (A06 EW up (by cases up<;>decide)) d (List.mem_range.mpr h)
 simp only[Bool.and_eq_true,Bool.and_eq_true]at q
 exact⟨q.1,beq_iff_eq.mp q.2.1,A00 q.2.2⟩
theorem dE:∀{k:Nat},(bw up N k).length=k:=by
 intro zl
 induction zl with
 |zero=>
  exact rfl
 |succ k ih=>
  exact congrArg (·+1) ih
theorem mI:∀{k:Nat},∀c∈byt (bw up N k),bQ c=true:=by
 intro zl
 induction zl with
 |zero=>
  intro _ h
  exact cu h
 |succ k ih=>
  intro c h
  rcases A03 h with rfl|h
  .exact(s5 up (Nat.mod_lt _ (by decide))).1
  .exact ih c h
theorem zw:∀{k:Nat}{v:Int},lY v (byt (bw up N k))=v*16 ^ k+((N % 16 ^ k:Nat):Int):=by
 intro zl
 induction zl with
 |zero=>
  intro v
  show v=_
  dsimp only[Nat.pow_zero,Nat.mod_one];simp
 |succ k ih=>
  intro v
  show lY (v*16+hx (AI up (N / 16 ^ k % 16)).toUInt8) (byt (bw up N k))=_
  simp only[ih,(s5 up (Nat.mod_lt _ (by decide))).2.1]
  have e:N % 16 ^ (k+1)=16 ^ k*(N / 16 ^ k % 16)+ N % 16 ^ k:=by
   simp only[Nat.pow_succ,Nat.mod_mul];exact Nat.add_comm _ _
  simp only[e,Int.pow_succ]
  push_cast
  simp only[Int.add_mul,Int.mul_assoc,Int.mul_comm 16,Int.mul_comm ((16:Int) ^ k) ((N:Int) / 16 ^ k % 16),Int.add_assoc]
end
section
variable {n:Nat}{s t aB aP:St}{K:Nat->List W->St->R W}{vs ah:V}{N k f w:Nat}{up:Bool}{fg:List Nat}{due:D}{a b c:Option W}
noncomputable def mJ(f w k:Nat)(fg:List Nat):List Nat:=match (w:Int)==3 with
 |true=>(match (f:Int)==3 with
  |true=>[]
  |false=>fg.dropLast)
 |false=>match (w:Int)==4 with
  |true=>fg.dropLast++[103]
  |false=>match (w:Int)==5 with
   |true=>(match (f:Int)==3 with
    |true=>List.replicate (7-k) 48++fg
    |false=>fg)
   |false=>fg
noncomputable def jz{α:Type}(z:α)(f w:Nat)(due:α):α:=match (w:Int)==3 with
 |true=>z
 |false=>match (w:Int)==4 with
  |true=>z
  |false=>match (w:Int)==5 with
   |true=>(match (f:Int)==3 with
    |true=>z
    |false=>due)
   |false=>due
theorem ee{v:Nat}{i:Nat}{j:Int}{r:Bool}(h:cW vs v=some (.d (.int i)))(hr:((i:Int)==j)=r):ao K (.cmp .Eq (.v v) (.k (.int j))) vs s=.ok (.d (.bool r)) s:=aH (d9 h) dg (mT _ _ _) hr
theorem iR{x y:List Nat}(hz:x.length+y.length<=16777216):m4 s .Add (.d (.str x)) (.d (.str y))=.ok (.d (.str (x++y))) s:=bC (A01 hz)
theorem Ge{v:Nat}(h:cW vs v=some (.d (.str fg)))(hz:fg.length<=1000):ao K (.sl false (.v v) (.none) (.some (.neg (.k (.int 1)))) (.none)) vs s=.ok (.d (.str fg.dropLast)) s :=
 ke (d9 h) cP rfl cP (bC (dG rfl (dG rfl (dG rfl (dG rfl (A01 (by exact bK ‹_›)))))))
noncomputable abbrev nF(f w k:Nat)(a b c:Option W)(fg:List Nat)(due:D)(d:Option W):V:=[some (.r 0),some (.d (.int f)),some (.d (.int w)),some (.d (.int k)),a,b,c,some (.d (.str fg)),some (.d due),d,none,none]
noncomputable def Rp:IS:=.iff (.cmp .Eq (.v 2) (.k (.int 3))) (.cons (.mas true [7,8] (.cons (.cond (.cmp .Eq (.v 1) (.k (.int 3))) (.k (.str [])) (.sl false (.v 7) (.none) (.some (.neg (.k (.int 1)))) (.none))) (.cons (.k .none) .nil))) .nil) (.cons (.iff (.cmp .Eq (.v 2) (.k (.int 4))) (.cons (.mas true [7,8] (.cons (.bin .Add (.sl false (.v 7) (.none) (.some (.neg (.k (.int 1)))) (.none)) (.k (.str [103]))) (.cons (.k .none) .nil))) .nil) (.cons (.iff (.boo true (.cons (.cmp .Eq (.v 2) (.k (.int 5))) (.cons (.cmp .Eq (.v 1) (.k (.int 3))) .nil))) (.cons (.mas true [7,8] (.cons (.bin .Add (.bin .Mult (.k (.str [48])) (.bin .Sub (.k (.int 7)) (.v 3))) (.v 7)) (.cons (.k .none) .nil))) .nil) .nil) .nil)) .nil)
theorem TY(hz:fg.length<=8)(hk:k<=7\/(f:Int)≠3):gy K Rp (nF f w k a b c fg due none) s=.ok (none,nF f w k a b c (mJ f w k fg) (jz .none f w due) none) s:=by
 delta Rp mJ jz
 cases h3:((w:Int)==3)with
 |true=>
  apply br (ee rfl h3)
  refine aA (gT (aE (aB:=s) ?_ rfl) rfl) aK
  cases g3:((f:Int)==3)with
  |true=>exact d0 (ee rfl g3) dg
  |false=>exact dK (ee rfl g3) (Ge rfl (by exact bK ‹_›))
 |false=>
  apply ae (ee rfl h3)
  refine aA ?_ aK
  cases h4:((w:Int)==4)with
  |true=>
   apply br (ee rfl h4)
   exact aA (gT (aE (aB:=s) (bZ (Ge rfl (by exact bK ‹_›)) dg (iR (by simp only[List.length_dropLast,List.length_singleton];lia))) rfl) rfl) aK
  |false=>
   apply ae (ee rfl h4)
   refine aA ?_ aK
   cases h5:((w:Int)==5)with
   |true=>
    cases g3:((f:Int)==3)with
    |true=>
     have hk:k<=7:=hk.resolve_right λ q=>q (beq_iff_eq.mp g3)
     apply br (bS (cY (ee rfl h5) (cH (ee rfl g3))))
     refine aA (gT (aE (aB:=s) (bZ (bZ dg rfl ?_) rfl (iR (x:=List.replicate (7-k) 48) (by rw[List.length_replicate];lia))) rfl) rfl) aK
     refine(bC (dG (A01 (by lia)) (A01 (by lia)))).trans ?_
     rw[show((7:Int)-(k:Int)).toNat=7-k by lia]
    |false=>
     exact ae (bS (cY (ee rfl h5) (cH (ee rfl g3)))) aK
   |false=>
    exact ae (bS (d7 (ee rfl h5) rfl)) aK
end
section
variable {n:Nat}{s t aB aP:St}{K:Nat->List W->St->R W}{vs ah:V}{N k f w:Nat}{up:Bool}{fg:List Nat}{due:D}{a b c:Option W}
noncomputable def dO(o:Option (List Int)):D:=match o with
 |none=>.none
 |some l=>.list (l.map .int)
theorem Jl(z o:Option (List Int)):jz (dO z) f w (dO o)=dO (jz z f w o):=by
 delta jz
 cases(w:Int)==3<;>cases(w:Int)==4<;>cases(w:Int)==5<;>cases(f:Int)==3<;>rfl
noncomputable def fD(f:Nat):List Nat:=match f with
 |0=>[92,120]
 |1=>[92,117]
 |2=>[92,85]
 |_=>[92,120,123]
noncomputable def bv(f:Nat):List Nat:=match (f:Int)==3 with
 |true=>[125]
 |false=>[]
noncomputable def more{α:Type}(w:Nat)(l m:List α):List α:=match (w:Int)==2 with
 |true=>l++m
 |false=>l
noncomputable def Rr:bp:=.cons (.asg 9 (.bin .Add (.bin .Add (.ix (.tup (.cons (.k (.str [92,120])) (.cons (.k (.str [92,117])) (.cons (.k (.str [92,85])) (.cons (.k (.str [92,120,123])) .nil))))) (.v 1)) (.v 7)) (.cond (.cmp .Eq (.v 1) (.k (.int 3))) (.k (.str [125])) (.k (.str []))))) (.cons (.iff (.cmp .Eq (.v 2) (.k (.int 2))) (.cons (.mas true [9,8] (.cons (.bin .Add (.v 9) (.k (.str [55]))) (.cons (.cond (.cmp .Is (.v 8) (.k .none)) (.k .none) (.bin .Add (.v 8) (.lst (.cons (.k (.int 55)) .nil)))) .nil))) .nil) .nil) (.cons (.ret (.tup (.cons (.bin .Add (.bin .Add (.k (.str [91])) (.v 9)) (.k (.str [93]))) (.cons (.v 8) .nil)))) .nil))
theorem IN(hf:f<4):tq s (.d (.tup [.str [92,120],.str [92,117],.str [92,85],.str [92,120,123]])) (.d (.int f))=.ok (.d (.str (fD f))) s:=by
 match f,hf with
 |0,_ | 1,_ | 2,_ | 3,_=>rfl
 |f+4,h=>exact absurd h (by lia)
theorem km{P:List Nat->Prop}(h0:P [92,120])(h1:P [92,117])(h2:P [92,85])(h3:P [92,120,123]):∀f,P (fD f)
 |0=>h0
 |1=>h1
 |2=>h2
 |_+3=>h3
theorem oX:(fD f).length<=3:=km (P:=λ l=>l.length<=3) (by decide) (by decide) (by decide) (by decide) f
theorem Je:ao K (.cond (.cmp .Eq (.v 1) (.k (.int 3))) (.k (.str [125])) (.k (.str []))) (nF f w k a b c fg due d) s=.ok (.d (.str (bv f))) s:=by
 delta bv
 cases g3:((f:Int)==3)with
 |true=>exact d0 (ee rfl g3) dg
 |false=>exact dK (ee rfl g3) dg
theorem TT(hf:f<4)(hz:fg.length<=20)(ho:∀l,o=some l->l.length<=100):∃cZ,bN K Rr (nF f w k a b c fg (dO o) none) s=.ok (some (.d (.tup [.str (91::(more w (fD f++fg++bv f) [55]++ [93])),dO (o.map λ l=>more w l [55])])),cZ) s:=by
 have hp:=oX (f:=f)
 have hq:(bv f).length<=1:=by delta bv;cases((f:Int)==3)<;>decide
 have z:(fD f++fg++bv f).length<=24:=by simp only[List.length_append,List.length_append];exact bK (Nat.add_le_add (Nat.add_le_add ‹_› ‹_›) ‹_›)
 have s2:gy K (.asg 9 (.bin .Add (.bin .Add (.ix (.tup (.cons (.k (.str [92,120])) (.cons (.k (.str [92,117])) (.cons (.k (.str [92,85])) (.cons (.k (.str [92,120,123])) .nil))))) (.v 1)) (.v 7)) (.cond (.cmp .Eq (.v 1) (.k (.int 3))) (.k (.str [125])) (.k (.str []))))) (nF f w k a b c fg (dO o) none) s=.ok (none,nF f w k a b c fg (dO o) (some (.d (.str (fD f++fg++bv f))))) s :=
  ay (bZ (bZ (dQ rfl rfl (IN hf)) rfl (iR (by exact bK (Nat.add_le_add ‹_› ‹_›)))) Je (iR (by rw[List.length_append];exact bK (Nat.add_le_add (Nat.add_le_add ‹_› ‹_›) ‹_›))))
 have eT:∀{x:List Nat}{d:D}{a b c:Option W},x.length<=100->bN K (.cons (.ret (.tup (.cons (.bin .Add (.bin .Add (.k (.str [91])) (.v 9)) (.k (.str [93]))) (.cons (.v 8) .nil)))) .nil) (nF f w k a b c fg d (some (.d (.str x)))) s=.ok (some (.d (.tup [.str (91::(x++[93])),d])),nF f w k a b c fg d (some (.d (.str x)))) s:=λ{x d a b c} hx=>
  aq (be (A0 (aE (bZ (bZ dg rfl (iR (x:=[91]) (by simp only[List.length_singleton];lia))) dg (iR (x:=[91]++ x) (by simp;exact bK ‹_›))) rfl) rfl rfl))
 delta Rr more
 cases g2:((w:Int)==2)with
 |true=>
  refine⟨_,aA s2 (aA (br (ee rfl g2) (aA (gT (ws:=[.d (.str (fD f++fg++bv f++[55])),.d (dO (o.map λ l=>l++[55]))]) (aE (aB:=s) (bZ rfl dg (iR (by exact ti ‹_›))) (aE ?_ aT)) rfl) aK)) (eT (by rw[List.length_append,List.length_singleton];exact ti ‹_›)))⟩
  cases o with
  |none=>exact d0 (aH (k:=true) rfl dg rfl rfl) dg
  |some l=>
   refine dK (aH (k:=false) rfl dg rfl rfl) (bZ rfl rfl ?_)
   have:=ho l rfl
   refine(jk (by rw[List.length_map];exact ti ‹_›)).trans ?_
   refine(?_:R.ok (W.d (.list (l.map D.int++[.int 55]))) s=R.ok (W.d (.list ((l++[55]).map .int))) s)
   rw[List.map_append];rfl
 |false=>
  refine⟨nF f w k a b c fg (dO o) (some (.d (.str (fD f++fg++bv f)))),aA s2 (aA (ae (ee rfl g2) aK) ?_)⟩
  have:=eT (x:=fD f++fg++bv f) (d:=dO o) (a:=a) (b:=b) (c:=c) (by exact bK ‹_›)
  cases o<;>exact this
end
section
variable {n:Nat}{s t aB aP:St}{K:Nat->List W->St->R W}{vs ah:V}{N k f w:Nat}{up:Bool}{fg:List Nat}{due:D}{a b c:Option W}
theorem DQ(k:Nat):(16:Int) ^ k=((16 ^ k:Nat):Int):=by push_cast;rfl
theorem IP(h:k<=8):16 ^ k<=4294967296:=(Nat.pow_le_pow_right (n:=16) (by decide) h:16 ^ k<=16 ^ 8)
theorem xz(h:k<=1000):m4 s .Pow (.d (.int 16)) (.d (.int k))=.ok (.d (.int ((16 ^ k:Nat):Int))) s:=by
 refine(bC (dG (A01 (by exact Int.ofNat_nonneg _)) (dG (A01 (by lia)) rfl))).trans ?_
 simp only[Int.toNat_natCast,DQ]
theorem IR{y:Nat}(h:y≠0)(hy:y<=4294967296):m4 s .FloorDiv (.d (.int N)) (.d (.int y))=.ok (.d (.int ((N / y:Nat):Int))) s:=by
 refine(bC (dG (bne_iff_ne.mpr (by lia)) (A01 (by rw[Int.natAbs_natCast];exact ti ‹_›)))).trans ?_
 rw[Int.fdiv_eq_ediv_of_nonneg _ (by exact Int.ofNat_nonneg _)];rfl
theorem yB{y:Nat}(h:y≠0):m4 s .Mod (.d (.int x)) (.d (.int y))=.ok (.d (.int ((x.fmod y).toNat:Nat))) s:=by
 refine(bC (bne_iff_ne.mpr (by lia))).trans ?_
 rw[Int.toNat_of_nonneg (Int.fmod_nonneg_of_pos _ (by lia))]
noncomputable def NO:IE:=.ix (.v 3) (.bin .Mod (.bin .FloorDiv (.v 2) (.bin .Pow (.k (.int 16)) (.v 1))) (.k (.int 16)))
theorem JY{d:Nat}(h:d<16):tq s (.d (.str (qe up))) (.d (.int d))=.ok (.d (.str [AI up d])) s:=by
 cases up
 all_goals
  match d,h with
  |0,_ | 1,_ | 2,_ | 3,_ | 4,_ | 5,_ | 6,_ | 7,_ | 8,_ | 9,_ | 10,_ | 11,_ | 12,_ | 13,_ | 14,_ | 15,_=>rfl
  |d+16,h=>exact absurd h (by lia)
theorem AF{vs:V}(h5:cW vs 5=some (.d (.int N)))(h6:cW vs 6=some (.d (.str (qe up)))):∀{k:Nat}{acc:List D},k<=9->c0 (g9 K [.loc,.loc,.fre 5,.fre 6] (.v 1) .none NO vs) (cU ((k:Int)-1) (-1) k) acc s=.ok (acc++(bw up N k).map λ c=>.str [c]) s:=by
 intro zl
 induction zl with
 |zero=>
  intro acc _
  rw[show(bw up N 0).map (λ c=>D.str [c])=[]from rfl,List.append_nil];rfl
 |succ k ih=>
  intro acc hk
  have st:g9 K [.loc,.loc,.fre 5,.fre 6] (.v 1) .none NO vs (.int k) s=.ok (some (.str [AI up (N / 16 ^ k % 16)])) s:=by
   refine oy (ah:=[none,some (.d (.int k)),some (.d (.int N)),some (.d (.str (qe up)))]) (by show some [none,some (W.d (.int k)),cW vs 5,cW vs 6]=_;simp only[h5,h6]) ?_
   apply dQ rfl
   .apply bZ
    .exact bZ rfl (bZ dg rfl (xz (by exact bK (GQ ‹_›)))) (IR (Nat.ne_of_gt (Nat.pow_pos (by decide))) (IP (by exact Nat.le_of_lt_succ ‹_›)))
    .exact dg
    .exact yB (y:=16) (by decide)
   .have e:((((N / 16 ^ k:Nat):Int).fmod (16:Nat)).toNat:Nat)=N / 16 ^ k % 16:=by
     rw[Int.fmod_eq_emod_of_nonneg _ (by exact Int.ofNat_nonneg _)];rfl
    rw[e]
    exact JY (Nat.mod_lt _ (by decide))
  rw[show(((k+1:Nat):Int)-1)=k by lia]
  show c0 _ (.int k::cU ((k:Int)+ -1) (-1) k) acc s=_
  rw[en]
  rw[st]
  show c0 _ (cU ((k:Int)+ -1) (-1) k) (acc++[.str [AI up (N / 16 ^ k % 16)]]) s=_
  rw[show(k:Int)+ -1=(k:Int)-1 by lia,ih (by exact Nat.le_of_lt ‹_›),List.append_assoc];rfl
theorem wj(h:x=(k:Int)-1)(hk:k<=8):nG (.d (.rng x (-1) (-1)))=some (cU ((k:Int)-1) (-1) k):=by
 subst h
 match k,hk with
 |0,_ | 1,_ | 2,_ | 3,_ | 4,_ | 5,_ | 6,_ | 7,_ | 8,_=>rfl
 |k+9,h=>exact absurd h (by lia)
theorem vq:∀l:List Nat,uR (l.map λ c=>.str [c])=some (l.map λ c=>[c]):=by
 intro zl
 induction zl with
 |nil=>
  exact rfl
 |cons c l ih=>
  show((sD (.str [c])).bind λ y=>(uR (l.map λ c=>.str [c])).bind λ l=>some (y::l))=_
  rw[ih];rfl
theorem Pk(hz:l.length<=100):qH K s .sj (.d (.str [])) [.d (.list (l.map λ c=>.str [c]))]=.ok (.d (.str l)) s:=by
 refine(oo (vq l)).trans ?_
 have e:(l.map λ c=>[c]).flatten=l:=by
  induction l with
  |nil=>rfl
  |cons c l ih=>simp only[List.map_cons,List.flatten_cons,ih (by simp at hz;exact bK ‹_›)];rfl
 have e2:((l.map λ c=>[c]).map (·.length)).sum=l.length:=by rw[<-List.length_flatten,e]
 refine(bC (A01 (by rw[e2];exact bK ‹_›))).trans ?_
 rw[e]
end
section
variable {n:Nat}{s t aB aP:St}{K:Nat->List W->St->R W}{vs ah:V}{N k f w:Nat}{up:Bool}{fg:List Nat}{due:D}{a b c:Option W}{r:List Int}
def iF(f k:Nat):Prop:=(f=0/\k=2)\/(f=1/\k=4)\/(f=2/\k=8)\/(f=3/\1<=k/\k<=6)
theorem MM{k0:Nat}(hf:f<4)(h1:1<=k0)(h6:k0<=6):∃k:Nat,tq s (.d (.tup [.int 2,.int 4,.int 8,.int k0])) (.d (.int f))=.ok (.d (.int k)) s/\iF f k:=by
 match f,hf with
 |0,_=>exact⟨2,rfl,.inl ⟨rfl,rfl⟩⟩
 |1,_=>exact⟨4,rfl,.inr (.inl ⟨rfl,rfl⟩)⟩
 |2,_=>exact⟨8,rfl,.inr (.inr (.inl ⟨rfl,rfl⟩))⟩
 |3,_=>exact⟨k0,rfl,.inr (.inr (.inr ⟨rfl,h1,h6⟩))⟩
 |f+4,h=>exact absurd h (by lia)
theorem iF.le(h:iF f k):k<=8:=by rcases h with h|h|h|h<;>lia
theorem iF.lt(h:iF f k):k<=7\/(f:Int)≠3:=by rcases h with h|h|h|h<;>lia
theorem EA{i:Nat}(hi:i<8):∃E:Int,tq s (.d (.tup [.int 65,.int 255,.int 256,.int 65535,.int 65536,.int 1114111,.int 1114112,.int x])) (.d (.int i))=.ok (.d (.int E)) s:=by
 match i,hi with
 |0,_ | 1,_ | 2,_ | 3,_ | 4,_ | 5,_ | 6,_ | 7,_=>exact⟨_,rfl⟩
 |i+8,h=>exact absurd h (by lia)
theorem EB{i:Nat}(hi:i<2):∃up,tq s (.d (.tup [.str [48,49,50,51,52,53,54,55,56,57,97,98,99,100,101,102],.str [48,49,50,51,52,53,54,55,56,57,65,66,67,68,69,70]])) (.d (.int i))=.ok (.d (.str (qe up))) s:=by
 match i,hi with
 |0,_=>exact⟨false,rfl⟩
 |1,_=>exact⟨true,rfl⟩
 |i+2,h=>exact absurd h (by lia)
noncomputable def mR(N:Nat):Option (List Int):=match decide ((N:Int)<=1114111)with
 |true=>some [(N:Int)]
 |false=>none
theorem vl{m:Nat}(h:cW vs 0=some (.r 0))(hm:0<m)(he:ao (aW (n+1)) e vs [tp r]=.ok (.d (.int m)) [tp r])(hz:r.length<=1000):∃i:Nat,i<m/\ao (aW (n+1)) (.call 49 (.cons (.v 0) (.cons e .nil))) vs [tp r]=.ok (.d (.int i)) [tp r.tail]:=by
 obtain⟨i,e1,hi⟩:=dw hm r
 refine⟨i,hi,aF (aE (d9 h) (aE he aT)) ?_⟩
 rw[<-e1]
 exact kE (t:=[]) (by lia) hz
end
section
variable {n:Nat}{s t aB aP:St}{K:Nat->List W->St->R W}{vs ah:V}{N k f w:Nat}{up:Bool}{fg:List Nat}{due:D}{a b c:Option W}{r:List Int}
theorem Jh{α:Type}(z x:α):jz z f w x=z\/jz z f w x=x:=by
 unfold jz
 cases(w:Int)==3<;>cases(w:Int)==4<;>cases(w:Int)==5<;>cases(f:Int)==3<;>first | exact .inl rfl | exact .inr rfl
theorem qf:(mJ f w k fg).length<=fg.length+7:=by
 unfold mJ
 cases(w:Int)==3<;>cases(w:Int)==4<;>cases(w:Int)==5<;>cases(f:Int)==3<;>simp<;>lia
theorem A7:∀l,jz none f w (mR N)=some l->l.length<=100:=λ l h=>by
 rcases Jh (f:=f) (w:=w) none (mR N)with q|q
 .rw[q]at h;exact bJ h
 .rw[q]at h
  unfold mR at h
  cases k:decide ((N:Int)<=1114111)with
  |true=>rw[k]at h;(refine sj h λ zq=>?_;subst zq);exact show 1<=100 by decide
  |false=>rw[k]at h;exact bJ h
def Gs(T:List Nat)(o:Option (List Int)):Prop:=∃f w k N up,f<4/\w<6/\iF f k/\N<16 ^ k/\T=91::(more w (fD f++mJ f w k (bw up N k)++ bv f) [55]++ [93])/\o=(jz none f w (mR N)).map λ l=>more w l [55]
theorem RG(hz:r.length<=1000):∃T o r',r'.length<=r.length/\Gs T o/\cC (aW (n+1)) 57 [.r 0] [tp r]=.ok (.d (.tup [.str T,dO o])) [tp r']:=by
 have tl:∀r:List Int,r.tail.length<=r.length:=λ r=>by rw[List.length_tail];exact o8 (Nat.le_refl _)
 have z1:=tl r
 have z2:=tl r.tail
 have z3:=tl r.tail.tail
 have z4:=tl r.tail.tail.tail
 have z5:=tl r.tail.tail.tail.tail
 have z6:=tl r.tail.tail.tail.tail.tail
 refine aD (vl (n:=n) (r:=r) (vs:=[some (.r 0),none,none,none,none,none,none,none,none,none,none,none]) (m:=4) (e:=.k (.int 4)) rfl (by decide) dg hz) λ f hf e1=>aD (vl (n:=n) (r:=r.tail) (vs:=[some (.r 0),none,none,none,none,none,none,none,none,none,none,none]) (m:=6) (e:=.k (.int 6)) rfl (by decide) dg (by exact Nat.le_trans ‹_› ‹_›)) λ w hw e2=>aD (vl (n:=n) (r:=r.tail.tail) (vs:=[some (.r 0),none,none,none,none,none,none,none,none,none,none,none]) (m:=6) (e:=.k (.int 6)) rfl (by decide) dg (by exact Nat.le_trans ‹_› (Nat.le_trans ‹_› ‹_›))) λ k0 nL e3=>aD (MM (s:=[tp r.tail.tail.tail]) (k0:=1+k0) hf (by exact Nat.le_add_right _ _) (by lia)) λ k e4 hk=>aD (vl (n:=n) (r:=r.tail.tail.tail) (vs:=[some (.r 0),some (.d (.int f)),some (.d (.int w)),some (.d (.int k)),none,none,none,none,none,none,none,none]) (m:=16 ^ 8) (e:=.bin .Pow (.k (.int 16)) (.k (.int 8))) rfl (by decide) (bZ dg dg (xz (k:=8) (by decide))) (by lia)) λ x7 _ e5=>aD (vl (n:=n) (r:=r.tail.tail.tail.tail) (vs:=[some (.r 0),some (.d (.int f)),some (.d (.int w)),some (.d (.int k)),some (.d (.tup [.int 65,.int 255,.int 256,.int 65535,.int 65536,.int 1114111,.int 1114112,.int x7])),none,none,none,none,none,none,none]) (m:=8) (e:=.k (.int 8)) rfl (by decide) dg (by lia)) λ i8 h8 e6=>aS (EA (s:=[tp r.tail.tail.tail.tail.tail]) (x:=x7) h8) λ E e7=>?_
 obtain⟨N,hN⟩:∃N:Nat,N=(E.fmod (16 ^ k:Nat)).toNat:=⟨_,rfl⟩
 have p16:0<16 ^ k:=Nat.pow_pos (by decide)
 have lt:N<16 ^ k:=by
  have:=Int.fmod_lt_of_pos E (b:=(16 ^ k:Nat)) (by lia)
  have:=Int.fmod_nonneg_of_pos E (b:=(16 ^ k:Nat)) (by lia)
  lia
 refine aD (vl (n:=n) (r:=r.tail.tail.tail.tail.tail) (vs:=[some (.r 0),some (.d (.int f)),some (.d (.int w)),some (.d (.int k)),some (.d (.tup [.int 65,.int 255,.int 256,.int 65535,.int 65536,.int 1114111,.int 1114112,.int x7])),some (.d (.int N)),none,none,none,none,none,none]) (m:=2) (e:=.k (.int 2)) rfl (by decide) dg (by lia)) λ i2 h2 e8=>aS (EB (s:=[tp r.tail.tail.tail.tail.tail.tail]) h2) λ up e9=>?_
 have Qs:=hk.le
 have t:=TY (K:=aW (n+1)) (s:=[tp r.tail.tail.tail.tail.tail.tail]) (f:=f) (w:=w) (k:=k) (fg:=bw up N k) (due:=dO (mR N)) (a:=some (.d (.tup [.int 65,.int 255,.int 256,.int 65535,.int 65536,.int 1114111,.int 1114112,.int x7]))) (b:=some (.d (.int N))) (c:=some (.d (.str (qe up)))) (by rw[dE];exact Qs) hk.lt
 simp only[show jz D.none f w (dO (mR N))=dO (jz none f w (mR N))from Jl none _]at t
 refine aS (TT (K:=aW (n+1)) (s:=[tp r.tail.tail.tail.tail.tail.tail]) (w:=w) (k:=k) (fg:=mJ f w k (bw up N k)) (a:=some (.d (.tup [.int 65,.int 255,.int 256,.int 65535,.int 65536,.int 1114111,.int 1114112,.int x7]))) (b:=some (.d (.int N))) (c:=some (.d (.str (qe up)))) hf (by have:=qf (f:=f) (w:=w) (k:=k) (fg:=bw up N k);rw[dE]at this;lia) (A7 (f:=f) (w:=w) (N:=N))) λ cZ u=>sR _ _ r.tail.tail.tail.tail.tail.tail (by lia) ⟨f,w,k,N,up,hf,hw,hk,lt,rfl,rfl⟩ ?_
 apply aR (f:=57) rfl rfl
 .skip
  apply aA
  .exact gT (aE e1 (aE e2 (aE (bZ dg e3 rfl) aT))) rfl
  .apply aA
   .exact ay (dQ rfl rfl e4)
   .apply aA
    .exact ay (A0 (aE dg (aE dg (aE dg (aE dg (aE dg (aE dg (aE dg (aE e5 aT)))))))) rfl rfl)
    .apply aA
     .exact ay (bZ (dQ rfl e6 e7) (bZ dg rfl (xz (by exact bK ‹_›))) ((yB (Nat.ne_of_gt p16)).trans (by rw[<-hN])))
     .apply aA
      .exact ay (dQ rfl e8 e9)
      .apply aA
       .apply ay
        apply ar dg rfl
        .apply aE
         .apply ef
          .exact rfl
          .exact wj rfl Qs
          .rw[gp];exact A01 (by exact bK ‹_›)
          .exact AF (up:=up) (N:=N) rfl rfl (by exact bK ‹_›)
         .exact aT
        .exact Pk (l:=bw up N k) (by rw[dE];exact bK ‹_›)
       .apply aA (ah:=nF f w k (some (.d (.tup [.int 65,.int 255,.int 256,.int 65535,.int 65536,.int 1114111,.int 1114112,.int x7]))) (some (.d (.int N))) (some (.d (.str (qe up)))) (bw up N k) (dO (mR N)) none)
        .apply ay
         unfold mR
         cases q:decide ((N:Int)<=1114111)with
         |true=>exact d0 (aH rfl dg rfl q) rfl
         |false=>exact dK (aH rfl dg rfl q) dg
        .exact aA t u
 .rfl
end
section
variable {n:Nat}{s t aB aP:St}{K:Nat->List W->St->R W}{vs ah:V}{N k f w:Nat}{up:Bool}{fg T:List Nat}{due:D}{a b c:Option W}{r:List Int}{o:Option (List Int)}
theorem RT(hz:r.length<=1000):∃T o r',r'.length<=r.length/\Gs T o/\aW (n+2) 57 [.r 0] [tp r]=.ok (.d (.tup [.str T,dO o])) [tp r']:=by
 refine gH (RG (n:=n) hz) λ T o r' h1 h2 e=>sR T o r' h1 h2 ?_
 refine(?_:wrap (cC (aW (n+1)) 57) _ _=_)
 refine(?_:R.bind (cC (aW (n+1)) 57 [.r 0] [tp r]) _=_)
 simp only[e]
 rfl
theorem yS{α:Type}{w:Nat}{l m:List α}{x:α}(h:x∈more w l m):x∈l\/x∈m:=by
 unfold more at h
 cases q:(w:Int)==2 with
 |true=>rw[q]at h;exact A09 h
 |false=>rw[q]at h;exact .inl h
theorem yT{α:Type}{w:Nat}{l m:List α}:(more w l m).length<=l.length+m.length:=by
 unfold more
 cases(w:Int)==2<;>simp
theorem AH{x:Nat}(h:x∈mJ f w k fg):x∈fg\/x=103\/x=48:=by
 unfold mJ at h
 cases q:(w:Int)==3 with
 |true=>
  cases q2:(f:Int)==3 with
  |true=>simp only[q,q2]at h;exact cu h
  |false=>simp only[q,q2]at h;exact .inl ((List.dropLast_sublist _).subset h)
 |false=>
  cases q4:(w:Int)==4 with
  |true=>simp only[q,q4]at h;exact(A09 h).elim (λ h=>.inl ((List.dropLast_sublist _).subset h)) λ h=>.inr (.inl (A04 h))
  |false=>
   cases q5:(w:Int)==5 with
   |true=>
    cases q2:(f:Int)==3 with
    |true=>simp only[q,q4,q5,q2]at h;exact(A09 h).elim (λ h=>.inr (.inr (List.eq_of_mem_replicate h))) .inl
    |false=>simp only[q,q4,q5,q2]at h;exact .inl h
   |false=>simp only[q,q4,q5]at h;exact .inl h
theorem AD:∀{k:Nat},∀c∈bw up N k,c<127:=by
 intro zl
 induction zl with
 |zero=>
  intro _ h
  exact cu h
 |succ k ih=>
  intro c h
  rcases A03 h with rfl|h
  .exact(s5 up (Nat.mod_lt _ (by decide))).2.2
  .exact ih c h
theorem DP:∀c∈fD f,c<127:=km (P:=λ l=>∀c∈l,c<127) (by decide) (by decide) (by decide) (by decide) f
theorem xo:∀c∈bv f,c<127:=by unfold bv;cases((f:Int)==3)<;>decide
theorem kv(h:Gs T o):(∀c∈T,c<127)/\T.length<=40:=by
 obtain⟨f,w,k,N,up,hf,hw,hk,_,rfl,_⟩:=h
 refine⟨λ c hc=>?_,?_⟩
 .rcases A03 hc with rfl|hc
  .decide
  rcases A09 hc with hc|hc
  .rcases yS hc with hc|hc
   .rcases A09 hc with hc|hc
    .rcases A09 hc with hc|hc
     .exact DP c hc
     .rcases AH hc with hc|rfl|rfl
      .exact AD c hc
      .decide
      .decide
    .exact xo c hc
   .rw[A04 hc];decide
  .rw[A04 hc];decide
 .have h1:=yT (w:=w) (l:=fD f++mJ f w k (bw up N k)++ bv f) (m:=[55])
  have h2:=qf (f:=f) (w:=w) (k:=k) (fg:=bw up N k)
  have h3:=oX (f:=f)
  have h4:(bv f).length<=1:=by unfold bv;cases((f:Int)==3)<;>decide
  have:=hk.le
  rw[dE]at h2
  simp only[List.length_append,List.length_cons,List.length_nil]at h1 ⊢
  lia
theorem RU(h:∀c∈T,c<127)(hz:T.length<=40):aW (n+1) 54 [.d (.str T)] s=.ok (.d (.bytes (byt T))) s:=bL (ds:=[.str T]) (by
 apply aR (f:=54) rfl rfl
 .skip
  apply aq
  apply be
  apply cm
  .apply aE
   .apply ef rfl rfl (A01 (by rw[List.length_map];exact bK ‹_›))
    refine(dm (f:=λ x=>match x with | .str [c]=>.int c | x=>x) λ x hx=>?_)
    refine aD (A10 hx) λ c _ dz=>?_;subst dz
    exact oz rfl rfl
   .exact aT
  .rw[List.nil_append,List.map_map]
   refine(?_:onO (jR (T.map λ(c:Nat)=>D.int (c:Int))) _=_)
   rw[show(T.map λ(c:Nat)=>D.int (c:Int))=(T.map λ(c:Nat)=>(c:Int)).map D.int by simp only[List.map_map];rfl,kC]
   refine(bC (dG (List.all_eq_true.mpr λ x hx=>?_) (A01 (by rw[List.length_map];exact bK ‹_›)))).trans ?_
   .refine aD (A10 hx) λ c hc dz=>?_;subst dz
    have:=h c hc
    exact dG (A01 (by exact Int.ofNat_nonneg _)) (A01 (by exact Od (Int.ofNat_le.mpr ‹_›)))
   .rw[List.map_map]
 .rfl)
end
section
variable {n:Nat}{s t aB aP:St}{K:Nat->List W->St->R W}{vs ah:V}{N k f w:Nat}{up:Bool}{fg T:List Nat}{due:D}{a b c:Option W}{r:List Int}{o:Option (List Int)}
theorem Cd{i j a b:Nat}{w:W}(he:ao K e vs s=.ok w aB):gy K (.tryx i e j a b) vs s=.ok (none,pv vs i w) aB:=by
 show(match ao K e vs s with | .ok w s=>_ | .err d=>_ | .no=>_)=_
 rw[he]
theorem xS{i j a b:Nat}{t:Int}(he:ao K e vs s=.err d)(hg:ao K e vs (goneAll s)=.err (.int t))(ha:cW vs a=some (.d .none))(hb:cW vs b=some (.d (.bytes l)))(hj:cW vs j=none)(h0:0<=t)(ht:t<=l.length)(hz:l.length<=1000000000000) :
  gy K (.tryx i e j a b) vs s=.ok (some (.d (.bool true)),vs) s:=by
 show(match ao K e vs s with | .ok w s=>_ | .err d=>caught (ao K e vs (goneAll s)) vs s j a b | .no=>_)=_
 rw[he,hg]
 show onO (some t) (λ i=>onO ((cW vs a).bind fV) λ x=>onO (((cW vs b).bind fV).bind yD) λ l=>need ((cW vs j).isNone&&decide (l.length<=1000000000000)) (R.ok (some (W.d (.bool (x.isNone&&(decide (0<=i)&&decide (i<=l.length))))),vs) s))=_
 rw[ha,hb,hj]
 show need (true&&decide (l.length<=1000000000000)) (R.ok (some (W.d (.bool (true&&(decide (0<=t)&&decide (t<=l.length))))),vs) s)=_
 rw[A01 hz,A01 h0,A01 ht];rfl
noncomputable def i7(n:Nat)(T:List Nat):Option (List Int)->Prop
 |none=>∃e:Nat,e<=T.length/\∀s,aW (n+11) 43 [.d (.bytes (byt T)),.d .none] s=.err (.int e)
 |some l=>∃(B:List Int) (rl:List (Int×Int)) (l':List Int),(∀s,aW (n+11) 43 [.d (.bytes (byt T)),.d .none] s=.ok (.d (gb B)) s)/\(∀s,aW (n+11) 10 [.d (gb B)] s=.ok (.d (.list (cE rl))) s)/\
   (∀s,aW (n+11) 51 [.d (.list (l.map .int))] s=.ok (.d (.list (l'.map .int))) s)/\∀s,aW (n+11) 52 [.d (.list (l'.map .int))] s=.ok (.d (.list (cE rl))) s
theorem P3(H:∀T o,Gs T o->i7 n T o):mi (n+12) 58:=λ r hz=>by
 obtain⟨T,o,r',h1,h2,e⟩:=RT (n:=n+9) hz
 obtain⟨low,len⟩:=kv h2
 have Z:=H T o h2
 have go:∀x,cC (aW (n+11)) 58 [.r 0] [tp r]=.ok (.d x) [tp r']->aW (n+12) 58 [.r 0] [tp r]=.ok (.d x) [tp r']:=λ x q=>by
  show wrap (cC (aW (n+11)) 58) _ _=_
  unfold wrap
  show R.bind (cC (aW (n+11)) 58 [.r 0] [tp r]) _=_
  rw[q];rfl
 refine⟨r',h1,go _ ?_⟩
 have c54:=RU (n:=n+10) (s:=[tp r']) low len
 have bl:(byt T).length<=40:=by rw[List.length_map];exact len
 cases o with
 |none=>
  obtain⟨e43,uA,q⟩:=Z
  apply aR (f:=58) rfl rfl
  .unfold RX
   apply aA
   .exact xV (aF rfl e) rfl
   .apply aA
    .exact ay (aF rfl c54)
    .apply aq
     exact xS (Kv (aF rfl (q _))) (Kv (aF rfl (q _))) rfl rfl rfl (by exact Int.ofNat_nonneg _) (by rw[List.length_map];exact Pw ‹_›) (by exact bK ‹_›)
  .rfl
 |some l=>
  obtain⟨B,rl,l',q1,q2,q3,q4⟩:=Z
  apply aR (f:=58) rfl rfl
  .unfold RX
   apply aA
   .exact xV (aF rfl e) rfl
   .apply aA
    .exact ay (aF rfl c54)
    .apply aA
     .apply Cd
      exact ar (aF rfl (q1 _)) rfl aT (q2 _)
     .apply aq
      apply be
      apply bS
      apply cY
      .exact aH (k:=true) rfl dg rfl rfl
      .apply cH
       exact aH (k:=true) rfl (aF (aE (aF rfl (q3 _)) aT) (q4 _)) (rj rl) rfl
  .rfl
end
section
variable {n:Nat}{s t:St}{N k f w p:Nat}{up:Bool}{T:List Nat}{o aI:List UInt8}
theorem zv(h:N<16 ^ k):lY 0 (byt (bw up N k))=N:=by
 simp only[zw,Nat.mod_eq_of_lt h];simp
theorem cw:(byt l).length=l.length:=List.length_map _
theorem d5:byt (l++m)=byt l++byt m:=List.map_append
theorem qk(hk:iF f k)(hN:N<16 ^ k)(hz:o.length<=1000000)(hd:o.drop p=byt (fD f++bw up N k++bv f)++ aI):∀n,cC (aW (n+3)) 31 [.r 0] [rd o p]=fP N p (p+(fD f++bw up N k++bv f).length) o:=λ n=>by
 have hh:=mI (up:=up) (N:=N) (k:=k)
 have hv:=zv (up:=up) hN
 have hl:(byt (bw up N k)).length=k:=by simp only[cw,dE]
 have e:(fD f++bw up N k++bv f).length=(fD f).length+k+(bv f).length:=by simp only[List.length_append,List.length_append,dE]
 rw[e]
 simp only[d5,d5]at hd
 rw[<-hv]
 generalize byt (bw up N k)=ds at *
 rcases hk with⟨rfl,rfl⟩|⟨rfl,rfl⟩|⟨rfl,rfl⟩|⟨rfl,h1,h6⟩
 .have hd:o.drop p=92::120::(ds++aI):=hd.trans (by show([92,120]++ ds++[])++ aI=_;simp)
  simp only[uG (n:=n+1) hz hd hh hl,hl];rfl
 .have hd:o.drop p=92::117::(ds++aI):=hd.trans (by show([92,117]++ ds++[])++ aI=_;simp)
  simp only[uH (n:=n+1) hz hd hh hl,hl];rfl
 .have hd:o.drop p=92::85::(ds++aI):=hd.trans (by show([92,85]++ ds++[])++ aI=_;simp)
  simp only[uJ (n:=n+1) hz hd hh hl,hl];rfl
 .have hd:o.drop p=92::120::123::(ds++125::aI):=hd.trans (by show([92,120,123]++ ds++[125])++ aI=_;simp)
  simp only[uI (n:=n) hz hd hh (by exact Nat.lt_of_lt_of_le ‹_› (Nat.le_of_eq (Eq.symm ‹_›))) (by exact bK (Nat.le_trans (Nat.le_of_eq ‹_›) ‹_›)),hl]
  show fP _ _ (p+1+1+1+k+1) o=fP _ _ (p+(3+k+1)) o
  rw[show p+1+1+1+k+1=p+(3+k+1) by lia]
theorem xn:∃r,byt (fD f)=92::r:=km (P:=λ l=>∃r,byt l=92::r) ⟨_,rfl⟩ ⟨_,rfl⟩ ⟨_,rfl⟩ ⟨_,rfl⟩ f
theorem AY(hk:iF f k)(hN:N<16 ^ k)(hz:o.length<=1000000)(hd:o.drop p=byt (fD f++bw up N k++bv f)++ aI)(hm:(N:Int)<=1114111):bX o p N (p+(fD f++bw up N k++bv f).length):=by
 obtain⟨r,e⟩:=xn (f:=f)
 refine .esc (aI:=r++byt (bw up N k)++ byt (bv f)++ aI) hz (hd.trans (by simp only[d5,d5,e];rfl)) λ n=>(qk hk hN hz hd n).trans (if_pos hm)
theorem E8(hk:iF f k)(hN:N<16 ^ k)(hz:o.length<=1000000)(hd:o.drop p=byt (fD f++bw up N k++bv f)++ aI)(hm:1114111<(N:Int)):dN o p p:=by
 obtain⟨r,e⟩:=xn (f:=f)
 exact .big (aI:=r++byt (bw up N k)++ byt (bv f)++ aI) hz (hd.trans (by simp only[d5,d5,e];rfl)) (qk hk hN hz hd) hm
end
section
variable {n:Nat}{s t:St}{N k f w p:Nat}{up:Bool}{T:List Nat}{o aI ds:List UInt8}{c:UInt8}{r:List UInt8}
theorem mQ{e e':Nat}(h:e=e')(q:∀n,cC (aW (n+3)) 31 [.r 0] [rd o p]=.err (.int (e:Int))){r:List UInt8}(hz:o.length<=1000000)(hd:o.drop p=92::r):dN o p e':=by
 subst h
 exact .esc hz hd q
theorem E9(hk:iF f k)(hh:∀c∈ds,bQ c=true)(hl:ds.length<k)(hz:o.length<=1000000)(hd:o.drop p=byt (fD f)++ (ds++c::r))(hc:bQ c=false)(JR:c≠123)(hb:f=3->ds.length=0\/c≠125):dN o p ((p+(fD f).length+ds.length:Nat):Int):=by
 rcases hk with⟨rfl,rfl⟩|⟨rfl,rfl⟩|⟨rfl,rfl⟩|⟨rfl,h1,h6⟩
 .exact mQ (by show _=p+2+_;lia) (λ n=>qg (n:=n+1) hz hd hh hl hc JR) hz hd
 .exact mQ (by show _=p+2+_;lia) (λ n=>qh (n:=n+1) hz hd hh hl hc) hz hd
 .exact mQ (by show _=p+2+_;lia) (λ n=>qi (n:=n+1) hz hd hh hl hc) hz hd
 .refine mQ (by show _=p+3+_;lia) (λ n=>kR (n:=n) (aI:=c::r) hz hd hh (by lia) (.inr λ c' r' e=>?_) ((hb rfl).imp id λ q=>⟨c,r,rfl,q⟩)) hz hd
  cases e;exact hc
theorem AW{L:List UInt8}(hh:∀c∈L,bQ c=true)(hl:L.length=7)(hz:o.length<=1000000)(hd:o.drop p=byt (fD 3)++ (L++aI)):dN o p ((p+9:Nat):Int):=by
 have l6:(L.take 6).length=6:=by rw[List.length_take];lia
 obtain⟨c,hc⟩:∃c,L.drop 6=[c]:=List.length_eq_one_iff.mp (by rw[List.length_drop];lia)
 have e:L=L.take 6++[c]:=by simp only[<-hc,List.take_append_drop]
 have ig:o.drop p=92::120::123::(L.take 6++c::aI):=by
  simp only[hd,show L.take 6++c::aI=(L.take 6++[c])++ aI by rw[List.append_assoc];rfl,<-e];rfl
 have RD:c≠125:=λ q=>by
  have:=hh c (by rw[e];exact List.mem_append.mpr (.inr (.head _)))
  rw[q]at this;exact dJ this
 exact mQ (by rw[l6]) (λ n=>kR (n:=n) (aI:=c::aI) hz ig (λ c' h'=>hh c' (List.take_subset 6 L h')) (by exact Nat.le_of_eq ‹_›) (.inl l6) (.inr ⟨c,aI,rfl,RD⟩)) hz ig
end
section
variable {n:Nat}{s t:St}{N k f w p:Nat}{up:Bool}{T:List Nat}{o:Option (List Int)}{aI ds:List UInt8}{c:UInt8}{r:List UInt8}
def Rg(T:List Nat):Prop:=∃e:Nat,e<=T.length/\dN (byt T) 1 e
def Rd(T:List Nat)(o:Option (List Int)):Prop:=∃f w k N up,iF f k/\N<16 ^ k/\T=91::(more w (fD f++bw up N k++bv f) [55]++ [93])/\o=(mR N).map λ l=>more w l [55]
theorem qM:∀c∈byt (bw up N k).dropLast,bQ c=true:=λ c h=>mI (up:=up) (N:=N) (k:=k) c ((List.dropLast_sublist _).subset (by rw[byt,<-List.map_dropLast];exact h))
theorem qL:(byt (bw up N k).dropLast).length=k-1:=by simp only[cw,List.length_dropLast,dE]
theorem iF.pos(h:iF f k):1<=k:=by rcases h with h|h|h|h<;>lia
theorem GH(h:((f:Int)==3)=true):bv f=[125]:=by unfold bv;rw[h]
theorem Lb(h:((f:Int)==3)=false):bv f=[]:=by unfold bv;rw[h]
theorem yU{α:Type}{l m:List α}(h:((w:Int)==2)=false):more w l m=l:=by unfold more;rw[h]
theorem Pu(h:((w:Int)==i)=true)(hi:i≠2):((w:Int)==2)=false:=A05 λ q=>hi ((beq_iff_eq.mp h).symm.trans q)
theorem tC(hk:iF f k)(hh:∀c∈ds,bQ c=true)(hl:ds.length<k)(hz:T.length<=1000)(hT:byt T=91::(byt (fD f)++ (ds++c::r)))(hc:bQ c=false)(JR:c≠123)(hb:f=3->ds.length=0\/c≠125):Rg T:=by
 have US:=congrArg List.length hT
 simp only[cw,List.length_cons,List.length_append,cw,List.length_append,List.length_cons]at US
 exact ad (1+(fD f).length+ds.length) (by lia) (E9 (o:=byt T) (p:=1) hk hh hl (by rw[cw];exact bK ‹_›) (by rw[hT];rfl) hc JR hb)
theorem vj(h:Gs T o):(o=none/\Rg T)\/Rd T o:=by
 have fN:=(kv h).2
 obtain⟨f,w,k,N,up,hf,hw,hk,hN,hT,ho⟩:=h
 have hp:=hk.pos
 unfold mJ at hT
 unfold jz at ho
 cases h3:(w:Int)==3 with
 |true=>
  simp only[h3,yU (Pu h3 (by decide))]at hT
  simp only[h3]at ho
  refine .inl ⟨ho,?_⟩
  cases g3:(f:Int)==3 with
  |true=>
   simp only[g3,GH g3]at hT
   refine tC (ds:=[]) (c:=125) (r:=[93]) hk (λ _ h=>cu h) hp (by exact bK ‹_›) ?_ rfl (by decide) (λ _=>.inl rfl)
   simp only[hT];simp
  |false=>
   simp only[g3,Lb g3]at hT
   refine tC (ds:=byt (bw up N k).dropLast) (c:=93) (r:=[]) hk qM (by simp only[qL];exact Kh ‹_›) (by exact bK ‹_›) ?_ rfl (by decide) (λ q=>by subst q;exact tm g3)
   simp only[hT];simp
 |false=>
  cases h4:(w:Int)==4 with
  |true=>
   simp only[h3,h4,yU (Pu h4 (by decide))]at hT
   simp only[h3,h4]at ho
   refine .inl ⟨ho,?_⟩
   refine tC (ds:=byt (bw up N k).dropLast) (c:=103) (r:=byt (bv f)++ [93]) hk qM (by simp only[qL];exact Kh ‹_›) (by exact bK ‹_›) ?_ rfl (by decide) (λ _=>.inr (by decide))
   simp only[hT];simp
  |false=>
   cases h5:(w:Int)==5 with
   |true=>
    cases g3:(f:Int)==3 with
    |true=>
     simp only[h3,h4,h5,g3,yU (Pu h5 (by decide)),GH g3]at hT
     simp only[h3,h4,h5,g3]at ho
     obtain rfl:f=3:=by have:=beq_iff_eq.mp g3;exact tj ‹_›
     have Vb:k<=7:=by rcases hk with h|h|h|h<;>lia
     refine .inl ⟨ho,10,?_,?_⟩
     .rw[hT];simp[dE,fD];lia
     .refine AW (L:=byt (List.replicate (7-k) 48++bw up N k)) (aI:=[125,93]) (o:=byt T) (p:=1) (λ c h=>?_) (by simp only[cw,List.length_append,List.length_replicate,dE];exact Nat.sub_add_cancel ‹_›) (by rw[cw];exact bK ‹_›) ?_
      .simp only[d5]at h
       rcases A09 h with h|h
       .refine aD (A10 h) λ x hx dz=>?_;subst dz
        rw[List.eq_of_mem_replicate hx];rfl
       .exact mI (up:=up) (N:=N) (k:=k) c h
      .rw[hT];simp
    |false=>
     simp only[h3,h4,h5,g3]at hT ho
     exact .inr ⟨f,w,k,N,up,hk,hN,hT,ho⟩
   |false=>
    simp only[h3,h4,h5]at hT ho
    exact .inr ⟨f,w,k,N,up,hk,hN,hT,ho⟩
end
section
variable {n:Nat}{s t:St}{N k f w p:Nat}{up:Bool}{T:List Nat}{o:Option (List Int)}{aI ds:List UInt8}{c:UInt8}{r:List UInt8}{K:Nat->List W->St->R W}
theorem oY:∃y r,fD f=92::y::r/\(y=120\/y=117\/y=85):=km (P:=λ l=>∃y r,l=92::y::r/\(y=120\/y=117\/y=85)) ⟨_,_,rfl,.inl rfl⟩ ⟨_,_,rfl,.inr (.inl rfl)⟩ ⟨_,_,rfl,.inr (.inr rfl)⟩ ⟨_,_,rfl,.inl rfl⟩ f
theorem nh{α:Type}{w:Nat}{x:α}{l m:List α}:more w (x::l) m=x::more w l m:=by
 unfold more
 cases(w:Int)==2<;>rfl
theorem J9(h:Gs T o):∃y r,byt T=91::92::y::r/\(y=120\/y=117\/y=85):=by
 obtain⟨f,w,k,N,up,_,_,_,_,rfl,_⟩:=h
 refine dP (oY (f:=f)) λ y r e hy=>gJ y.toUInt8 (byt (more w (r++mJ f w k (bw up N k)++ bv f) [55]++ [93])) ?_ (by rcases hy with rfl|rfl|rfl<;>decide)
 simp only[e,List.cons_append,List.cons_append,List.cons_append,List.cons_append,nh,nh];rfl
theorem u5(h:Gs T o)(hb:Rg T):i7 n T none:=by
 refine dP (J9 h) λ y r e hy=>?_
 have hz:=(kv h).2
 refine aD hb λ i hi q=>?_
 have hl:=congrArg List.length e
 rw[cw,List.length_cons,List.length_cons]at hl
 refine ad i hi (λ s=>?_)
 rw[e]at q ⊢
 exact vK (n:=n) (r:=y::r) (by lia) q rfl (by decide) (by decide) (by rcases hy with rfl|rfl|rfl<;>rfl)
theorem Nl(a:Int):aW (n+1) 52 [.d (.list [.int a])] s=.ok (.d (.list (cE [(a,a)]))) s:=bL (ds:=[.list [.int a]]) (by kernel_rfl)
theorem Jz(a:Int):aW (n+1) 51 [.d (.list [.int a])] s=.ok (.d (.list [.int a])) s:=pE (l:=[a]) (ds:=[.int a]) tW rfl (by decide:1<=1000)
theorem DX{W:List Nat}(hz:W.length<=1000)(hT:T=91::(W++[93]))(hc:bX (byt T) 1 N (1+W.length))(hW:∃y r,W=92::y::r/\(y=120\/y=117\/y=85)):i7 n T (some [(N:Int)]):=by
 have e:byt T=91::(byt W++[93]):=by rw[hT];refine(?_:91::byt (W++[93])=_);rw[d5];rfl
 rw[e]at hc
 refine v5 ([(N:Int),N+1]) ([((N:Int),(N:Int))]) ([(N:Int)]) (λ s=>?_) (λ s=>jW (n:=n+10) (rl:=[((N:Int),(N:Int))]) (by decide:1<=3)) (λ s=>Jz (n:=n+10) N) (λ s=>Nl (n:=n+10) N)
 rw[e]
 refine vJ (n:=n) (w:=byt W) (c:=N) (by rw[cw];exact hz) (by simp only[cw];exact hc) ?_
 obtain⟨y,r,rfl,hy⟩:=hW
 exact zO 92 (y.toUInt8::byt r) rfl rfl (by decide) (by decide) (by rcases hy with rfl|rfl|rfl<;>rfl)
def uo(n:Nat):Prop:=∀(T:List Nat)(N k f:Nat)(up:Bool),iF f k->N<16 ^ k->(N:Int)<=1114111->T=91::(fD f++bw up N k++bv f++[55]++ [93])->i7 n T (some [(N:Int),55])
theorem E7(hp:uo n)(h:Gs T o):i7 n T o:=by
 have hz:=(kv h).2
 rcases vj h with⟨rfl,hb⟩|⟨f,w,k,N,up,hk,hN,hT,ho⟩
 .exact u5 h hb
 .have hd:∃aI,(byt T).drop 1=byt (fD f++bw up N k++bv f)++ aI:=by
   rw[hT]
   unfold more
   cases(w:Int)==2 with
   |true=>exact⟨byt [55,93],by refine(?_:byt ((fD f++bw up N k++bv f++[55])++ [93])=_);rw[List.append_assoc,d5];rfl⟩
   |false=>exact⟨byt [93],by refine(?_:byt ((fD f++bw up N k++bv f)++ [93])=_);rw[d5]⟩
  refine aS hd λ aI hd=>?_
  have Q5:(byt T).length<=1000000:=by rw[cw];exact bK ‹_›
  unfold mR at ho
  cases hm:decide ((N:Int)<=1114111)with
  |false=>
   rw[hm]at ho
   have hm:=of_decide_eq_false hm
   subst ho
   exact u5 h ⟨1,by rw[hT];simp,E8 hk hN Q5 hd (by lia)⟩
  |true=>
   rw[hm]at ho
   have hm:=A00 hm
   have hc:=AY hk hN Q5 hd hm
   subst ho
   unfold more at hT
   refine(?_:i7 n T (some (more w [(N:Int)] [55])))
   unfold more
   cases h2:(w:Int)==2 with
   |true=>rw[h2]at hT;exact hp T N k f up hk hN hm hT
   |false=>
    rw[h2]at hT
    refine dP (oY (f:=f)) λ y r e hy=>DX (W:=fD f++bw up N k++bv f) (by have hz:=hz;rw[hT,List.length_cons,List.length_append]at hz;dsimp only at hz;lia) hT hc ⟨y,r++bw up N k++bv f,by rw[e];rfl,hy⟩
end
section
variable {n:Nat}{s t:St}{N k f w p:Nat}{up:Bool}{T:List Nat}{o:Option (List Int)}{aI ds:List UInt8}{c:UInt8}{r:List UInt8}{K:Nat->List W->St->R W}
theorem Gk{a b:Int}(h:(a==b-1)=false):aW (n+1) 52 [.d (.list [.int a,.int b])] s=.ok (.d (.list (cE [(a,a),(b,b)]))) s:=bL (ds:=[.list [.int a,.int b]]) (by
 have app:∀{x:Int}{l:List D}{y:Option W},l.length<=10->bN (aW n) (.cons (.ex (.meth (.v 1) 0 (.cons (.tup (.cons (.v 2) (.cons (.v 2) .nil))) .nil))) .nil) [y,some (.r 0),some (.d (.int x))] [.list l]=.ok (none,[y,some (.r 0),some (.d (.int x))]) [.list (l++[.tup [.int x,.int x]])]:=λ{x l y} hl=>
  aA (fX (d:=.none) (ar rfl rfl rfl (lS rfl (by exact bK ‹_›) rfl)) rfl) aK
 apply aR (f:=52) rfl rfl
 .unfold Sn
  apply aA
  .exact rfl
  .apply aA
   .apply gD rfl rfl
    refine dl (ah:=[some (.d (.list [.int a,.int b])),some (.r 0),some (.d (.int a))]) (aB:=[.list [.tup [.int a,.int a]]]) (aA (ae (bS (d7 (b:=false) (aH rfl rfl (t6 rfl rfl) rfl) rfl)) (app (l:=[]) (by decide))) aK) ?_
    refine dl (ah:=[some (.d (.list [.int a,.int b])),some (.r 0),some (.d (.int b))]) (aB:=[.list [.tup [.int a,.int a],.tup [.int b,.int b]]]) (aA (ae (bS (cY (aH (k:=true) rfl rfl (t6 (ds:=[.tup [.int a,.int a]]) rfl rfl) rfl) (cH (aH (dQ (dQ rfl rfl (t7 (ds:=[]) (d:=.tup [.int a,.int a]) rfl (by decide))) dg rfl) rfl (mT _ _ _) h)))) (app (l:=[.tup [.int a,.int a]]) (show 1<=10 by decide))) aK) ?_
    rfl
   .exact rfl
 .rfl)
theorem SL(x y:Int):eZ (cE [(x,x),(y,y)])=some (match decide (x<y)with | true=>cE [(x,x),(y,y)] | false=>cE [(y,y),(x,x)]):=by
 show gF (lg [[x,x],[y,y]]) (some ((match decide (x<y)with | true=>[[x,x],[y,y]] | false=>[[y,y],[x,x]]).map λ(x:List Int)=>D.tup (x.map .int)))=_
 have e:lg [[x,x],[y,y]]=true:=by
  by_cases h:x=y
  .subst h;simp[lg]
  .have h':y≠x:=λ q=>h q.symm
   simp[lg,h,h']
 rw[e]
 cases decide (x<y)<;>rfl
theorem Sk{x y:Int}(h:x+1<y):cX [(x,x),(y,y)]=flat [(x,x),(y,y)]:=by
 show(if y<=x+1 then _ else[x,x+1]++ [y,y+1])=_
 rw[if_neg (by exact Int.not_le.mpr ‹_›)];rfl
theorem Rt(x y:Int)(h:x<y):o4 (cN (λ a b=>decide (a<b)) [x,y]) []=[x,y]/\o4 (cN (λ a b=>decide (a<b)) [y,x]) []=[x,y]:=by
 have e:o4 [x,y] []=[x,y]:=by
  show(match [x].contains y with | true=>[x] | false=>[x]++ [y])=_
  rw[List.contains_cons,A05 (show y≠x by exact Int.ne_of_gt ‹_›)];rfl
 constructor
 .show o4 (match decide (x<y)with | true=>[x,y] | false=>[y,x]) []=_
  rw[A01 h];exact e
 .show o4 (match decide (y<x)with | true=>[y,x] | false=>[x,y]) []=_
  rw[decide_eq_false (by exact Int.not_lt.mpr (Int.le_of_lt ‹_›))];exact e
theorem gV{rl' rl:List (Int×Int)}{l':List Int}(hk:iF f k)(hN:N<16 ^ k)(hm:(N:Int)<=1114111)(hT:T=91::(fD f++bw up N k++bv f++[55]++ [93]))
  (h1:eZ (cE [((N:Int),(N:Int)),(55,55)])=some (cE rl')) (h2:rl'.length<=100) (h3:cX rl'=flat rl) (h4:rl.length<=3) (h5:o4 (cN (λ a b=>decide (a<b)) [(N:Int),55]) []=l') (h6:∀n s,aW (n+1) 52 [.d (.list (l'.map .int))] s=.ok (.d (.list (cE rl))) s):i7 n T (some [(N:Int),55]):=by
 have Qs:=hk.le
 obtain⟨y,r,e,hy⟩:=oY (f:=f)
 have hp:=oX (f:=f)
 have hq:(bv f).length<=1:=by unfold bv;cases((f:Int)==3)<;>decide
 have hl:(fD f++bw up N k++bv f).length<=12:=by simp only[List.length_append,List.length_append,dE];exact bK (Nat.add_le_add (Nat.add_le_add ‹_› ‹_›) ‹_›)
 have hd:(byt T).drop 1=byt (fD f++bw up N k++bv f)++ [55,93]:=by
  rw[hT,List.append_assoc];exact d5 (l:=fD f++bw up N k++bv f) (m:=[55]++ [93])
 have fN:(byt T).length=1+(fD f++bw up N k++bv f).length+2:=by
  have:=congrArg List.length hd
  rw[List.length_drop,List.length_append,cw (l:=fD f++bw up N k++bv f)]at this
  have h0:(byt T).length≥1:=by rw[hT];exact Nat.succ_le_succ (Nat.zero_le _)
  show _=1+(fD f++bw up N k++bv f).length+2
  simp only[List.length_cons,List.length_nil]at this
  lia
 have hz:(byt T).length<=1000000:=by lia
 have hc:=AY hk hN hz hd hm
 have d2:(byt T).drop (1+(fD f++bw up N k++bv f).length)=[55,93]:=by
  rw[<-cw (l:=fD f++bw up N k++bv f)];exact f0 hd
 have d3:(byt T).drop (1+(fD f++bw up N k++bv f).length+1)=[93]:=(bF d2).2.2
 have hT1:(byt T).drop 1=92::(y.toUInt8::byt (r++bw up N k++bv f)++ [55,93]):=by rw[hd,e];rfl
 have np:dj (92::(y.toUInt8::byt (r++bw up N k++bv f)++ [55,93]))=true:=by rcases hy with rfl|rfl|rfl<;>rfl
 have I:cR (byt T) 2 1 [] [] (cE [((N:Int),(N:Int)),(55,55)]) [] (1+(fD f++bw up N k++bv f).length+1) :=
  .rng hT1 rfl np (.one hc d2 (by decide) rfl) (.rng d2 rfl rfl (.one (.plain hz d2 (by decide) rfl) d3 (by decide) rfl) (.nil d3))
 have B:Bd (cE [((N:Int),(N:Int)),(55,55)]) ((cX rl').map .int):=.inr ⟨_,_,rfl,uX (λ r hr=>by
  rcases A03 hr with rfl|hr
  .exact Int.le_refl _
  .rw[A04 hr];exact Int.le_refl _) h1 (show 2<=100 by decide) h2⟩
 have hT0:byt T=91::92::(y.toUInt8::byt (r++bw up N k++bv f)++ [55,93]):=by
  rw[<-hT1,hT];rfl
 refine⟨flat rl,rl,l',λ s=>?_,λ s=>jW (n:=n+10) h4,λ s=>?_,λ s=>h6 _ s⟩
 .have F:=s7 (n:=n) (dp:=.int 0) (p:=0) hz hT0 (by decide) I (by decide) B
  rw[show 1+(fD f++bw up N k++bv f).length+1+1=(byt T).length by lia]at F
  rw[<-h3]
  exact pC (n:=n) (s:=s) (ss:=[]) hz hT0 (by decide) F
 .rw[<-h5]
  exact pE (n:=n+10) (l:=cN (λ a b=>decide (a<b)) [(N:Int),55]) tW (pZ (show 2<=16 by decide)) (by rw[jp];exact show 2<=1000 by decide)
end
section
variable {n:Nat}{s t:St}
theorem Ig{l:List Int}(h:∀K,cC K 52 [.d (.list (l.map .int))] []=.ok (.d (.list (cE rl))) [])(n:Nat)(s:St):aW (n+1) 52 [.d (.list (l.map .int))] s=.ok (.d (.list (cE rl))) s:=bL (ds:=[.list (l.map .int)]) (h _)
theorem xw:uo n:=λ T N k f up hk hN hm hT=>by
 rcases Nat.lt_or_ge N 54 with q|q
 .exact gV (rl':=[((N:Int),(N:Int)),(55,55)]) (rl:=[((N:Int),(N:Int)),(55,55)]) (l':=[(N:Int),55]) hk hN hm hT (by rw[SL,A01 (by lia)]) (show 2<=100 by decide) (Sk (by lia)) (show 2<=3 by decide) (Rt (N:Int) 55 (by lia)).1 (λ n s=>Gk (A05 (by lia)))
 rcases Nat.lt_or_ge 56 N with q'|q'
 .exact gV (rl':=[(55,55),((N:Int),(N:Int))]) (rl:=[(55,55),((N:Int),(N:Int))]) (l':=[55,(N:Int)]) hk hN hm hT (by rw[SL,decide_eq_false (by lia)]) (show 2<=100 by decide) (Sk (by exact Kj ‹_›)) (show 2<=3 by decide) (Rt 55 (N:Int) (by lia)).2 (λ n s=>Gk (A05 (by lia)))
 have:N=54\/N=55\/N=56:=by lia
 rcases this with rfl|rfl|rfl
 .exact gV (rl':=[(54,54),(55,55)]) (rl:=[(54,55)]) (l':=[54,55]) hk hN hm hT (by kernel_rfl) (by decide) (by decide) (by decide) (by decide) (Ig λ K=>by kernel_rfl)
 .exact gV (rl':=[(55,55),(55,55)]) (rl:=[(55,55)]) (l':=[55]) hk hN hm hT (by kernel_rfl) (by decide) (by decide) (by decide) (by decide) (Ig λ K=>by kernel_rfl)
 .exact gV (rl':=[(55,55),(56,56)]) (rl:=[(55,56)]) (l':=[55,56]) hk hN hm hT (by kernel_rfl) (by decide) (by decide) (by decide) (by decide) (Ig λ K=>by kernel_rfl)
theorem RS:mi (n+12) 58:=P3 λ T o h=>E7 xw h
end
section
variable {n:Nat}{s t:St}{K:Nat->List W->St->R W}{d:D}{rows:List (Int×Option Int)}{x first last:Int}{v b:Option Int}{k cL dZ:Nat}{vs:V}
noncomputable def vD:Option Int->D
 |none=>.none
 |some i=>.int i
theorem Ay(a b:Option Int):aW (n+1) 14 [.d (vD a),.d (vD b)] s=.ok (.d (.bool (a==b))) s:=bL (ds:=[vD a,vD b]) (by
 match a,b with
 |none,none=>rfl
 |none,some _=>rfl
 |some _,none=>rfl
 |some i,some j=>
  show _=R.ok (W.d (.bool (i==j))) []
  apply aR (f:=14) rfl rfl
  .unfold TE
   apply aq
   apply be
   apply bS (r:=.ok (.d (.bool (i==j))) [])
   cases h:i==j with
   |true=>exact cY (aH rfl rfl (mT i j 4) h) rfl
   |false=>exact d7 (aH rfl rfl (mT i j 4) h) rfl
  .rfl)
noncomputable abbrev P5(rows:List (Int×Option Int)):D:=.list (rows.map λ r=>.int r.1)
noncomputable abbrev Rj(rows:List (Int×Option Int)):D:=.list (rows.map λ r=>vD r.2)
noncomputable abbrev mO(d:D)(rows:List (Int×Option Int)):MW:=.inst 256 [(1,.d d),(2,.d (P5 rows)),(3,.d (Rj rows))]
noncomputable def hZ(last:Int)(v b:Option Int)(first:Int):List (Int×Option Int):=match decide (last<1114111)&&b !=v with
 |true=>[(first,v),(last+1,b)]
 |false=>[(first,v)]
noncomputable def nJ(A:List (Int×Option Int))(first last:Int)(v b:Option Int):List (Int×Option Int):=match A.getLast?.map (·.2)==some v with
 |true=>(hZ last v b first).tail
 |false=>hZ last v b first
theorem DS{a b:List D}{w:W}(h:lv s w=some b)(hz:a.length+b.length<=16777216):m4 s .Add (.d (.list a)) w=.ok (.d (.list (a++b))) s:=(oo (o:=lv s w) h).trans (bC (A01 hz))
noncomputable abbrev An(f i:Nat):IE:=.bin .Add (.bin .Add (.sl false (.attr (.v 0) f) (.none) (.some (.v 4)) (.none)) (.v i)) (.sl false (.attr (.v 0) f) (.some (.v 5)) (.none) (.none))
theorem A4{L M:List D}{f i:Nat}{w:W}(e0:cW vs 0=some (.r 0))(e4:cW vs 4=some (.d (.int cL)))(e5:cW vs 5=some (.d (.int dZ)))(hi:cW vs i=some w)(hw:lv s w=some M)(ha:m9 s (.r 0) f=some (.d (.list L)))(hz:L.length<=1000)(hm:M.length<=2) :
  ao K (An f i) vs s=.ok (.d (.list (L.take cL++M++L.drop dZ))) s:=by
 have h1:=List.length_take (i:=cL) (l:=L)
 have h2:=List.length_drop (i:=dZ) (l:=L)
 refine bZ (bZ (ke (sb (d9 e0) ha) cP (lW (d9 e4)) cP (r:=.ok (.d (.list (L.take cL))) s) ?_) (d9 hi) (DS hw (by omega))) (ke (sb (d9 e0) ha) (lW (d9 e5)) cP cP (r:=.ok (.d (.list (L.drop dZ))) s) ?_) (jk (by rw[List.length_append];omega))
 .rw[<-oZ];exact bC (dG rfl (A01 (by exact bK ‹_›)))
 .rw[<-gq];exact bC (dG rfl (A01 (by exact bK ‹_›)))
theorem t0{rows M:List (Int×Option Int)}{w7 w8:W}(h7:∀o,lv (o::t) w7=some (M.map λ r=>.int r.1))(h8:∀o,lv (o::t) w8=some (M.map λ r=>vD r.2))(hz:rows.length<=1000)(hm:M.length<=2)
  (e0:cW vs 0=some (.r 0)) (e4:cW vs 4=some (.d (.int cL))) (e5:cW vs 5=some (.d (.int dZ))) (e7:cW vs 7=some w7) (e8:cW vs 8=some w8) :
  bN K (.cons (.seta (.v 0) 2 (An 2 7)) (.cons (.seta (.v 0) 3 (An 3 8)) .nil)) vs (mO d rows::t)=.ok (none,vs) (mO d (rows.take cL++M++rows.drop dZ)::t):=by
 have m:∀{β:Type} (g:Int×Option Int->β),(rows.take cL++M++rows.drop dZ).map g=(rows.map g).take cL++M.map g++(rows.map g).drop dZ:=λ g=>by simp only[List.map_append,List.map_append,List.map_take,List.map_drop]
 have l:∀{β:Type} (g:Int×Option Int->β),(rows.map g).length<=1000/\(M.map g).length<=2:=λ g=>by simp only[List.length_map,List.length_map];exact⟨hz,hm⟩
 refine(aA (ri (A4 e0 e4 e5 e7 (h7 _) rfl (l _).1 (l _).2) (d9 e0) rfl) (aA (ri (A4 e0 e4 e5 e8 (h8 _) rfl (l _).1 (l _).2) (d9 e0) rfl) aK)).trans ?_
 show _=R.ok (none,vs) (mO d _::t)
 show _=R.ok (none,vs) (.inst 256 [(1,.d d),(2,.d (.list (List.map _ _))),(3,.d (.list (List.map _ _)))]::t)
 simp only[m,m];rfl
theorem NM{x y:IE}{p q:Bool}(a7:ao K x vs s=.ok (.d (.bool p)) s)(a8:p=true->ao K y vs s=.ok (.d (.bool q)) s):ao K (.boo true (.cons x (.cons y .nil))) vs s=.ok (.d (.bool (p&&q))) s:=by
 cases p with
 |false=>exact d7 a7 rfl
 |true=>exact cY a7 (a8 rfl)
theorem A2{x:IE}{f:Nat}(e0:cW vs 0=some (.r 0))(ha:m9 s (.r 0) f=some (.d (P5 rows)))(hx:ao (aW (n+1)) x vs s=.ok (.d (.int first)) s)(hs:f6 (rows.map (·.1)) first k)(hz:rows.length<=1000) :
  ao (aW (n+1)) (.bin .Add (.call 2 (.cons (.attr (.v 0) f) (.cons x .nil))) (.k (.int 1))) vs s=.ok (.d (.int k)) s:=by
 refine bZ (aF (aE (sb (d9 e0) ha) (aE hx aT)) ?_) dg (a:=.d (.int ((k:Int)-1))) (aB:=s) ?_
 .have:=Aw (n:=n) (s:=s) (by rw[List.length_map];exact bK ‹_›) hs
  rw[List.map_map]at this;exact this
 .show R.ok (W.d (.int ((k:Int)-1+1))) s=_
  rw[Int.sub_add_cancel]
end
section
variable {n:Nat}{s t:St}{K:Nat->List W->St->R W}{d:D}{rows:List (Int×Option Int)}{x y first last:Int}{v b:Option Int}{k cL dZ:Nat}{vs:V}
noncomputable abbrev dI(rows:List (Int×Option Int)):List D:=rows.map λ r=>.int r.1
noncomputable abbrev dV(rows:List (Int×Option Int)):List D:=rows.map λ r=>vD r.2
theorem DM(e2:cW vs 2=some (.d (.int last)))(e3:cW vs 3=some (.d (vD v)))(e6:cW vs 6=some (.d (vD b)))(e7:cW vs 7=some (.r 1))(e8:cW vs 8=some (.r 2)){o:MW} :
  gy (aW (n+1)) (.iff (.boo true (.cons (.cmp .Lt (.v 2) (.g 0)) (.cons (.not (.call 14 (.cons (.v 6) (.cons (.v 3) .nil)))) .nil))) (.cons (.ex (.meth (.v 7) 0 (.cons (.bin .Add (.v 2) (.k (.int 1))) .nil))) (.cons (.ex (.meth (.v 8) 0 (.cons (.v 6) .nil))) .nil)) .nil) vs [o,.list [.int first],.list [vD v]]
   = .ok (none,vs) [o,.list (dI (hZ last v b first)),.list (dV (hZ last v b first))]:=by
 have h:=NM (vs:=vs) (s:=[o,.list [.int first],.list [vD v]]) (K:=aW (n+1)) (x:=.cmp .Lt (.v 2) (.g 0)) (y:=.not (.call 14 (.cons (.v 6) (.cons (.v 3) .nil)))) (aH (d9 e2) rfl rfl rfl) λ _=>ql (aF (aE (d9 e6) (aE (d9 e3) aT)) (Ay b v))
 have e:(decide (last<1114111)&&!b==v)=(decide (last<1114111)&&b !=v):=rfl
 rw[e]at h
 unfold hZ
 cases q:decide (last<1114111)&&b !=v with
 |true=>
  rw[q]at h
  exact br h (aA (fX (ar (d9 e7) rfl (aE (bZ (d9 e2) dg rfl) aT) rfl) rfl) (aA (fX (ar (d9 e8) rfl (aE (d9 e6) aT) rfl) rfl) aK))
 |false=>
  rw[q]at h
  exact ae h aK
theorem xx{l:List D}{i:Nat}(hi:s[i]?=some (.list l))(hz:l.length<=1000):Fw false s (.r i) (.d (.int 1)) (.d .none) (.d .none)=.ok (.d (.list l.tail)) s:=by
 have:Fw false s (.r i) (.d (.int 1)) (.d .none) (.d .none)=.ok (.d (.list (pick l (some ((1:Nat):Int)) none none))) s:=(oo (o:=eM s i) (lb hi)).trans (bC (dG rfl (A01 (by exact bK ‹_›))))
 rw[this,gq,List.drop_one]
noncomputable abbrev Rk(first last:Int)(v b:Option Int)(cL dZ:Nat)(w7 w8:W):V:=[some (.r 0),some (.d (.int first)),some (.d (.int last)),some (.d (vD v)),some (.d (.int cL)),some (.d (.int dZ)),some (.d (vD b)),some w7,some w8,none,none,none]
theorem DN{M:List (Int×Option Int)}(hm:M.length<=2)(hz:rows.length<=1000)(hk:cL<=rows.length):∃cZ s',bN (aW (n+1)) (.cons (.iff (.boo true (.cons (.cmp .Gt (.v 4) (.k (.int 0))) (.cons (.call 14 (.cons (.ix (.attr (.v 0) 3) (.bin .Sub (.v 4) (.k (.int 1)))) (.cons (.v 3) .nil))) .nil))) (.cons (.mas true [7,8] (.cons (.sl false (.v 7) (.some (.k (.int 1))) (.none) (.none)) (.cons (.sl false (.v 8) (.some (.k (.int 1))) (.none) (.none)) .nil))) .nil) .nil) (.cons (.seta (.v 0) 2 (An 2 7)) (.cons (.seta (.v 0) 3 (An 3 8)) .nil)))
   (Rk first last v b cL dZ (.r 1) (.r 2)) [mO d rows,.list (dI M),.list (dV M)]=.ok (none,cZ) (mO d (rows.take cL++(match (rows.take cL).getLast?.map (·.2)==some v with | true=>M.tail | false=>M)++ rows.drop dZ)::s'):=by
 have hI:(dI M).length<=1000:=by rw[List.length_map];exact bK ‹_›
 have hV:(dV M).length<=1000:=by rw[List.length_map];exact bK ‹_›
 have q:ao (aW (n+1)) (.boo true (.cons (.cmp .Gt (.v 4) (.k (.int 0))) (.cons (.call 14 (.cons (.ix (.attr (.v 0) 3) (.bin .Sub (.v 4) (.k (.int 1)))) (.cons (.v 3) .nil))) .nil))) (Rk first last v b cL dZ (.r 1) (.r 2)) [mO d rows,.list (dI M),.list (dV M)]
   = .ok (.d (.bool ((rows.take cL).getLast?.map (·.2)==some v))) [mO d rows,.list (dI M),.list (dV M)]:=by
  cases cL with
  |zero=>exact bS (d7 (b:=false) rfl rfl)
  |succ j=>
   have hr:rows[j]?=some rows[j]:=List.getElem?_eq_getElem hk
   have e:(rows.take (j+1)).getLast?=some rows[j]:=by rw[List.getLast?_take,if_neg (by lia),Nat.add_sub_cancel,hr];rfl
   rw[e]
   exact bS (cY (all:=true) (aH rfl dg rfl (A01 (by lia))) (cH (aF (aE (dQ rfl rfl (iz (j:=j) (d:=vD rows[j].2) (by lia) (by exact GP (Nat.lt_of_lt_of_le ‹_› ‹_›)) (by simp only[List.getElem?_map,hr];rfl))) rfl) (Ay _ v))))
 cases h:(rows.take cL).getLast?.map (·.2)==some v with
 |true=>
  rw[h]at q
  exact⟨_,_,aA (br q (aA (gT (aE (ke rfl rfl cP cP (xx rfl hI)) (aE (ke rfl rfl cP cP (xx rfl hV)) aT)) rfl) aK)) (t0 (t:=[.list (dI M),.list (dV M)]) (M:=M.tail) (w7:=.d (.list (dI M).tail)) (w8:=.d (.list (dV M).tail)) (λ _=>by rw[List.map_tail];rfl) (λ _=>by rw[List.map_tail];rfl) hz (by rw[List.length_tail];exact bK (o8 ‹_›)) rfl rfl rfl rfl rfl)⟩
 |false=>
  rw[h]at q
  exact⟨_,_,aA (ae q aK) (t0 (t:=[.list (dI M),.list (dV M)]) (M:=M) (λ _=>rfl) (λ _=>rfl) hz hm rfl rfl rfl rfl rfl)⟩
theorem J6(h:first<=last)(hz:rows.length<=1000)(h1:f6 (rows.map (·.1)) (first-1) cL)(h2:f6 (rows.map (·.1)) (last+1) (dZ+1))(hb:rows[dZ]?=some (y,b)) :
  cC (aW (n+2)) 17 [.r 0,.d (.int first),.d (.int last),.d (vD v)] [mO d rows]=.ok (.d .none) [mO d (rows.take cL++nJ (rows.take cL) first last v b++rows.drop (dZ+1))]:=by
 have hm:(hZ last v b first).length<=2:=by unfold hZ;cases decide (last<1114111)&&b !=v<;>simp
 have hl:=h1.1
 have hr:=(List.getElem?_eq_some_iff.mp hb).1
 rw[List.length_map]at hl
 obtain⟨cZ,s',e⟩:=DN (n:=n+1) (d:=d) (first:=first) (last:=last) (v:=v) (b:=b) (dZ:=dZ+1) hm hz hl
 apply jw (f:=17) rfl rfl
 .unfold TC
  refine aA (ae (aH rfl rfl rfl (decide_eq_false (by exact Int.not_lt.mpr ‹_›))) aK) (aA (ay (A2 rfl rfl rfl h1 hz)) (aA (ay (A2 rfl rfl rfl h2 hz)) (aA (ay (dQ rfl rfl (iz (j:=dZ) (d:=vD b) (by lia) (by exact GP (Nat.lt_of_lt_of_le ‹_› ‹_›)) (by simp only[List.getElem?_map,hb];rfl)))) (aA rfl (aA (DM rfl rfl rfl rfl rfl) e)))))
 .rfl
theorem KA(h:first<=last)(hz:rows.length<=1000)(h1:f6 (rows.map (·.1)) (first-1) cL)(h2:f6 (rows.map (·.1)) (last+1) (dZ+1))(hb:rows[dZ]?=some (y,b)) :
  aW (n+3) 17 [.r 0,.d (.int first),.d (.int last),.d (vD v)] (mO d rows::t)=.ok (.d .none) (mO d (rows.take cL++nJ (rows.take cL) first last v b++rows.drop (dZ+1))::t):=by
 show wrap (cC (aW (n+2)) 17) _ _=_
 unfold wrap
 show R.bind (cC (aW (n+2)) 17 [.r 0,.d (.int first),.d (.int last),.d (vD v)] [mO d rows]) _=_
 rw[J6 h hz h1 h2 hb]
 rfl
end
section
variable {n:Nat}{s t:St}{d:D}{rows:List (Int×Option Int)}{x y first last:Int}{v b:Option Int}{F:Int->Option Int}{N:Nat}
noncomputable abbrev lo(rows:List (Int×Option Int))(x:Int):List (Int×Option Int):=rows.filter λ r=>decide (r.1<=x)
noncomputable abbrev hi(rows:List (Int×Option Int))(x:Int):List (Int×Option Int):=rows.filter λ r=>decide (x<r.1)
theorem ym:∀{rows:List (Int×Option Int)},rows.Pairwise (λ a b=>a.1<b.1)->rows=lo rows x++hi rows x:=by
 intro zl
 induction zl with
 |nil=>
  intro _
  exact rfl
 |cons r rows ih=>
  intro h
  refine aj (List.pairwise_cons.mp h) λ h1 h2=>?_
  have p1:∀{p:Int×Option Int->Bool},(r::rows).filter p=if p r=true then r::rows.filter p else rows.filter p:=List.filter_cons
  simp only[lo,hi,p1,p1]
  by_cases q:r.1<=x
  .rw[if_pos (A01 q),if_neg (by simp;exact‹_›),List.cons_append,<-ih h2]
  .have e:∀a∈rows,x<a.1:=λ a ha=>by have:=h1 a ha;exact Int.lt_of_lt_of_le (Int.not_le.mp ‹_›) (Int.le_of_lt ‹_›)
   rw[if_neg (by simpa using q),if_pos (A01 (by exact Int.not_le.mp ‹_›)),List.filter_eq_nil_iff.mpr λ a ha=>by have:=e a ha;simp;exact‹_›,List.filter_eq_self.mpr λ a ha=>A01 (e a ha)];rfl
theorem sK(a b:List (Int×Option Int)):lo (a++b) x=lo a x++lo b x:=List.filter_append ..
structure RM (rows:List (Int×Option Int))(F:Int->Option Int)(N:Nat):Prop where
 so:rows.Pairwise (λ a b=>a.1<b.1)
 len:rows.length<=N
 at':∀x,0<=x->∃r,(lo rows x).getLast?=some r/\(x<=1114111->r.2=F x)
theorem qK(h:rows.Pairwise (λ a b=>a.1<b.1))(x:Int):f6 (rows.map (·.1)) x (lo rows x).length/\rows.take (lo rows x).length=lo rows x/\rows.drop (lo rows x).length=hi rows x:=by
 have e:=ym (x:=x) h
 have e1:rows.take (lo rows x).length=lo rows x:=(congrArg _ e).trans (List.take_left' rfl)
 have e2:rows.drop (lo rows x).length=hi rows x:=(congrArg _ e).trans (List.drop_left' rfl)
 refine eN ⟨by simp only[List.length_map];exact List.length_filter_le ..,λ i a pQ hk=>?_,λ i a pQ hk=>?_⟩ e1 e2
 .refine aD (A10 (List.mem_of_getElem? (i:=i) (l:=(lo rows x).map (·.1)) (by rw[<-e1,List.map_take,List.getElem?_take,if_pos hk];exact pQ))) λ r hr dz=>?_;subst dz
  exact A00 (List.mem_filter.mp hr).2
 .refine aD (A10 (List.mem_of_getElem? (i:=i-(lo rows x).length) (l:=(hi rows x).map (·.1)) (by simp only[<-e2,List.map_drop,List.getElem?_drop,Nat.add_sub_cancel' hk];exact pQ))) λ r hr dz=>?_;subst dz
  exact A00 (List.mem_filter.mp hr).2
theorem RM.split(h:RM rows F N)(hx:0<=x):∃k y b,f6 (rows.map (·.1)) x (k+1)/\rows[k]?=some (y,b)/\(x<=1114111->b=F x)/\rows.drop (k+1)=hi rows x:=by
 refine aD (h.at' x hx) λ r h1 h2=>cI (qK h.so x) λ q1 q2 q3=>?_
 obtain⟨k,hk⟩:∃k,(lo rows x).length=k+1:=by
  cases e:lo rows x with
  |nil=>rw[e]at h1;exact bJ h1
  |cons a l=>exact⟨_,rfl⟩
 rw[hk]at q1 q2 q3
 refine v5 k r.1 r.2 q1 ?_ h2 q3
 rw[List.getLast?_eq_getElem?,hk,<-q2,List.getElem?_take,if_pos (by lia)]at h1
 exact h1
theorem yZ(A:List (Int×Option Int)):∃M,nJ A first last v b=M/\(M=hZ last v b first\/(M=(hZ last v b first).tail/\∃r,A.getLast?=some r/\r.2=v)):=by
 refine ad _ rfl ?_
 unfold nJ
 cases h:A.getLast?.map (·.2)==some v with
 |false=>exact .inl rfl
 |true=>
  refine aD (Option.map_eq_some_iff.mp (beq_iff_eq.mp h)) λ r h1 h2=>.inr ⟨rfl,r,h1,h2⟩
theorem eS{α:Type}{A M:List α}{r:α}(h:M.getLast?=some r):(A++M).getLast?=some r:=by simp only[List.getLast?_append,h];rfl
theorem gw{α:Type}{A M:List α}(h:M=[]):(A++M).getLast?=A.getLast?:=by simp only[h,List.append_nil]
theorem yY(A:List (Int×Option Int))(hl:first<=last)(hx:first<=x):∃r,(A++lo (nJ A first last v b) x).getLast?=some r/\r.2=(if last<x/\last<1114111 then b else v):=by
 have f1:decide (first<=x)=true:=A01 hx
 refine aD (yZ (first:=first) (last:=last) (v:=v) (b:=b) A) λ M e h=>?_
 rw[e]
 have m0:hZ last v b first=[(first,v)]/\(last<1114111->b=v)\/(hZ last v b first=[(first,v),(last+1,b)]/\last<1114111):=by
  unfold hZ
  cases q:decide (last<1114111)&&b !=v with
  |false=>exact .inl ⟨rfl,λ h=>by rw[A01 h,Bool.true_and]at q;exact bne_eq_false_iff_eq.mp q⟩
  |true=>exact .inr ⟨rfl,A00 (A07 q).1⟩
 have f2:∀p l,lo (p::l) x=if decide (p.1<=x)=true then p::lo l x else lo l x:=λ p l=>List.filter_cons
 rcases m0 with⟨m,hb⟩|⟨m,hm⟩
 .have z:v=if last<x/\last<1114111 then b else v:=by
   by_cases q:last<x/\last<1114111
   .rw[if_pos q,hb q.2]
   .rw[if_neg q]
  rcases h with h|⟨h,r,h1,h2⟩
  .exact ad (first,v) (eS (by rw[h,m,f2,if_pos f1];rfl)) z
  .exact ad r ((gw (by simp only[h,m];rfl)).trans h1) (h2.trans z)
 .by_cases q:last<x
  .have f3:decide (last+1<=x)=true:=A01 (by exact‹_›)
   rw[if_pos ⟨q,hm⟩]
   rcases h with h|⟨h,-⟩
   .exact ad (last+1,b) (eS (by rw[h,m,f2,if_pos f1,f2,if_pos f3];rfl)) rfl
   .exact ad (last+1,b) (eS (by simp only[h,m,List.tail_cons,f2,if_pos f3];rfl)) rfl
  .have f3:¬decide (last+1<=x)=true:=by simp;exact Int.not_le.mp ‹_›
   rw[if_neg λ w=>q w.1]
   rcases h with h|⟨h,r,h1,h2⟩
   .exact ad (first,v) (eS (by rw[h,m,f2,if_pos f1,f2,if_neg f3];rfl)) rfl
   .exact ad r ((gw (by simp only[h,m,List.tail_cons,f2,if_neg f3];rfl)).trans h1) h2
theorem RM.put(h:RM rows F N)(h0:0<=first)(hl:first<=last)(hm:last<=1114111)(hb:last<1114111->b=F (last+1)) :
  RM (lo rows (first-1)++ nJ (lo rows (first-1)) first last v b++hi rows (last+1)) (λ x=>if first<=x/\x<=last then v else F x) (N+2):=by
 have hA:∀r∈lo rows (first-1),r.1<first:=λ r hr=>by have:=A00 (List.mem_filter.mp hr).2;exact Int.le_sub_one_iff.mp ‹_›
 have hB:∀r∈hi rows (last+1),last+1<r.1:=λ r hr=>A00 (List.mem_filter.mp hr).2
 have hM:(∀r∈nJ (lo rows (first-1)) first last v b,first<=r.1/\r.1<=last+1)/\(nJ (lo rows (first-1)) first last v b).Pairwise (λ a b=>a.1<b.1)/\(nJ (lo rows (first-1)) first last v b).length<=2:=by
  refine aD (yZ (first:=first) (last:=last) (v:=v) (b:=b) (lo rows (first-1))) λ M e q=>?_
  rw[e]
  have m:(∀r∈hZ last v b first,first<=r.1/\r.1<=last+1)/\(hZ last v b first).Pairwise (λ a b=>a.1<b.1)/\(hZ last v b first).length<=2:=by
   unfold hZ
   cases decide (last<1114111)&&b !=v<;>simp<;>lia
  rcases q with q|⟨q,-⟩<;>rw[q]
  .exact m
  .exact eN (λ r hr=>m.1 r (List.mem_of_mem_tail hr)) m.2.1.tail (by rw[List.length_tail];omega)
 have fl:∀{l:List (Int×Option Int)}{x:Int},(∀r∈l,x<r.1)->lo l x=[]:=λ h=>List.filter_eq_nil_iff.mpr λ r hr=>by have:=h r hr;simp;exact‹_›
 have fs:∀{l:List (Int×Option Int)}{x:Int},(∀r∈l,r.1<=x)->lo l x=l:=λ h=>List.filter_eq_self.mpr λ r hr=>A01 (h r hr)
 have nest:∀{a c:Int},a<=c->lo (lo rows c) a=lo rows a:=λ{a c} h=>by
  simp only[lo,List.filter_filter]
  refine List.filter_congr λ r _=>?_
  by_cases q:r.1<=a
  .rw[A01 q,A01 (Int.le_trans q h)];rfl
  .rw[decide_eq_false q];rfl
 refine⟨List.pairwise_append.mpr ⟨List.pairwise_append.mpr ⟨h.so.filter _,hM.2.1,λ a ha b hb=>?_⟩,h.so.filter _,λ a ha b hb=>?_⟩,?_,λ x hx=>?_⟩
 .have:=hA a ha;have:=(hM.1 b hb).1;exact Int.lt_of_lt_of_le ‹_› ‹_›
 .have:=hB b hb
  rcases A09 ha with ha|ha
  .have:=hA a ha;lia
  .have:=(hM.1 a ha).2;exact Int.lt_of_le_of_lt ‹_› ‹_›
 .have e:=congrArg List.length (ym (x:=last+1) h.so)
  have:(lo rows (first-1)).length<=(lo rows (last+1)).length:=by rw[<-nest (a:=first-1) (c:=last+1) (by lia)];exact List.length_filter_le ..
  have:=h.len;have:=hM.2.2
  rw[List.length_append]at e
  simp only[List.length_append,List.length_append];omega
 .simp only[sK,sK]
  by_cases q:x<first
  .rw[fl (l:=hi rows (last+1)) λ r hr=>by have:=hB r hr;lia,fl (l:=nJ _ _ _ _ _) λ r hr=>by have:=(hM.1 r hr).1;exact Int.lt_of_lt_of_le ‹_› ‹_›,List.append_nil,List.append_nil,nest (by exact pN ‹_›),if_neg (by omega)]
   exact h.at' x hx
  .rw[fs (l:=lo rows (first-1)) λ r hr=>by have:=hA r hr;exact Int.le_trans (Int.le_of_lt ‹_›) (Int.not_lt.mp ‹_›)]
   have e:last+1<=x->lo rows x=lo rows (last+1)++ lo (hi rows (last+1)) x:=λ q=>by
    conv=>lhs;rw[ym (x:=last+1) h.so]
    simp only[sK,fs (l:=lo rows (last+1)) λ r hr=>by have:=A00 (List.mem_filter.mp hr).2;exact Int.le_trans ‹_› ‹_›]
   cases hL:(lo (hi rows (last+1)) x).getLast? with
   |none=>
    have hL:=List.getLast?_eq_none_iff.mp hL
    refine aD (yY (v:=v) (b:=b) (lo rows (first-1)) hl (x:=x) (by exact Int.not_lt.mp ‹_›)) λ r h1 h2=>ad r ((gw hL).trans h1) (λ pO=>h2.trans ?_)
    by_cases w:last<x
    .rw[if_pos ⟨w,by exact Int.lt_of_lt_of_le ‹_› ‹_›⟩,if_neg (by omega),hb (by exact Int.lt_of_lt_of_le ‹_› ‹_›)]
     refine aD (h.at' x hx) λ r1 a1 a2=>aD (h.at' (last+1) (by lia)) λ r2 b1 b2=>?_
     rw[e (by lia),gw hL,b1]at a1
     (refine sj a1 λ zq=>?_;subst zq)
     exact(b2 (by exact Int.lt_of_lt_of_le ‹_› ‹_›)).symm.trans (a2 pO)
    .rw[if_neg λ z=>w z.1,if_pos ⟨by exact Int.not_lt.mp ‹_›,by exact Int.not_lt.mp ‹_›⟩]
   |some r=>
    refine ad r (eS hL) (λ pO=>?_)
    have hr:=List.mem_of_getLast? hL
    have:=hB r (List.mem_filter.mp hr).1
    have:=A00 (List.mem_filter.mp hr).2
    rw[if_neg (by lia)]
    refine aD (h.at' x hx) λ r1 a1 a2=>?_
    rw[e (by lia),eS hL]at a1
    (refine sj a1 λ zq=>?_;subst zq)
    exact a2 pO
end
section
variable {n:Nat}{s t:St}{d:D}{rows:List (Int×Option Int)}{x y first last:Int}{v b dv:Option Int}{F G:Int->Option Int}{N:Nat}{vs:V}
theorem pD(h:RM rows F N)(hN:N<=900)(h0:0<=first)(hl:first<=last)(hm:last<=1114111):∃rows',aW (n+3) 17 [.r 0,.d (.int first),.d (.int last),.d (vD v)] (mO d rows::t)=.ok (.d .none) (mO d rows'::t)/\RM rows' (λ x=>if first<=x/\x<=last then v else F x) (N+2):=by
 refine kT (h.split (x:=last+1) (by omega)) λ k y b h2 h3 h4 h5=>cI (qK h.so (first-1)) λ h1 e1 _=>?_
 have:=KA (n:=n) (d:=d) (t:=t) (v:=v) hl (by have:=h.len;omega) h1 h2 h3
 rw[e1,h5]at this
 exact ad _ this (h.put h0 hl hm λ q=>h4 (by omega))
theorem RM.congr(h:RM rows F N)(e:∀x,0<=x->x<=1114111->F x=G x):RM rows G N:=⟨h.so,h.len,λ x hx=>by
 refine aD (h.at' x hx) λ r h1 h2=>ad r h1 (λ q=>(h2 q).trans (e x hx q))⟩
noncomputable abbrev mP(d:D)(rows:List (Int×Option Int)):D:=.inst 256 [(1,d),(2,P5 rows),(3,Rj rows)]
theorem FD(h:RM rows F N)(hN:N<=900)(h0:0<=x)(hm:x<=1114111):aW (n+2) 16 [.d (mP d rows),.d (.int x)] s=.ok (.d (vD (F x))) s:=by
 refine kT (h.split h0) λ k y b h2 h3 h4 _=>?_
 have:=Nq (n:=n) (s:=s) (d:=d) (vs:=rows.map λ r=>vD r.2) (v:=vD b) (by have:=h.len;rw[List.length_map];omega) h2 (by rw[List.getElem?_map,h3];rfl)
 rw[I8,List.map_map,h4 hm]at this
 exact this
noncomputable def qE(a w k:Nat):List UInt8:=91::(bif w==1 then[94]else[])++ UInt8.ofNat (97+a)::45::UInt8.ofNat (98+a+k)::(bif w==2 then[123,97,98,125]else[])++ [93]
noncomputable def qx(a w k:Nat):List Int:=match w==1 with
 |true=>[0,97+a,99+a+k,1114112]
 |false=>[97+a,99+a+k]
noncomputable def nZ(a w k:Nat):D:=match w==2 with
 |true=>.inst 424 [(4,gb (qx a w k)),(5,.list [.tup [.int 97,.int 98]])]
 |false=>gb (qx a w k)
noncomputable def nU(P:Nat->Prop):Nat->Prop
 |0=>True
 |n+1=>P n/\nU P n
theorem nU.at{P:Nat->Prop}:∀{n k:Nat},nU P n->k<n->P k
 |n+1,k,h,hk=>by
  rcases Nat.lt_or_eq_of_le (Nat.le_of_lt_succ hk)with q|rfl
  .exact nU.at h.2 q
  .exact h.1
theorem t3:nU (λ a=>nU (λ w=>nU (λ k=>cC (aW (n+11)) 43 [.d (.bytes (qE a w k)),.d .none] []=.ok (.d (nZ a w k)) []) 3) 3) 5:=by
 repeat' (first | exact trivial | refine And.intro ?_ ?_)
 all_goals kernel_rfl
theorem Nd{a w k:Nat}(ha:a<5)(hw:w<4)(hk:k<3):aW (n+12) 43 [.d (.bytes (qE a w k)),.d .none] s=.ok (.d (nZ a w k)) s:=bL (ds:=[.bytes (qE a w k),.none]) (by
 rcases Nat.lt_or_ge w 3 with q|q
 .exact((t3.at ha).at q).at hk
 .obtain rfl:w=3:=by omega
  exact((t3.at ha).at (k:=0) (by decide)).at hk)
end
section
variable {n:Nat}{s t:St}{d:D}{rows:List (Int×Option Int)}{x y first last:Int}{v b dv:Option Int}{F G:Int->Option Int}{N:Nat}{vs:V}
noncomputable def vO(a w k:Nat):List (Int×Int):=match w==1 with
 |true=>[(0,96+a),(99+a+k,1114111)]
 |false=>[(97+a,98+a+k)]
theorem JX(a w k:Nat):flat (vO a w k)=qx a w k:=by
 delta vO qx
 cases w==1 with
 |true=>refine(?_:[0,96+(a:Int)+ 1,99+a+k,1114111+1]=_);rw[show 96+(a:Int)+ 1=97+a by lia];rfl
 |false=>refine(?_:[97+(a:Int),98+a+k+1]=_);rw[show 98+(a:Int)+ k+1=99+a+k by lia]
theorem Jx(a w k:Nat):aW (n+1) 10 [.d (gb (qx a w k))] s=.ok (.d (.list (cE (vO a w k)))) s:=by
 rw[<-JX]
 exact jW (by delta vO;cases w==1<;>simp)
noncomputable def n4(F:Int->Option Int)(a w k:Nat)(v:Option Int):Int->Option Int:=λ x=>match (decide (97+(a:Int)<=x)&&decide (x<=98+a+k)) !=(w==1)with
 |true=>v
 |false=>F x
noncomputable abbrev Oa:bp:=.cons (.ex (.meth (.v 3) 10 (.cons (.v 8) (.cons (.v 9) (.cons (.v 5) .nil))))) .nil
noncomputable abbrev Fo(ps:D)(dv:Option Int)(o v t c x y:Option W):V:=[some (.d ps),some (.d .none),some (.d (vD dv)),some (.r 0),o,v,t,c,x,y,none,none,none,none]
theorem xi(h:RM rows F N)(hN:N<=800){a w k:Nat}(ha:a<5)(hk:k<3)(x y:Option W):∃rows' x' y',eI (λ x vs s=>onO (gM vs (.t [8,9]) x) λ vs=>bN (aW (n+3)) Oa vs s) (cE (vO a w k)) (Fo ps dv o (some (.d (vD v))) u c x y) [mO d rows]=.ok (none,Fo ps dv o (some (.d (vD v))) u c x' y') [mO d rows']/\RM rows' (n4 F a w k v) (N+4):=by
 have one:∀{p q:Int}{rows rows':List (Int×Option Int)}{x y:Option W}{aI:List D}{r:R (Option W×V)},aW (n+3) 17 [.r 0,.d (.int p),.d (.int q),.d (vD v)] [mO d rows]=.ok (.d .none) [mO d rows']->eI (λ x vs s=>onO (gM vs (.t [8,9]) x) λ vs=>bN (aW (n+3)) Oa vs s) aI (Fo ps dv o (some (.d (vD v))) u c (some (.d (.int p))) (some (.d (.int q)))) [mO d rows']=r ->
   eI (λ x vs s=>onO (gM vs (.t [8,9]) x) λ vs=>bN (aW (n+3)) Oa vs s) (.tup [.int p,.int q]::aI) (Fo ps dv o (some (.d (vD v))) u c x y) [mO d rows]=r:=λ h k=>dl (aA (fX (d:=.none) (ar rfl rfl rfl h) rfl) aK) k
 delta vO
 delta n4
 cases w==1 with
 |false=>
  refine aD (pD (n:=n) (t:=[]) (d:=d) (v:=v) (first:=97+a) (last:=98+a+k) h (by exact bK ‹_›) (by exact Int.ofNat_nonneg _) (by lia) (by lia)) λ rows' e h'=>⟨rows',_,_,one e rfl,h'.so,by have:=h'.len;lia,(h'.congr λ x _ _=>?_).at'⟩
  by_cases q:97+(a:Int)<=x/\x<=98+a+k
  .rw[if_pos q,A01 q.1,A01 q.2];rfl
  .rw[if_neg q,show(decide (97+(a:Int)<=x)&&decide (x<=98+a+k))=false by simpa using q];rfl
 |true=>
  refine aD (pD (n:=n) (t:=[]) (d:=d) (v:=v) (first:=0) (last:=96+a) h (by exact bK ‹_›) (by exact Int.ofNat_nonneg _) (by exact Int.ofNat_nonneg _) (by lia)) λ rows' e h'=>aD (pD (n:=n) (t:=[]) (d:=d) (v:=v) (first:=99+a+k) (last:=1114111) h' (by exact bK (Nat.add_le_add ‹_› (Nat.le_refl _))) (by exact Int.ofNat_nonneg _) (by lia) (by exact Int.ofNat_nonneg _)) λ Cz gK a8=>⟨Cz,_,_,one e (one gK rfl),a8.so,by have:=a8.len;exact‹_›,(a8.congr λ x h0 hm=>?_).at'⟩
  by_cases q:97+(a:Int)<=x/\x<=98+a+k
  .rw[if_neg (by lia),if_neg (by lia),A01 q.1,A01 q.2];rfl
  .rw[show(decide (97+(a:Int)<=x)&&decide (x<=98+a+k))=false by simpa using q]
   by_cases q2:99+(a:Int)+ k<=x
   .rw[if_pos ⟨q2,hm⟩];rfl
   .rw[if_neg (by lia),if_pos (by lia)];rfl
end
section
variable {n:Nat}{s t:St}{d:D}{rows:List (Int×Option Int)}{x y:Int}{v b dv:Option Int}{F G:Int->Option Int}{N:Nat}{vs:V}
noncomputable abbrev Pt:=Nat×Nat×Nat×Nat
def tK(p:Pt):Prop:=p.1<5/\p.2.1<4/\p.2.2.1<3/\p.2.2.2<4
noncomputable def rz(p:Pt):D:=.tup [.bytes (qE p.1 p.2.1 p.2.2.1),.int p.2.2.2]
noncomputable def kJ(F:Int->Option Int)(p:Pt):Int->Option Int:=n4 F p.1 p.2.1 p.2.2.1 (some p.2.2.2)
noncomputable abbrev MJ:bp:=.cons (.asg 6 (.call 43 (.cons (.v 4) (.cons (.v 1) .nil)))) (.cons (.asg 7 (.cond (.isi (.v 6) (.cls 424)) (.attr (.v 6) 4) (.v 6))) (.cons (.frr (.t [8,9]) (.meth (.v 7) 6 .nil) Oa) .nil))
theorem rW{o x c a' b':Option W}(a w k:Nat):ao (aW n) (.cond (.isi (.v 6) (.cls 424)) (.attr (.v 6) 4) (.v 6)) (Fo p dv o x (some (.d (nZ a w k))) c a' b') s=.ok (.d (gb (qx a w k))) s:=by
 unfold nZ
 cases w==2<;>rfl
theorem xu{q:D}:∀(ps:List Pt){rows:List (Int×Option Int)}{F:Int->Option Int}{N:Nat}(o v u c x y:Option W),RM rows F N->N+4*ps.length<=800->(∀p∈ps,tK p)->
  ∃rows' cZ,eI (λ x vs s=>onO (gM vs (.t [4,5]) x) λ vs=>bN (aW (n+12)) MJ vs s) (ps.map rz) (Fo q dv o v u c x y) [mO d rows]=.ok (none,cZ) [mO d rows']/\cW cZ 3=some (.r 0)/\RM rows' (ps.foldl kJ F) (N+4*ps.length):=by
 intro zl
 induction zl with
 |nil=>
  intro rows F N o v u c x y h _ _
  exact⟨rows,_,rfl,rfl,h⟩
 |cons p ps ih=>
  intro rows F N o v u c x y h hN hp
  rw[List.length_cons]at hN ⊢
  obtain⟨h1,h2,h3,-⟩:=hp p (.head _)
  obtain⟨aL,x',y',mM,fh⟩:=xi (n:=n+9) (d:=d) (ps:=q) (dv:=dv) (o:=some (.d (.bytes (qE p.1 p.2.1 p.2.2.1)))) (v:=some p.2.2.2) (u:=some (.d (nZ p.1 p.2.1 p.2.2.1))) (c:=some (.d (gb (qx p.1 p.2.1 p.2.2.1)))) h (by exact GQ ‹_›) (w:=p.2.1) h1 h3 x y
  rw[show n+9+3=n+12 from rfl]at mM
  obtain⟨aa,cZ,gK,g,dD⟩:=ih (some (.d (.bytes (qE p.1 p.2.1 p.2.2.1)))) (some (.d (.int p.2.2.2))) (some (.d (nZ p.1 p.2.1 p.2.2.1))) (some (.d (gb (qx p.1 p.2.1 p.2.2.1)))) x' y' fh (by lia) (λ p h=>hp p (.tail _ h))
  have B:bN (aW (n+12)) MJ (Fo q dv (some (.d (.bytes (qE p.1 p.2.1 p.2.2.1)))) (some (.d (.int p.2.2.2))) u c x y) [mO d rows]=_:=aA (ay (aF rfl (Nd h1 h2 h3))) (aA (ay (rW ..)) (aA (gD (ar rfl rfl aT (Jx ..)) rfl mM) aK))
  exact⟨aa,cZ,dl ((oo (o:=gM (Fo q dv o v u c x y) (.t [4,5]) (rz p)) rfl).trans B) gK,g,dD.so,by have:=dD.len;lia,dD.at'⟩
theorem RM.init:RM [(0,dv)] (λ _=>dv) 1:=⟨List.pairwise_singleton ..,Nat.le_refl _,λ x hx=>⟨(0,dv),by rw[lo,List.filter_eq_self.mpr λ a ha=>by rw[A04 ha];exact A01 hx];rfl,λ _=>rfl⟩⟩
theorem Nk(ps:List Pt)(hl:ps.length<=100)(hp:∀p∈ps,tK p):∃rows,(∀s,aW (n+13) 47 [.d (.list (ps.map rz)),.d .none,.d (vD dv)] s=.ok (.d (mP (vD dv) rows)) s)/\RM rows (ps.foldl kJ λ _=>dv) 900:=by
 obtain⟨rows,cZ,e,g,q⟩:=xu (n:=n) (d:=vD dv) (dv:=dv) (q:=.list (ps.map rz)) ps none none none none none none RM.init (by lia) hp
 refine⟨rows,λ s=>bL (ds:=[.list (ps.map rz),.none,vD dv]) ?_,q.so,by have:=q.len;lia,q.at'⟩
 apply aR (f:=47) rfl rfl
 .unfold Sp
  exact aA (ay (aF rfl (by rfl:_=R.ok (W.r 0) [mO (vD dv) [(0,dv)]]))) (aA (gD rfl rfl e) (aq (be (d9 g))))
 .rfl
end
section
variable {n a w k:Nat}{s t:St}{K:Nat->List W->St->R W}{x4 x9:Option W}{d:D}{v:Int}{r:List Int}{m:Int}
noncomputable abbrev e9:IE:=.bin .Add (.bin .Add (.bi .chr (.cons (.bin .Add (.k (.int 97)) (.v 5)) .nil)) (.k (.str [45]))) (.bi .chr (.cons (.bin .Add (.k (.int 97)) (.v 8)) .nil))
noncomputable abbrev eP:IE:=.call 54 (.cons (.bin .Add (.bin .Add (.bin .Add (.bin .Add (.k (.str [91])) (.cond (.cmp .Eq (.v 6) (.k (.int 1))) (.k (.str [94])) (.k (.str [])))) (.v 9)) (.cond (.cmp .Eq (.v 6) (.k (.int 2))) (.k (.str [123,97,98,125])) (.k (.str [])))) (.k (.str [93]))) .nil)
noncomputable abbrev SH:bp:=.cons (.mas true [5,6,7] (.cons (.call 49 (.cons (.v 0) (.cons (.k (.int 5)) .nil))) (.cons (.call 49 (.cons (.v 0) (.cons (.k (.int 4)) .nil))) (.cons (.call 49 (.cons (.v 0) (.cons (.k (.int 4)) .nil))) .nil)))) (.cons (.asg 8 (.bin .Add (.bin .Add (.v 5) (.k (.int 1))) (.call 49 (.cons (.v 0) (.cons (.k (.int 3)) .nil))))) (.cons (.asg 9 e9) (.cons (.ex (.meth (.v 2) 0 (.cons (.tup (.cons eP (.cons (.v 7) .nil))) .nil))) (.cons (.ex (.meth (.v 1) 0 (.cons (.tup (.cons (.bin .Add (.k (.int 97)) (.v 5)) (.cons (.bin .Add (.k (.int 97)) (.v 8)) (.cons (.cmp .Eq (.v 6) (.k (.int 1))) (.cons (.v 7) .nil))))) .nil))) .nil))))
noncomputable abbrev HM(d:D)(x4 x5 x6 x7 x8 x9:Option W):V:=[some (.r 0),some (.r 1),some (.r 2),some (.d d),x4,x5,x6,x7,x8,x9,none,none,none,none,none,none,none,none,none,none,none]
noncomputable abbrev H4(a k:Nat):W:=.d (.str [97+a,45,98+a+k])
noncomputable abbrev iW(a:Nat):W:=.d (.int a)
theorem Bu:nU (λ a=>nU (λ w=>nU (λ k=>ao K e9 (HM d x4 (some (iW a)) (some (iW w)) (some (.d (.int v))) (some (.d (.int (a+1+k)))) x9) s=.ok (H4 a k) s/\ao (aW (n+1)) eP (HM d x4 (some (iW a)) (some (iW w)) (some (.d (.int v))) (some (.d (.int (a+1+k)))) (some (H4 a k))) s=.ok (.d (.bytes (qE a w k))) s) 3) 4) 5:=by
 repeat' (first | exact trivial | refine And.intro ?_ ?_)
 all_goals kernel_rfl
noncomputable def vN(p:Pt):D:=.tup [.int (97+(p.1:Int)),.int (97+((p.1:Int)+ 1+p.2.2.1)),.bool ((p.2.1:Int)==1),.int p.2.2.2]
noncomputable abbrev sd(r:List Int)(ps:List Pt):St:=[tp r,.list (ps.map vN),.list (ps.map rz)]
theorem oF{vs:V}(h:cW vs 0=some (.r 0))(hm:m≠0)(hz:r.length<=1000)(e:yN m r=k):ao (aW (n+1)) (.call 49 (.cons (.v 0) (.cons (.k (.int m)) .nil))) vs (tp r::t)=.ok (iW k) (tp r.tail::t):=by
 simp only[iW,<-e]
 exact aF (aE (d9 h) rfl) (kE hm hz)
theorem DY(hz:r.length<=1000){ps:List Pt}(hp:ps.length<=100){x5 x6 x7 x8:Option W}:∃p r' y5 y6 y7 y8 y9,bN (aW (n+1)) SH (HM d x4 x5 x6 x7 x8 x9) (sd r ps)=.ok (none,HM d x4 y5 y6 y7 y8 y9) (sd r' (ps++[p]))/\r'.length<=r.length/\tK p:=by
 have tl:∀{l:List Int},l.length<=1000->l.tail.length<=1000:=λ h=>by rw[List.length_tail];exact bK (o8 ‹_›)
 refine aD (dw (m:=5) (by decide) r) λ a ea ha=>aD (dw (m:=4) (by decide) r.tail) λ w ew hw=>aD (dw (m:=4) (by decide) r.tail.tail) λ v ev hv=>aD (dw (m:=3) (by decide) r.tail.tail.tail) λ k ek hk=>?_
 have T:=λ x9 s=>((Bu (K:=aW (n+1)) (n:=n) (s:=s) (x4:=x4) (x9:=x9) (d:=d) (v:=v)).at ha).at hw|>.at hk
 refine⟨(a,w,k,v),r.tail.tail.tail.tail,some (iW a),some (iW w),some (iW v),some (.d (.int (a+1+k))),some (H4 a k),aA (gT (aE (oF rfl (by decide) hz ea) (aE (oF rfl (by decide) (tl hz) ew) (aE (oF rfl (by decide) (tl (tl hz)) ev) aT))) rfl) (aA (ay (bZ rfl (oF rfl (by decide) (tl (tl (tl hz))) ek) rfl)) (aA (ay (T x9 _).1) (aA (fX (ar rfl rfl (aE (A0 (aE (T none _).2 rfl) rfl rfl) aT) (lS (i:=2) rfl (by rw[List.length_map];exact bK ‹_›) rfl)) rfl)
  (aA (fX (ar rfl rfl rfl (lS (i:=1) rfl (by rw[List.length_map];exact bK ‹_›) rfl)) rfl) (aK.trans ?_))))),by simp only[List.length_tail];exact o8 (o8 (o8 (o8 (Nat.le_refl _)))),ha,hw,hk,hv⟩
 simp only[sd,List.map_append,List.map_append];rfl
theorem vn:∀(j i:Nat){r:List Int}{ps:List Pt}(x4 x5 x6 x7 x8 x9:Option W),r.length<=1000->ps.length+j<=100->(∀p∈ps,tK p)->
  ∃IM r' y4 y5 y6 y7 y8 y9,eI (λ x vs s=>onO (gM vs (.v 4) x) λ vs=>bN (aW (n+1)) SH vs s) (cU i 1 j) (HM d x4 x5 x6 x7 x8 x9) (sd r ps)=.ok (none,HM d y4 y5 y6 y7 y8 y9) (sd r' IM)/\r'.length<=r.length/\IM.length<=ps.length+j/\∀p∈IM,tK p:=by
 intro zl
 induction zl with
 |zero=>
  intro i r ps x4 x5 x6 x7 x8 x9 _ _ h
  exact⟨ps,r,_,_,_,_,_,_,rfl,Nat.le_refl _,Nat.le_refl _,h⟩
 |succ j ih=>
  intro i r ps x4 x5 x6 x7 x8 x9 hz hp h
  obtain⟨p,aL,y5,y6,y7,y8,y9,e,h1,h2⟩:=DY (n:=n) (d:=d) (x4:=some (.d (.int i))) (x5:=x5) (x6:=x6) (x7:=x7) (x8:=x8) (x9:=x9) hz (ps:=ps) (by exact GQ ‹_›)
  obtain⟨IM,r',z4,z5,z6,z7,z8,z9,e',h3,h4,h5⟩:=ih (i+1) (r:=aL) (ps:=ps++[p]) (some (.d (.int i))) y5 y6 y7 y8 y9 (by exact Nat.le_trans ‹_› ‹_›) (by simp only[List.length_append,List.length_singleton];exact Ki ‹_›) (λ q hq=>(A09 hq).elim (h q) λ hq=>by simp only[A04 hq];exact h2)
  simp only[List.length_append,List.length_singleton]at h4
  exact⟨IM,r',z4,z5,z6,z7,z8,z9,dl ((oo (o:=gM (HM d x4 x5 x6 x7 x8 x9) (.v 4) (.int i)) rfl).trans e) e',by exact Nat.le_trans ‹_› ‹_›,by lia,h5⟩
end
section
variable {n:Nat}{s t:St}{K:Nat->List W->St->R W}{d:D}{x:Int}{r:List Int}{dv:Option Int}{rows:List (Int×Option Int)}{F:Int->Option Int}{vs:V}{ps:List Pt}
theorem Jg{a b x:Int}(hi:cW vs i=some (.d (.int a)))(hj:cW vs j=some (.d (.int x)))(hk:cW vs k=some (.d (.int b)))(hq:(decide (a<=x)&&decide (x<=b))=q):ao K (.cmp2 .LtE .LtE (.v i) (.v j) (.v k)) vs s=.ok (.d (.bool q)) s:=by
 subst hq
 by_cases q:a<=x
 .rw[A01 q,Bool.true_and]
  exact uO (d9 hi) (d9 hj) (cL:=decide (a<=x)) rfl (A01 q) (d9 hk) rfl rfl
 .rw[decide_eq_false q,Bool.false_and]
  exact uP (d9 hi) (d9 hj) (cL:=decide (a<=x)) rfl (decide_eq_false q)
noncomputable abbrev HP(r0 p0:W)(d m:D)(x4 x5 x6 x7 x8 x9 Ke Kd uz:Option W):V:=[some (.r 0),some r0,some p0,some (.d d),x4,x5,x6,x7,x8,x9,some (.d m),Ke,Kd,uz,none,none,none,none,none,none,none]
noncomputable abbrev MI:bp:=.cons (.iff (.cmp .NotEq (.cmp2 .LtE .LtE (.v 5) (.v 11) (.v 8)) (.v 13)) (.cons (.asg 12 (.v 7)) .nil) .nil) .nil
theorem A6:∀(ps:List Pt)(F:Int->Option Int)(x5 x7 x8 uz:Option W),∃y5 y7 y8 y13,eI (λ x vs s=>onO (gM vs (.t [5,8,13,7]) x) λ vs=>bN K MI vs s) (ps.map vN) (HP r0 p0 d m x4 x5 x6 x7 x8 x9 (some (.d (.int x))) (some (.d (vD (F x)))) uz) s
  = .ok (none,HP r0 p0 d m x4 y5 x6 y7 y8 x9 (some (.d (.int x))) (some (.d (vD (ps.foldl kJ F x)))) y13) s:=by
 intro zl
 induction zl with
 |nil=>
  intro F x5 x7 x8 uz
  exact⟨x5,x7,x8,uz,rfl⟩
 |cons p ps ih=>
  intro F x5 x7 x8 uz
  obtain⟨a,w,k,v⟩:=p
  obtain⟨y5,y7,y8,y13,e⟩:=ih (kJ F (a,w,k,v)) (some (.d (.int (97+(a:Int))))) (some (.d (.int v))) (some (.d (.int (97+((a:Int)+ 1+k))))) (some (.d (.bool ((w:Int)==1))))
  refine⟨y5,y7,y8,y13,dl ((oo (o:=gM (HP r0 p0 d m x4 x5 x6 x7 x8 x9 (some (.d (.int x))) (some (.d (vD (F x)))) uz) (.t [5,8,13,7]) (vN (a,w,k,v))) rfl).trans (aA ?_ aK)) e⟩
  have hw:((w:Int)==1)=(w==1):=Bool.eq_iff_iff.mpr (by rw[beq_iff_eq,beq_iff_eq];lia)
  have hx:97+((a:Int)+ 1+k)=98+a+k:=by lia
  have t:=λ q h=>aH (K:=K) (s:=s) (op:=.NotEq) (r:=.v 13) (b:=.d (.bool (w==1))) (k:=q) (Jg (i:=5) (j:=11) (k:=8) (vs:=HP r0 p0 d m x4 (some (.d (.int (97+(a:Int))))) x6 (some (.d (.int v))) (some (.d (.int (98+(a:Int)+ k)))) x9 (some (.d (.int x))) (some (.d (vD (F x)))) (some (.d (.bool (w==1))))) rfl rfl rfl rfl) rfl rfl h
  rw[hw,hx]
  show gy K _ _ s=.ok (none,HP r0 p0 d m x4 _ x6 _ _ x9 _ (some (.d (vD (n4 F a w k (some (v:Int)) x)))) _) s
  delta n4
  cases q:(decide (97+(a:Int)<=x)&&decide (x<=98+a+k)) !=(w==1)with
  |true=>exact br (t true q) (aA rfl aK)
  |false=>exact ae (t false q) aK
theorem rc:∀(ps:List Pt),(∀p∈ps,tK p)->∀F:Int->Option Int,(∃l,kL (vD (F x))=some l)->∃l,kL (vD (ps.foldl kJ F x))=some l:=by
 intro zl
 induction zl with
 |nil=>
  intro _ F h
  exact h
 |cons p ps ih=>
  intro hp F h
  exact ih (λ q hq=>hp q (.tail _ hq)) _ (by
  have h4:=(hp p (.head _)).2.2.2
  delta kJ n4
  cases(decide (97+(p.1:Int)<=x)&&decide (x<=98+p.1+p.2.2.1)) !=(p.2.1==1)with
  |false=>exact h
  |true=>exact⟨_,(by show gF (decide ((p.2.2.2:Int).natAbs<18446744073709551616)) _=_;rw[A01 (by exact bK ‹_›)];rfl)⟩)
end
section
variable {n:Nat}{s t:St}{K:Nat->List W->St->R W}{d:D}{x:Int}{r:List Int}{dv:Option Int}{rows:List (Int×Option Int)}{F:Int->Option Int}{vs:V}{ps:List Pt}
theorem Ly(l:List Nat):jT s .NotEq (.d (.str l)) (.d (.str l))=some false:=by
 refine(?_:some (l !=l)=_)
 rw[bne_self_eq_false]
theorem xy(h:kL d=some l):BH s .repr [.d d]=.ok (.d (.str l)) s:=oo (o:=kL d) h
noncomputable abbrev QK:bp:=.cons (.asg 12 (.v 3)) (.cons (.frr (.t [5,8,13,7]) (.v 1) MI) (.cons (.iff (.cmp .NotEq (.bi .repr (.cons (.meth (.v 10) 4 (.cons (.v 11) .nil)) .nil)) (.bi .repr (.cons (.v 12) .nil))) (.cons (.ret (.k (.bool false))) .nil) .nil) .nil))
theorem su(hd:∃l,kL (vD dv)=some l)(hp:∀p∈ps,tK p)(h:RM rows (ps.foldl kJ λ _=>dv) 900):∀(xs:List Int)(x5 x7 x8 Ke Kd uz:Option W),(∀x∈xs,0<=x/\x<=1114111)->
  ∃cZ,eI (λ x vs s=>onO (gM vs (.v 11) x) λ vs=>bN (aW (n+2)) QK vs s) (xs.map .int) (HP (.d (.list (ps.map vN))) p0 (vD dv) (mP (vD dv) rows) x4 x5 x6 x7 x8 x9 Ke Kd uz) s=.ok (none,cZ) s:=by
 intro zl
 induction zl with
 |nil=>
  intro x5 x7 x8 Ke Kd uz _
  exact⟨_,rfl⟩
 |cons x xs ih=>
  intro x5 x7 x8 Ke Kd uz hx
  obtain⟨h0,hm⟩:=hx x (.head _)
  refine LB (A6 (K:=aW (n+2)) (s:=s) (d:=vD dv) (x:=x) (r0:=.d (.list (ps.map vN))) (p0:=p0) (m:=mP (vD dv) rows) (x4:=x4) (x6:=x6) (x9:=x9) ps (λ _=>dv) x5 x7 x8 uz) λ y5 y7 y8 y13 e=>?_
  obtain⟨l,hl⟩:=rc (x:=x) ps hp (λ _=>dv) hd
  obtain⟨cZ,e'⟩:=ih y5 y7 y8 (some (.d (.int x))) (some (.d (vD (ps.foldl kJ (λ _=>dv) x)))) y13 (λ x h=>hx x (.tail _ h))
  have g:=FD (n:=n) (s:=s) (d:=vD dv) h (by decide) h0 hm
  exact⟨cZ,dl ((oo (o:=gM (HP (.d (.list (ps.map vN))) p0 (vD dv) (mP (vD dv) rows) x4 x5 x6 x7 x8 x9 Ke Kd uz) (.v 11) (.int x)) rfl).trans (aA rfl (aA (gD rfl rfl e) (aA (ae (aH (cm (aE (ar rfl rfl rfl g) aT) (xy hl)) (cm rfl (xy hl)) (Ly l) rfl) aK) aK)))) e'⟩
theorem Fy(h:cW vs i=some (.r j))(hs:eM s j=some ds):gy K (.frz i) vs s=.ok (none,pv vs i (.d (.list ds))) (s.set j .gone):=(oo (o:=(cW vs i).bind rV) (a:=j) (by rw[h];rfl)).trans (oo hs)
theorem P2(hz:r.length<=1000):∃r':List Int,r'.length<=r.length/\cC (aW (n+13)) 59 [.r 0] [tp r]=.ok (.d (.bool true)) [tp r']:=by
 refine aD (dw (m:=2) (by decide) r) λ q eq hq=>?_
 have ht:r.tail.length<=1000:=by rw[List.length_tail];exact bK (o8 ‹_›)
 refine aD (dw (m:=4) (by decide) r.tail) λ j ej hj=>?_
 obtain⟨dv,e0,hd⟩:∃dv,tq (s:=[tp r.tail,.list [],.list []]) (.d (.tup [.none,.int 2])) (iW q)=.ok (.d (vD dv)) [tp r.tail,.list [],.list []]/\∃l,kL (vD dv)=some l:=by
  have:q=0\/q=1:=by lia
  rcases this with rfl|rfl
  .exact⟨none,rfl,_,rfl⟩
  .exact⟨some 2,rfl,_,rfl⟩
 obtain⟨ps,r',y4,y5,y6,y7,y8,y9,e1,h1,h2,h3⟩:=vn (n:=n+12) (d:=vD dv) j 0 (r:=r.tail.tail) (ps:=[]) none none none none none none (by simp only[List.length_tail];lia) (by simp only[List.length_nil];lia) (λ _ h=>cu h)
 refine aD (Nk (n:=n) (dv:=dv) ps (by simp only[List.length_nil]at h2;lia) h3) λ rows e2 h4=>aS (su (n:=n+11) (s:=[tp r',.gone,.gone]) (p0:=.d (.list (ps.map rz))) (x4:=y4) (x6:=y6) (x9:=y9) hd h3 h4 [95,96,97,98,99,100,101,102,103,104,105,106,0,1114111] y5 y7 y8 none none none (by decide)) λ cZ e3=>ad r' (by simp only[List.length_tail]at h1;lia) ?_
 apply aR (f:=59) rfl rfl
 .skip
  exact aA (gT (aE rfl (aE rfl (aE (dQ rfl (oF rfl (by decide) hz eq) e0) aT))) rfl)
   (aA (gD (cm (aE (oF rfl (by decide) ht ej) aT) rfl) (iq rfl (by lia)) e1)
   (aA (Fy rfl rfl) (aA (Fy rfl rfl) (aA (ay (aF rfl (e2 _))) (aA (gD rfl rfl e3) rfl)))))
 .rfl
theorem RP:mi (n+14) 59:=λ r hz=>by
 refine aD (P2 (n:=n) hz) λ r' h e=>ad r' h ?_
 refine(?_:wrap (cC (aW (n+13)) 59) _ _=_)
 refine(?_:R.bind (cC (aW (n+13)) 59 [.r 0] [tp r]) _=_)
 simp only[e]
 rfl
theorem yt{script:List Int}(hz:script.length<=63):cC (aW 14) 60 [.d (.list (script.map .int))] []=.ok (.d (.bool true)) []:=NH (n:=2) (RS (n:=2)) (RP (n:=0)) hz
end
theorem DA:(mK.zipIdx.all λ p=>uF iw p.2 p.1)=true:=by kernel_rfl
theorem tw:∀(f:Nat) e,mK[f]?=some e->uF iw f e=true:=λ f e h=>A06 DA (e,f) (List.mem_iff_getElem?.mpr ⟨f,by simp only[List.getElem?_zipIdx,h,Nat.zero_add];rfl⟩)
theorem yv(gf:GF g iw)(tb:bo g){pN:List Int}(hz:pN.length<=63)(c':Cx)(hk:c'.k=15)(hh:∃rr,c'.frs=c'.env::rr)(jq:c'.env.scope=(iw 60).scope) :
  pR g c' (iT g.tab [(Str.ofString "script",D.list (pN.map .int))] (iw 60).scope.names) [] (iw 60).body (RQ λ d _=>d=.bool true) (λ _=>False):=by
 have nM:zm 1 false [.arg 0,.loc,.loc,.loc,.loc,.glb,.glb,.glb,.glb,.glb,.glb,.glb,.glb,.glb] Ou (iw 60)=true:=tw 60 _ rfl
 refine aD (gW nM) λ nms hp nM=>HF (u9 nM) λ c1 c2 c3 c4 c5 c6 c7=>?_
 obtain rfl:[Str.ofString "script"]=nms:=A02 ((by kernel_rfl:gU (iw 60).params=some [Str.ofString "script"]).symm.trans hp)
 have eC:c'.env.scope.kind=.function:=by
  rw[jq]
  simp only[eK,Bool.and_eq_true,beq_iff_eq]at c3
  exact c3.1.1.1.1
 have hv:eu [] [W.d (D.list (pN.map D.int))] [D.list (pN.map D.int)]:=.cons (.d _) .nil
 refine Fu gf tb (SC.all gf tb tw 14) Ou _ _ c7 c' [] _ (k9 [W.d (D.list (pN.map D.int))] [.arg 0,.loc,.loc,.loc,.loc,.glb,.glb,.glb,.glb,.glb,.glb,.glb,.glb,.glb]) [] [] [] (RQ _) _ ⟨⟨by decide,hk.symm,λ _=>by rw[jq]⟩,hh,eC⟩ (zK (A00 c4) (ws:=[W.d (D.list (pN.map D.int))]) (ds:=[D.list (pN.map D.int)]) ?_ c6) .nil (zu (m:=[]) (s:=[]) (tr:=true) rfl ?_)
 .exact hv
 .have e:cC (aW 14) 60 [.d (.list (pN.map .int))] []=eT true 0 (bN (aW 14) Ou (k9 [.d (.list (pN.map .int))] [.arg 0,.loc,.loc,.loc,.loc,.glb,.glb,.glb,.glb,.glb,.glb,.glb,.glb,.glb]) []):=rfl
  refine(?_:PW [] [] (eT true 0 _) _ _)
  rw[<-e,yt hz]
  exact λ m' b S' _ h _=>h
noncomputable def w5(st:SharedT->Thread->Option (SharedT×Thread))(ok:Thread->Bool):Nat->SharedT->Thread->Option SharedT
 |0,_,_=>none
 |n+1,s,t=>match through t with
  |true=>some s
  |false=>match ok t with
   |false=>none
   |true=>match st s t with
    |some (s',t')=>w5 st ok n s' t'
    |none=>none
theorem vE{st:SharedT->Thread->Option (SharedT×Thread)}:w5 st ok (n+1) s t=match through t with | true=>some s | false=>(match ok t with | false=>none | true=>match st s t with | some (s',t')=>w5 st ok n s' t' | none=>none):=rfl
theorem pU:topRun tb p w yM ann (n+1) s t=match through t with | true=>some s | false=>(match stepOk yM ann t with | false=>none | true=>match step (denote tb) p w s t with | .go s' t'=>topRun tb p w yM ann n s' t' | .halt _ _=>none):=rfl
theorem Bz:∀{n:Nat}{s s':SharedT}{t:Thread},w5 (stepT (denote tb) p w) (stepOk yM ann) n s t=some s'->topRun tb p w yM ann n s.abs t=some s'.abs:=by
 intro zl
 induction zl with
 |zero=>
  intro _ _ _ h
  cases h
 |succ n ih=>
  intro s s' t h
  rw[vE]at h
  rw[pU]
  cases he:through t with
  |true=>rw[he]at h;cases h;rfl
  |false=>
   rw[he]at h
   cases hk:stepOk yM ann t with
   |false=>rw[hk]at h;cases h
   |true=>
    rw[hk]at h
    cases hs:stepT (denote tb) p w s t with
    |none=>rw[hs]at h;cases h
    |some r=>obtain⟨aP,PZ⟩:=r;rw[hs]at h;dsimp only;rw[stepT_spec hs];exact ih h
noncomputable def qw:List Obj->BT->Nat->Option BT
 |[],T,_=>some T
 |o::l,T,n=>match ((T.ins n o).get n).isSome with
  |true=>qw l (T.ins n o) (n+1)
  |false=>none
theorem tB:qw (o::l) T n=match ((T.ins n o).get n).isSome with | true=>qw l (T.ins n o) (n+1) | false=>none:=rfl
theorem BE:∀{l:List Obj}{T T':BT}{n:Nat},qw l T n=some T'->absHeap T' (n+l.length) life=l.foldl (λ h o=>h.push o) (absHeap T n life):=by
 intro zl
 induction zl with
 |nil=>
  intro T T' n h
  cases h;rfl
 |cons o l ih=>
  intro T T' n h
  rw[tB]at h
  cases e:((T.ins n o).get n).isSome with
  |false=>rw[e]at h;cases h
  |true=>
   rw[e]at h
   have:=ih h
   rw[List.foldl_cons,<-absHeap_ins e,<-this]
   congr 1
   rw[List.length_cons];omega
theorem xl:∀(l:List Obj)(h:Heap),l.foldl (λ h o=>h.push o) h=⟨h.objs++l.toArray,h.life⟩:=by
 intro zl
 induction zl with
 |nil=>
  intro h
  cases h;simp
 |cons o l ih=>
  intro h
  rw[List.foldl_cons,ih]
  show Heap.mk ((h.objs.push o)++ l.toArray) h.life=_
  congr 1
  apply Array.ext'
  simp
noncomputable def Rm(s:Shared):Option SharedT:=(qw s.heap.objs.toList .nil 0).map λ T=>⟨T,s.heap.objs.size,s.heap.life,s.gens,s.drawn,s.toks,s.os⟩
theorem HR(h:Rm s=some t):t.abs=s:=by
 obtain⟨T,e,rfl⟩:=Option.map_eq_some_iff.mp h
 have:=BE (life:=s.heap.life) e
 obtain⟨heap,gens,drawn,toks,os⟩:=s
 show Shared.mk (absHeap T heap.objs.size heap.life) _ _ _ _=_
 congr 1
 rw[Nat.zero_add,Array.length_toList]at this
 rw[this,xl]
 obtain⟨objs,life⟩:=heap
 show Heap.mk _ _=_
 congr 1
 apply Array.ext'
 simp[absHeap,BT.list]
noncomputable abbrev GE:=@PySem.W.Fast.tw10156331382660048174
noncomputable abbrev La:=@PySem.W.Fast.tw11892475500146522536
noncomputable abbrev L9:=@PySem.W.Fast.tw14364793385576792824
noncomputable abbrev Rs:=@PySem.W.Fast.tw6613529449190102663
noncomputable abbrev GG:=@PySem.W.Fast.tw4187177175401517315
theorem H5:@stepT=GE:=PySem.W.Fast.te10156331382660048174
theorem NQ:@denote=La:=PySem.W.Fast.te11892475500146522536
theorem LL:@treeTable=L9:=PySem.W.Fast.te14364793385576792824
theorem Pl:@stepOk=Rs:=PySem.W.Fast.te6613529449190102663
theorem Hj:@openSeen=GG:=PySem.W.Fast.te4187177175401517315
noncomputable def A8(p:Program)(dU:Shared)(t:SharedT):Bool:=staticsOk (importedModules p.main.body) dU.heap t.abs.heap&&namesBound p t.abs.heap&&gensDone t.abs&&laidKept dU.heap t.abs.heap
theorem Dr{α:Type}{Yf:Shared->α}{Yt:SharedT->α}{Ya:World->α}(hY:∀t:SharedT,Yt t=Yf t.abs)
  (h:∀w,((fencedOpening treeTable p w N).bind λ dU=>(Rm dU).bind λ w4=>match dU.heap.isNs mainGlobals&&dU.gens.size==0 with
   |true=>(w5 (GE (La L9) p w) (Rs dU.heap.objs.size (dU.heap.nsMap mainGlobals "__annotations__")) N w4 (topStub p)).bind λ rS=>match A8 p dU rS with
    |true=>some (GG q loose (importedModules p.main.body) Xt true rS.abs,Yt rS)
    |false=>none
   |false=>none)=some (openGood q loose,Ya w)):LeftO p q loose Xt Yf Ya N:=λ w=>by
 obtain⟨dU,a,h1⟩:=Option.bind_eq_some_iff.mp (h w)
 obtain⟨w4,b,h2⟩:=Option.bind_eq_some_iff.mp h1
 have b':=HR b
 unfold openEnds
 rw[a]
 show(topFrom treeTable p w N dU).map _=_
 unfold topFrom
 cases e:dU.heap.isNs mainGlobals&&dU.gens.size==0 with
 |false=>rw[e]at h2;cases h2
 |true=>
  rw[e]at h2
  obtain⟨rS,d,h3⟩:=Option.bind_eq_some_iff.mp h2
  cases f:A8 p dU rS with
  |false=>rw[f]at h3;cases h3
  |true=>
   rw[f]at h3
   have h4:=A02 h3
   rw[<-H5,<-NQ,<-LL,<-Pl]at d
   have d':=Bz d
   rw[b']at d'
   dsimp only
   rw[d']
   unfold A8 at f
   simp only[Option.bind_some,f,Option.map_some]
   rw[<-h4,Hj,hY]
noncomputable abbrev P:=PySem.Challenge.pw_nt0072_01
noncomputable def qv:Program:=view P [92]
noncomputable def QH:List Str:=P.boundNames.filter λ x=>!(x==Str.ofString "law")
noncomputable def TG:List Addr:=[3,0,61,60,68,67,82,81,89,88,94,93,101,100,108,107,213,212,433,432,438,437,508,507,520,519,527,526,534,533,541,540,609,608,616,615,623,622,630,629,644,643,651,650,658,657,665,664,670,669,678,677,671,685,684,693,692,698,697,705,704,712,711,719,718,724,723,729,728,734,733,739,738,746,745,753,752,758,757,123,122,116,130,129,140,139,145,144,157,156,178,177,192,191,227,226,234,233,241,240,407,406,414,413,421,420,452,451,459,458,466,465,473,472,480,479,487,486,567,566,574,573,581,580,595,594,39,38,52,51,202,201,256,255,424,423,497,496,598,597,686,2,36,35,29,132,131]
noncomputable def FZ(as:List Addr)(look:Addr->Option Obj):Frag:=as.filterMap λ a=>(look a).map λ o=>(a,o)
theorem FY:(FZ as h.get?).In h:=λ a o e=>by
 induction as with
 |nil=>cases e
 |cons b r ih=>
  unfold FZ at e ih
  rw[List.filterMap_cons]at e
  cases q:h.get? b with
  |none=>rw[q]at e;exact ih e
  |some o'=>
   rw[q]at e
   simp only[Option.map_some,List.lookup_cons]at e
   cases z:a==b with
   |true=>rw[z]at e;cases e;rw[eq_of_beq z];exact q
   |false=>rw[z]at e;exact ih e
noncomputable def yl(t:SharedT)(a:Addr):Option Obj:=match Nat.blt a t.n with
 |true=>alive ((t.tree.get a).getD default)
 |false=>none
theorem yj(t:SharedT):yl t=t.abs.heap.get?:=by
 funext a
 unfold yl
 show _=(absHeap t.tree t.n t.life).get? a
 cases e:Nat.blt a t.n with
 |true=>
  have lt:a<t.n:=Nat.le_of_ble_eq_true e
  unfold Heap.get?
  rw[absHeap_at,if_pos lt]
  dsimp only
  generalize (t.tree.get a).getD default=o
  obtain⟨c,d,dt,sl⟩:=o
  cases dt<;>rfl
 |false=>
  have ti:¬a<t.n:=λ q=>by rw[show Nat.blt a t.n=true from Nat.ble_eq_true_of_le q]at e;cases e
  exact(abs_get_none ti).symm
noncomputable def gX:Hook where
 α:=ki
 obs s:=pj (FZ TG s.heap.get?)
 val _:=uC
 says _ h:=∃K:Frag,K.In h/\pj K=uC
 of _ s e:=⟨_,FY,e⟩
 keeps _ _ _:=λ⟨K,i,e⟩ k=>⟨K,i.keeps k,e⟩
theorem MF:LeftO P qv QH (λ s=>recOk [] s) gX.obs gX.val 9576:=by
 refine Dr (Yt:=λ t=>pj (FZ TG (yl t))) (λ t=>by rw[yj];rfl) ?_
 intro w
 kernel_rfl
noncomputable def NP:DefRec×List (Str×Expr):=(defOf qv (Str.ofString "law")).get (by kernel_rfl)
theorem x0{Pr:Params}{X:XT}{vs:List Value}{l:List Int}(h:IntsAre vs l):bG Pr X vs (l.map .int):=by
 induction h with
 |nil=>exact .nil
 |cons n t _ ih=>exact .cons (.int n t) ih
theorem Dj{Pr:Params}{h:Heap}{a:Addr}{xs:List WData}{vs:List Value}(w:Well Pr h (.ref a) (.list xs))(hL:h.IsList a vs.toArray):∃n,h.get? a=some (seqObj "list" vs.toArray n):=by
 cases w with | list hx _=>
 refine cG hL λ o ho _ hd=>?_
 have e:=A02 (hx.symm.trans ho)
 subst e
 refine aS hd λ n hd=>?_
 injection hd with h1 h2
 exact⟨_,h1▸hx⟩
theorem DZ{P:List Value->Prop}(h:∀a,P [a])(vs:List Value)(e:vs.length=1):P vs :=
 aS (List.length_eq_one_iff.mp e) λ a z=>z▸h a
theorem Ik{a:Nat}(e:NP.1.name=Str.ofString "law"){m:Str->Option Value}{x:Addr}(h:(m (Str.ofString "law")==some (.ref a))=true)(k:m NP.1.name=some (.ref x)):x=a:=by
 rw[e,eq_of_beq h]at k
 injection k with k;injection k with k;exact k.symm
theorem MD{α β:Type} [BEq α] [LawfulBEq α] {f:α->Option β}{l:List (α×β)}(h:(l.map λ p=>f p.1)=l.map λ p=>some p.2){x:α}{d:β}(e:l.lookup x=some d):f x=some d:=List.map_inj_left.mp h _ (lf e)
theorem Hk:@OpenLaw.wellSaid=@PySem.W.Fast.tw9446332074065402090:=PySem.W.Fast.te9446332074065402090
theorem zV{l:OpenLaw}(e:PySem.W.Fast.tw9446332074065402090 l=true)(h:l.row.wellSaid=true->l.row.Holds):l.Holds:=holds_law (by rw[Hk];exact e) h
theorem Ds{w:World}{dU aB:Shared}{mg mb:Str->Option Value}(G:Ground qv QH Challenge.rw_nt0072_01.row.records (λ _ _=>True) w dU mg mb aB.heap)(Y:gX.says w aB.heap){fa a:Addr}(Qm:mg NP.1.name=some (.ref fa))(hg:aB.gens=#[]){pN:List Int}{vs:List Value}(w1:Well w.params aB.heap (.ref a) (ofPy (.list (pN.map PyData.int))))(hL:aB.heap.IsList a vs.toArray)(hI:IntsAre vs pN)(fN:pN.length<=63) :
  wpAny (model P w) callerA (call (.ref fa) [.ref a]) (λ v s'=>GoodWG Challenge.rw_nt0072_01.row.claim (classAt dU.heap) (ExcName.means dU.heap) [ofPy (.list (pN.map PyData.int))] aB (.ok (.ret v)) s') (λ e s'=>GoodWG Challenge.rw_nt0072_01.row.claim (classAt dU.heap) (ExcName.means dU.heap) [ofPy (.list (pN.map PyData.int))] aB (.error e) s') aB:=by
 obtain⟨K,hK,hs⟩:=Y
 have Q9:=congrArg ki.tab hs
 have G4:=congrArg ki.ok hs
 refine Kt G4 λ _ _ _ _ _ G4=>oL G4 λ _ c3 c4 c5=>?_
 have T:=G.T
 have efa:fa=758:=Ik (by kernel_rfl) (by rw[jn hK T.g c3]at c5;exact c5) Qm
 subst efa
 let g:c8:={ prog:=P,w:=w,K:=K,mg:=mg,mb:=mb,aBad:=52,tab:=pV,ex:=λ _=>none }
 have gf:GF g iw:=GF.of rfl hs
 have gd:GD g aB.heap:=⟨hK,T.g,T.b,T.nolimit,λ x d e=>JS (g:=g) hK T.g T.b c3 c4 (MD (f:=λ x=>RE K x) Q9 e)⟩
 refine enter_call ?_
 refine codeAny_mono ?_ (λ _ _ q=>GoodW.toG q)
 refine aS (Dj w1 hL) λ _ hx=>?_
 refine By (g:=g) (r:=iw 60) (k:=15) (nms:=[Str.ofString "script"]) (ds:=[.list (pN.map .int)]) (Q:=λ d _=>d=.bool true) gd (λ _=>rfl) (gf.fn 60 758 rfl) (by kernel_rfl) (by kernel_rfl) (.cons (.list hx (x0 hI)) .nil) (by decide) (by decide)
  (DZ λ _ _ _ _ _ _ _=>rfl) (by decide) (by kernel_rfl) rfl (λ c' hk hh jq=>yv gf (wb rfl rfl) (by omega) c' hk hh jq) ?_
 intro v d σ X h' t zd rv _ keep
 subst zd
 have e:v=.bool true:=rv.inv
 subst e
 refine⟨.inl ⟨_,.bool true,[],rfl,?_,?_,?_,?_⟩,keep,rfl,hg⟩
 .intro cls;rfl
 .exact .bool true
 .first | kernel_rfl | w_cond dU | trace_state
 .exact λ _=>⟨List.nodup_nil,λ _ h=>nomatch h⟩
theorem law_holds:PySem.Challenge.rw_nt0072_01.Holds:=by
 w_on
 refine zV (by kernel_rfl) λ said=>?_
 refine PySem.W.holds_open (q:=qv) (loose:=QH) (Xt:=λ s=>recOk [] s) (XP:=λ _ _=>True) (Yf:=gX.obs) (Ya:=gX.val) (YP:=gX.says) (N:=9576) (d:=NP.1) (kwd:=NP.2) MF (Hook.of gX) (Hook.keeps gX) (λ _ _=>trivial) (λ _ _ _ _ _=>trivial) (by kernel_rfl) (by kernel_rfl) (by kernel_rfl) (λ s e=>recFacts_of e) rfl (by assumption) (by decide +kernel) ⟨rfl,rfl,rfl,rfl,rfl,by decide +kernel⟩ ?hw ?hc
 case hw=>w_witness2
 intro w dU aB mg mb G Y fa o pm cd doc dV kV ho hd nN hD Qm hg args vals as Qc Qp UK Ty UR
 wrow_args Qc Qp UK Ty UR
 exact Ds G Y Qm hg (by assumption) (by assumption) (by assumption) (by omega)
end Mine.Internal
theorem PySem.Challenge.cw_nt0072_01_holds : PySem.Challenge.rw_nt0072_01.Holds :=
  Mine.Internal.law_holds
