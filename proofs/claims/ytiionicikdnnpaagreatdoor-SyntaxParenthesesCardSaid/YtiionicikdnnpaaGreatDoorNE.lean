/- Texts of this seat, joined. -/
import Derived.Test.YtiionicikdnnpaaGreatDoorND
set_option linter.unusedVariables false
set_option linter.unusedSimpArgs false
namespace Go.Proofs.YtiionicikdnnpaaGreatDoor
theorem SL{p:Prop}(h:p:=by decide+kernel):p:=h
theorem TG{p:Prop}(h:p:=by simp):p:=h
theorem TI{p:Prop}(h:p:=by omega):p:=h
theorem RH{p:Prop}(h:p:=by
 rcases ht with((((((h|h)|h)|h)|h)|h)|h)|h<;>subst h<;>decide+kernel):p:=h
theorem bnd_ok{α β:Type}(a:α)(j:Nat)(k:α->Nat->PR β):PR.bnd (.ok (a,j)) k=k a j:=rfl
structure cY (l:List Tok) (i:Nat) (ts:List bA):Prop where
 room:i+ts.length<l.length
 at_:∀(k:Nat)t,ts[k]? =some t->TokIs (aI l (i+k)) t
section
variable {l:List Tok} {i:Nat} {t:bA} {ts us:List bA}
theorem cY.head(h:cY l i (t::ts)):TokIs (aI l i) t:=h.at_ 0 t rfl
theorem cY.tail(h:cY l i (t::ts)):cY l (i+1) ts:=⟨by have:=h.room;rw[List.length_cons] at this;omega,fun k u hk=>by have:=h.at_ (k+1) u hk;rwa [show i+(k+1)=i+1+k by omega] at this⟩
theorem cY.left(h:cY l i (ts++us)):cY l i ts:=⟨by have:=h.room;rw[List.length_append] at this;omega,fun k u hk=>h.at_ k u (by rw[List.getElem?_append_left (List.getElem?_eq_some_iff.1 hk).1];exact hk)⟩
theorem cY.right(h:cY l i (ts++us)):cY l (i+ts.length) us:=⟨by have:=h.room;rw[List.length_append] at this;omega,fun k u hk=>by
 have:=h.at_ (ts.length+k) u (by rw[List.getElem?_append_right TI,Nat.add_sub_cancel_left];exact hk)
 rwa [<-Nat.add_assoc] at this⟩
theorem kindOf_ne(t:bA):iA t≠3:=by unfold iA;split;decide;split<;>decide
theorem TokIs.says(h:TokIs (aI l i) t)(s:bA):isP l i s=decide (t=s):=by
 obtain⟨h1,h2,-⟩:=h;unfold isP;rw[h1,h2,decide_eq_true (kindOf_ne t),Bool.true_and]
theorem cY.says(h:cY l i (t::ts))(s:bA):isP l i s=decide (t=s):=h.head.says s
theorem cY.want(h:cY l i (t::ts)):dD l i t=.ok ((),i+1):=by
 unfold dD;rw[h.says,decide_eq_true rfl];rfl
theorem oV(h:aM t=true):eT t=true:=by
 unfold aM at h;rw[Bool.and_eq_true] at h;exact h.1
theorem cY.kind(h:cY l i (t::ts)):(aI l i).kind=iA t:=h.head.1
theorem cY.text(h:cY l i (t::ts)):(aI l i).text=t:=h.head.2.1
theorem kind_word(h:eT t=true):iA t=0:=by unfold iA;rw[h];rfl
theorem cY.isName(h:cY l i (t::ts))(hn:aM t=true):cG l i=true:=by
 unfold cG;rw[h.kind,h.text,hn,kind_word (oV hn)];rfl
theorem cY.name(h:cY l i (t::ts))(hn:aM t=true):fC l i=.ok (t,i+1):=by
 unfold fC;rw[h.isName hn,h.text];rfl
theorem jV{k:bA}(h:aM t=true)(hk:aM k=false):t≠k:=fun e=>by rw[e,hk] at h;cases h
theorem name_bit(h:aM t=true):bN t=0:=by
 unfold bN;rw[if_neg (jV h SL),if_neg (jV h SL),if_neg (jV h SL),if_neg (jV h SL)]
theorem cY.oper(h:cY l i (t::ts)):jF l i=eJ.find? fun o=>decide (t=o.1):=by
 unfold jF;congr 1;exact funext fun o=>h.says o.1
end
structure Stops (l:List Tok) (j:Nat):Prop where
 dot:isP l j kX=false
 opn:isP l j aS=false
 oper:jF l j=none
def stopper(t:bA):Bool:=decide (t=aY)||decide (t=bQ)||decide (t=cL)||decide (t=kU)||decide (t=kV)||decide (t=kIn)||decide (t=dB)||decide (t=nT)
theorem cY.stops{l:List Tok}{j:Nat}{t:bA}{ts:List bA}(h:cY l j (t::ts))(ht:stopper t=true):Stops l j:=by
 unfold stopper at ht;simp only[Bool.or_eq_true,decide_eq_true_eq] at ht;refine⟨?_,?_,?_⟩
 ·rw[h.says];exact RH
 ·rw[h.says];exact RH
 rw[h.oper];exact RH
theorem stops_end{l:List Tok}{j:Nat}(h:(aI l j).kind=3):Stops l j:=by
 have:∀s,isP l j s=false:=fun s=>by unfold isP;rw[h];rfl
 exact⟨this _,this _,by unfold jF;exact List.find?_eq_none.2 fun o _=>by rw[this];decide⟩
inductive nV (d:Nat):Xp->Prop where
 |int (n:Int):0<=n->n<=1099511627776->nV d (.mk 0 n noB noB [] [])
 |bool (n:Int):n=0\/n=1->nV d (.mk 1 n noB noB [] [])
 |var (s:bA):aM s=true->nV d (.mk 2 0 s noB [] [])
 |get (s:bA):aM s=true->nV d (.mk 17 0 s noB [] [])
 |bin (t:bA) (op:Int) (fm:Nat) (a b:Xp):(t,op,fm)∈eJ->aJ d a=true->aJ d b=true->nV d (.mk op 0 noB noB [] [a,b])
 |not (a:Xp):aJ d a=true->nV d (.mk 10 0 noB noB [] [a])
 |iff (a b c:Xp):aJ d a=true->aJ d b=true->aJ d c=true->nV d (.mk 11 0 noB noB [] [a,b,c])
 |lets (s:bA) (a b:Xp):aM s=true->aJ d a=true->aJ d b=true->nV d (.mk 12 0 s noB [] [a,b])
 |set (s:bA) (a:Xp):aM s=true->aJ d a=true->nV d (.mk 18 0 s noB [] [a])
 |field (s:bA) (a:Xp):aM s=true->aJ d a=true->nV d (.mk 14 0 s noB [] [a])
 |recd (names:List bA) (args:List Xp):dJ none names=true->names.length<=8->names.length=args.length->(∀x∈args,aJ d x=true)->nV d (.mk 13 0 noB noB names args)
 |call (s m:bA) (args:List Xp):aM s=true->m=noB\/aM m=true->args.length<=6->(∀x∈args,aJ d x=true)->nV d (.mk 15 0 s m [] args)
 |act (n:Int) (a:Xp):n=1\/n=2\/n=4\/n=8->aJ d a=true->nV d (.mk 16 n noB noB [] [a])
theorem len1{α:Type}{l:List α}(h:(1:Int)=l.length):∃a,l=[a]:=List.length_eq_one_iff.1 TI
theorem len2{α:Type}{l:List α}(h:(2:Int)=l.length):∃a b,l=[a,b]:=by
 match l,h with
 |[a,b],_=>exact⟨a,b,rfl⟩
 |[],h=>simp at h
 |[_],h=>simp at h
 |_::_::_::_,h=>simp at h;omega
theorem len3{α:Type}{l:List α}(h:(3:Int)=l.length):∃a b c,l=[a,b,c]:=by
 match l,h with
 |[a,b,c],_=>exact⟨a,b,c,rfl⟩
 |[],h=>simp at h
 |[_],h=>simp at h
 |[_,_],h=>simp at h
 |_::_::_::_::_,h=>simp at h;omega
theorem shape_of{d:Nat}:∀{e:Xp},aJ (d+1) e=true->nV d e
 | .mk op n s m names args,h=>by
  rw[aJ] at h;simp only[Bool.and_eq_true,Bool.or_eq_true,decide_eq_true_eq,List.all_eq_true] at h;obtain⟨⟨⟨⟨⟨⟨⟨⟨h0,h1⟩,hn⟩,e1⟩,e2⟩,e3⟩,e4⟩,hl⟩,ha⟩:=h;have uT:op=0\/op=1\/op=2\/op=3\/op=4\/op=5\/op=6\/op=7\/op=8\/op=9\/op=10\/op=11\/op=12\/op=13\/op=14\/op=15\/op=16\/op=17\/op=18:=TI;rcases uT with h|h|h|h|h|h|h|h|h|h|h|h|h|h|h|h|h|h|h<;>subst h<;>simp[fK] at hn e1 e2 e3 e4<;>simp[gE] at hl
  ·have n0:names=[]:=List.length_eq_zero_iff.1 e4.symm;have a0:args=[]:=List.length_eq_zero_iff.1 TI;subst n0 a0 e2 e3;exact .int n hl.1 hl.2
  ·have n0:names=[]:=List.length_eq_zero_iff.1 e4.symm;have a0:args=[]:=List.length_eq_zero_iff.1 TI;subst n0 a0 e2 e3;exact .bool n hl
  ·have n0:names=[]:=List.length_eq_zero_iff.1 e4.symm;have a0:args=[]:=List.length_eq_zero_iff.1 TI;subst n0 a0 e1 e3;exact .var s hl
  ·have n0:names=[]:=List.length_eq_zero_iff.1 e4.symm;obtain⟨a,b,rfl⟩:=len2 hn;subst n0 e1 e2 e3;exact .bin kPlus 3 5 a b (by simp[eJ]) (ha a TG) (ha b TG)
  ·have n0:names=[]:=List.length_eq_zero_iff.1 e4.symm;obtain⟨a,b,rfl⟩:=len2 hn;subst n0 e1 e2 e3;exact .bin kMinus 4 5 a b (by simp[eJ]) (ha a TG) (ha b TG)
  ·have n0:names=[]:=List.length_eq_zero_iff.1 e4.symm;obtain⟨a,b,rfl⟩:=len2 hn;subst n0 e1 e2 e3;exact .bin kStar 5 6 a b (by simp[eJ]) (ha a TG) (ha b TG)
  ·have n0:names=[]:=List.length_eq_zero_iff.1 e4.symm;obtain⟨a,b,rfl⟩:=len2 hn;subst n0 e1 e2 e3;exact .bin kLess 6 4 a b (by simp[eJ]) (ha a TG) (ha b TG)
  ·have n0:names=[]:=List.length_eq_zero_iff.1 e4.symm;obtain⟨a,b,rfl⟩:=len2 hn;subst n0 e1 e2 e3;exact .bin kEqEq 7 4 a b (by simp[eJ]) (ha a TG) (ha b TG)
  ·have n0:names=[]:=List.length_eq_zero_iff.1 e4.symm;obtain⟨a,b,rfl⟩:=len2 hn;subst n0 e1 e2 e3;exact .bin kAnd 8 2 a b (by simp[eJ]) (ha a TG) (ha b TG)
  ·have n0:names=[]:=List.length_eq_zero_iff.1 e4.symm;obtain⟨a,b,rfl⟩:=len2 hn;subst n0 e1 e2 e3;exact .bin kOr 9 1 a b (by simp[eJ]) (ha a TG) (ha b TG)
  ·have n0:names=[]:=List.length_eq_zero_iff.1 e4.symm;obtain⟨a,rfl⟩:=len1 hn;subst n0 e1 e2 e3;exact .not a (ha a TG)
  ·have n0:names=[]:=List.length_eq_zero_iff.1 e4.symm;obtain⟨a,b,c,rfl⟩:=len3 hn;subst n0 e1 e2 e3;exact .iff a b c (ha a TG) (ha b TG) (ha c TG)
  ·have n0:names=[]:=List.length_eq_zero_iff.1 e4.symm;obtain⟨a,b,rfl⟩:=len2 hn;subst n0 e1 e3;exact .lets s a b hl (ha a TG) (ha b TG)
  ·subst e1 e2 e3;exact .recd names args hl.1 hl.2 TI ha
  ·have n0:names=[]:=List.length_eq_zero_iff.1 e4.symm;obtain⟨a,rfl⟩:=len1 hn;subst n0 e1 e3;exact .field s a hl (ha a TG)
  ·have n0:names=[]:=List.length_eq_zero_iff.1 e4.symm;subst n0 e1;exact .call s m args hl.1.1 hl.1.2 hl.2 ha
  ·have n0:names=[]:=List.length_eq_zero_iff.1 e4.symm;obtain⟨a,rfl⟩:=len1 hn;subst n0 e2 e3;exact .act n a TI (ha a TG)
  ·have n0:names=[]:=List.length_eq_zero_iff.1 e4.symm;have a0:args=[]:=List.length_eq_zero_iff.1 TI;subst n0 a0 e1 e3;exact .get s hl
  have n0:names=[]:=List.length_eq_zero_iff.1 e4.symm;obtain⟨a,rfl⟩:=len1 hn;subst n0 e1 e3;exact .set s a hl (ha a TG)
section
variable {l:List Tok} {i j:Nat} {t s:bA} {ts:List bA}
theorem cY.no(h:cY l i (t::ts))(pQ:t≠s):¬isP l i s=true:=by rw[h.says,decide_eq_true_eq];exact pQ
theorem cY.yes(h:cY l i (t::ts)):isP l i t=true:=by rw[h.says,decide_eq_true_eq]
theorem cY.cast(h:cY l i ts)(e:i=j):cY l j ts:=e▸h
end
def lW(e:Xp)(lf:Nat):Nat:=if jE e<lf\/7<=jE e then 8 else jE e
theorem fX(e:Xp):aX e 0=aG e:=by unfold aX atForm;rw[if_neg (Nat.not_lt_zero _)]
theorem jM{e:Xp}{lf:Nat}(h:jE e<lf):aX e lf=aS::(aG e++[bQ]):=by unfold aX atForm;rw[if_pos h]
theorem dZ{e:Xp}{lf:Nat}(h:¬jE e<lf):aX e lf=aG e:=by unfold aX atForm;rw[if_neg h]
structure Behind (l:List Tok) (j own:Nat):Prop where
 dot:isP l j kX=false
 opn:isP l j aS=false
 oper:∀o,jF l j=some o->o.2.2<=own
theorem Stops.behind{l:List Tok}{j:Nat}(h:Stops l j)(own:Nat):Behind l j own:=⟨h.dot,h.opn,fun o ho=>by rw[h.oper] at ho;cases ho⟩
structure Ends (l:List Tok) (j form:Nat):Prop where
 dot:isP l j kX=false
 opn:isP l j aS=false
 oper:∀o,jF l j=some o->o.2.2<form
theorem Stops.ends{l:List Tok}{j:Nat}(h:Stops l j)(form:Nat):Ends l j form:=⟨h.dot,h.opn,fun o ho=>by rw[h.oper] at ho;cases ho⟩
def DAt(e:Xp)(lf:Nat):Prop:=∀(form:Nat)(l:List Tok)(i F:Nat),cY l i (aX e lf)->l.length<F+1+i->isP l (i+(aX e lf).length) aS=false->eS l (i+(aX e lf).length)=false->
 ∃n,l.length<n+(i+(aX e lf).length)/\bL l (F+1) form i=(iK l n e (i+(aX e lf).length)).bnd fun e k=>kR l (bL l F) form (l.length+1) 8 e k
def AAt(e:Xp)(lf:Nat):Prop:=∀(form:Nat)(l:List Tok)(i F:Nat),form<=lW e lf->cY l i (aX e lf)->l.length<F+1+i->Behind l (i+(aX e lf).length) (lW e lf)->
 ∃n,l.length<n+(i+(aX e lf).length)/\bL l (F+1) form i=kR l (bL l F) form n (lW e lf) e (i+(aX e lf).length)
def BAt(e:Xp)(form:Nat):Prop:=∀(l:List Tok)(i F:Nat),cY l i (aX e form)->l.length<F+i->Ends l (i+(aX e form).length) form->bL l F form i=.ok (e,i+(aX e form).length)
theorem AAt.b{e:Xp}{form:Nat}(h:AAt e form)(hf:form<=7):BAt e form:=by
 intro l i F hL hF hE;have hr:=hL.room;obtain⟨F,rfl⟩:∃g,F=g+1:=⟨F-1,TI⟩;have LF:form<=lW e form:=by unfold lW;split<;>omega
 obtain⟨n,hn,he⟩:=h form l i F LF hL hF ⟨hE.dot,hE.opn,fun o ho=>Nat.le_trans (Nat.le_of_lt (hE.oper o ho)) LF⟩;rw[he];obtain⟨n,rfl⟩:∃k,n=k+1:=⟨n-1,TI⟩;rw[kR]
 cases ho:jF l (i+(aX e form).length) with
 |none=>rfl
 |some o=>
  obtain⟨t,op,fm⟩:=o;simp only;rw[if_pos (.inl (hE.oper _ ho))]
theorem DAt.a{e:Xp}{lf:Nat}(h:DAt e lf)(ho:lW e lf=8):AAt e lf:=by
 intro form l i F hf hL hF hB;have hr:=hL.room;obtain⟨n,hn,he⟩:=h form l i F hL hF hB.opn (by unfold eS;rw[hB.dot];rfl);obtain⟨n,rfl⟩:∃k,n=k+1:=⟨n-1,TI⟩;refine⟨l.length+1,TI,?_⟩;rw[he,iK,if_neg (by rw[hB.dot];decide),bnd_ok,ho]
structure Plain1 (l:List Tok) (i:Nat):Prop where
 a:¬isP l i kIf=true
 b:¬isP l i lJ=true
 c:¬isP l i mL=true
 d:¬isP l i mD=true
theorem pre_prim{l:List Tok}{i:Nat}(h:Plain1 l i)(rec:RecP)(form:Nat):bS l rec form i=(aP l rec i).bnd fun e j=>.ok ((e,8),j):=by
 unfold bS;rw[if_neg (fun x=>h.a x.2),if_neg (fun x=>h.b x.2),if_neg (fun x=>h.c x.2),if_neg (fun x=>h.d x.2)]
theorem cY.plain{l:List Tok}{i:Nat}{t:bA}{ts:List bA}(h:cY l i (t::ts))(h1:t≠kIf)(h2:t≠lJ)(h3:t≠mL)(h4:t≠mD):Plain1 l i:=⟨h.no h1,h.no h2,h.no h3,h.no h4⟩
def PAt(e:Xp):Prop:=∀(l:List Tok)(i F:Nat),cY l i (aG e)->l.length<F+1+i->isP l (i+(aG e).length) aS=false->eS l (i+(aG e).length)=false->Plain1 l i/\aP l (bL l F) i=.ok (e,i+(aG e).length)
theorem rd_d{e:Xp}{form F i j:Nat}{l:List Tok}(h1:Plain1 l i)(h2:aP l (bL l F) i=.ok (e,j)):bL l (F+1) form i=(iK l (l.length+1) e j).bnd fun e k=>kR l (bL l F) form (l.length+1) 8 e k:=by
 rw[bL,pre_prim h1,h2,bnd_ok,bnd_ok,if_pos (Nat.le_succ 7)]
theorem PAt.d{e:Xp}(h:PAt e)(lf:Nat)(ho:¬jE e<lf):DAt e lf:=by
 intro form l i F hL hF h1 h2;rw[dZ ho] at hL h1 h2 ⊢;obtain⟨h3,h4⟩:=h l i F hL hF h1 h2;exact⟨l.length+1,TI,rd_d h3 h4⟩
theorem paren_d{e:Xp}(h:BAt e 0)(lf:Nat)(ho:jE e<lf):DAt e lf:=by
 intro form l i F hL hF h1 h2;rw[jM ho] at hL h1 h2 ⊢;have hT:=hL.tail;have hS:=hT.right;have hB:=h l (i+1) F (by rw[fX];exact hT.left) TI (by rw[fX];exact(hS.stops SL).ends 0);rw[fX] at hB;refine⟨l.length+1,TI,rd_d (hL.plain SL SL SL SL) ?_⟩;unfold aP;rw[if_neg (by rw[hL.kind];decide+kernel),if_neg (hL.no SL),if_neg (hL.no SL),if_neg (hL.no SL),if_neg (fun x=>absurd (hL.kind▸x.1) SL),if_neg (hL.no SL),if_pos hL.yes];unfold kQ;rw[hB,bnd_ok,hS.want,bnd_ok];simp only[List.length_cons,List.length_append,List.length_nil];rw[show i+1+(aG e).length+1=i+((aG e).length+(0+1)+1) by omega]
theorem operands_back{l:List Tok}{rec:RecP}:∀(args:List Xp)(f:Nat)(out:List Xp)(i:Nat),args≠[]->(∀x∈args,∀k,i<=k->cY l k (aG x)->Stops l (k+(aG x).length)->rec 0 k=.ok (x,k+(aG x).length))->
  out.length+args.length<=6->cY l i (aL (args.map aG)++[bQ])->l.length<f+i->bF l rec f out i=.ok (out++args,i+(aL (args.map aG)).length+1)
 |[],_,_,_,h,_,_,_,_=>absurd rfl h
 |x::rest,f,out,i,_,uN,h6,hL,hf=>by
  have hr:=hL.room;obtain⟨f,rfl⟩:∃g,f=g+1:=⟨f-1,TI⟩
  have uE:(if dX l i then eH l i out.length 6 else .ok ((),i))=(.ok ((),i):PR Unit):=by
   unfold eH;rw[List.length_cons] at h6;rw[if_pos (show out.length<6 by omega),ite_self]
  cases rest with
  |nil=>
   rw[List.map_cons,List.map_nil,aL] at hL ⊢;rw[bF,uE,bnd_ok,uN x TG i (Nat.le_refl _) hL.left (hL.right.stops SL),bnd_ok,if_neg (hL.right.no SL),hL.right.want,bnd_ok]
  |cons y rest=>
   (have e:aL ((x::y::rest).map aG)++[bQ]=aG x++aY::(aL ((y::rest).map aG)++[bQ]):=by simp[aL]);(have e2:(aL ((x::y::rest).map aG)).length=(aG x).length+1+(aL ((y::rest).map aG)).length:=by simp[aL];omega);rw[e] at hL;have hN:=hL.right.tail;rw[bF,uE,bnd_ok,uN x TG i (Nat.le_refl _) hL.left (hL.right.stops SL),bnd_ok,if_pos hL.right.yes,operands_back (y::rest) f (out++[x]) _ TG (fun z hz k hk=>uN z (by simp[hz]) k TI) (by simp at h6 ⊢;omega) hN TI,e2];simp;omega
theorem gt_ne{a b:bA}(h:gtB a b=true):a≠b:=fun e=>by
 subst e;unfold gtB at h;simp at h
theorem record_back{l:List Tok}{rec:RecP}:∀(ns:List bA)(xs:List Xp)(f:Nat)(names:List bA)(args:List Xp)(last:bA)(before:Option bA)(i:Nat),ns≠[]->ns.length=xs.length->(∀x∈xs,∀k,i<=k->cY l k (aG x)->Stops l (k+(aG x).length)->rec 0 k=.ok (x,k+(aG x).length))->
  names.length+ns.length<=8->dJ before ns=true->(names=[]/\before=none\/before=some last)->cY l i (aL (iG ns (cV xs))++[cL])->l.length<f+i->
  bV l rec f names args last i=.ok (.mk 13 0 noB noB (names++ns) (args++xs),i+(aL (iG ns (cV xs))).length+1)
 |[],_,_,_,_,_,_,_,h,_,_,_,_,_,_,_=>absurd rfl h
 |_::_,[],_,_,_,_,_,_,_,h,_,_,_,_,_,_=>by simp at h
 |n::ns,x::xs,f,names,args,last,before,i,_,qG,uN,h8,uF,hbe,hL,hf=>by
  have hr:=hL.room;obtain⟨f,rfl⟩:∃g,f=g+1:=⟨f-1,TI⟩
  have uE:(if cG l i then eH l i names.length 8 else .ok ((),i))=(.ok ((),i):PR Unit):=by
   unfold eH;rw[List.length_cons] at h8;rw[if_pos (show names.length<8 by omega),ite_self]
  simp only[dJ,Bool.and_eq_true] at uF;obtain⟨⟨hn,yG⟩,uF⟩:=uF
  have hlater:∀{us},cY l i (n::us)->eC l i last (decide (0<names.length))=.ok (n,i+1):=fun h=>by
   unfold eC;rw[if_pos (h.isName hn),h.text];rcases hbe with⟨rfl,-⟩|rfl
   ·rfl
   simp only at yG;rw[if_neg (by simp[gt_ne yG]),if_neg (by simp[yG])]
  rw[cV] at hL ⊢
  cases ns with
  |nil=>
   obtain rfl:xs=[]:=List.length_eq_zero_iff.1 (by simpa using qG.symm);simp only[iG,aL,List.cons_append] at hL ⊢;have hE:=hL.tail.tail;rw[bV,uE,bnd_ok,hlater hL,bnd_ok,hL.tail.want,bnd_ok,uN x TG _ TI hE.left (hE.right.stops SL),bnd_ok,if_neg (hE.right.no SL),hE.right.want,bnd_ok];simp only[List.length_cons];rw[show i+1+1+(aG x).length+1=i+((aG x).length+1+1)+1 by omega]
  |cons n2 ns=>
   cases xs with
   |nil=>simp at qG
   |cons x2 xs=>
    (have e:aL (iG (n::n2::ns) ((jE x,aG x)::cV (x2::xs)))=n::kEq::(aG x++aY::aL (iG (n2::ns) (cV (x2::xs)))):=by simp[iG,cV,aL]);rw[e] at hL ⊢;simp only[List.cons_append,List.append_assoc] at hL;have hE:=hL.tail.tail;have hN:=hE.right.tail
    rw[bV,uE,bnd_ok,hlater hL,bnd_ok,hL.tail.want,bnd_ok,uN x TG _ TI hE.left (hE.right.stops SL),bnd_ok,if_pos hE.right.yes,
     record_back (n2::ns) (x2::xs) f (names++[n]) (args++[x]) n (some n) _ TG (by simpa using qG) (fun z hz k hk=>uN z (by simp[hz]) k TI) (by simp at h8 ⊢;omega) uF (.inr rfl) hN TI]
    simp;omega
end Go.Proofs.YtiionicikdnnpaaGreatDoor
namespace Go.Proofs.YtiionicikdnnpaaGreatDoor
theorem R1{p:Prop}(h:p:=by decide+kernel):p:=h
theorem SD{p:Prop}(h:p:=by decide):p:=h
theorem SS{p:Prop}(h:p:=by omega):p:=h
theorem UN{p:Prop}(h:p:=by rw[hL.kind];decide+kernel):p:=h
theorem nd_le:∀(k u:Nat),u<10 ^ (k+1)->Lib.nDigits u<=k+1
 |0,u,h=>by rw[Lib.nDigits_small (by simpa using h)];omega
 |k+1,u,h=>by
  by_cases hu:u<10
  ·rw[Lib.nDigits_small hu];omega
  rw[Lib.nDigits_big hu];have:=nd_le k (u / 10) (by rw[Nat.pow_succ] at h;omega);omega
theorem dec_byte{x:Nat}(h:x<10):cF (UInt8.ofNat (48+x))=true/\(UInt8.ofNat (48+x)).toNat=48+x:=by
 have e:(UInt8.ofNat (48+x)).toNat=48+x:=by rw[UInt8.toNat_ofNat'];omega
 refine⟨?_,e⟩;unfold cF;rw[e,decide_eq_true SS,decide_eq_true SS];rfl
theorem dec_all(u:Nat):(∀c∈Lib.decDigits u,cF c=true)/\iL (Lib.decDigits u)=u/\(∃c r,Lib.decDigits u=c::r/\(c.toNat=48->u=0)):=by
 induction u using Nat.strongRecOn with
 |_ u ih=>
  by_cases h:u<10
  ·rw[Lib.decDigits_one h];obtain⟨h1,h2⟩:=dec_byte h;refine⟨fun c hc=>by rw[List.mem_singleton.1 hc];exact h1,?_,_,_,rfl,fun e=>by rw[h2] at e;omega⟩;unfold iL;simp only[List.foldl_cons,List.foldl_nil];rw[h2];omega
  obtain⟨i1,i2,c,r,i3,i4⟩:=ih (u / 10) SS;obtain⟨h1,h2⟩:=dec_byte (show u % 10<10 by omega);rw[Lib.decDigits,dif_neg h];refine⟨fun c hc=>(List.mem_append.1 hc).elim (i1 c) fun hc=>by rw[List.mem_singleton.1 hc];exact h1,?_,c,r++[UInt8.ofNat (48+u % 10)],by rw[i3];rfl,fun e=>by have:=i4 e;omega⟩;unfold iL at i2 ⊢;rw[List.foldl_append,i2];simp only[List.foldl_cons,List.foldl_nil];rw[h2];omega
theorem nS{n:Int}(h0:0<=n)(h1:n<=1099511627776):cO (numX n)=some n.toNat:=by
 have e:(numX n).data.toList=Lib.decDigits n.toNat:=by
  show(Lib.itoa n)=_;unfold Lib.itoa;rw[if_neg SS]
 obtain⟨d1,d2,c,r,d3,d4⟩:=dec_all n.toNat;have sV:(numX n).size=Lib.nDigits n.toNat:=by rw[cZ,e,Lib.decDigits_length]
 have zS:Lib.nDigits n.toNat<=13:=nd_le 12 _ SS;unfold cO;rw[sV,e,d3];simp only;rw[<-d3,d2,List.all_eq_true.2 d1,decide_eq_true zS,decide_eq_true (by omega:n.toNat<=1099511627776)]
 have h48:(!(decide (c.toNat=48)&&decide (Lib.nDigits n.toNat≠1)))=true:=by
  by_cases h:c.toNat=48
  ·rw[d4 h];rw[Lib.nDigits_small SD];simp
  simp[h]
 rw[h48];rfl
theorem kind_itoa{n:Int}(h0:0<=n)(h1:n<=1099511627776):iA (numX n)=1:=by
 have h:=nS h0 h1
 have hw:eT (numX n)=false:=by
  cases hw:eT (numX n) with
  |false=>rfl
  |true=>rw[lU hw] at h;cases h
 unfold iA;rw[hw,h];rfl
theorem wd_int(n:Int):aG (.mk 0 n noB noB [] [])=[numX n]:=by rw[aG,jH,if_neg R1,if_pos rfl]
theorem wd_bool(n:Int):aG (.mk 1 n noB noB [] [])=[if n=1 then cU else bU]:=by rw[aG,jH,if_neg R1,if_neg SD,if_pos rfl]
theorem wd_var(s:bA):aG (.mk 2 0 s noB [] [])=[s]:=by rw[aG,jH,if_neg R1,if_neg SD,if_neg SD,if_pos rfl]
theorem wd_get(s:bA):aG (.mk 17 0 s noB [] [])=[gM,s]:=by rw[aG,jH,if_neg R1,if_neg SD,if_neg SD,if_neg SD,if_pos rfl]
theorem wd_set(s:bA)(a:Xp):aG (.mk 18 0 s noB [] [a])=mL::s::aX a 0:=by
 rw[aG,jH,if_neg R1,if_neg SD,if_neg SD,if_neg SD,if_neg SD,if_pos rfl];rfl
theorem wd_not(a:Xp):aG (.mk 10 0 noB noB [] [a])=mD::aX a 3:=by
 rw[aG,jH,if_neg R1,if_neg SD,if_neg SD,if_neg SD,if_neg SD,if_neg SD,if_pos rfl];rfl
theorem oH(s:bA)(a:Xp):aG (.mk 14 0 s noB [] [a])=aX a 7++[kX,s]:=by
 rw[aG,jH,if_neg R1,if_neg SD,if_neg SD,if_neg SD,if_neg SD,if_neg SD,if_neg SD,if_pos rfl];rfl
theorem wd_let(s:bA)(a b:Xp):aG (.mk 12 0 s noB [] [a,b])=lJ::s::kEq::(aX a 0++kIn::aX b 0):=by
 rw[aG,jH,if_neg R1,if_neg SD,if_neg SD,if_neg SD,if_neg SD,if_neg SD,if_neg SD,if_neg SD,if_pos rfl];rfl
theorem wd_if(a b c:Xp):aG (.mk 11 0 noB noB [] [a,b,c])=kIf::(aX a 0++kU::(aX b 0++kV::aX c 0)):=by
 rw[aG,jH,if_neg R1,if_neg SD,if_neg SD,if_neg SD,if_neg SD,if_neg SD,if_neg SD,if_neg SD,if_neg SD,if_pos rfl];rfl
theorem wd_rec(names:List bA)(args:List Xp):aG (.mk 13 0 noB noB names args)=bH::(aL (iG names (cV args))++[cL]):=by
 rw[aG,jH,if_neg R1,if_neg SD,if_neg SD,if_neg SD,if_neg SD,if_neg SD,if_neg SD,if_neg SD,if_neg SD,if_neg SD,if_pos rfl]
theorem wordsXs_snd:∀args:List Xp,(cV args).map (·.2)=args.map aG
 |[]=>rfl
 |x::r=>by rw[cV,List.map_cons,List.map_cons,wordsXs_snd r]
theorem wd_call(s m:bA)(args:List Xp):aG (.mk 15 0 s m [] args)=(if m≠noB then[m,kX] else[])++([s]++aS::(aL (args.map aG)++[bQ])):=by
 rw[aG,jH,if_neg R1,if_neg SD,if_neg SD,if_neg SD,if_neg SD,if_neg SD,if_neg SD,if_neg SD,if_neg SD,if_neg SD,if_neg SD,if_neg (by decide:¬(15:Int)=16),wordsXs_snd]
theorem wd_act(n:Int)(a:Xp){w:bA}(h:(cD.filter fun w=>decide (w.2=n)).map (·.1)=[w]):aG (.mk 16 n noB noB [] [a])=w::aS::(aG a++[bQ]):=by
 rw[aG,jH,if_neg R1,if_neg SD,if_neg SD,if_neg SD,if_neg SD,if_neg SD,if_neg SD,if_neg SD,if_neg SD,if_neg SD,if_neg SD,if_pos rfl,h,if_neg R1];rfl
theorem jP{t:bA}{op:Int}{fm:Nat}(h:(t,op,fm)∈eJ):(t=kOr/\op=9/\fm=1)\/(t=kAnd/\op=8/\fm=2)\/(t=kEqEq/\op=7/\fm=4)\/(t=kLess/\op=6/\fm=4)\/(t=kPlus/\op=3/\fm=5)\/(t=kMinus/\op=4/\fm=5)\/(t=kStar/\op=5/\fm=6):=by
 simpa[eJ] using h
theorem mQ{t:bA}{op:Int}{fm:Nat}(h:(t,op,fm)∈eJ):eL op=(fm,t)/\1<=fm/\fm<=6/\fm≠3:=by
 rcases jP h with h|h|h|h|h|h|h<;>obtain⟨rfl,rfl,rfl⟩:=h<;>decide+kernel
theorem oper_at{l:List Tok}{j:Nat}{t:bA}{op:Int}{fm:Nat}{ts:List bA}(h:(t,op,fm)∈eJ)(hL:cY l j (t::ts)):jF l j=some (t,op,fm)/\isP l j kX=false/\isP l j aS=false:=by
 rw[hL.oper,hL.says,hL.says];rcases jP h with h|h|h|h|h|h|h<;>obtain⟨rfl,rfl,rfl⟩:=h<;>decide+kernel
theorem oper_mem{l:List Tok}{j:Nat}{o:bA×Int×Nat}(h:jF l j=some o):o∈eJ:=by unfold jF at h;exact List.mem_of_find?_eq_some h
theorem wd_bin{t:bA}{op:Int}{fm:Nat}(h:(t,op,fm)∈eJ)(a b:Xp):aG (.mk op 0 noB noB [] [a,b])=aX a (if fm=4 then 5 else fm)++t::aX b (fm+1):=by
 have hf:=(mQ h).1;rw[aG,jH,hf,if_pos (by rcases jP h with h|h|h|h|h|h|h<;>obtain⟨rfl,rfl,rfl⟩:=h<;>decide+kernel)];rfl
theorem own_ge{e:Xp}{lf:Nat}(h:lf<=7):lf<=lW e lf:=by unfold lW;split<;>omega
theorem BAt.zero{e:Xp}{l:List Tok}{k F:Nat}(h:BAt e 0)(hL:cY l k (aG e))(hF:l.length<F+k)(hs:Stops l (k+(aG e).length)):bL l F 0 k=.ok (e,k+(aG e).length):=by
 have:=h l k F (by rw[fX];exact hL) hF (by rw[fX];exact hs.ends 0)
 rwa [fX] at this
def pL(e:Xp)(lf:Nat):Prop:=AAt e lf/\(lW e lf=8->DAt e lf)
theorem nI{e:Xp}(h8:jE e=8)(hP:PAt e)(lf:Nat)(ho:¬jE e<lf):pL e lf:=by
 have hD:=hP.d lf ho;exact⟨hD.a (by unfold lW;rw[if_pos (.inr SS)]),fun _=>hD⟩
theorem key_low{e:Xp}{lf:Nat}(h7:jE e<7)(ho:¬jE e<lf)(h:lW e lf=jE e->AAt e lf):pL e lf:=by
 have pU:lW e lf=jE e:=by unfold lW;rw[if_neg SS]
 exact⟨h pU,fun h8=>SS⟩
theorem key_bin{t:bA}{op:Int}{fm:Nat}{a b:Xp}(h:(t,op,fm)∈eJ)(hA:∀lf,lf<=7->pL a lf)(hB:∀form,form<=7->BAt b form)(lf:Nat)(ho:¬jE (.mk op 0 noB noB [] [a,b])<lf):pL (.mk op 0 noB noB [] [a,b]) lf:=by
 obtain⟨hf,xZ,JV,M1⟩:=mQ h;have pR:jE (.mk op 0 noB noB [] [a,b])=fm:=by show(eL op).1=fm;rw[hf]
 refine key_low SS ho fun pU=>?_;rw[pR] at pU;intro form l i F zU hL hF uV;rw[pU] at zU uV ⊢;rw[dZ ho,wd_bin h] at hL uV ⊢;have hlf:(if fm=4 then 5 else fm)<=7/\fm<=(if fm=4 then 5 else fm)/\(fm=4->(if fm=4 then 5 else fm)=5):=by split<;>omega
 generalize (if fm=4 then 5 else fm)=la at hL uV hlf ⊢;have LF:=own_ge (e:=a) hlf.1;have hT:=hL.right;obtain⟨o1,o2,o3⟩:=oper_at h hT;obtain⟨n,hn,he⟩:=(hA la hlf.1).1 form l i F SS hL.left hF ⟨o2,o3,fun o ho=>by rw[o1] at ho;cases ho;show fm<=_;omega⟩;have hr:=hT.room;obtain⟨n,rfl⟩:∃k,n=k+1:=⟨n-1,SS⟩;have elen:i+(aX a la++t::aX b (fm+1)).length=i+(aX a la).length+1+(aX b (fm+1)).length:=by simp;omega
 rw[elen] at uV ⊢;have hb:=hB (fm+1) SS l _ F hT.tail SS ⟨uV.dot,uV.opn,fun o ho=>Nat.lt_succ_of_le (uV.oper o ho)⟩;refine⟨n,SS,?_⟩;rw[he,kR,o1];simp only;rw[if_neg SS,hb,bnd_ok]
theorem key_not{a:Xp}(hB:BAt a 3)(lf:Nat)(ho:¬jE (.mk 10 0 noB noB [] [a])<lf):pL (.mk 10 0 noB noB [] [a]) lf:=by
 have pR:jE (.mk 10 0 noB noB [] [a])=3:=show(eL 10).1=3 by decide+kernel
 refine key_low SS ho fun pU=>?_;rw[pR] at pU;intro form l i F zU hL hF uV;rw[pU] at zU uV ⊢;rw[dZ ho,wd_not] at hL uV ⊢;have elen:i+(mD::aX a 3).length=i+1+(aX a 3).length:=by simp;omega
 rw[elen] at uV ⊢;have hr:=hL.room
 have hb:=hB l _ F hL.tail SS ⟨uV.dot,uV.opn,fun o ho=>by
  have h1:=uV.oper o ho;obtain⟨t,op,fm⟩:=o;have h2:=(mQ (oper_mem ho)).2.2.2;simp only at h1 h2 ⊢
  omega⟩
 refine⟨l.length+1,by simp at hr;omega,?_⟩;rw[bL];unfold bS;rw[if_neg (fun x=>hL.no R1 x.2),if_neg (fun x=>hL.no R1 x.2),if_neg (fun x=>hL.no R1 x.2),if_pos ⟨zU,hL.yes⟩,hb,bnd_ok,bnd_ok,if_neg (show ¬(7:Nat)<=3 by decide),bnd_ok]
theorem key_zero{e:Xp}{lf:Nat}(h0:jE e=0)(ho:¬jE e<lf)(h:∀(l:List Tok)(i F:Nat),cY l i (aG e)->l.length<F+1+i->Stops l (i+(aG e).length)->bS l (bL l F) 0 i=.ok ((e,0),i+(aG e).length)):pL e lf:=by
 refine key_low SS ho fun pU=>?_;rw[h0] at pU;intro form l i F zU hL hF uV;rw[pU] at zU uV ⊢;rw[dZ ho] at hL uV ⊢;obtain rfl:form=0:=SS;have hr:=hL.room;refine⟨l.length+1,SS,?_⟩
 rw[bL,h l i F hL hF ⟨uV.dot,uV.opn,by
  cases uT:jF l (i+(aG e).length) with
  |none=>rfl
  |some o=>
   have h1:=uV.oper o uT;obtain⟨t,op,fm⟩:=o;have h2:=(mQ (oper_mem uT)).2.1;simp only at h1
   omega⟩,bnd_ok,if_neg (show ¬(7:Nat)<=0 by decide),bnd_ok]
theorem key_if{a b c:Xp}(hA:BAt a 0)(hB:BAt b 0)(hC:BAt c 0)(lf:Nat)(ho:¬jE (.mk 11 0 noB noB [] [a,b,c])<lf):pL (.mk 11 0 noB noB [] [a,b,c]) lf:=by
 refine key_zero (show(eL 11).1=0 by decide+kernel) ho fun l i F hL hF hS=>?_;rw[wd_if,fX,fX,fX] at hL hS ⊢;have elen:i+(kIf::(aG a++kU::(aG b++kV::aG c))).length=i+1+(aG a).length+1+(aG b).length+1+(aG c).length:=by simp;omega
 rw[elen] at hS ⊢;have h1:=hL.tail;have h2:=h1.right;have h3:=h2.tail;have h4:=h3.right;unfold bS;rw[if_pos ⟨rfl,hL.yes⟩,hA.zero h1.left SS (h2.stops R1),bnd_ok,h2.want,bnd_ok,hB.zero h3.left SS (h4.stops R1),bnd_ok,h4.want,bnd_ok,hC.zero h4.tail SS hS,bnd_ok]
theorem key_let{s:bA}{a b:Xp}(hs:aM s=true)(hA:BAt a 0)(hB:BAt b 0)(lf:Nat)(ho:¬jE (.mk 12 0 s noB [] [a,b])<lf):pL (.mk 12 0 s noB [] [a,b]) lf:=by
 refine key_zero (show(eL 12).1=0 by decide+kernel) ho fun l i F hL hF hS=>?_;rw[wd_let,fX,fX] at hL hS ⊢;have elen:i+(lJ::s::kEq::(aG a++kIn::aG b)).length=i+1+1+1+(aG a).length+1+(aG b).length:=by simp;omega
 rw[elen] at hS ⊢;have h1:=hL.tail.tail.tail;have h2:=h1.right;unfold bS;rw[if_neg (fun x=>hL.no R1 x.2),if_pos ⟨rfl,hL.yes⟩,hL.tail.name hs,bnd_ok,hL.tail.tail.want,bnd_ok,hA.zero h1.left SS (h2.stops R1),bnd_ok,h2.want,bnd_ok,hB.zero h2.tail SS hS,bnd_ok]
theorem key_set{s:bA}{a:Xp}(hs:aM s=true)(hA:BAt a 0)(lf:Nat)(ho:¬jE (.mk 18 0 s noB [] [a])<lf):pL (.mk 18 0 s noB [] [a]) lf:=by
 refine key_zero (show(eL 18).1=0 by decide+kernel) ho fun l i F hL hF hS=>?_;rw[wd_set,fX] at hL hS ⊢;have elen:i+(mL::s::aG a).length=i+1+1+(aG a).length:=by simp;omega
 rw[elen] at hS ⊢;unfold bS;rw[if_neg (fun x=>hL.no R1 x.2),if_neg (fun x=>hL.no R1 x.2),if_pos ⟨rfl,hL.yes⟩,hL.tail.name hs,bnd_ok,hA.zero hL.tail.tail SS hS,bnd_ok]
theorem key_field{s:bA}{a:Xp}(hs:aM s=true)(hA:∀lf,lf<=7->pL a lf)(lf:Nat)(ho:¬jE (.mk 14 0 s noB [] [a])<lf):pL (.mk 14 0 s noB [] [a]) lf:=by
 have hD:DAt (.mk 14 0 s noB [] [a]) lf:=by
  intro form l i F hL hF h1 h2;rw[dZ ho,oH] at hL h1 h2 ⊢;have hT:=hL.right;have elen:i+(aX a 7++[kX,s]).length=i+(aX a 7).length+1+1:=by simp;omega
  rw[elen] at h1 h2 ⊢;have vT:lW a 7=8:=by unfold lW;rw[if_pos SS]
  obtain⟨n,hn,he⟩:=(hA 7 (Nat.le_refl _)).2 vT form l i F hL.left hF (by rw[hT.says];decide+kernel) (by
   cases hd:eS l (i+(aX a 7).length) with
   |false=>rfl
   |true=>
    unfold eS at hd;simp only[Bool.and_eq_true,decide_eq_true_eq] at hd
    have:isP l (i+(aX a 7).length+1+1) aS=true:=by
     unfold isP;rw[show i+(aX a 7).length+1+1=i+(aX a 7).length+2 from rfl,hd.1.2,hd.2];decide
    rw[h1] at this
    cases this)
  have hr:=hT.room;simp only[List.length_cons,List.length_nil] at hr;obtain⟨n,rfl⟩:∃k,n=k+1:=⟨n-1,SS⟩;refine⟨n,SS,?_⟩;rw[he,iK,if_pos hT.yes,hT.tail.name hs,bnd_ok]
 exact⟨hD.a (by unfold lW;rw[if_pos (.inr (show 7<=(eL 14).1 by decide+kernel))]),fun _=>hD⟩
theorem rd_int{n:Int}(h0:0<=n)(h1:n<=1099511627776):PAt (.mk 0 n noB noB [] []):=by
 intro l i F hL hF _ _;rw[wd_int] at hL ⊢;have hk:=kind_itoa h0 h1;have pQ:∀{s},iA s≠1->numX n≠s:=fun h e=>h (e▸hk);refine⟨hL.plain (pQ R1) (pQ R1) (pQ R1) (pQ R1),?_⟩;unfold aP;rw[if_pos (by rw[hL.kind,hk]),hL.head.2.2,nS h0 h1];simp only[Option.getD_some,List.length_cons,List.length_nil];rw[show((n.toNat:Nat):Int)=n by omega]
theorem rd_bool{n:Int}(h:n=0\/n=1):PAt (.mk 1 n noB noB [] []):=by
 intro l i F hL hF _ _;rw[wd_bool] at hL ⊢;rcases h with rfl|rfl
 ·rw[if_neg SD] at hL ⊢;refine⟨hL.plain R1 R1 R1 R1,?_⟩;unfold aP;rw[if_neg UN,if_neg (hL.no R1),if_pos hL.yes];rfl
 rw[if_pos rfl] at hL ⊢;refine⟨hL.plain R1 R1 R1 R1,?_⟩;unfold aP;rw[if_neg UN,if_pos hL.yes];rfl
theorem rd_get{s:bA}(hs:aM s=true):PAt (.mk 17 0 s noB [] []):=by
 intro l i F hL hF _ _;rw[wd_get] at hL ⊢;refine⟨hL.plain R1 R1 R1 R1,?_⟩;unfold aP;rw[if_neg UN,if_neg (hL.no R1),if_neg (hL.no R1),if_pos hL.yes,hL.tail.name hs];rfl
theorem rd_name{l:List Tok}{i:Nat}{s:bA}{ts:List bA}(hs:aM s=true)(hL:cY l i (s::ts))(rec:RecP):Plain1 l i/\aP l rec i=mH l rec s (i+1):=by
 have pQ:∀{k},aM k=false->s≠k:=fun h=>jV hs h;refine⟨hL.plain (pQ R1) (pQ R1) (pQ R1) (pQ R1),?_⟩;unfold aP
 rw[if_neg (by rw[hL.kind,kind_word (oV hs)];decide),if_neg (hL.no (pQ R1)),if_neg (hL.no (pQ R1)),if_neg (hL.no (pQ R1)),
  if_neg (fun x=>x.2 (by rw[hL.text];exact name_bit hs)),if_neg (hL.no (pQ R1)),if_neg (hL.no (pQ R1)),hL.name hs,bnd_ok]
theorem rd_var{s:bA}(hs:aM s=true):PAt (.mk 2 0 s noB [] []):=by
 intro l i F hL hF h1 h2;rw[wd_var] at hL h1 h2 ⊢;obtain⟨hp,he⟩:=rd_name hs hL (bL l F);refine⟨hp,?_⟩;have e:i+[s].length=i+1:=rfl;rw[e] at h1 h2 ⊢;rw[he];unfold mH;rw[if_neg (by rw[h1];decide),if_neg (by rw[h2];decide)]
theorem rd_act{n:Int}{a:Xp}(h:n=1\/n=2\/n=4\/n=8)(hA:BAt a 0):PAt (.mk 16 n noB noB [] [a]):=by
 obtain⟨w,h1,h2,h3,h4⟩:∃w,(cD.filter fun w=>decide (w.2=n)).map (·.1)=[w]/\bN w=n/\iA w=0/\(w≠kIf/\w≠lJ/\w≠mL/\w≠mD/\w≠cU/\w≠bU/\w≠gM):=by
  rcases h with rfl|rfl|rfl|rfl
  ·exact⟨nK,R1⟩
  ·exact⟨kNet,R1⟩
  ·exact⟨nL,R1⟩
  exact⟨jR,R1⟩
 intro l i F hL hF _ _;rw[wd_act n a h1] at hL ⊢;refine⟨hL.plain h4.1 h4.2.1 h4.2.2.1 h4.2.2.2.1,?_⟩;have hT:=hL.tail.tail;unfold aP;rw[if_neg (by rw[hL.kind,h3];decide),if_neg (hL.no h4.2.2.2.2.1),if_neg (hL.no h4.2.2.2.2.2.1),if_neg (hL.no h4.2.2.2.2.2.2),if_pos ⟨by rw[hL.kind,h3],by rw[hL.text,h2];rcases h with rfl|rfl|rfl|rfl<;>decide⟩,hL.tail.want,bnd_ok];unfold kQ;rw[hA.zero hT.left SS (hT.right.stops R1),bnd_ok,hT.right.want,bnd_ok,bnd_ok,hL.text,h2];simp only[List.length_cons,List.length_append,List.length_nil];rw[show i+1+1+(aG a).length+1=i+((aG a).length+(0+1)+1+1) by omega]
theorem rd_rec{names:List bA}{args:List Xp}(uF:dJ none names=true)(h8:names.length<=8)(qG:names.length=args.length)(hA:∀x∈args,BAt x 0):PAt (.mk 13 0 noB noB names args):=by
 intro l i F hL hF _ _;rw[wd_rec] at hL ⊢;refine⟨hL.plain R1 R1 R1 R1,?_⟩;have hT:=hL.tail;unfold aP;rw[if_neg UN,if_neg (hL.no R1),if_neg (hL.no R1),if_neg (hL.no R1),if_neg (fun x=>absurd (hL.kind▸x.1) R1),if_pos hL.yes];unfold iP
 cases names with
 |nil=>
  obtain rfl:args=[]:=List.length_eq_zero_iff.1 (by simpa using qG.symm);simp only[iG,aL,List.nil_append] at hT ⊢;rw[if_pos hT.yes];rfl
 |cons n ns=>
  have hn:aM n=true:=by simp only[dJ,Bool.and_eq_true] at uF;exact uF.1.1
  have pQ:¬isP l (i+1) cL=true:=by
   cases args with
   |nil=>simp at qG
   |cons x xs=>
    obtain⟨r,hr⟩:∃r,aL (iG (n::ns) (cV (x::xs)))++[cL]=n::r:=by
     rw[cV,iG]
     cases hq:iG ns (cV xs) with
     |nil=>exact⟨_,rfl⟩
     |cons y ys=>exact⟨_,rfl⟩
    rw[hr] at hT;exact hT.no (jV hn R1)
  rw[if_neg pQ,record_back (n::ns) args (l.length+1) [] [] noB none (i+1) (by simp) qG (fun x hx k hk h1 h2=>(hA x hx).zero h1 SS h2) (by simpa using h8) uF (.inl ⟨rfl,rfl⟩) hT SS];simp;omega
theorem operands_all{l:List Tok}{rec:RecP}{args:List Xp}{i:Nat}(uN:∀x∈args,∀k,i<=k->cY l k (aG x)->Stops l (k+(aG x).length)->rec 0 k=.ok (x,k+(aG x).length))(h6:args.length<=6)(hL:cY l i (aS::(aL (args.map aG)++[bQ])))(pQ:∀x∈args,∃t r,aG x=t::r/\t≠bQ):
  eO l rec i=.ok (args,i+(aL (args.map aG)).length+2):=by
 have hT:=hL.tail;unfold eO;rw[hL.want,bnd_ok]
 cases args with
 |nil=>
  simp only[List.map_nil,aL,List.nil_append] at hT ⊢;rw[if_pos hT.yes];rfl
 |cons x xs=>
  have uP:¬isP l (i+1) bQ=true:=by
   obtain⟨t,r,ht,CS⟩:=pQ x (by simp)
   obtain⟨r2,hr⟩:∃r,aL ((x::xs).map aG)++[bQ]=t::r:=by
    cases xs with
    |nil=>rw[List.map_cons,List.map_nil,aL,ht];exact⟨_,rfl⟩
    |cons y ys=>rw[List.map_cons,List.map_cons,aL,ht];exact⟨_,rfl⟩
   rw[hr] at hT;exact hT.no CS
  rw[if_neg uP,operands_back (x::xs) (l.length+1) [] (i+1) (by simp) (fun z hz k hk=>uN z hz k SS) (by simpa using h6) hT SS,List.nil_append];rw[show i+1+(aL ((x::xs).map aG)).length+1=i+(aL ((x::xs).map aG)).length+2 by omega]
theorem rd_call{s m:bA}{args:List Xp}(hs:aM s=true)(hm:m=noB\/aM m=true)(h6:args.length<=6)(hA:∀x∈args,BAt x 0)(pQ:∀x∈args,∃t r,aG x=t::r/\t≠bQ):PAt (.mk 15 0 s m [] args):=by
 intro l i F hL hF _ _;rw[wd_call] at hL ⊢;by_cases yE:m=noB
 ·subst yE;rw[if_neg (by simp),List.nil_append,List.singleton_append] at hL ⊢;obtain⟨hp,he⟩:=rd_name hs hL (bL l F);refine⟨hp,?_⟩;rw[he];unfold mH;rw[if_pos hL.tail.yes,operands_all (fun x hx k hk h1 h2=>(hA x hx).zero h1 SS h2) h6 hL.tail pQ,bnd_ok];simp;omega
 have hmn:=hm.resolve_left yE;rw[if_pos yE] at hL ⊢;simp only[List.cons_append,List.nil_append] at hL ⊢;obtain⟨hp,he⟩:=rd_name hmn hL (bL l F);refine⟨hp,?_⟩;have h1:=hL.tail;have h2:=h1.tail;have h3:=h2.tail;have hr:=h3.room;rw[List.length_cons] at hr;rw[he];unfold mH
 rw[if_neg (h1.no R1),if_pos (by
  unfold eS;rw[h1.yes,decide_eq_true (by omega:i+1+2<l.length),h2.kind,h2.text,h3.kind,h3.text,hs,kind_word (oV hs)]
  decide+kernel),h2.name hs,bnd_ok,operands_all (fun x hx k hk h1 h2=>(hA x hx).zero h1 SS h2) h6 h3 pQ,bnd_ok]
 simp;omega
theorem wd_head:∀(d:Nat)(e:Xp),aJ d e=true->∃t r,aG e=t::r/\t≠bQ:=by
 intro d
 induction d with
 |zero=>intro e h;obtain⟨op,n,s,m,names,args⟩:=e;simp[aJ] at h
 |succ d ih=>
  intro e h
  have at_:∀{a lf},aJ d a=true->∃t r,aX a lf=t::r/\t≠bQ:=fun{a lf}ha=>by
   obtain⟨t,r,h1,h2⟩:=ih a ha;by_cases ho:jE a<lf
   ·rw[jM ho];exact⟨_,_,rfl,R1⟩
   rw[dZ ho];exact⟨t,r,h1,h2⟩
  cases shape_of h with
  |int n h0 h1=>
   rw[wd_int];exact⟨_,_,rfl,fun e=>absurd (e▸kind_itoa h0 h1) R1⟩
  |bool n hn=>rw[wd_bool];exact⟨_,_,rfl,by rcases hn with rfl|rfl<;>decide+kernel⟩
  |var s hs=>rw[wd_var];exact⟨_,_,rfl,jV hs R1⟩
  |get s hs=>rw[wd_get];exact⟨_,_,rfl,R1⟩
  |bin t op fm a b ht ha hb=>
   rw[wd_bin ht];obtain⟨t,r,h1,h2⟩:=at_ (lf:=if fm=4 then 5 else fm) ha;rw[h1];exact⟨_,_,rfl,h2⟩
  |not a ha=>rw[wd_not];exact⟨_,_,rfl,R1⟩
  |iff a b c ha hb hc=>rw[wd_if];exact⟨_,_,rfl,R1⟩
  |lets s a b hs ha hb=>rw[wd_let];exact⟨_,_,rfl,R1⟩
  |set s a hs ha=>rw[wd_set];exact⟨_,_,rfl,R1⟩
  |field s a hs ha=>
   rw[oH];obtain⟨t,r,h1,h2⟩:=at_ (lf:=7) ha;rw[h1];exact⟨_,_,rfl,h2⟩
  |recd names args hn h8 qG ha=>rw[wd_rec];exact⟨_,_,rfl,R1⟩
  |call s m args hs hm h6 ha=>
   rw[wd_call];by_cases yE:m=noB
   ·rw[if_neg (by simpa using yE)];exact⟨_,_,rfl,jV hs R1⟩
   rw[if_pos yE];exact⟨_,_,rfl,jV (hm.resolve_left yE) R1⟩
  |act n a hn ha=>
   rcases hn with rfl|rfl|rfl|rfl
   ·rw[wd_act (w:=nK) _ _ R1];exact⟨_,_,rfl,R1⟩
   ·rw[wd_act (w:=kNet) _ _ R1];exact⟨_,_,rfl,R1⟩
   ·rw[wd_act (w:=nL) _ _ R1];exact⟨_,_,rfl,R1⟩
   rw[wd_act (w:=jR) _ _ R1];exact⟨_,_,rfl,R1⟩
theorem key_all:∀(d:Nat)(e:Xp),aJ d e=true->∀lf,lf<=7->pL e lf:=by
 intro d
 induction d with
 |zero=>intro e h;obtain⟨op,n,s,m,names,args⟩:=e;simp[aJ] at h
 |succ d ih=>
  intro e h;have B:∀{a},aJ d a=true->∀form,form<=7->BAt a form:=fun ha form hf=>(ih _ ha form hf).1.b hf
  have key:∀lf,¬jE e<lf->pL e lf:=by
   cases shape_of h with
   |int n h0 h1=>exact nI (show(eL 0).1=8 by decide+kernel) (rd_int h0 h1)
   |bool n hn=>exact nI (show(eL 1).1=8 by decide+kernel) (rd_bool hn)
   |var s hs=>exact nI (show(eL 2).1=8 by decide+kernel) (rd_var hs)
   |get s hs=>exact nI (show(eL 17).1=8 by decide+kernel) (rd_get hs)
   |bin t op fm a b ht ha hb=>exact key_bin ht (ih a ha) (B hb)
   |not a ha=>exact key_not (B ha 3 SD)
   |iff a b c ha hb hc=>exact key_if (B ha 0 SD) (B hb 0 SD) (B hc 0 SD)
   |lets s a b hs ha hb=>exact key_let hs (B ha 0 SD) (B hb 0 SD)
   |set s a hs ha=>exact key_set hs (B ha 0 SD)
   |field s a hs ha=>exact key_field hs (ih a ha)
   |recd names args hn h8 qG ha=>exact nI (show(eL 13).1=8 by decide+kernel) (rd_rec hn h8 qG fun x hx=>B (ha x hx) 0 SD)
   |call s m args hs hm h6 ha=>exact nI (show(eL 15).1=8 by decide+kernel) (rd_call hs hm h6 (fun x hx=>B (ha x hx) 0 SD) fun x hx=>wd_head d x (ha x hx))
   |act n a hn ha=>exact nI (show(eL 16).1=8 by decide+kernel) (rd_act hn (B ha 0 SD))
  intro lf hlf;by_cases ho:jE e<lf
  ·have hD:=paren_d ((key 0 (Nat.not_lt_zero _)).1.b SD) lf ho;exact⟨hD.a (by unfold lW;rw[if_pos (.inl ho)]),fun _=>hD⟩
  exact key lf ho
theorem exp_back{d:Nat}{e:Xp}(h:aJ d e=true){l:List Tok}{i F:Nat}(hL:cY l i (aG e))(hF:l.length<F+i)(hs:Stops l (i+(aG e).length)):bL l F 0 i=.ok (e,i+(aG e).length):=
 ((key_all d e h 0 SD).1.b SD).zero hL hF hs
end Go.Proofs.YtiionicikdnnpaaGreatDoor
