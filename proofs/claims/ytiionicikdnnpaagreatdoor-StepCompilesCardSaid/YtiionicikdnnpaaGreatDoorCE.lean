/- Texts of this seat, joined. -/
import Derived.Test.YtiionicikdnnpaaGreatDoorCD
set_option linter.unusedVariables false
set_option linter.unusedSimpArgs false
namespace Go.Proofs.YtiionicikdnnpaaGreatDoor
theorem ZH{p:Prop}(h:p:=by decide+kernel):p:=h
theorem Z6{p:Prop}(h:p:=by simp):p:=h
theorem Z7{p:Prop}(h:p:=by omega):p:=h
theorem XY{p:Prop}(h:p:=by
 rcases ht with((((((h|h)|h)|h)|h)|h)|h)|h<;>subst h<;>decide+kernel):p:=h
theorem bnd_ok{α β:Type}(a:α)(j:Nat)(k:α->Nat->PR β):PR.bnd (.ok (a,j)) k=k a j:=rfl
structure dM (l:List Tok) (i:Nat) (ts:List bA):Prop where
 room:i+ts.length<l.length
 at_:∀(k:Nat)t,ts[k]? =some t->TokIs (aL l (i+k)) t
section
variable {l:List Tok} {i:Nat} {t:bA} {ts us:List bA}
theorem dM.head(h:dM l i (t::ts)):TokIs (aL l i) t:=h.at_ 0 t rfl
theorem dM.tail(h:dM l i (t::ts)):dM l (i+1) ts:=⟨by have:=h.room;rw[List.length_cons] at this;omega,fun k u hk=>by have:=h.at_ (k+1) u hk;rwa [show i+(k+1)=i+1+k by omega] at this⟩
theorem dM.left(h:dM l i (ts++us)):dM l i ts:=⟨by have:=h.room;rw[List.length_append] at this;omega,fun k u hk=>h.at_ k u (by rw[List.getElem?_append_left (List.getElem?_eq_some_iff.1 hk).1];exact hk)⟩
theorem dM.right(h:dM l i (ts++us)):dM l (i+ts.length) us:=⟨by have:=h.room;rw[List.length_append] at this;omega,fun k u hk=>by
 have:=h.at_ (ts.length+k) u (by rw[List.getElem?_append_right Z7,Nat.add_sub_cancel_left];exact hk)
 rwa [<-Nat.add_assoc] at this⟩
theorem kindOf_ne(t:bA):jE t≠3:=by unfold jE;split;decide;split<;>decide
theorem TokIs.says(h:TokIs (aL l i) t)(s:bA):isP l i s=decide (t=s):=by
 obtain⟨h1,h2,-⟩:=h;unfold isP;rw[h1,h2,decide_eq_true (kindOf_ne t),Bool.true_and]
theorem dM.says(h:dM l i (t::ts))(s:bA):isP l i s=decide (t=s):=h.head.says s
theorem dM.want(h:dM l i (t::ts)):eB l i t=.ok ((),i+1):=by
 unfold eB;rw[h.says,decide_eq_true rfl];rfl
theorem qX(h:aK t=true):eZ t=true:=by
 unfold aK at h;rw[Bool.and_eq_true] at h;exact h.1
theorem dM.kind(h:dM l i (t::ts)):(aL l i).kind=jE t:=h.head.1
theorem dM.text(h:dM l i (t::ts)):(aL l i).text=t:=h.head.2.1
theorem kind_word(h:eZ t=true):jE t=0:=by unfold jE;rw[h];rfl
theorem dM.isName(h:dM l i (t::ts))(hn:aK t=true):cP l i=true:=by
 unfold cP;rw[h.kind,h.text,hn,kind_word (qX hn)];rfl
theorem dM.name(h:dM l i (t::ts))(hn:aK t=true):gK l i=.ok (t,i+1):=by
 unfold gK;rw[h.isName hn,h.text];rfl
theorem mE{k:bA}(h:aK t=true)(hk:aK k=false):t≠k:=fun e=>by rw[e,hk] at h;cases h
theorem name_bit(h:aK t=true):bR t=0:=by
 unfold bR;rw[if_neg (mE h ZH),if_neg (mE h ZH),if_neg (mE h ZH),if_neg (mE h ZH)]
theorem dM.oper(h:dM l i (t::ts)):kA l i=eW.find? fun o=>decide (t=o.1):=by
 unfold kA;congr 1;exact funext fun o=>h.says o.1
end
structure Stops (l:List Tok) (j:Nat):Prop where
 dot:isP l j mH=false
 opn:isP l j aX=false
 oper:kA l j=none
def stopper(t:bA):Bool:=decide (t=aY)||decide (t=cF)||decide (t=dH)||decide (t=lS)||decide (t=lU)||decide (t=kIn)||decide (t=dP)||decide (t=rC)
theorem dM.stops{l:List Tok}{j:Nat}{t:bA}{ts:List bA}(h:dM l j (t::ts))(ht:stopper t=true):Stops l j:=by
 unfold stopper at ht;simp only[Bool.or_eq_true,decide_eq_true_eq] at ht;refine⟨?_,?_,?_⟩
 ·rw[h.says];exact XY
 ·rw[h.says];exact XY
 rw[h.oper];exact XY
theorem stops_end{l:List Tok}{j:Nat}(h:(aL l j).kind=3):Stops l j:=by
 have:∀s,isP l j s=false:=fun s=>by unfold isP;rw[h];rfl
 exact⟨this _,this _,by unfold kA;exact List.find?_eq_none.2 fun o _=>by rw[this];decide⟩
inductive qA (d:Nat):Xp->Prop where
 |int (n:Int):0<=n->n<=1099511627776->qA d (.mk 0 n noB noB [] [])
 |bool (n:Int):n=0\/n=1->qA d (.mk 1 n noB noB [] [])
 |var (s:bA):aK s=true->qA d (.mk 2 0 s noB [] [])
 |get (s:bA):aK s=true->qA d (.mk 17 0 s noB [] [])
 |bin (t:bA) (op:Int) (fm:Nat) (a b:Xp):(t,op,fm)∈eW->aJ d a=true->aJ d b=true->qA d (.mk op 0 noB noB [] [a,b])
 |not (a:Xp):aJ d a=true->qA d (.mk 10 0 noB noB [] [a])
 |iff (a b c:Xp):aJ d a=true->aJ d b=true->aJ d c=true->qA d (.mk 11 0 noB noB [] [a,b,c])
 |lets (s:bA) (a b:Xp):aK s=true->aJ d a=true->aJ d b=true->qA d (.mk 12 0 s noB [] [a,b])
 |set (s:bA) (a:Xp):aK s=true->aJ d a=true->qA d (.mk 18 0 s noB [] [a])
 |field (s:bA) (a:Xp):aK s=true->aJ d a=true->qA d (.mk 14 0 s noB [] [a])
 |recd (names:List bA) (args:List Xp):dY none names=true->names.length<=8->names.length=args.length->(∀x∈args,aJ d x=true)->qA d (.mk 13 0 noB noB names args)
 |call (s m:bA) (args:List Xp):aK s=true->m=noB\/aK m=true->args.length<=6->(∀x∈args,aJ d x=true)->qA d (.mk 15 0 s m [] args)
 |act (n:Int) (a:Xp):n=1\/n=2\/n=4\/n=8->aJ d a=true->qA d (.mk 16 n noB noB [] [a])
theorem len1{α:Type}{l:List α}(h:(1:Int)=l.length):∃a,l=[a]:=List.length_eq_one_iff.1 Z7
theorem len2{α:Type}{l:List α}(h:(2:Int)=l.length):∃a b,l=[a,b]:=by
 match l,h with
 |[a,b],_=>exact⟨a,b,rfl⟩
 |[],h=>simp at h
 |[_],h=>simp at h
 |_::_::_::_,h=>simp at h;omega
theorem len3{α:Type}{l:List α}(h:(3:Int)=l.length):∃a b c,l=[a,b,c]:=by
 match l,h with
 |[a,b,c],_=>exact⟨a,b,c,rfl⟩
 |[],h=>simp at h
 |[_],h=>simp at h
 |[_,_],h=>simp at h
 |_::_::_::_::_,h=>simp at h;omega
theorem shape_of{d:Nat}:∀{e:Xp},aJ (d+1) e=true->qA d e
 | .mk op n s m names args,h=>by
  rw[aJ] at h;simp only[Bool.and_eq_true,Bool.or_eq_true,decide_eq_true_eq,List.all_eq_true] at h;obtain⟨⟨⟨⟨⟨⟨⟨⟨h0,h1⟩,hn⟩,e1⟩,e2⟩,e3⟩,e4⟩,hl⟩,ha⟩:=h;have tN:op=0\/op=1\/op=2\/op=3\/op=4\/op=5\/op=6\/op=7\/op=8\/op=9\/op=10\/op=11\/op=12\/op=13\/op=14\/op=15\/op=16\/op=17\/op=18:=Z7;rcases tN with h|h|h|h|h|h|h|h|h|h|h|h|h|h|h|h|h|h|h<;>subst h<;>simp[fQ] at hn e1 e2 e3 e4<;>simp[eY] at hl
  ·have n0:names=[]:=List.length_eq_zero_iff.1 e4.symm;have a0:args=[]:=List.length_eq_zero_iff.1 Z7;subst n0 a0 e2 e3;exact .int n hl.1 hl.2
  ·have n0:names=[]:=List.length_eq_zero_iff.1 e4.symm;have a0:args=[]:=List.length_eq_zero_iff.1 Z7;subst n0 a0 e2 e3;exact .bool n hl
  ·have n0:names=[]:=List.length_eq_zero_iff.1 e4.symm;have a0:args=[]:=List.length_eq_zero_iff.1 Z7;subst n0 a0 e1 e3;exact .var s hl
  ·have n0:names=[]:=List.length_eq_zero_iff.1 e4.symm;obtain⟨a,b,rfl⟩:=len2 hn;subst n0 e1 e2 e3;exact .bin kPlus 3 5 a b (by simp[eW]) (ha a Z6) (ha b Z6)
  ·have n0:names=[]:=List.length_eq_zero_iff.1 e4.symm;obtain⟨a,b,rfl⟩:=len2 hn;subst n0 e1 e2 e3;exact .bin kMinus 4 5 a b (by simp[eW]) (ha a Z6) (ha b Z6)
  ·have n0:names=[]:=List.length_eq_zero_iff.1 e4.symm;obtain⟨a,b,rfl⟩:=len2 hn;subst n0 e1 e2 e3;exact .bin kStar 5 6 a b (by simp[eW]) (ha a Z6) (ha b Z6)
  ·have n0:names=[]:=List.length_eq_zero_iff.1 e4.symm;obtain⟨a,b,rfl⟩:=len2 hn;subst n0 e1 e2 e3;exact .bin kLess 6 4 a b (by simp[eW]) (ha a Z6) (ha b Z6)
  ·have n0:names=[]:=List.length_eq_zero_iff.1 e4.symm;obtain⟨a,b,rfl⟩:=len2 hn;subst n0 e1 e2 e3;exact .bin kEqEq 7 4 a b (by simp[eW]) (ha a Z6) (ha b Z6)
  ·have n0:names=[]:=List.length_eq_zero_iff.1 e4.symm;obtain⟨a,b,rfl⟩:=len2 hn;subst n0 e1 e2 e3;exact .bin kAnd 8 2 a b (by simp[eW]) (ha a Z6) (ha b Z6)
  ·have n0:names=[]:=List.length_eq_zero_iff.1 e4.symm;obtain⟨a,b,rfl⟩:=len2 hn;subst n0 e1 e2 e3;exact .bin kOr 9 1 a b (by simp[eW]) (ha a Z6) (ha b Z6)
  ·have n0:names=[]:=List.length_eq_zero_iff.1 e4.symm;obtain⟨a,rfl⟩:=len1 hn;subst n0 e1 e2 e3;exact .not a (ha a Z6)
  ·have n0:names=[]:=List.length_eq_zero_iff.1 e4.symm;obtain⟨a,b,c,rfl⟩:=len3 hn;subst n0 e1 e2 e3;exact .iff a b c (ha a Z6) (ha b Z6) (ha c Z6)
  ·have n0:names=[]:=List.length_eq_zero_iff.1 e4.symm;obtain⟨a,b,rfl⟩:=len2 hn;subst n0 e1 e3;exact .lets s a b hl (ha a Z6) (ha b Z6)
  ·subst e1 e2 e3;exact .recd names args hl.1 hl.2 Z7 ha
  ·have n0:names=[]:=List.length_eq_zero_iff.1 e4.symm;obtain⟨a,rfl⟩:=len1 hn;subst n0 e1 e3;exact .field s a hl (ha a Z6)
  ·have n0:names=[]:=List.length_eq_zero_iff.1 e4.symm;subst n0 e1;exact .call s m args hl.1.1 hl.1.2 hl.2 ha
  ·have n0:names=[]:=List.length_eq_zero_iff.1 e4.symm;obtain⟨a,rfl⟩:=len1 hn;subst n0 e2 e3;exact .act n a Z7 (ha a Z6)
  ·have n0:names=[]:=List.length_eq_zero_iff.1 e4.symm;have a0:args=[]:=List.length_eq_zero_iff.1 Z7;subst n0 a0 e1 e3;exact .get s hl
  have n0:names=[]:=List.length_eq_zero_iff.1 e4.symm;obtain⟨a,rfl⟩:=len1 hn;subst n0 e1 e3;exact .set s a hl (ha a Z6)
section
variable {l:List Tok} {i j:Nat} {t s:bA} {ts:List bA}
theorem dM.no(h:dM l i (t::ts))(rO:t≠s):¬isP l i s=true:=by rw[h.says,decide_eq_true_eq];exact rO
theorem dM.yes(h:dM l i (t::ts)):isP l i t=true:=by rw[h.says,decide_eq_true_eq]
theorem dM.cast(h:dM l i ts)(e:i=j):dM l j ts:=e▸h
end
def nG(e:Xp)(lf:Nat):Nat:=if lG e<lf\/7<=lG e then 8 else lG e
theorem jJ(e:Xp):bE e 0=aG e:=by unfold bE atForm;rw[if_neg (Nat.not_lt_zero _)]
theorem toks_paren{e:Xp}{lf:Nat}(h:lG e<lf):bE e lf=aX::(aG e++[cF]):=by unfold bE atForm;rw[if_pos h]
theorem kK{e:Xp}{lf:Nat}(h:¬lG e<lf):bE e lf=aG e:=by unfold bE atForm;rw[if_neg h]
structure Behind (l:List Tok) (j own:Nat):Prop where
 dot:isP l j mH=false
 opn:isP l j aX=false
 oper:∀o,kA l j=some o->o.2.2<=own
theorem Stops.behind{l:List Tok}{j:Nat}(h:Stops l j)(own:Nat):Behind l j own:=⟨h.dot,h.opn,fun o ho=>by rw[h.oper] at ho;cases ho⟩
structure Ends (l:List Tok) (j form:Nat):Prop where
 dot:isP l j mH=false
 opn:isP l j aX=false
 oper:∀o,kA l j=some o->o.2.2<form
theorem Stops.ends{l:List Tok}{j:Nat}(h:Stops l j)(form:Nat):Ends l j form:=⟨h.dot,h.opn,fun o ho=>by rw[h.oper] at ho;cases ho⟩
def DAt(e:Xp)(lf:Nat):Prop:=∀(form:Nat)(l:List Tok)(i F:Nat),dM l i (bE e lf)->l.length<F+1+i->isP l (i+(bE e lf).length) aX=false->fJ l (i+(bE e lf).length)=false->
 ∃n,l.length<n+(i+(bE e lf).length)/\bM l (F+1) form i=(lJ l n e (i+(bE e lf).length)).bnd fun e k=>nH l (bM l F) form (l.length+1) 8 e k
def AAt(e:Xp)(lf:Nat):Prop:=∀(form:Nat)(l:List Tok)(i F:Nat),form<=nG e lf->dM l i (bE e lf)->l.length<F+1+i->Behind l (i+(bE e lf).length) (nG e lf)->
 ∃n,l.length<n+(i+(bE e lf).length)/\bM l (F+1) form i=nH l (bM l F) form n (nG e lf) e (i+(bE e lf).length)
def BAt(e:Xp)(form:Nat):Prop:=∀(l:List Tok)(i F:Nat),dM l i (bE e form)->l.length<F+i->Ends l (i+(bE e form).length) form->bM l F form i=.ok (e,i+(bE e form).length)
theorem AAt.b{e:Xp}{form:Nat}(h:AAt e form)(hf:form<=7):BAt e form:=by
 intro l i F hL hF hE;have hr:=hL.room;obtain⟨F,rfl⟩:∃g,F=g+1:=⟨F-1,Z7⟩;have LI:form<=nG e form:=by unfold nG;split<;>omega
 obtain⟨n,hn,he⟩:=h form l i F LI hL hF ⟨hE.dot,hE.opn,fun o ho=>Nat.le_trans (Nat.le_of_lt (hE.oper o ho)) LI⟩;rw[he];obtain⟨n,rfl⟩:∃k,n=k+1:=⟨n-1,Z7⟩;rw[nH]
 cases ho:kA l (i+(bE e form).length) with
 |none=>rfl
 |some o=>
  obtain⟨t,op,fm⟩:=o;simp only;rw[if_pos (.inl (hE.oper _ ho))]
theorem DAt.a{e:Xp}{lf:Nat}(h:DAt e lf)(ho:nG e lf=8):AAt e lf:=by
 intro form l i F hf hL hF hB;have hr:=hL.room;obtain⟨n,hn,he⟩:=h form l i F hL hF hB.opn (by unfold fJ;rw[hB.dot];rfl);obtain⟨n,rfl⟩:∃k,n=k+1:=⟨n-1,Z7⟩;refine⟨l.length+1,Z7,?_⟩;rw[he,lJ,if_neg (by rw[hB.dot];decide),bnd_ok,ho]
structure Plain1 (l:List Tok) (i:Nat):Prop where
 a:¬isP l i kIf=true
 b:¬isP l i mT=true
 c:¬isP l i oE=true
 d:¬isP l i nR=true
theorem pre_prim{l:List Tok}{i:Nat}(h:Plain1 l i)(rec:RecP)(form:Nat):cH l rec form i=(aQ l rec i).bnd fun e j=>.ok ((e,8),j):=by
 unfold cH;rw[if_neg (fun x=>h.a x.2),if_neg (fun x=>h.b x.2),if_neg (fun x=>h.c x.2),if_neg (fun x=>h.d x.2)]
theorem dM.plain{l:List Tok}{i:Nat}{t:bA}{ts:List bA}(h:dM l i (t::ts))(h1:t≠kIf)(h2:t≠mT)(h3:t≠oE)(h4:t≠nR):Plain1 l i:=⟨h.no h1,h.no h2,h.no h3,h.no h4⟩
def PAt(e:Xp):Prop:=∀(l:List Tok)(i F:Nat),dM l i (aG e)->l.length<F+1+i->isP l (i+(aG e).length) aX=false->fJ l (i+(aG e).length)=false->Plain1 l i/\aQ l (bM l F) i=.ok (e,i+(aG e).length)
theorem rd_d{e:Xp}{form F i j:Nat}{l:List Tok}(h1:Plain1 l i)(h2:aQ l (bM l F) i=.ok (e,j)):bM l (F+1) form i=(lJ l (l.length+1) e j).bnd fun e k=>nH l (bM l F) form (l.length+1) 8 e k:=by
 rw[bM,pre_prim h1,h2,bnd_ok,bnd_ok,if_pos (Nat.le_succ 7)]
theorem PAt.d{e:Xp}(h:PAt e)(lf:Nat)(ho:¬lG e<lf):DAt e lf:=by
 intro form l i F hL hF h1 h2;rw[kK ho] at hL h1 h2 ⊢;obtain⟨h3,h4⟩:=h l i F hL hF h1 h2;exact⟨l.length+1,Z7,rd_d h3 h4⟩
theorem paren_d{e:Xp}(h:BAt e 0)(lf:Nat)(ho:lG e<lf):DAt e lf:=by
 intro form l i F hL hF h1 h2;rw[toks_paren ho] at hL h1 h2 ⊢;have hT:=hL.tail;have hS:=hT.right;have hB:=h l (i+1) F (by rw[jJ];exact hT.left) Z7 (by rw[jJ];exact(hS.stops ZH).ends 0);rw[jJ] at hB;refine⟨l.length+1,Z7,rd_d (hL.plain ZH ZH ZH ZH) ?_⟩;unfold aQ;rw[if_neg (by rw[hL.kind];decide+kernel),if_neg (hL.no ZH),if_neg (hL.no ZH),if_neg (hL.no ZH),if_neg (fun x=>absurd (hL.kind▸x.1) ZH),if_neg (hL.no ZH),if_pos hL.yes];unfold oY;rw[hB,bnd_ok,hS.want,bnd_ok];simp only[List.length_cons,List.length_append,List.length_nil];rw[show i+1+(aG e).length+1=i+((aG e).length+(0+1)+1) by omega]
theorem operands_back{l:List Tok}{rec:RecP}:∀(args:List Xp)(f:Nat)(out:List Xp)(i:Nat),args≠[]->(∀x∈args,∀k,i<=k->dM l k (aG x)->Stops l (k+(aG x).length)->rec 0 k=.ok (x,k+(aG x).length))->
  out.length+args.length<=6->dM l i (aM (args.map aG)++[cF])->l.length<f+i->bS l rec f out i=.ok (out++args,i+(aM (args.map aG)).length+1)
 |[],_,_,_,h,_,_,_,_=>absurd rfl h
 |x::rest,f,out,i,_,xG,h6,hL,hf=>by
  have hr:=hL.room;obtain⟨f,rfl⟩:∃g,f=g+1:=⟨f-1,Z7⟩
  have wX:(if eP l i then fD l i out.length 6 else .ok ((),i))=(.ok ((),i):PR Unit):=by
   unfold fD;rw[List.length_cons] at h6;rw[if_pos (show out.length<6 by omega),ite_self]
  cases rest with
  |nil=>
   rw[List.map_cons,List.map_nil,aM] at hL ⊢;rw[bS,wX,bnd_ok,xG x Z6 i (Nat.le_refl _) hL.left (hL.right.stops ZH),bnd_ok,if_neg (hL.right.no ZH),hL.right.want,bnd_ok]
  |cons y rest=>
   (have e:aM ((x::y::rest).map aG)++[cF]=aG x++aY::(aM ((y::rest).map aG)++[cF]):=by simp[aM]);(have e2:(aM ((x::y::rest).map aG)).length=(aG x).length+1+(aM ((y::rest).map aG)).length:=by simp[aM];omega);rw[e] at hL;have hN:=hL.right.tail;rw[bS,wX,bnd_ok,xG x Z6 i (Nat.le_refl _) hL.left (hL.right.stops ZH),bnd_ok,if_pos hL.right.yes,operands_back (y::rest) f (out++[x]) _ Z6 (fun z hz k hk=>xG z (by simp[hz]) k Z7) (by simp at h6 ⊢;omega) hN Z7,e2];simp;omega
theorem gt_ne{a b:bA}(h:gtB a b=true):a≠b:=fun e=>by
 subst e;unfold gtB at h;simp at h
theorem record_back{l:List Tok}{rec:RecP}:∀(ns:List bA)(xs:List Xp)(f:Nat)(names:List bA)(args:List Xp)(last:bA)(before:Option bA)(i:Nat),ns≠[]->ns.length=xs.length->(∀x∈xs,∀k,i<=k->dM l k (aG x)->Stops l (k+(aG x).length)->rec 0 k=.ok (x,k+(aG x).length))->
  names.length+ns.length<=8->dY before ns=true->(names=[]/\before=none\/before=some last)->dM l i (aM (kO ns (eC xs))++[dH])->l.length<f+i->
  dA l rec f names args last i=.ok (.mk 13 0 noB noB (names++ns) (args++xs),i+(aM (kO ns (eC xs))).length+1)
 |[],_,_,_,_,_,_,_,h,_,_,_,_,_,_,_=>absurd rfl h
 |_::_,[],_,_,_,_,_,_,_,h,_,_,_,_,_,_=>by simp at h
 |n::ns,x::xs,f,names,args,last,before,i,_,hlen,xG,h8,wZ,hbe,hL,hf=>by
  have hr:=hL.room;obtain⟨f,rfl⟩:∃g,f=g+1:=⟨f-1,Z7⟩
  have wX:(if cP l i then fD l i names.length 8 else .ok ((),i))=(.ok ((),i):PR Unit):=by
   unfold fD;rw[List.length_cons] at h8;rw[if_pos (show names.length<8 by omega),ite_self]
  simp only[dY,Bool.and_eq_true] at wZ;obtain⟨⟨hn,zI⟩,wZ⟩:=wZ
  have hlater:∀{us},dM l i (n::us)->fP l i last (decide (0<names.length))=.ok (n,i+1):=fun h=>by
   unfold fP;rw[if_pos (h.isName hn),h.text];rcases hbe with⟨rfl,-⟩|rfl
   ·rfl
   simp only at zI;rw[if_neg (by simp[gt_ne zI]),if_neg (by simp[zI])]
  rw[eC] at hL ⊢
  cases ns with
  |nil=>
   obtain rfl:xs=[]:=List.length_eq_zero_iff.1 (by simpa using hlen.symm);simp only[kO,aM,List.cons_append] at hL ⊢;have hE:=hL.tail.tail;rw[dA,wX,bnd_ok,hlater hL,bnd_ok,hL.tail.want,bnd_ok,xG x Z6 _ Z7 hE.left (hE.right.stops ZH),bnd_ok,if_neg (hE.right.no ZH),hE.right.want,bnd_ok];simp only[List.length_cons];rw[show i+1+1+(aG x).length+1=i+((aG x).length+1+1)+1 by omega]
  |cons n2 ns=>
   cases xs with
   |nil=>simp at hlen
   |cons x2 xs=>
    (have e:aM (kO (n::n2::ns) ((lG x,aG x)::eC (x2::xs)))=n::kEq::(aG x++aY::aM (kO (n2::ns) (eC (x2::xs)))):=by simp[kO,eC,aM]);rw[e] at hL ⊢;simp only[List.cons_append,List.append_assoc] at hL;have hE:=hL.tail.tail;have hN:=hE.right.tail
    rw[dA,wX,bnd_ok,hlater hL,bnd_ok,hL.tail.want,bnd_ok,xG x Z6 _ Z7 hE.left (hE.right.stops ZH),bnd_ok,if_pos hE.right.yes,
     record_back (n2::ns) (x2::xs) f (names++[n]) (args++[x]) n (some n) _ Z6 (by simpa using hlen) (fun z hz k hk=>xG z (by simp[hz]) k Z7) (by simp at h8 ⊢;omega) wZ (.inr rfl) hN Z7]
    simp;omega
end Go.Proofs.YtiionicikdnnpaaGreatDoor
namespace Go.Proofs.YtiionicikdnnpaaGreatDoor
theorem YT{p:Prop}(h:p:=by decide+kernel):p:=h
theorem Y5{p:Prop}(h:p:=by decide):p:=h
theorem ZO{p:Prop}(h:p:=by omega):p:=h
theorem aAO{p:Prop}(h:p:=by rw[hL.kind];decide+kernel):p:=h
theorem nd_le:∀(k u:Nat),u<10 ^ (k+1)->Lib.nDigits u<=k+1
 |0,u,h=>by rw[Lib.nDigits_small (by simpa using h)];omega
 |k+1,u,h=>by
  by_cases hu:u<10
  ·rw[Lib.nDigits_small hu];omega
  rw[Lib.nDigits_big hu];have:=nd_le k (u / 10) (by rw[Nat.pow_succ] at h;omega);omega
theorem dec_byte{x:Nat}(h:x<10):cL (UInt8.ofNat (48+x))=true/\(UInt8.ofNat (48+x)).toNat=48+x:=by
 have e:(UInt8.ofNat (48+x)).toNat=48+x:=by rw[UInt8.toNat_ofNat'];omega
 refine⟨?_,e⟩;unfold cL;rw[e,decide_eq_true ZO,decide_eq_true ZO];rfl
theorem dec_all(u:Nat):(∀c∈Lib.decDigits u,cL c=true)/\jM (Lib.decDigits u)=u/\(∃c r,Lib.decDigits u=c::r/\(c.toNat=48->u=0)):=by
 induction u using Nat.strongRecOn with
 |_ u ih=>
  by_cases h:u<10
  ·rw[Lib.decDigits_one h];obtain⟨h1,h2⟩:=dec_byte h;refine⟨fun c hc=>by rw[List.mem_singleton.1 hc];exact h1,?_,_,_,rfl,fun e=>by rw[h2] at e;omega⟩;unfold jM;simp only[List.foldl_cons,List.foldl_nil];rw[h2];omega
  obtain⟨i1,i2,c,r,i3,i4⟩:=ih (u / 10) ZO;obtain⟨h1,h2⟩:=dec_byte (show u % 10<10 by omega);rw[Lib.decDigits,dif_neg h];refine⟨fun c hc=>(List.mem_append.1 hc).elim (i1 c) fun hc=>by rw[List.mem_singleton.1 hc];exact h1,?_,c,r++[UInt8.ofNat (48+u % 10)],by rw[i3];rfl,fun e=>by have:=i4 e;omega⟩;unfold jM at i2 ⊢;rw[List.foldl_append,i2];simp only[List.foldl_cons,List.foldl_nil];rw[h2];omega
theorem pS{n:Int}(h0:0<=n)(h1:n<=1099511627776):cZ (numX n)=some n.toNat:=by
 have e:(numX n).data.toList=Lib.decDigits n.toNat:=by
  show(Lib.itoa n)=_;unfold Lib.itoa;rw[if_neg ZO]
 obtain⟨d1,d2,c,r,d3,d4⟩:=dec_all n.toNat;have tK:(numX n).size=Lib.nDigits n.toNat:=by rw[eF,e,Lib.decDigits_length]
 have yM:Lib.nDigits n.toNat<=13:=nd_le 12 _ ZO;unfold cZ;rw[tK,e,d3];simp only;rw[<-d3,d2,List.all_eq_true.2 d1,decide_eq_true yM,decide_eq_true (by omega:n.toNat<=1099511627776)]
 have h48:(!(decide (c.toNat=48)&&decide (Lib.nDigits n.toNat≠1)))=true:=by
  by_cases h:c.toNat=48
  ·rw[d4 h];rw[Lib.nDigits_small Y5];simp
  simp[h]
 rw[h48];rfl
theorem kind_itoa{n:Int}(h0:0<=n)(h1:n<=1099511627776):jE (numX n)=1:=by
 have h:=pS h0 h1
 have hw:eZ (numX n)=false:=by
  cases hw:eZ (numX n) with
  |false=>rfl
  |true=>rw[nE hw] at h;cases h
 unfold jE;rw[hw,h];rfl
theorem wd_int(n:Int):aG (.mk 0 n noB noB [] [])=[numX n]:=by rw[aG,kB,if_neg YT,if_pos rfl]
theorem wd_bool(n:Int):aG (.mk 1 n noB noB [] [])=[if n=1 then dC else cB]:=by rw[aG,kB,if_neg YT,if_neg Y5,if_pos rfl]
theorem wd_var(s:bA):aG (.mk 2 0 s noB [] [])=[s]:=by rw[aG,kB,if_neg YT,if_neg Y5,if_neg Y5,if_pos rfl]
theorem wd_get(s:bA):aG (.mk 17 0 s noB [] [])=[iC,s]:=by rw[aG,kB,if_neg YT,if_neg Y5,if_neg Y5,if_neg Y5,if_pos rfl]
theorem wd_set(s:bA)(a:Xp):aG (.mk 18 0 s noB [] [a])=oE::s::bE a 0:=by
 rw[aG,kB,if_neg YT,if_neg Y5,if_neg Y5,if_neg Y5,if_neg Y5,if_pos rfl];rfl
theorem wd_not(a:Xp):aG (.mk 10 0 noB noB [] [a])=nR::bE a 3:=by
 rw[aG,kB,if_neg YT,if_neg Y5,if_neg Y5,if_neg Y5,if_neg Y5,if_neg Y5,if_pos rfl];rfl
theorem wd_field(s:bA)(a:Xp):aG (.mk 14 0 s noB [] [a])=bE a 7++[mH,s]:=by
 rw[aG,kB,if_neg YT,if_neg Y5,if_neg Y5,if_neg Y5,if_neg Y5,if_neg Y5,if_neg Y5,if_pos rfl];rfl
theorem wd_let(s:bA)(a b:Xp):aG (.mk 12 0 s noB [] [a,b])=mT::s::kEq::(bE a 0++kIn::bE b 0):=by
 rw[aG,kB,if_neg YT,if_neg Y5,if_neg Y5,if_neg Y5,if_neg Y5,if_neg Y5,if_neg Y5,if_neg Y5,if_pos rfl];rfl
theorem wd_if(a b c:Xp):aG (.mk 11 0 noB noB [] [a,b,c])=kIf::(bE a 0++lS::(bE b 0++lU::bE c 0)):=by
 rw[aG,kB,if_neg YT,if_neg Y5,if_neg Y5,if_neg Y5,if_neg Y5,if_neg Y5,if_neg Y5,if_neg Y5,if_neg Y5,if_pos rfl];rfl
theorem wd_rec(names:List bA)(args:List Xp):aG (.mk 13 0 noB noB names args)=bH::(aM (kO names (eC args))++[dH]):=by
 rw[aG,kB,if_neg YT,if_neg Y5,if_neg Y5,if_neg Y5,if_neg Y5,if_neg Y5,if_neg Y5,if_neg Y5,if_neg Y5,if_neg Y5,if_pos rfl]
theorem wordsXs_snd:∀args:List Xp,(eC args).map (·.2)=args.map aG
 |[]=>rfl
 |x::r=>by rw[eC,List.map_cons,List.map_cons,wordsXs_snd r]
theorem wd_call(s m:bA)(args:List Xp):aG (.mk 15 0 s m [] args)=(if m≠noB then[m,mH] else[])++([s]++aX::(aM (args.map aG)++[cF])):=by
 rw[aG,kB,if_neg YT,if_neg Y5,if_neg Y5,if_neg Y5,if_neg Y5,if_neg Y5,if_neg Y5,if_neg Y5,if_neg Y5,if_neg Y5,if_neg Y5,if_neg (by decide:¬(15:Int)=16),wordsXs_snd]
theorem wd_act(n:Int)(a:Xp){w:bA}(h:(cR.filter fun w=>decide (w.2=n)).map (·.1)=[w]):aG (.mk 16 n noB noB [] [a])=w::aX::(aG a++[cF]):=by
 rw[aG,kB,if_neg YT,if_neg Y5,if_neg Y5,if_neg Y5,if_neg Y5,if_neg Y5,if_neg Y5,if_neg Y5,if_neg Y5,if_neg Y5,if_neg Y5,if_pos rfl,h,if_neg YT];rfl
theorem lP{t:bA}{op:Int}{fm:Nat}(h:(t,op,fm)∈eW):(t=kOr/\op=9/\fm=1)\/(t=kAnd/\op=8/\fm=2)\/(t=kEqEq/\op=7/\fm=4)\/(t=kLess/\op=6/\fm=4)\/(t=kPlus/\op=3/\fm=5)\/(t=kMinus/\op=4/\fm=5)\/(t=kStar/\op=5/\fm=6):=by
 simpa[eW] using h
theorem qU{t:bA}{op:Int}{fm:Nat}(h:(t,op,fm)∈eW):hJ op=(fm,t)/\1<=fm/\fm<=6/\fm≠3:=by
 rcases lP h with h|h|h|h|h|h|h<;>obtain⟨rfl,rfl,rfl⟩:=h<;>decide+kernel
theorem oper_at{l:List Tok}{j:Nat}{t:bA}{op:Int}{fm:Nat}{ts:List bA}(h:(t,op,fm)∈eW)(hL:dM l j (t::ts)):kA l j=some (t,op,fm)/\isP l j mH=false/\isP l j aX=false:=by
 rw[hL.oper,hL.says,hL.says];rcases lP h with h|h|h|h|h|h|h<;>obtain⟨rfl,rfl,rfl⟩:=h<;>decide+kernel
theorem oper_mem{l:List Tok}{j:Nat}{o:bA×Int×Nat}(h:kA l j=some o):o∈eW:=by unfold kA at h;exact List.mem_of_find?_eq_some h
theorem wd_bin{t:bA}{op:Int}{fm:Nat}(h:(t,op,fm)∈eW)(a b:Xp):aG (.mk op 0 noB noB [] [a,b])=bE a (if fm=4 then 5 else fm)++t::bE b (fm+1):=by
 have hf:=(qU h).1;rw[aG,kB,hf,if_pos (by rcases lP h with h|h|h|h|h|h|h<;>obtain⟨rfl,rfl,rfl⟩:=h<;>decide+kernel)];rfl
theorem own_ge{e:Xp}{lf:Nat}(h:lf<=7):lf<=nG e lf:=by unfold nG;split<;>omega
theorem BAt.zero{e:Xp}{l:List Tok}{k F:Nat}(h:BAt e 0)(hL:dM l k (aG e))(hF:l.length<F+k)(hs:Stops l (k+(aG e).length)):bM l F 0 k=.ok (e,k+(aG e).length):=by
 have:=h l k F (by rw[jJ];exact hL) hF (by rw[jJ];exact hs.ends 0)
 rwa [jJ] at this
def rM(e:Xp)(lf:Nat):Prop:=AAt e lf/\(nG e lf=8->DAt e lf)
theorem pD{e:Xp}(h8:lG e=8)(hP:PAt e)(lf:Nat)(ho:¬lG e<lf):rM e lf:=by
 have hD:=hP.d lf ho;exact⟨hD.a (by unfold nG;rw[if_pos (.inr ZO)]),fun _=>hD⟩
theorem key_low{e:Xp}{lf:Nat}(h7:lG e<7)(ho:¬lG e<lf)(h:nG e lf=lG e->AAt e lf):rM e lf:=by
 have rS:nG e lf=lG e:=by unfold nG;rw[if_neg ZO]
 exact⟨h rS,fun h8=>ZO⟩
theorem key_bin{t:bA}{op:Int}{fm:Nat}{a b:Xp}(h:(t,op,fm)∈eW)(hA:∀lf,lf<=7->rM a lf)(hB:∀form,form<=7->BAt b form)(lf:Nat)(ho:¬lG (.mk op 0 noB noB [] [a,b])<lf):rM (.mk op 0 noB noB [] [a,b]) lf:=by
 obtain⟨hf,AO,OV,TD⟩:=qU h;have rP:lG (.mk op 0 noB noB [] [a,b])=fm:=by show(hJ op).1=fm;rw[hf]
 refine key_low ZO ho fun rS=>?_;rw[rP] at rS;intro form l i F CI hL hF xM;rw[rS] at CI xM ⊢;rw[kK ho,wd_bin h] at hL xM ⊢;have hlf:(if fm=4 then 5 else fm)<=7/\fm<=(if fm=4 then 5 else fm)/\(fm=4->(if fm=4 then 5 else fm)=5):=by split<;>omega
 generalize (if fm=4 then 5 else fm)=la at hL xM hlf ⊢;have LI:=own_ge (e:=a) hlf.1;have hT:=hL.right;obtain⟨o1,o2,o3⟩:=oper_at h hT;obtain⟨n,hn,he⟩:=(hA la hlf.1).1 form l i F ZO hL.left hF ⟨o2,o3,fun o ho=>by rw[o1] at ho;cases ho;show fm<=_;omega⟩;have hr:=hT.room;obtain⟨n,rfl⟩:∃k,n=k+1:=⟨n-1,ZO⟩;have elen:i+(bE a la++t::bE b (fm+1)).length=i+(bE a la).length+1+(bE b (fm+1)).length:=by simp;omega
 rw[elen] at xM ⊢;have hb:=hB (fm+1) ZO l _ F hT.tail ZO ⟨xM.dot,xM.opn,fun o ho=>Nat.lt_succ_of_le (xM.oper o ho)⟩;refine⟨n,ZO,?_⟩;rw[he,nH,o1];simp only;rw[if_neg ZO,hb,bnd_ok]
theorem key_not{a:Xp}(hB:BAt a 3)(lf:Nat)(ho:¬lG (.mk 10 0 noB noB [] [a])<lf):rM (.mk 10 0 noB noB [] [a]) lf:=by
 have rP:lG (.mk 10 0 noB noB [] [a])=3:=show(hJ 10).1=3 by decide+kernel
 refine key_low ZO ho fun rS=>?_;rw[rP] at rS;intro form l i F CI hL hF xM;rw[rS] at CI xM ⊢;rw[kK ho,wd_not] at hL xM ⊢;have elen:i+(nR::bE a 3).length=i+1+(bE a 3).length:=by simp;omega
 rw[elen] at xM ⊢;have hr:=hL.room
 have hb:=hB l _ F hL.tail ZO ⟨xM.dot,xM.opn,fun o ho=>by
  have h1:=xM.oper o ho;obtain⟨t,op,fm⟩:=o;have h2:=(qU (oper_mem ho)).2.2.2;simp only at h1 h2 ⊢
  omega⟩
 refine⟨l.length+1,by simp at hr;omega,?_⟩;rw[bM];unfold cH;rw[if_neg (fun x=>hL.no YT x.2),if_neg (fun x=>hL.no YT x.2),if_neg (fun x=>hL.no YT x.2),if_pos ⟨CI,hL.yes⟩,hb,bnd_ok,bnd_ok,if_neg (show ¬(7:Nat)<=3 by decide),bnd_ok]
theorem key_zero{e:Xp}{lf:Nat}(h0:lG e=0)(ho:¬lG e<lf)(h:∀(l:List Tok)(i F:Nat),dM l i (aG e)->l.length<F+1+i->Stops l (i+(aG e).length)->cH l (bM l F) 0 i=.ok ((e,0),i+(aG e).length)):rM e lf:=by
 refine key_low ZO ho fun rS=>?_;rw[h0] at rS;intro form l i F CI hL hF xM;rw[rS] at CI xM ⊢;rw[kK ho] at hL xM ⊢;obtain rfl:form=0:=ZO;have hr:=hL.room;refine⟨l.length+1,ZO,?_⟩
 rw[bM,h l i F hL hF ⟨xM.dot,xM.opn,by
  cases tN:kA l (i+(aG e).length) with
  |none=>rfl
  |some o=>
   have h1:=xM.oper o tN;obtain⟨t,op,fm⟩:=o;have h2:=(qU (oper_mem tN)).2.1;simp only at h1
   omega⟩,bnd_ok,if_neg (show ¬(7:Nat)<=0 by decide),bnd_ok]
theorem key_if{a b c:Xp}(hA:BAt a 0)(hB:BAt b 0)(hC:BAt c 0)(lf:Nat)(ho:¬lG (.mk 11 0 noB noB [] [a,b,c])<lf):rM (.mk 11 0 noB noB [] [a,b,c]) lf:=by
 refine key_zero (show(hJ 11).1=0 by decide+kernel) ho fun l i F hL hF hS=>?_;rw[wd_if,jJ,jJ,jJ] at hL hS ⊢;have elen:i+(kIf::(aG a++lS::(aG b++lU::aG c))).length=i+1+(aG a).length+1+(aG b).length+1+(aG c).length:=by simp;omega
 rw[elen] at hS ⊢;have h1:=hL.tail;have h2:=h1.right;have h3:=h2.tail;have h4:=h3.right;unfold cH;rw[if_pos ⟨rfl,hL.yes⟩,hA.zero h1.left ZO (h2.stops YT),bnd_ok,h2.want,bnd_ok,hB.zero h3.left ZO (h4.stops YT),bnd_ok,h4.want,bnd_ok,hC.zero h4.tail ZO hS,bnd_ok]
theorem key_let{s:bA}{a b:Xp}(hs:aK s=true)(hA:BAt a 0)(hB:BAt b 0)(lf:Nat)(ho:¬lG (.mk 12 0 s noB [] [a,b])<lf):rM (.mk 12 0 s noB [] [a,b]) lf:=by
 refine key_zero (show(hJ 12).1=0 by decide+kernel) ho fun l i F hL hF hS=>?_;rw[wd_let,jJ,jJ] at hL hS ⊢;have elen:i+(mT::s::kEq::(aG a++kIn::aG b)).length=i+1+1+1+(aG a).length+1+(aG b).length:=by simp;omega
 rw[elen] at hS ⊢;have h1:=hL.tail.tail.tail;have h2:=h1.right;unfold cH;rw[if_neg (fun x=>hL.no YT x.2),if_pos ⟨rfl,hL.yes⟩,hL.tail.name hs,bnd_ok,hL.tail.tail.want,bnd_ok,hA.zero h1.left ZO (h2.stops YT),bnd_ok,h2.want,bnd_ok,hB.zero h2.tail ZO hS,bnd_ok]
theorem key_set{s:bA}{a:Xp}(hs:aK s=true)(hA:BAt a 0)(lf:Nat)(ho:¬lG (.mk 18 0 s noB [] [a])<lf):rM (.mk 18 0 s noB [] [a]) lf:=by
 refine key_zero (show(hJ 18).1=0 by decide+kernel) ho fun l i F hL hF hS=>?_;rw[wd_set,jJ] at hL hS ⊢;have elen:i+(oE::s::aG a).length=i+1+1+(aG a).length:=by simp;omega
 rw[elen] at hS ⊢;unfold cH;rw[if_neg (fun x=>hL.no YT x.2),if_neg (fun x=>hL.no YT x.2),if_pos ⟨rfl,hL.yes⟩,hL.tail.name hs,bnd_ok,hA.zero hL.tail.tail ZO hS,bnd_ok]
theorem key_field{s:bA}{a:Xp}(hs:aK s=true)(hA:∀lf,lf<=7->rM a lf)(lf:Nat)(ho:¬lG (.mk 14 0 s noB [] [a])<lf):rM (.mk 14 0 s noB [] [a]) lf:=by
 have hD:DAt (.mk 14 0 s noB [] [a]) lf:=by
  intro form l i F hL hF h1 h2;rw[kK ho,wd_field] at hL h1 h2 ⊢;have hT:=hL.right;have elen:i+(bE a 7++[mH,s]).length=i+(bE a 7).length+1+1:=by simp;omega
  rw[elen] at h1 h2 ⊢;have yN:nG a 7=8:=by unfold nG;rw[if_pos ZO]
  obtain⟨n,hn,he⟩:=(hA 7 (Nat.le_refl _)).2 yN form l i F hL.left hF (by rw[hT.says];decide+kernel) (by
   cases hd:fJ l (i+(bE a 7).length) with
   |false=>rfl
   |true=>
    unfold fJ at hd;simp only[Bool.and_eq_true,decide_eq_true_eq] at hd
    have:isP l (i+(bE a 7).length+1+1) aX=true:=by
     unfold isP;rw[show i+(bE a 7).length+1+1=i+(bE a 7).length+2 from rfl,hd.1.2,hd.2];decide
    rw[h1] at this
    cases this)
  have hr:=hT.room;simp only[List.length_cons,List.length_nil] at hr;obtain⟨n,rfl⟩:∃k,n=k+1:=⟨n-1,ZO⟩;refine⟨n,ZO,?_⟩;rw[he,lJ,if_pos hT.yes,hT.tail.name hs,bnd_ok]
 exact⟨hD.a (by unfold nG;rw[if_pos (.inr (show 7<=(hJ 14).1 by decide+kernel))]),fun _=>hD⟩
theorem rd_int{n:Int}(h0:0<=n)(h1:n<=1099511627776):PAt (.mk 0 n noB noB [] []):=by
 intro l i F hL hF _ _;rw[wd_int] at hL ⊢;have hk:=kind_itoa h0 h1;have rO:∀{s},jE s≠1->numX n≠s:=fun h e=>h (e▸hk);refine⟨hL.plain (rO YT) (rO YT) (rO YT) (rO YT),?_⟩;unfold aQ;rw[if_pos (by rw[hL.kind,hk]),hL.head.2.2,pS h0 h1];simp only[Option.getD_some,List.length_cons,List.length_nil];rw[show((n.toNat:Nat):Int)=n by omega]
theorem rd_bool{n:Int}(h:n=0\/n=1):PAt (.mk 1 n noB noB [] []):=by
 intro l i F hL hF _ _;rw[wd_bool] at hL ⊢;rcases h with rfl|rfl
 ·rw[if_neg Y5] at hL ⊢;refine⟨hL.plain YT YT YT YT,?_⟩;unfold aQ;rw[if_neg aAO,if_neg (hL.no YT),if_pos hL.yes];rfl
 rw[if_pos rfl] at hL ⊢;refine⟨hL.plain YT YT YT YT,?_⟩;unfold aQ;rw[if_neg aAO,if_pos hL.yes];rfl
theorem rd_get{s:bA}(hs:aK s=true):PAt (.mk 17 0 s noB [] []):=by
 intro l i F hL hF _ _;rw[wd_get] at hL ⊢;refine⟨hL.plain YT YT YT YT,?_⟩;unfold aQ;rw[if_neg aAO,if_neg (hL.no YT),if_neg (hL.no YT),if_pos hL.yes,hL.tail.name hs];rfl
theorem rd_name{l:List Tok}{i:Nat}{s:bA}{ts:List bA}(hs:aK s=true)(hL:dM l i (s::ts))(rec:RecP):Plain1 l i/\aQ l rec i=pW l rec s (i+1):=by
 have rO:∀{k},aK k=false->s≠k:=fun h=>mE hs h;refine⟨hL.plain (rO YT) (rO YT) (rO YT) (rO YT),?_⟩;unfold aQ
 rw[if_neg (by rw[hL.kind,kind_word (qX hs)];decide),if_neg (hL.no (rO YT)),if_neg (hL.no (rO YT)),if_neg (hL.no (rO YT)),
  if_neg (fun x=>x.2 (by rw[hL.text];exact name_bit hs)),if_neg (hL.no (rO YT)),if_neg (hL.no (rO YT)),hL.name hs,bnd_ok]
theorem rd_var{s:bA}(hs:aK s=true):PAt (.mk 2 0 s noB [] []):=by
 intro l i F hL hF h1 h2;rw[wd_var] at hL h1 h2 ⊢;obtain⟨hp,he⟩:=rd_name hs hL (bM l F);refine⟨hp,?_⟩;have e:i+[s].length=i+1:=rfl;rw[e] at h1 h2 ⊢;rw[he];unfold pW;rw[if_neg (by rw[h1];decide),if_neg (by rw[h2];decide)]
theorem rd_act{n:Int}{a:Xp}(h:n=1\/n=2\/n=4\/n=8)(hA:BAt a 0):PAt (.mk 16 n noB noB [] [a]):=by
 obtain⟨w,h1,h2,h3,h4⟩:∃w,(cR.filter fun w=>decide (w.2=n)).map (·.1)=[w]/\bR w=n/\jE w=0/\(w≠kIf/\w≠mT/\w≠oE/\w≠nR/\w≠dC/\w≠cB/\w≠iC):=by
  rcases h with rfl|rfl|rfl|rfl
  ·exact⟨qF,YT⟩
  ·exact⟨kNet,YT⟩
  ·exact⟨qG,YT⟩
  exact⟨lH,YT⟩
 intro l i F hL hF _ _;rw[wd_act n a h1] at hL ⊢;refine⟨hL.plain h4.1 h4.2.1 h4.2.2.1 h4.2.2.2.1,?_⟩;have hT:=hL.tail.tail;unfold aQ;rw[if_neg (by rw[hL.kind,h3];decide),if_neg (hL.no h4.2.2.2.2.1),if_neg (hL.no h4.2.2.2.2.2.1),if_neg (hL.no h4.2.2.2.2.2.2),if_pos ⟨by rw[hL.kind,h3],by rw[hL.text,h2];rcases h with rfl|rfl|rfl|rfl<;>decide⟩,hL.tail.want,bnd_ok];unfold oY;rw[hA.zero hT.left ZO (hT.right.stops YT),bnd_ok,hT.right.want,bnd_ok,bnd_ok,hL.text,h2];simp only[List.length_cons,List.length_append,List.length_nil];rw[show i+1+1+(aG a).length+1=i+((aG a).length+(0+1)+1+1) by omega]
theorem rd_rec{names:List bA}{args:List Xp}(wZ:dY none names=true)(h8:names.length<=8)(hlen:names.length=args.length)(hA:∀x∈args,BAt x 0):PAt (.mk 13 0 noB noB names args):=by
 intro l i F hL hF _ _;rw[wd_rec] at hL ⊢;refine⟨hL.plain YT YT YT YT,?_⟩;have hT:=hL.tail;unfold aQ;rw[if_neg aAO,if_neg (hL.no YT),if_neg (hL.no YT),if_neg (hL.no YT),if_neg (fun x=>absurd (hL.kind▸x.1) YT),if_pos hL.yes];unfold kV
 cases names with
 |nil=>
  obtain rfl:args=[]:=List.length_eq_zero_iff.1 (by simpa using hlen.symm);simp only[kO,aM,List.nil_append] at hT ⊢;rw[if_pos hT.yes];rfl
 |cons n ns=>
  have hn:aK n=true:=by simp only[dY,Bool.and_eq_true] at wZ;exact wZ.1.1
  have rO:¬isP l (i+1) dH=true:=by
   cases args with
   |nil=>simp at hlen
   |cons x xs=>
    obtain⟨r,hr⟩:∃r,aM (kO (n::ns) (eC (x::xs)))++[dH]=n::r:=by
     rw[eC,kO]
     cases hq:kO ns (eC xs) with
     |nil=>exact⟨_,rfl⟩
     |cons y ys=>exact⟨_,rfl⟩
    rw[hr] at hT;exact hT.no (mE hn YT)
  rw[if_neg rO,record_back (n::ns) args (l.length+1) [] [] noB none (i+1) (by simp) hlen (fun x hx k hk h1 h2=>(hA x hx).zero h1 ZO h2) (by simpa using h8) wZ (.inl ⟨rfl,rfl⟩) hT ZO];simp;omega
theorem operands_all{l:List Tok}{rec:RecP}{args:List Xp}{i:Nat}(xG:∀x∈args,∀k,i<=k->dM l k (aG x)->Stops l (k+(aG x).length)->rec 0 k=.ok (x,k+(aG x).length))(h6:args.length<=6)(hL:dM l i (aX::(aM (args.map aG)++[cF])))(rO:∀x∈args,∃t r,aG x=t::r/\t≠cF):
  iA l rec i=.ok (args,i+(aM (args.map aG)).length+2):=by
 have hT:=hL.tail;unfold iA;rw[hL.want,bnd_ok]
 cases args with
 |nil=>
  simp only[List.map_nil,aM,List.nil_append] at hT ⊢;rw[if_pos hT.yes];rfl
 |cons x xs=>
  have wN:¬isP l (i+1) cF=true:=by
   obtain⟨t,r,ht,FS⟩:=rO x (by simp)
   obtain⟨r2,hr⟩:∃r,aM ((x::xs).map aG)++[cF]=t::r:=by
    cases xs with
    |nil=>rw[List.map_cons,List.map_nil,aM,ht];exact⟨_,rfl⟩
    |cons y ys=>rw[List.map_cons,List.map_cons,aM,ht];exact⟨_,rfl⟩
   rw[hr] at hT;exact hT.no FS
  rw[if_neg wN,operands_back (x::xs) (l.length+1) [] (i+1) (by simp) (fun z hz k hk=>xG z hz k ZO) (by simpa using h6) hT ZO,List.nil_append];rw[show i+1+(aM ((x::xs).map aG)).length+1=i+(aM ((x::xs).map aG)).length+2 by omega]
theorem rd_call{s m:bA}{args:List Xp}(hs:aK s=true)(hm:m=noB\/aK m=true)(h6:args.length<=6)(hA:∀x∈args,BAt x 0)(rO:∀x∈args,∃t r,aG x=t::r/\t≠cF):PAt (.mk 15 0 s m [] args):=by
 intro l i F hL hF _ _;rw[wd_call] at hL ⊢;by_cases sM:m=noB
 ·subst sM;rw[if_neg (by simp),List.nil_append,List.singleton_append] at hL ⊢;obtain⟨hp,he⟩:=rd_name hs hL (bM l F);refine⟨hp,?_⟩;rw[he];unfold pW;rw[if_pos hL.tail.yes,operands_all (fun x hx k hk h1 h2=>(hA x hx).zero h1 ZO h2) h6 hL.tail rO,bnd_ok];simp;omega
 have K5:=hm.resolve_left sM;rw[if_pos sM] at hL ⊢;simp only[List.cons_append,List.nil_append] at hL ⊢;obtain⟨hp,he⟩:=rd_name K5 hL (bM l F);refine⟨hp,?_⟩;have h1:=hL.tail;have h2:=h1.tail;have h3:=h2.tail;have hr:=h3.room;rw[List.length_cons] at hr;rw[he];unfold pW
 rw[if_neg (h1.no YT),if_pos (by
  unfold fJ;rw[h1.yes,decide_eq_true (by omega:i+1+2<l.length),h2.kind,h2.text,h3.kind,h3.text,hs,kind_word (qX hs)]
  decide+kernel),h2.name hs,bnd_ok,operands_all (fun x hx k hk h1 h2=>(hA x hx).zero h1 ZO h2) h6 h3 rO,bnd_ok]
 simp;omega
theorem wd_head:∀(d:Nat)(e:Xp),aJ d e=true->∃t r,aG e=t::r/\t≠cF:=by
 intro d
 induction d with
 |zero=>intro e h;obtain⟨op,n,s,m,names,args⟩:=e;simp[aJ] at h
 |succ d ih=>
  intro e h
  have at_:∀{a lf},aJ d a=true->∃t r,bE a lf=t::r/\t≠cF:=fun{a lf}ha=>by
   obtain⟨t,r,h1,h2⟩:=ih a ha;by_cases ho:lG a<lf
   ·rw[toks_paren ho];exact⟨_,_,rfl,YT⟩
   rw[kK ho];exact⟨t,r,h1,h2⟩
  cases shape_of h with
  |int n h0 h1=>
   rw[wd_int];exact⟨_,_,rfl,fun e=>absurd (e▸kind_itoa h0 h1) YT⟩
  |bool n hn=>rw[wd_bool];exact⟨_,_,rfl,by rcases hn with rfl|rfl<;>decide+kernel⟩
  |var s hs=>rw[wd_var];exact⟨_,_,rfl,mE hs YT⟩
  |get s hs=>rw[wd_get];exact⟨_,_,rfl,YT⟩
  |bin t op fm a b ht ha hb=>
   rw[wd_bin ht];obtain⟨t,r,h1,h2⟩:=at_ (lf:=if fm=4 then 5 else fm) ha;rw[h1];exact⟨_,_,rfl,h2⟩
  |not a ha=>rw[wd_not];exact⟨_,_,rfl,YT⟩
  |iff a b c ha hb hc=>rw[wd_if];exact⟨_,_,rfl,YT⟩
  |lets s a b hs ha hb=>rw[wd_let];exact⟨_,_,rfl,YT⟩
  |set s a hs ha=>rw[wd_set];exact⟨_,_,rfl,YT⟩
  |field s a hs ha=>
   rw[wd_field];obtain⟨t,r,h1,h2⟩:=at_ (lf:=7) ha;rw[h1];exact⟨_,_,rfl,h2⟩
  |recd names args hn h8 hlen ha=>rw[wd_rec];exact⟨_,_,rfl,YT⟩
  |call s m args hs hm h6 ha=>
   rw[wd_call];by_cases sM:m=noB
   ·rw[if_neg (by simpa using sM)];exact⟨_,_,rfl,mE hs YT⟩
   rw[if_pos sM];exact⟨_,_,rfl,mE (hm.resolve_left sM) YT⟩
  |act n a hn ha=>
   rcases hn with rfl|rfl|rfl|rfl
   ·rw[wd_act (w:=qF) _ _ YT];exact⟨_,_,rfl,YT⟩
   ·rw[wd_act (w:=kNet) _ _ YT];exact⟨_,_,rfl,YT⟩
   ·rw[wd_act (w:=qG) _ _ YT];exact⟨_,_,rfl,YT⟩
   rw[wd_act (w:=lH) _ _ YT];exact⟨_,_,rfl,YT⟩
theorem key_all:∀(d:Nat)(e:Xp),aJ d e=true->∀lf,lf<=7->rM e lf:=by
 intro d
 induction d with
 |zero=>intro e h;obtain⟨op,n,s,m,names,args⟩:=e;simp[aJ] at h
 |succ d ih=>
  intro e h;have B:∀{a},aJ d a=true->∀form,form<=7->BAt a form:=fun ha form hf=>(ih _ ha form hf).1.b hf
  have key:∀lf,¬lG e<lf->rM e lf:=by
   cases shape_of h with
   |int n h0 h1=>exact pD (show(hJ 0).1=8 by decide+kernel) (rd_int h0 h1)
   |bool n hn=>exact pD (show(hJ 1).1=8 by decide+kernel) (rd_bool hn)
   |var s hs=>exact pD (show(hJ 2).1=8 by decide+kernel) (rd_var hs)
   |get s hs=>exact pD (show(hJ 17).1=8 by decide+kernel) (rd_get hs)
   |bin t op fm a b ht ha hb=>exact key_bin ht (ih a ha) (B hb)
   |not a ha=>exact key_not (B ha 3 Y5)
   |iff a b c ha hb hc=>exact key_if (B ha 0 Y5) (B hb 0 Y5) (B hc 0 Y5)
   |lets s a b hs ha hb=>exact key_let hs (B ha 0 Y5) (B hb 0 Y5)
   |set s a hs ha=>exact key_set hs (B ha 0 Y5)
   |field s a hs ha=>exact key_field hs (ih a ha)
   |recd names args hn h8 hlen ha=>exact pD (show(hJ 13).1=8 by decide+kernel) (rd_rec hn h8 hlen fun x hx=>B (ha x hx) 0 Y5)
   |call s m args hs hm h6 ha=>exact pD (show(hJ 15).1=8 by decide+kernel) (rd_call hs hm h6 (fun x hx=>B (ha x hx) 0 Y5) fun x hx=>wd_head d x (ha x hx))
   |act n a hn ha=>exact pD (show(hJ 16).1=8 by decide+kernel) (rd_act hn (B ha 0 Y5))
  intro lf hlf;by_cases ho:lG e<lf
  ·have hD:=paren_d ((key 0 (Nat.not_lt_zero _)).1.b Y5) lf ho;exact⟨hD.a (by unfold nG;rw[if_pos (.inl ho)]),fun _=>hD⟩
  exact key lf ho
theorem exp_back{d:Nat}{e:Xp}(h:aJ d e=true){l:List Tok}{i F:Nat}(hL:dM l i (aG e))(hF:l.length<F+i)(hs:Stops l (i+(aG e).length)):bM l F 0 i=.ok (e,i+(aG e).length):=
 ((key_all d e h 0 Y5).1.b Y5).zero hL hF hs
end Go.Proofs.YtiionicikdnnpaaGreatDoor
