/- Texts of this seat, joined. -/
import Derived.Test.YtiionicikdnnpaaGreatDoorPE
set_option linter.unusedVariables false
set_option linter.unusedSimpArgs false
set_option linter.constructorNameAsVariable false
namespace Go.Proofs.YtiionicikdnnpaaGreatDoor
theorem uses_each:∀{us known:List bA},bM us known=true->∀s∈us,aP s=true
 |[],_,_,s,hs=>by cases hs
 |n::r,known,h,s,hs=>by
  rw[bM] at h;split at h
  ·cases h
  rename_i hc;rcases List.mem_cons.1 hs with rfl|hs
  ·cases hq:aP s with
   |true=>rfl
   |false=>exact absurd (by rw[hq];simp) hc
  exact uses_each h s hs
theorem funcs_each:∀{fs:List Fnc}{known:List bA},dP fs known=true->∀f∈fs,aP f.name=true/\gL f=true
 |[],_,_,f,hf=>by cases hf
 |x::r,known,h,f,hf=>by
  rw[dP] at h;split at h
  ·cases h
  rename_i hc;rcases List.mem_cons.1 hf with rfl|hf
  ·constructor
   ·cases hq:aP f.name with
    |true=>rfl
    |false=>exact absurd (by rw[hq];simp) hc
   cases hq:gL f with
   |true=>rfl
   |false=>exact absurd (by rw[hq];simp) hc
  exact funcs_each h f hf
theorem gT{gs:List Fld}{most:Nat}(h:bO gs most=true):∀g∈gs,aP g.1=true/\aQ 4 g.2=true:=by
 unfold bO at h;rw[Bool.and_eq_true] at h;exact flds_each h.1
theorem jG{es:List Xp}{n:Nat}(h:dE es n=true):∀e∈es,aJ 12 e=true:=by
 unfold dE at h;rw[Bool.and_eq_true,List.all_eq_true] at h;exact h.1
theorem mem_zipWith{α β γ:Type}{f:α->β->γ}{c:γ}:∀{as:List α}{bs:List β},c∈List.zipWith f as bs->∃a b,a∈as/\b∈bs/\c=f a b
 |[],_,h=>by cases h
 |_::_,[],h=>by cases h
 |a::as,b::bs,h=>by
  rw[List.zipWith_cons_cons,List.mem_cons] at h;rcases h with rfl|h
  ·exact⟨a,b,by simp,by simp,rfl⟩
  obtain⟨x,y,h1,h2,h3⟩:=mem_zipWith h;exact⟨x,y,by simp[h1],by simp[h2],h3⟩
theorem U6{p:Prop}(h:p:=by
 simp only[tsz]
 omega):p:=h
def tsz:List bA->Nat
 |[]=>0
 |t::r=>t.size+1+tsz r
theorem eQ:∀a b:List bA,tsz (a++b)=tsz a+tsz b
 |[],b=>by simp[tsz]
 |t::a,b=>by rw[List.cons_append,tsz,tsz,eQ a b];omega
theorem aV(t:bA)(r:List bA):tsz (t::r)=t.size+1+tsz r:=by rw[tsz]
def bX:Nat->Nat
 |0=>0
 |d+1=>208+8*bX d
def bT:Nat->Nat
 |0=>0
 |d+1=>188+8*bT d
theorem eL{s:bA}(h:aP s=true):s.size<=20:=by
 have:=name_word h;unfold dL at this;split at this
 ·cases this
 simp only[Bool.and_eq_true,decide_eq_true_eq] at this;exact this.1.2
theorem kC{B:Nat}:∀{L:List (List bA)},(∀x∈L,tsz x<=B)->tsz (aR L)<=L.length*(B+2)
 |[],_=>by simp[aR,tsz]
 |[x],h=>by
  have:=h x (by simp);simp[aR];omega
 |x::y::r,h=>by
  have h1:=h x (by simp);have h2:=kC (L:=y::r) fun z hz=>h z (by simp[hz]);rw[aR,eQ,aV,List.length_cons,Nat.succ_mul];have e:bE.size=1:=rfl;rw[e];omega
theorem rec_size{B:Nat}:∀{names:List bA}{before:Option bA}{args:List Xp},cO before names=true->(∀x∈args,tsz (aI x)<=B)->∀p∈hJ names (bB args),tsz p<=23+B
 |[],_,_,_,_,p,hp=>by simp[hJ] at hp
 |_::_,_,[],_,_,p,hp=>by simp[hJ,bB] at hp
 |n::ns,_,x::xs,hn,h,p,hp=>by
  simp only[cO,Bool.and_eq_true] at hn;rw[bB,hJ,List.mem_cons] at hp;rcases hp with rfl|hp
  ·have h1:=eL hn.1.1;have h2:=h x (by simp);rw[aV,aV];have e:kEq.size=1:=rfl;rw[e];simp only;omega
  exact rec_size hn.2 (fun y hy=>h y (by simp[hy])) p hp
theorem recT_length:∀(names:List bA)(as:List (Nat×List bA)),(hJ names as).length<=names.length
 |[],_=>by simp[hJ]
 |_::_,[]=>by simp[hJ]
 |n::ns,a::as=>by rw[hJ,List.length_cons,List.length_cons];have:=recT_length ns as;omega
theorem numX_size{n:Int}(h0:0<=n)(h1:n<=1099511627776):(numX n).size<=13:=by
 have h:=number_itoa h0 h1;unfold dQ at h;split at h
 ·cases h
 split at h
 ·rename_i hc;simp only[Bool.and_eq_true,decide_eq_true_eq] at hc;exact hc.1.2
 cases h
theorem exp_size:∀(d:Nat)(e:Xp),aJ d e=true->tsz (aI e)+4<=bX d:=by
 intro d
 induction d with
 |zero=>intro e h;obtain⟨op,n,s,m,names,args⟩:=e;simp[aJ] at h
 |succ d ih=>
  intro e h
  have at_:∀{a lf},aJ d a=true->tsz (bK a lf)<=bX d:=fun{a lf}ha=>by
   have h1:=ih a ha;by_cases ho:iZ a<lf
   ·rw[toks_paren ho,aV,eQ,aV];have e1:aY.size=1:=rfl;have e2:cF.size=1:=rfl;rw[e1,e2];exact U6
   rw[toks_plain ho];omega
  have w:∀{a},aJ d a=true->tsz (aI a)<=bX d:=fun ha=>by have:=ih _ ha;omega
  rw[bX]
  cases shape_of h with
  |int n h0 h1=>
   rw[wd_int,aV];have:=numX_size h0 h1;exact U6
  |bool n hn=>
   rw[wd_bool];rcases hn with rfl|rfl
   ·rw[if_neg (by decide)];have:tsz [bU]=6:=rfl;omega
   rw[if_pos rfl];have:tsz [cQ]=5:=rfl;omega
  |var s hs=>
   rw[wd_var,aV];have:=eL hs;exact U6
  |get s hs=>
   rw[wd_get,aV,aV];have:=eL hs;have e:fY.size=3:=rfl;exact U6
  |bin t op fm a b ht ha hb=>
   rw[wd_bin ht,eQ,aV];have h1:=at_ (lf:=if fm=4 then 5 else fm) ha;have h2:=at_ (lf:=fm+1) hb;(have h3:t.size<=3:=by rcases nD ht with h|h|h|h|h|h|h<;>rw[h.1]<;>decide+kernel);omega
  |not a ha=>
   rw[wd_not,aV];have h1:=at_ (lf:=3) ha;have e:nH.size=3:=rfl;omega
  |iff a b c ha hb hc=>
   rw[wd_if,aV,eQ,aV,eQ,aV];have h1:=at_ (lf:=0) ha;have h2:=at_ (lf:=0) hb;have h3:=at_ (lf:=0) hc;have e1:kIf.size=2:=rfl;have e2:kN.size=4:=rfl;have e3:kO.size=4:=rfl;omega
  |lets s a b hs ha hb=>
   rw[wd_let,aV,aV,aV,eQ,aV];have h1:=at_ (lf:=0) ha;have h2:=at_ (lf:=0) hb;have h3:=eL hs;have e1:mE.size=3:=rfl;have e2:kEq.size=1:=rfl;have e3:kIn.size=2:=rfl;omega
  |set s a hs ha=>
   rw[wd_set,aV,aV];have h1:=at_ (lf:=0) ha;have h3:=eL hs;have e1:nN.size=3:=rfl;omega
  |field s a hs ha=>
   rw[wd_field,eQ,aV,aV];have h1:=at_ (lf:=7) ha;have h3:=eL hs;have e1:kG.size=1:=rfl;exact U6
  |recd names args hn h8 rD ha=>
   rw[wd_rec,aV,eQ,aV];have h1:=kC (rec_size hn fun x hx=>w (ha x hx));have h2:=recT_length names (bB args);have h3:(hJ names (bB args)).length*(23+bX d+2)<=8*(23+bX d+2):=Nat.mul_le_mul_right _ (by omega);have e1:bJ.size=1:=rfl;have e2:dO.size=1:=rfl;exact U6
  |call s m args hs hm h6 ha=>
   rw[wd_call,eQ,List.singleton_append,aV,aV,eQ,aV]
   have h1:=kC (L:=args.map aI) (B:=bX d) fun x hx=>by
    obtain⟨y,hy,rfl⟩:=List.mem_map.1 hx;exact w (ha y hy)
   have h2:(args.map aI).length*(bX d+2)<=6*(bX d+2):=Nat.mul_le_mul_right _ (by rw[List.length_map];exact h6);have h3:=eL hs
   have h4:tsz (if m≠noB then[m,kG] else[])<=23:=by
    split
    ·rename_i zZ;have:=eL (hm.resolve_left zZ);have e:kG.size=1:=rfl;exact U6
    simp[tsz]
   have e1:aY.size=1:=rfl;have e2:cF.size=1:=rfl;exact U6
  |act n a hn ha=>
   have key:∀w',w'.size<=7->(cR.filter fun w=>decide (w.2=n)).map (·.1)=[w']->tsz (aI (.mk 16 n noB noB [] [a]))+4<=208+8*bX d:=fun w' hw he=>by
    rw[wd_act n a he,aV,aV,eQ,aV];have h1:=w ha;have e1:aY.size=1:=rfl;have e2:cF.size=1:=rfl;exact U6
   exact T3
theorem exp_size12{e:Xp}(h:aJ 12 e=true):tsz (aI e)<=2041950165840:=by
 have h1:=exp_size 12 e h;have h2:bX 12=2041950165840:=by decide
 omega
theorem flds_size{p:Ty->Bool}{B:Nat}:∀{gs:List Fld},(∀g∈gs,aP g.1=true/\tsz (eI g.2)<=B)->∀x∈dR gs,tsz x<=21+B
 |[],_,x,hx=>by simp[dR] at hx
 |(n,t)::r,h,x,hx=>by
  rw[fldsT_cons,List.mem_cons] at hx;rcases hx with rfl|hx
  ·have h1:=h (n,t) (by simp);have h2:=eL h1.1;have h3:=h1.2;rw[aV];simp only at h2 h3;omega
  exact flds_size (p:=p) (fun g hg=>h g (by simp[hg])) x hx
theorem kQ:∀gs:List Fld,(dR gs).length=gs.length
 |[]=>by simp[dR]
 |(n,t)::r=>by rw[fldsT_cons,List.length_cons,List.length_cons,kQ r]
theorem type_size:∀(d:Nat)(t:Ty),aQ d t=true->tsz (eI t)<=bT d
 |0,.mk k fs,h=>by simp[aQ] at h
 |d+1,.mk k fs,h=>by
  obtain⟨hk,h8,pP,DK⟩:=ty_parts h;rw[eI,bT];split
  ·have:tsz [kIntW]=4:=rfl;omega
  split
  ·have:tsz [kBool]=5:=rfl;omega
  rw[aV,eQ,aV];have h1:=kC (flds_size (p:=aQ d) (B:=bT d) fun g hg=>⟨(gU DK g hg).1,type_size d g.2 (gU DK g hg).2⟩);rw[kQ] at h1;have h2:fs.length*(21+bT d+2)<=8*(21+bT d+2):=Nat.mul_le_mul_right _ h8;have e1:bJ.size=1:=rfl;have e2:dO.size=1:=rfl;exact U6
theorem mW{t:Ty}(h:aQ 4 t=true):tsz (eI t)<=109980:=by
 have h1:=type_size 4 t h;have h2:bT 4=109980:=by decide
 omega
theorem rflds_size{gs:List Fld}{most:Nat}(h:bO gs most=true):tsz (aR (dR gs))<=most*110003:=by
 have h1:=kC (flds_size (p:=aQ 4) (B:=109980) fun g hg=>⟨(gT h g hg).1,mW (gT h g hg).2⟩);rw[kQ] at h1;unfold bO at h;rw[Bool.and_eq_true,decide_eq_true_eq] at h;exact Nat.le_trans h1 (Nat.mul_le_mul_right _ h.2)
theorem xps_size{es:List Xp}(h:∀e∈es,aJ 12 e=true):tsz (aR (es.map aI))<=es.length*2041950165842:=by
 have h1:=kC (L:=es.map aI) (B:=2041950165840) fun x hx=>by
  obtain⟨y,hy,rfl⟩:=List.mem_map.1 hx;exact exp_size12 (h y hy)
 rw[List.length_map] at h1;exact h1
theorem eff_size(e:Int):tsz (effT e)<=24:=by
 have key:∀l:List (bA×Int),tsz ((l.filter fun w=>decide (Go.bits .and .i64 e w.2≠0)).map (·.1))<=tsz (l.map (·.1)):=by
  intro l
  induction l with
  |nil=>exact Nat.le_refl _
  |cons x r ih=>
   rw[List.filter_cons];split
   ·rw[List.map_cons,List.map_cons,aV,aV];omega
   rw[List.map_cons,aV];omega
 exact Nat.le_trans (key cR) (by decide)
theorem fn_size{f:Fnc}(hn:aP f.name=true)(h:gL f=true):tsz (fnT f)<=2041950936000:=by
 unfold gL at h;simp only[Bool.and_eq_true] at h;obtain⟨⟨⟨hp,hr⟩,hb⟩,-⟩:=h;have h1:=rflds_size hp;have h2:=mW hr;have h3:=exp_size12 hb;have h4:=eff_size f.effects;have h5:=eL hn;have e1:tsz (if f.pub then[nG] else[])<=4:=by split<;>decide
 have e2:tsz (if f.effects≠0 then[jT] else[])<=2:=by split<;>decide
 have e3:kFn.size=2:=rfl;have e4:aY.size=1:=rfl;have e5:cF.size=1:=rfl;have e6:kEq.size=1:=rfl;unfold fnT;rw[eQ,aV,aV,aV,eQ,aV,eQ,eQ,eQ,aV];omega
theorem join_size:∀ts:List bA,ts≠[]->(dJ ts).length+1=tsz ts
 |[],h=>absurd rfl h
 |[t],_=>by rw[dJ,tsz,tsz,<-kE]
 |t::u::r,_=>by
  have:=join_size (u::r) (by simp);rw[dJ,List.length_append,List.length_cons,aV,<-this,kE];omega
theorem oX(ts:List bA):(fI ts).length=tsz ts+2:=by
 have:=join_size (ts++[fD]) (by simp);rw[eQ] at this;have e:tsz [fD]=2:=rfl;unfold fI;rw[List.length_append,List.length_singleton];omega
theorem lines_size{B:Nat}:∀{L:List (List bA)},(∀x∈L,tsz x<=B)->(L.flatMap fI).length<=L.length*(B+2)
 |[],_=>by simp
 |x::r,h=>by
  have h1:=h x (by simp);have h2:=lines_size (L:=r) fun y hy=>h y (by simp[hy]);rw[List.flatMap_cons,List.length_append,oX,List.length_cons,Nat.succ_mul];omega
theorem text_size{m:Mdl}(h:gS m=true):(mG m).size<=140737488355328:=by
 unfold gS at h;simp only[Bool.and_eq_true,decide_eq_true_eq,Bool.or_eq_true] at h;obtain⟨⟨⟨⟨⟨⟨⟨⟨⟨⟨hu,hf⟩,hn⟩,LK⟩,LU⟩,hv⟩,hi⟩,xB⟩,hold⟩,NV⟩,PW⟩:=h
 have hl:∀{es:List Xp}{n:Nat},dE es n=true->es.length=n:=fun h=>by
  unfold dE at h;rw[Bool.and_eq_true,decide_eq_true_eq] at h;exact h.2
 have hv8:m.vars.length<=8:=by unfold bO at hv;rw[Bool.and_eq_true,decide_eq_true_eq] at hv;exact hv.2
 have sY:m.old.length<=8:=by unfold bO at hold;rw[Bool.and_eq_true,decide_eq_true_eq] at hold;exact hold.2
 have n1:=eL hn
 have a1:(fI [bR,m.name]).length<=30:=by
  rw[oX,aV,aV];have e:bR.size=6:=rfl;exact U6
 have a2:=lines_size (L:=m.uses.map fun s=>[kUse,s]) (B:=25) fun x hx=>by
  obtain⟨s,hs,rfl⟩:=List.mem_map.1 hx;have:=eL (uses_each hu s hs);have e:kUse.size=3:=rfl;rw[aV,aV];exact U6
 have a3:=lines_size (L:=List.zipWith (fun(f:Fld)e=>kVar::f.1::(eI f.2++kEq::aI e)) m.vars m.init) (B:=2041950276000) fun x hx=>by
  obtain⟨g,e,hg,he,rfl⟩:=mem_zipWith hx;have h1:=eL (gT hv g hg).1;have h2:=mW (gT hv g hg).2;have h3:=exp_size12 (jG hi e he);have e1:kVar.size=3:=rfl;have e2:kEq.size=1:=rfl;rw[aV,aV,eQ,aV];omega
 have a4:=lines_size (L:=m.funcs.map fnT) (B:=2041950936000) fun x hx=>by
  obtain⟨f,LT,rfl⟩:=List.mem_map.1 hx;obtain⟨h1,h2⟩:=funcs_each hf f LT;exact fn_size h1 h2
 have b3:(List.zipWith (fun(f:Fld)e=>kVar::f.1::(eI f.2++kEq::aI e)) m.vars m.init).length<=8:=by rw[List.length_zipWith];omega
 have c2:(m.uses.map fun s=>[kUse,s]).length*(25+2)<=12*(25+2):=Nat.mul_le_mul_right _ (by rw[List.length_map];exact LK);have c3:=Nat.mul_le_mul_right (2041950276000+2) b3;have c4:(m.funcs.map fnT).length*(2041950936000+2)<=30*(2041950936000+2):=Nat.mul_le_mul_right _ (by rw[List.length_map];exact LU)
 have a5:((if m.moves then[lT::aY::(aR (dR m.old)++cF::gP::(aR (m.forward.map aI)++nU::aR (m.back.map aI)))] else[]).flatMap fI).length<=32671203600000:=by
  split
  ·rename_i hm;rw[if_pos hm] at NV;have h1:=rflds_size hold;have h2:=xps_size (jG NV);have h3:=xps_size (jG PW);have h4:m.forward.length*2041950165842<=8*2041950165842:=Nat.mul_le_mul_right _ (by rw[hl NV];exact hv8);have h5:m.back.length*2041950165842<=8*2041950165842:=Nat.mul_le_mul_right _ (by rw[hl PW];exact sY);have e1:lT.size=4:=rfl;have e2:aY.size=1:=rfl;have e3:cF.size=1:=rfl;have e4:gP.size=7:=rfl;have e5:nU.size=4:=rfl;rw[List.flatMap_cons,List.flatMap_nil,List.append_nil,oX,aV,aV,eQ,aV,aV,eQ,aV];omega
  simp
 have e:(mG m).size=((oC m).flatMap fI).length:=by rw[kE];rfl
 rw[e];unfold oC;rw[List.flatMap_cons,List.flatMap_append,List.flatMap_append,List.flatMap_append,List.length_append,List.length_append,List.length_append,List.length_append];omega
def iR:Bool->List bA->List UInt8
 |_,[]=>[]
 |ins,t::r=>(if ins then[32] else[])++(t.data.toList++iR true r)
def insL(ins:Bool)(ts:List bA):Bool:=ins|| !ts.isEmpty
theorem emit_app:∀(ins:Bool)(a b:List bA),iR ins (a++b)=iR ins a++iR (insL ins a) b
 |ins,[],b=>by simp[iR,insL]
 |ins,t::a,b=>by
  rw[List.cons_append,iR,iR,emit_app true a b];simp[insL]
theorem ins_app(ins:Bool)(a b:List bA):insL ins (a++b)=insL (insL ins a) b:=by
 unfold insL;cases a<;>cases b<;>simp
theorem pH:∀ts:List bA,iR false ts=dJ ts
 |[]=>rfl
 |[t]=>by simp[iR,dJ]
 |t::u::r=>by
  have h:=pH (u::r);rw[iR] at h;rw[iR,iR,dJ,<-h];simp
theorem emit_line(ts:List bA):iR false (ts++[fD])++[10]=fI ts:=by rw[pH];rfl
theorem emit_size:∀(ins:Bool)(ts:List bA),(iR ins ts).length<=tsz ts
 |ins,[]=>by simp[iR,tsz]
 |ins,t::r=>by
  have h:=emit_size true r;rw[iR,tsz,List.length_append,List.length_append,kE];have:(if ins then[32] else([]:List UInt8)).length<=1:=by split<;>simp
  omega
def cD(op n:Int)(s m:bA)(names:List bA)(args:List Xp):Bool:=
 decide (0<=op)&&decide (op<19)&&
  (decide ((fN (.mk op n s m names args)).2<0)||decide ((fN (.mk op n s m names args)).2=args.length))&&
  decide ((fN (.mk op n s m names args)).1.1=n)&&decide ((fN (.mk op n s m names args)).1.2.1=s)&&decide ((fN (.mk op n s m names args)).1.2.2.1=m)&&
  decide ((fN (.mk op n s m names args)).1.2.2.2.length=names.length)&&gE (.mk op n s m names args)
theorem rx_node(d:Nat)(op n:Int)(s m:bA)(names:List bA)(args:List Xp):aJ (d+1) (.mk op n s m names args)=(cD op n s m names args&&args.all (aJ d)):=by rw[aJ];rfl
section
variable {l:List Tok} {rec:RecP}
end
section
variable {l:List Tok} {rec:RecP}
end
end Go.Proofs.YtiionicikdnnpaaGreatDoor
namespace Go.Proofs.YtiionicikdnnpaaGreatDoor
theorem fieldsOk_iff{p:Ty->Bool}:∀{fs:List Fld}{before:Option bA},eS p before fs=true↔cO before (fs.map (·.1))=true/\∀x∈fs,p x.2=true
 |[],before=>by simp[eS,cO]
 |(n,t)::r,before=>by
  simp only[eS,List.map_cons,cO,Bool.and_eq_true,fieldsOk_iff (fs:=r),List.mem_cons,forall_eq_or_imp];constructor
  ·rintro⟨⟨⟨h1,h2⟩,h3⟩,h4,h5⟩;exact⟨⟨⟨h1,h2⟩,h4⟩,h3,h5⟩
  rintro⟨⟨⟨h1,h2⟩,h4⟩,h3,h5⟩;exact⟨⟨⟨h1,h2⟩,h3⟩,h4,h5⟩
section
variable {l:List Tok}
theorem effOk_le{e:Int}(h0:0<=e)(h1:e<=15):effOk e=true:=by
 have h:e=0\/e=1\/e=2\/e=3\/e=4\/e=5\/e=6\/e=7\/e=8\/e=9\/e=10\/e=11\/e=12\/e=13\/e=14\/e=15:=by omega
 rcases h with h|h|h|h|h|h|h|h|h|h|h|h|h|h|h|h<;>subst h<;>decide+kernel
end
end Go.Proofs.YtiionicikdnnpaaGreatDoor
namespace Go.Proofs.YtiionicikdnnpaaGreatDoor
def gB(l:List Tok):PR Xp:=(nW l 0 0).bnd fun e j=>if(aM l j).kind=3 then(if bI e<=12 then .ok (e,j) else gK l j 6) else gK l j 11
def nB(s:bA):Except (Int×Int) Xp:=match lexL s with
 | .error e=>.error e
 | .ok l=>match gB l with
  | .error e=>.error e
  | .ok (e,_)=>.ok e
theorem XI{p:Prop}(h:p:=by kernel_rfl):p:=h
theorem sm_ex1:nB (bs [97,43,98,42,50,60,99])=.ok (.mk 6 0 noB noB [] [.mk 3 0 noB noB [] [(.mk 2 0 (bs [97]) noB [] []),.mk 5 0 noB noB [] [(.mk 2 0 (bs [98]) noB [] []),(.mk 0 2 noB noB [] [])]],(.mk 2 0 (bs [99]) noB [] [])]):=XI
theorem sm_ex1p:jZ (.mk 6 0 noB noB [] [.mk 3 0 noB noB [] [(.mk 2 0 (bs [97]) noB [] []),.mk 5 0 noB noB [] [(.mk 2 0 (bs [98]) noB [] []),(.mk 0 2 noB noB [] [])]],(.mk 2 0 (bs [99]) noB [] [])])=.ok (bs [97,32,43,32,98,32,42,32,50,32,60,32,99]):=XI
theorem sm_ex2p:jZ (.mk 5 0 noB noB [] [(.mk 0 2 noB noB [] []),.mk 3 0 noB noB [] [(.mk 2 0 (bs [97]) noB [] []),(.mk 2 0 (bs [98]) noB [] [])]])=.ok (bs [50,32,42,32,40,32,97,32,43,32,98,32,41]):=XI
theorem sm_ex3:nB (bs [112,46,120,42,98,97,115,101,46,100,111,117,98,108,101,40,110,41])=.ok (.mk 5 0 noB noB [] [.mk 14 0 (bs [120]) noB [] [(.mk 2 0 (bs [112]) noB [] [])],.mk 15 0 (bs [100,111,117,98,108,101]) (bs [98,97,115,101]) [] [(.mk 2 0 (bs [110]) noB [] [])]]):=XI
theorem sm_ex3p:jZ (.mk 5 0 noB noB [] [.mk 14 0 (bs [120]) noB [] [(.mk 2 0 (bs [112]) noB [] [])],.mk 15 0 (bs [100,111,117,98,108,101]) (bs [98,97,115,101]) [] [(.mk 2 0 (bs [110]) noB [] [])]])=.ok (bs [112,32,46,32,120,32,42,32,98,97,115,101,32,46,32,100,111,117,98,108,101,32,40,32,110,32,41]):=XI
theorem sm_ex4:iY (bs [109,111,100,117,108,101,32,109,59,102,110,32,102,40,41,105,110,116,61,49,59])=.ok (⟨bs [109],[],[],[],[⟨bs [102],false,[],.mk 0 [],0,(.mk 0 1 noB noB [] [])⟩],false,[],[],[]⟩:Mdl):=XI
theorem sm_ex4p:kZ (⟨bs [109],[],[],[],[⟨bs [102],false,[],.mk 0 [],0,(.mk 0 1 noB noB [] [])⟩],false,[],[],[]⟩:Mdl)=.ok (bs [109,111,100,117,108,101,32,109,32,59,10,102,110,32,102,32,40,32,41,32,105,110,116,32,61,32,49,32,59,10]):=XI
theorem sm_ex5:iY (bs [109,111,100,117,108,101,32,105,102,59])=.error (7,11):=XI
theorem sm_ex6:iY (bs [109,111,100,117,108,101,32,109,59,118,97,114,32,97,32,105,110,116,59])=.error (18,11):=XI
theorem sm_ex7:iY (bs [109,111,100,117,108,101,32,109,59,118,97,114,32,97,123,121,32,105,110,116,44,120,32,105,110,116,125,61,123,125,59])=.error (21,12):=XI
theorem sm_ex8:iY (bs [109,111,100,117,108,101,32,109,59,102,110,32,102,40,97,32,105,110,116,44,97,32,105,110,116,41,105,110,116,61,49,59])=.error (20,5):=XI
theorem sm_ex9:gS (⟨bs [109],[],[],[],[⟨bs [102],false,[],.mk 0 [],0,(.mk 0 1 noB noB [] [])⟩],false,[],[],[]⟩:Mdl)=true:=XI
theorem sm_ex10:gS ⟨noB,[],[],[],[],false,[],[],[]⟩=false:=XI
theorem sm_ex11:aJ 12 (.mk 2 0 (bs [97]) noB [] [])=true/\aJ 12 (.mk 2 0 noB noB [] [])=false/\aQ 4 (.mk 0 [])=true/\aP (bs [97,49])=true/\aP (bs [110,101,116])=false:=by decide+kernel
theorem eff_range{e:Int}(h:effOk e=true)(h0: -9223372036854775808<=e)(h1:e<=9223372036854775807):0<=e/\e<=15:=by
 unfold effOk Go.bits at h;rw[decide_eq_true_eq] at h;simp only at h;obtain⟨x,hx⟩:∃x:BitVec 64,x=BitVec.ofInt 64 e:=⟨_,rfl⟩;have hb:IntKind.i64.bits=64:=rfl;have h2:IntKind.i64.wrap ((x&&& ~~~(15#64)).toNat:Int)=0:=by rw[hx];exact h
 have pS:=(x&&& ~~~(15#64)).isLt
 have h3:(x&&& ~~~(15#64)).toNat=0:=by
  generalize (x&&& ~~~(15#64)).toNat=y at h2 pS;unfold IntKind.wrap at h2;simp only[IntKind.signed,IntKind.bits,Bool.true_and] at h2;split at h2<;>omega
 have h4:x&&& ~~~(15#64)=0#64:=BitVec.eq_of_toNat_eq (by rw[h3];rfl)
 have h5:x.toNat<2 ^ 4:=by
  refine Nat.lt_pow_two_of_testBit _ fun i hi=>?_;rw[BitVec.testBit_toNat];by_cases PL:i<64
  ·have h6:=congrArg (fun v:BitVec 64=>v.getLsbD i) h4;simp only[BitVec.getLsbD_and,BitVec.getLsbD_not,BitVec.getLsbD_zero,PL,decide_true,Bool.true_and] at h6
   have h7:(15#64).getLsbD i=false:=by
    rw[BitVec.getLsbD_eq_getElem PL];(have:∀k:Fin 60,(15#64).getLsbD (k.val+4)=false:=by decide+kernel);have:=this ⟨i-4,by omega⟩;rw[<-BitVec.getLsbD_eq_getElem PL];simpa[show i-4+4=i by omega] using this
   rw[h7] at h6;simpa using h6
  exact BitVec.getLsbD_of_ge _ _ (by omega)
 have h8:x.toInt=e:=by
  rw[hx,BitVec.toInt_ofInt];exact Int.bmod_eq_of_le (by omega) (by omega)
 have h9:x.toInt=x.toNat:=by
  rw[BitVec.toInt_eq_toNat_cond,if_pos (by omega)]
 omega
def resW:List bA:=[⟨#[97,110,100]⟩,⟨#[98,97,99,107]⟩,⟨#[98,111,111,108]⟩,⟨#[99,108,111,99,107]⟩,⟨#[101,108,115,101]⟩,⟨#[102,97,108,115,101]⟩,⟨#[102,105,108,101,115]⟩,⟨#[102,110]⟩,⟨#[102,111,114,119,97,114,100]⟩,⟨#[103,101,116]⟩,⟨#[105,102]⟩,⟨#[105,110]⟩,⟨#[105,110,116]⟩,⟨#[108,101,116]⟩,⟨#[109,111,100,117,108,101]⟩,⟨#[109,111,118,101]⟩,⟨#[110,101,116]⟩,⟨#[110,111,116]⟩,⟨#[111,114]⟩,⟨#[112,117,98]⟩,⟨#[115,101,99,114,101,116,115]⟩,⟨#[115,101,116]⟩,⟨#[116,104,101,110]⟩,⟨#[116,114,117,101]⟩,⟨#[117,115,101]⟩,⟨#[118,97,114]⟩]
def joinR:List (List UInt8)->List UInt8
 |[]=>[32]
 |w::r=>32::(w++joinR r)
theorem joinR_head:∀W,∃t,joinR W=32::t
 |[]=>⟨[],rfl⟩
 |w::r=>⟨_,rfl⟩
theorem span_eq{w s t b:List UInt8}(hw:(32:UInt8)∉w)(hs:(32:UInt8)∉s)(h:w++32::t=s++32::b):w=s:=by
 induction w generalizing s with
 |nil=>
  cases s with
  |nil=>rfl
  |cons c s=>simp at h;exact absurd (by simp[h.1]) hs
 |cons c w ih=>
  cases s with
  |nil=>simp at h;exact absurd (by simp[h.1]) hw
  |cons d s=>
   simp at h;rw[h.1,ih (fun e=>hw (by simp[e])) (fun e=>hs (by simp[e])) h.2]
theorem joinR_mem{s:List UInt8}(hs:(32:UInt8)∉s):∀(W:List (List UInt8))(a b:List UInt8),(∀w∈W,(32:UInt8)∉w)->joinR W=a++(32::(s++32::b))->s∈W
 |[],a,b,_,h=>by
  have:=congrArg List.length h;simp[joinR] at this;omega
 |w::r,[],b,hW,h=>by
  obtain⟨t,ht⟩:=joinR_head r;rw[joinR,ht] at h;simp at h;rw[span_eq (hW w (by simp)) hs h];simp
 |w::r,c::a,b,hW,h=>by
  rw[joinR] at h;simp only[List.cons_append,List.cons.injEq] at h;have h2:=h.2;rcases List.append_eq_append_iff.1 h2 with⟨a',h3,h4⟩|⟨c',h3,h4⟩
  ·exact List.mem_cons_of_mem _ (joinR_mem hs r a' b (fun w hw=>hW w (by simp[hw])) h4)
  cases c' with
  |nil=>
   simp at h3 h4;exact List.mem_cons_of_mem _ (joinR_mem hs r [] b (fun w hw=>hW w (by simp[hw])) (by simpa using h4.symm))
  |cons d c'=>
   simp at h4;exact absurd (by rw[h3,<-h4.1];simp) (hW w (by simp))
theorem joinR_has{s:List UInt8}:∀(W:List (List UInt8)),s∈W->∃a b,joinR W=a++(32::(s++32::b))
 |[],h=>by cases h
 |w::r,h=>by
  rcases List.mem_cons.1 h with rfl|h
  ·obtain⟨t,ht⟩:=joinR_head r;exact⟨[],t,by rw[joinR,ht];rfl⟩
  obtain⟨a,b,hab⟩:=joinR_has r h;exact⟨32::(w++a),b,by rw[joinR,hab];simp⟩
theorem has_iff(l p:List UInt8):Lib.contains l p=true↔∃a b,l=a++(p++b):=by
 unfold Lib.contains;rw[decide_eq_true_eq];rcases Lib.index_spec l p with⟨h1,h2⟩|⟨i,h1,h2,h3,-⟩
 ·rw[h1];constructor
  ·intro h;omega
  rintro⟨a,b,rfl⟩;have:=h2 a.length (by simp);have h3:p.isPrefixOf (p++b)=true:=List.isPrefixOf_iff_prefix.2 (List.prefix_append p b);simp[Lib.occAt,h3] at this
 rw[h1];constructor
 ·intro _;refine⟨l.take i,(l.drop i).drop p.length,?_⟩;have h4:p <+:l.drop i:=by simpa[Lib.occAt] using h3
  obtain⟨t,ht⟩:=h4;rw[<-ht];simp;rw[ht,List.take_append_drop]
 intro _;omega
theorem resW_join:jH.data.toList=joinR (resW.map (·.data.toList)):=by decide+kernel
theorem resW_blank:∀w∈resW.map (·.data.toList),(32:UInt8)∉w:=by decide+kernel
theorem word_blank{s:bA}(h:dL s=true):(32:UInt8)∉s.data.toList:=by
 unfold dL at h;split at h
 ·cases h
 simp only[Bool.and_eq_true] at h;intro hm;have:=List.all_eq_true.1 h.2 _ hm;exact absurd this (by decide)
theorem bN{a b:bA}(h:a.data.toList=b.data.toList):a=b:=by
 cases a;cases b;congr 1;exact Array.toList_inj.1 h
theorem synName_res(s:bA):aP s=(dL s&& !(resW.any fun x=>decide (x=s))):=by
 unfold aP
 cases hw:dL s with
 |false=>rfl
 |true=>
  have hb:=word_blank hw;rw[Bool.true_and,Bool.true_and];congr 1;rw[Bool.eq_iff_iff,has_iff,List.any_eq_true];have he:((bs [32]++s)++bs [32]).data.toList=32::(s.data.toList++[32]):=by simp[ByteArray.data_append]
  rw[he,resW_join];constructor
  ·rintro⟨a,b,h⟩;have hm:=joinR_mem hb _ a b resW_blank (by rw[h];simp);obtain⟨x,hx,e⟩:=List.mem_map.1 hm;exact⟨x,hx,by rw[decide_eq_true_eq];exact bN e⟩
  rintro⟨x,hx,e⟩;rw[decide_eq_true_eq] at e;subst e;obtain⟨a,b,h⟩:=joinR_has (resW.map (·.data.toList)) (List.mem_map.2 ⟨x,hx,rfl⟩);exact⟨a,b,by rw[h];simp⟩
def kR:List bA->bA->Int
 |[],_=> -1
 |x::r,s=>if x=s then 0 else if kR r s= -1 then -1 else kR r s+1
theorem findL_any(l:List bA)(s:bA):decide (kR l s<0)= !(l.any fun x=>decide (x=s))/\ -1<=kR l s:=by
 induction l with
 |nil=>exact⟨rfl,Int.le_refl _⟩
 |cons x r ih=>
  rw[kR,List.any_cons];by_cases h:x=s
  ·rw[if_pos h,decide_eq_true h];exact⟨rfl,by decide⟩
  rw[if_neg h,decide_eq_false h,Bool.false_or,<-ih.1];have h2:=ih.2;by_cases h3:kR r s= -1
  ·rw[if_pos h3,h3];exact⟨rfl,by decide⟩
  rw[if_neg h3];refine⟨?_,by omega⟩;rw[decide_eq_false (by omega),decide_eq_false (by omega)]
theorem W1{p:Prop}(h:p:=by simp):p:=h
theorem cW(x:bA){r:List bA}(h:r≠[]):dJ (x::r)=x.data.toList++32::dJ r:=by
 cases r with
 |nil=>exact absurd rfl h
 |cons y r=>rw[dJ]
theorem lB(x:bA):dJ [x]=x.data.toList:=by rw[dJ]
theorem kP:∀{a b:List bA},a≠[]->b≠[]->dJ (a++b)=dJ a++32::dJ b
 |[],b,h,_=>absurd rfl h
 |[x],b,_,h=>by rw[List.singleton_append,cW x h,lB]
 |x::y::r,b,_,h=>by
  rw[List.cons_append,cW x W1,kP (a:=y::r) W1 h,cW x W1,List.append_assoc,List.cons_append]
theorem kH(e:Xp):aI e≠[]:=by
 obtain⟨op,n,s,m,ns,xs⟩:=e;intro h;unfold aI fJ at h;generalize dF op=f at h;by_cases h0:f.2≠noB
 ·rw[if_pos h0] at h;simp at h
 rw[if_neg h0] at h;by_cases e0:op=0
 ·rw[if_pos e0] at h;simp at h
 rw[if_neg e0] at h;by_cases e1:op=1
 ·rw[if_pos e1] at h;simp at h
 rw[if_neg e1] at h;by_cases e2:op=2
 ·rw[if_pos e2] at h;simp at h
 rw[if_neg e2] at h;by_cases e17:op=17
 ·rw[if_pos e17] at h;simp at h
 rw[if_neg e17] at h;by_cases e18:op=18
 ·rw[if_pos e18] at h;simp at h
 rw[if_neg e18] at h;by_cases e10:op=10
 ·rw[if_pos e10] at h;simp at h
 rw[if_neg e10] at h;by_cases e14:op=14
 ·rw[if_pos e14] at h;simp at h
 rw[if_neg e14] at h;by_cases e12:op=12
 ·rw[if_pos e12] at h;simp at h
 rw[if_neg e12] at h;by_cases e11:op=11
 ·rw[if_pos e11] at h;simp at h
 rw[if_neg e11] at h;by_cases e13:op=13
 ·rw[if_pos e13] at h;simp at h
 rw[if_neg e13] at h;simp at h
theorem lK(e:Xp)(lv:Nat):bK e lv≠[]:=by
 unfold bK atForm;split
 ·simp
 exact kH e
def Jn(ts:List bA):bA:=bs (dJ ts)
theorem dB(ts:List bA):(Jn ts).data.toList=dJ ts:=by show(dJ ts).toArray.toList=_;simp
theorem jn_size(ts:List bA):(Jn ts).size=(dJ ts).length:=by show(dJ ts).toArray.size=_;simp
theorem cP(a b:bA):(a++b).data.toList=a.data.toList++b.data.toList:=by simp[ByteArray.data_append]
theorem gR(l:List UInt8):(bs l).data.toList=l:=by show l.toArray.toList=l;simp
def Tx(e:Xp)(lv:Nat):bA:=Jn (bK e lv)
theorem tx_list(e:Xp)(lv:Nat):(Tx e lv).data.toList=dJ (bK e lv):=dB _
theorem tx_own(e:Xp)(lv:Nat):Tx e lv=if iZ e<lv then(⟨#[40,32]⟩++Jn (aI e))++⟨#[32,41]⟩ else Jn (aI e):=by
 unfold Tx bK atForm;split
 ·refine bN ?_;rw[dB,cP,cP,dB];rw[cW _ W1,kP (kH e) W1,lB];simp
 rfl
def Ls(xs:List Xp):bA:=if xs=[] then⟨#[]⟩ else Jn (aR (xs.map aI))++⟨#[32]⟩
theorem comma_ne:∀{L:List (List bA)},L≠[]->(∀x∈L,x≠[])->aR L≠[]
 |[],h,_=>absurd rfl h
 |[x],_,h=>by rw[aR];exact h x W1
 |x::y::r,_,h=>by rw[aR];simp
theorem comma_sn:∀{L:List (List bA)}{x:List bA},L≠[]->aR (L++[x])=aR L++bE::x
 |[],x,h=>absurd rfl h
 |[y],x,_=>by simp[aR]
 |y::z::r,x,_=>by
  have:=comma_sn (L:=z::r) (x:=x) W1;simp only[List.cons_append] at this ⊢;rw[aR,this,aR];simp
theorem tx_zero(e:Xp):Tx e 0=Jn (aI e):=by rw[tx_own,if_neg (by omega)]
theorem ls_step{l:List Xp}{q:Nat}{x:Xp}(hx:l[q]? =some x):Ls (l.take (q+1))=(if q=0 then Ls (l.take q) else Ls (l.take q)++⟨#[44,32]⟩)++Tx x 0++⟨#[32]⟩:=by
 have hq:=(List.getElem?_eq_some_iff.1 hx).1;rw[List.take_add_one,hx,tx_zero];by_cases h:q=0
 ·subst h;simp[Ls,aR];exact bN W1
 rw[if_neg h];have pP:l.take q≠[]:=fun e=>by have:=congrArg List.length e;rw[List.length_take,List.length_nil] at this;omega
 unfold Ls;rw[if_neg W1,if_neg pP];refine bN ?_;simp only[cP,dB,Option.toList_some,List.map_append,List.map_cons,List.map_nil];rw[comma_sn (by simpa using pP),kP (comma_ne (by simpa using pP) (fun y hy=>by obtain⟨e,-,rfl⟩:=List.mem_map.1 hy;exact kH e)) W1,cW _ (kH x)];simp
theorem numX_digits{n:Nat}:numX (n:Int)=bs (Lib.decDigits n):=by
 unfold numX Lib.itoa;rw[if_neg (by omega)];rfl
theorem argT_0(x:Xp)(r:List Xp)(f:Nat):nL (bB (x::r)) 0 f=bK x f:=by rw[bB];rfl
theorem argT_1(x y:Xp)(r:List Xp)(f:Nat):nL (bB (x::y::r)) 1 f=bK y f:=by rw[bB,bB];rfl
theorem argT_2(x y z:Xp)(r:List Xp)(f:Nat):nL (bB (x::y::z::r)) 2 f=bK z f:=by rw[bB,bB,bB];rfl
theorem nP:∀xs:List Xp,(bB xs).map (·.2)=xs.map aI
 |[]=>rfl
 |x::r=>by rw[bB,List.map_cons,List.map_cons,nP r]
theorem law_if(n:Int)(s m:bA)(ns:List bA)(x y z:Xp):Jn (aI (.mk 11 n s m ns [x,y,z]))=((((⟨#[105,102,32]⟩++Tx x 0)++⟨#[32,116,104,101,110,32]⟩)++Tx y 0)++⟨#[32,101,108,115,101,32]⟩)++Tx z 0:=by
 refine bN ?_;rw[dB,aI];simp only[cP,tx_list,dB];show dJ (kIf::(nL (bB [x,y,z]) 0 0++kN::(nL (bB [x,y,z]) 1 0++kO::nL (bB [x,y,z]) 2 0)))=_;rw[argT_0,argT_1,argT_2,cW _ W1,kP (lK _ _) W1,cW _ W1,kP (lK _ _) W1,cW _ (lK _ _)];simp
theorem law_let(n:Int)(s m:bA)(ns:List bA)(x y:Xp):Jn (aI (.mk 12 n s m ns [x,y]))=((((⟨#[108,101,116,32]⟩++s)++⟨#[32,61,32]⟩)++Tx x 0)++⟨#[32,105,110,32]⟩)++Tx y 0:=by
 refine bN ?_;rw[dB,aI];simp only[cP,tx_list,dB];show dJ (mE::s::kEq::(nL (bB [x,y]) 0 0++kIn::nL (bB [x,y]) 1 0))=_;rw[argT_0,argT_1,cW _ W1,cW _ W1,cW _ W1,kP (lK _ _) W1,cW _ (lK _ _)];simp
theorem law_set(n:Int)(s m:bA)(ns:List bA)(x:Xp):Jn (aI (.mk 18 n s m ns [x]))=((⟨#[115,101,116,32]⟩++s)++⟨#[32]⟩)++Tx x 0:=by
 refine bN ?_;rw[dB,aI];simp only[cP,tx_list,dB];show dJ (nN::s::nL (bB [x]) 0 0)=_;rw[argT_0,cW _ W1,cW _ (lK _ _)];simp
theorem law_not(n:Int)(s m:bA)(ns:List bA)(x:Xp):Jn (aI (.mk 10 n s m ns [x]))=⟨#[110,111,116,32]⟩++Tx x 3:=by
 refine bN ?_;rw[dB,aI];simp only[cP,tx_list,dB];show dJ (nH::nL (bB [x]) 0 3)=_;rw[argT_0,cW _ (lK _ _)];simp
theorem law_field(n:Int)(s m:bA)(ns:List bA)(x:Xp):Jn (aI (.mk 14 n s m ns [x]))=(Tx x 7++⟨#[32,46,32]⟩)++s:=by
 refine bN ?_;rw[dB,aI];simp only[cP,tx_list,dB];show dJ (nL (bB [x]) 0 7++[kG,s])=_;rw[argT_0,kP (lK _ _) W1,cW _ W1,lB];simp
theorem law_get(n:Int)(s m:bA)(ns:List bA)(xs:List Xp):Jn (aI (.mk 17 n s m ns xs))=⟨#[103,101,116,32]⟩++s:=by
 refine bN ?_;rw[dB,aI];simp only[cP,tx_list,dB];show dJ ([fY,s])=_;rw[cW _ W1,lB];simp
theorem law_var(n:Int)(s m:bA)(ns:List bA)(xs:List Xp):Jn (aI (.mk 2 n s m ns xs))=s:=by
 refine bN ?_;rw[dB,aI];show dJ [s]=_;rw[lB]
theorem law_num(n:Int)(s m:bA)(ns:List bA)(xs:List Xp):Jn (aI (.mk 0 n s m ns xs))=numX n:=by
 refine bN ?_;rw[dB,aI];show dJ [numX n]=_;rw[lB]
theorem law_bool(n:Int)(s m:bA)(ns:List bA)(xs:List Xp):Jn (aI (.mk 1 n s m ns xs))=if n=1 then⟨#[116,114,117,101]⟩ else⟨#[102,97,108,115,101]⟩:=by
 refine bN ?_;rw[dB,aI];show dJ [if n=1 then cQ else bU]=_;rw[lB]
def effW(n:Int):bA:=if n=1 then⟨#[102,105,108,101,115]⟩ else if n=2 then⟨#[110,101,116]⟩ else if n=4 then⟨#[99,108,111,99,107]⟩ else⟨#[115,101,99,114,101,116,115]⟩
theorem law_act(n:Int)(hn:n=1\/n=2\/n=4\/n=8)(s:bA)(ns:List bA)(x:Xp):Jn (aI (.mk 16 n s noB ns [x]))=((effW n++⟨#[32,40,32]⟩)++Tx x 0)++⟨#[32,41]⟩:=by
 refine bN ?_;rw[dB,aI,tx_zero];simp only[cP,dB]
 have hw:fJ 16 n s noB ns (bB [x])=effW n::aY::(aI x++[cF]):=by
  have h1:fJ 16 n s noB ns (bB [x])=(cR.filter fun w=>decide (w.2=n)).map (·.1)++aY::(aR ((bB [x]).map (·.2))++[cF]):=rfl;rw[h1,nP];rcases hn with rfl|rfl|rfl|rfl<;>rfl
 rw[hw,cW _ W1,cW _ W1,kP (kH x) W1,lB];simp
theorem ls_list(xs:List Xp):(Ls xs).data.toList=if xs=[] then[] else dJ (aR (xs.map aI))++[32]:=by
 unfold Ls;split
 ·rfl
 rw[cP,dB]
theorem comma_words{xs:List Xp}(h:xs≠[]):aR (xs.map aI)≠[]:=comma_ne (by simpa using h) (fun y hy=>by obtain⟨e,-,rfl⟩:=List.mem_map.1 hy;exact kH e)
theorem law_call(n:Int)(s:bA)(ns:List bA)(xs:List Xp):Jn (aI (.mk 15 n s noB ns xs))=((s++⟨#[32,40,32]⟩)++Ls xs)++⟨#[41]⟩:=by
 refine bN ?_;rw[dB,aI];simp only[cP,ls_list];show dJ (s::aY::(aR ((bB xs).map (·.2))++[cF]))=_;rw[nP];by_cases h:xs=[]
 ·subst h;rw[if_pos rfl];simp[aR,dJ]
 rw[if_neg h,cW _ W1,cW _ W1,kP (comma_words h) W1,lB];simp
theorem law_ext(n:Int)(s m:bA)(hm:m≠⟨#[]⟩)(ns:List bA)(xs:List Xp):Jn (aI (.mk 15 n s m ns xs))=((((m++⟨#[32,46,32]⟩)++s)++⟨#[32,40,32]⟩)++Ls xs)++⟨#[41]⟩:=by
 refine bN ?_;rw[dB,aI];simp only[cP,ls_list]
 have h1:fJ 15 n s m ns (bB xs)=m::kG::s::aY::(aR ((bB xs).map (·.2))++[cF]):=by
  have:fJ 15 n s m ns (bB xs)=(if m≠noB then[m,kG] else[])++(s::aY::(aR ((bB xs).map (·.2))++[cF])):=rfl;rw[this,if_pos (show m≠noB from hm)];rfl
 rw[h1,nP];by_cases h:xs=[]
 ·subst h;rw[if_pos rfl];simp[aR,dJ]
 rw[if_neg h,cW _ W1,cW _ W1,cW _ W1,cW _ W1,kP (comma_words h) W1,lB];simp
def gG(op:Int):bA:=if op=9 then⟨#[111,114]⟩ else if op=8 then⟨#[97,110,100]⟩ else if op=7 then⟨#[61,61]⟩ else if op=6 then⟨#[60]⟩ else if op=3 then⟨#[43]⟩ else if op=4 then⟨#[45]⟩ else⟨#[42]⟩
theorem law_two(op:Int)(ho:op=3\/op=4\/op=5\/op=6\/op=7\/op=8\/op=9)(n:Int)(s m:bA)(ns:List bA)(x y:Xp):
  Jn (aI (.mk op n s m ns [x,y]))=(((Tx x (if(dF op).1=4 then 5 else(dF op).1)++⟨#[32]⟩)++gG op)++⟨#[32]⟩)++Tx y ((dF op).1+1):=by
 refine bN ?_;rw[dB,aI];simp only[cP,tx_list]
 have h1:fJ op n s m ns (bB [x,y])=nL (bB [x,y]) 0 (if(dF op).1=4 then 5 else(dF op).1)++gG op::nL (bB [x,y]) 1 ((dF op).1+1):=by
  rcases ho with rfl|rfl|rfl|rfl|rfl|rfl|rfl<;>rfl
 rw[h1,argT_0,argT_1,kP (lK _ _) W1,cW _ (lK _ _)];simp
def Rc(ns:List bA)(xs:List Xp):bA:=if hJ ns (bB xs)=[] then⟨#[123,32]⟩ else⟨#[123,32]⟩++(Jn (aR (hJ ns (bB xs)))++⟨#[32]⟩)
theorem recT_snoc:∀{ns:List bA}{xs:List Xp}{nm:bA}{x:Xp},ns.length=xs.length->hJ (ns++[nm]) (bB (xs++[x]))=hJ ns (bB xs)++[nm::kEq::aI x]
 |[],[],nm,x,_=>by simp[bB,hJ]
 |[],_::_,_,_,h=>by simp at h
 |_::_,[],_,_,h=>by simp at h
 |a::ns,y::xs,nm,x,h=>by
  have:=recT_snoc (ns:=ns) (xs:=xs) (nm:=nm) (x:=x) (by simpa using h);simp only[List.cons_append,bB,hJ,this]
theorem recT_each:∀{ns:List bA}{as:List (Nat×List bA)},∀p∈hJ ns as,p≠[]
 |[],_,p,h=>by simp[hJ] at h
 |_::_,[],p,h=>by simp[hJ] at h
 |a::ns,y::as,p,h=>by
  rw[hJ] at h;rcases List.mem_cons.1 h with rfl|h
  ·simp
  exact recT_each p h
theorem rc_step{ns:List bA}{xs:List Xp}(hl:ns.length=xs.length){q:Nat}{nm:bA}{x:Xp}(hn:ns[q]? =some nm)(hx:xs[q]? =some x):
  Rc (ns.take (q+1)) (xs.take (q+1))=((((if q=0 then Rc (ns.take q) (xs.take q) else Rc (ns.take q) (xs.take q)++⟨#[44,32]⟩)++nm)++⟨#[32,61,32]⟩)++Tx x 0)++⟨#[32]⟩:=by
 have hq:=(List.getElem?_eq_some_iff.1 hx).1;have hs:=recT_snoc (ns:=ns.take q) (xs:=xs.take q) (nm:=nm) (x:=x) (by simp;omega);rw[List.take_add_one,List.take_add_one,hn,hx,tx_zero];simp only[Option.toList_some];by_cases h:q=0
 ·subst h;refine bN ?_;unfold Rc;rw[hs];simp only[List.take_zero,bB,hJ,List.nil_append,if_true,if_false,aR,List.cons_ne_nil];simp only[cP,dB];rw[cW _ W1,cW _ (kH x)];simp
 rw[if_neg h]
 have pP:hJ (ns.take q) (bB (xs.take q))≠[]:=by
  have h1:0<(ns.take q).length:=by simp;omega
  have h2:0<(xs.take q).length:=by simp;omega
  cases ha:ns.take q with
  |nil=>rw[ha] at h1;simp at h1
  |cons a r=>
   cases hb:xs.take q with
   |nil=>rw[hb] at h2;simp at h2
   |cons b t=>simp[bB,hJ]
 refine bN ?_;unfold Rc;rw[hs,if_neg W1,if_neg pP];simp only[cP,dB];rw[comma_sn pP,kP (comma_ne pP recT_each) W1,cW _ W1,cW _ W1,cW _ (kH x)];simp
theorem law_rec(n:Int)(s m:bA)(ns:List bA)(xs:List Xp):Jn (aI (.mk 13 n s m ns xs))=Rc ns xs++⟨#[125]⟩:=by
 refine bN ?_;rw[dB,aI];show dJ (bJ::(aR (hJ ns (bB xs))++[dO]))=_;unfold Rc;by_cases h:hJ ns (bB xs)=[]
 ·rw[if_pos h,h];simp[aR,dJ]
 rw[if_neg h,cW _ W1,kP (comma_ne h recT_each) W1,lB];simp[dB]
theorem bytes_len(a:bA):a.data.toList.length=a.size:=Array.length_toList
def blk(A:List bA):List UInt8:=A.flatMap fun w=>w.data.toList++[32]
theorem blk_nil:blk []=[]:=rfl
theorem dS(x:bA)(r:List bA):blk (x::r)=x.data.toList++32::blk r:=by unfold blk;simp
theorem blk_app(a b:List bA):blk (a++b)=blk a++blk b:=by unfold blk;simp
theorem blk_jt:∀{A:List bA},A≠[]->blk A=dJ A++[32]
 |[],h=>absurd rfl h
 |[x],_=>by rw[dS,blk_nil,lB]
 |x::y::r,_=>by rw[dS,blk_jt (A:=y::r) (by simp),cW x (r:=y::r) (by simp)];simp
theorem tsz_blk:∀A:List bA,(blk A).length=tsz A
 |[]=>rfl
 |x::r=>by
  rw[dS,aV,List.length_append,List.length_cons,tsz_blk r];have:=bytes_len x;omega
theorem line_blk(ts:List bA):fI ts=blk ts++[59,10]:=by
 unfold fI
 cases ts with
 |nil=>rfl
 |cons x r=>rw[kP (by simp) (by simp),lB,blk_jt (by simp)];simp
theorem tx_blk(e:Xp):blk (aI e)=(Tx e 0).data.toList++[32]:=by rw[blk_jt (kH e),tx_zero,dB]
theorem ls_blk(xs:List Xp):(Ls xs).data.toList=blk (aR (xs.map aI)):=by
 rw[ls_list];split
 ·next h=>rw[h];rfl
 next h=>rw[blk_jt (comma_words h)]
def Jt(t:Ty):bA:=Jn (eI t)
theorem typ_ne(t:Ty):eI t≠[]:=by
 obtain⟨k,fs⟩:=t;rw[eI];split
 ·simp
 split<;>simp
theorem jt_blk(t:Ty):blk (eI t)=(Jt t).data.toList++[32]:=by unfold Jt;rw[blk_jt (typ_ne t),dB]
theorem fldsT_map:∀fs:List Fld,dR fs=fs.map (fun f=>f.1::eI f.2)
 |[]=>by rw[dR];rfl
 |(s,t)::r=>by rw[dR,fldsT_map r];rfl
def Fl(fs:List Fld):bA:=bs (blk (aR (dR fs)))
theorem fl_list(fs:List Fld):(Fl fs).data.toList=blk (aR (dR fs)):=gR _
theorem fl_nil:Fl []=⟨#[]⟩:=by unfold Fl;rw[dR];rfl
theorem flds_ne{fs:List Fld}(h:fs≠[]):dR fs≠[]:=by rw[fldsT_map];simpa using h
theorem fl_step{l:List Fld}{q:Nat}{nm:bA}{t:Ty}(hx:l[q]? =some (nm,t)):
  Fl (l.take (q+1))=(((((if q=0 then Fl (l.take q) else Fl (l.take q)++⟨#[44,32]⟩)++nm)++⟨#[32]⟩)++Jt t)++⟨#[32]⟩):=by
 have hq:=(List.getElem?_eq_some_iff.1 hx).1;rw[List.take_add_one,hx];refine bN ?_;simp only[Option.toList_some];have hs:dR (l.take q++[(nm,t)])=dR (l.take q)++[nm::eI t]:=by rw[fldsT_map,fldsT_map];simp
 by_cases h:q=0
 ·subst h;rw[if_pos rfl,List.take_zero,fl_nil];simp only[cP,fl_list];rw[List.take_zero] at hs;rw[hs,dR,List.nil_append,aR,dS,jt_blk];simp
 have pP:l.take q≠[]:=fun e=>by have:=congrArg List.length e;rw[List.length_take,List.length_nil] at this;omega
 rw[if_neg h];simp only[cP,fl_list];rw[hs,comma_sn (flds_ne pP),blk_app,dS,dS,jt_blk];simp
theorem fl_size{fs:List Fld}(h:∀g∈fs,aP g.1=true/\tsz (eI g.2)<=109980)(hl:fs.length<=10):(Fl fs).size<=1100030:=by
 have h1:=kC (flds_size (p:=aQ 4) h);rw[kQ] at h1;have h2:fs.length*(21+109980+2)<=10*(21+109980+2):=Nat.mul_le_mul_right _ hl;have h3:(Fl fs).size=tsz (aR (dR fs)):=by rw[<-tsz_blk,<-fl_list,bytes_len]
 omega
theorem jt_size{t:Ty}(h:tsz (eI t)<=109980):(Jt t).size<=109980:=by
 have h1:(blk (eI t)).length=(Jt t).size+1:=by rw[jt_blk,List.length_append,bytes_len];rfl
 rw[tsz_blk] at h1;omega
theorem law_ty0(fs:List Fld):Jt (.mk 0 fs)=⟨#[105,110,116]⟩:=by unfold Jt;rw[eI];rfl
theorem law_ty1(fs:List Fld):Jt (.mk 1 fs)=⟨#[98,111,111,108]⟩:=by unfold Jt;rw[eI];rfl
theorem law_ty2{k:Int}(h0:k≠0)(h1:k≠1)(fs:List Fld):Jt (.mk k fs)=(⟨#[123,32]⟩++Fl fs)++⟨#[125]⟩:=by
 refine bN ?_;have h:=jt_blk (.mk k fs);rw[eI,if_neg h0,if_neg h1,dS,blk_app,dS,blk_nil] at h;have h':(Jt (.mk k fs)).data.toList++[32]=(123::32::(blk (aR (dR fs))++[125]))++[32]:=by rw[<-h];simp[gR]
 rw[List.append_cancel_right h'];simp only[cP,fl_list];simp
def eff4:List bA:=[nI,kNet,nJ,jD]
def bit4(q:Nat):Int:=[1,2,4,8].getD q 0
def Ew(e:Int):Nat->bA
 |0=>⟨#[]⟩
 |q+1=>if Go.bits .and .i64 e (bit4 q)≠0 then(Ew e q++eff4.getD q noB)++⟨#[32]⟩ else Ew e q
theorem ew_list(e:Int):(Ew e 4).data.toList=blk (effT e):=by
 unfold effT cR Ew Ew Ew Ew Ew;have b0:bit4 0=1:=rfl;have b1:bit4 1=2:=rfl;have b2:bit4 2=4:=rfl;have b3:bit4 3=8:=rfl;have e0:eff4.getD 0 noB=nI:=rfl;have e1:eff4.getD 1 noB=kNet:=rfl;have e2:eff4.getD 2 noB=nJ:=rfl;have e3:eff4.getD 3 noB=jD:=rfl;rw[b0,b1,b2,b3,e0,e1,e2,e3];simp only[List.filter_cons,List.filter_nil];by_cases h0:Go.bits .and .i64 e 1=0<;>by_cases h1:Go.bits .and .i64 e 2=0<;>by_cases h2:Go.bits .and .i64 e 4=0<;>by_cases h3:Go.bits .and .i64 e 8=0<;>simp[h0,h1,h2,h3,dS,blk_nil,cP]
theorem ew_size(e:Int):∀q,q<=4->(Ew e q).size<=10*q
 |0,_=>Nat.zero_le _
 |q+1,h=>by
  have h1:=ew_size e q (by omega);rw[Ew]
  have h2:(eff4.getD q noB).size<=8:=by
   (have:q=0\/q=1\/q=2\/q=3:=by omega);rcases this with rfl|rfl|rfl|rfl<;>decide
  have e1:(⟨#[32]⟩:bA).size=1:=rfl;split
  ·rw[ByteArray.size_append,ByteArray.size_append];omega
  omega
def Jf(f:Fnc):bA:=bs (fI (fnT f))
def fnA(f:Fnc):bA:=(((((((if f.pub then⟨#[112,117,98,32]⟩ else⟨#[]⟩)++⟨#[102,110,32]⟩)++f.name)++⟨#[32,40,32]⟩)++Fl f.params)++⟨#[41,32]⟩)++Jt f.result)++⟨#[32]⟩
def fnB(f:Fnc):bA:=if f.effects=0 then fnA f else fnA f++⟨#[33,32]⟩
theorem law_fn(f:Fnc):Jf f=(((fnB f++Ew f.effects 4)++⟨#[61,32]⟩)++Tx f.body 0)++⟨#[32,59,10]⟩:=by
 refine bN ?_;have h0:(Jf f).data.toList=fI (fnT f):=gR _;rw[h0,line_blk];unfold fnT fnB fnA;simp only[blk_app,dS,jt_blk,tx_blk];rw[<-fl_list,<-ew_list];cases f.pub<;>by_cases h:f.effects=0<;>simp[h,blk_nil,dS,cP,gR]
def Ms(L:List (List bA)):bA:=bs (L.flatMap fI)
theorem ms_list(L:List (List bA)):(Ms L).data.toList=L.flatMap fI:=gR _
theorem ms_snoc(L:List (List bA))(t:List bA):Ms (L++[t])=Ms L++bs (fI t):=by
 refine bN ?_;simp only[cP,ms_list,gR];simp
theorem ms_le(L R:List (List bA)):(Ms L).size<=(Ms (L++R)).size:=by
 have h1:∀X,(Ms X).size=(X.flatMap fI).length:=fun X=>by rw[<-ms_list,bytes_len]
 rw[h1,h1,List.flatMap_append,List.length_append];exact Nat.le_add_right _ _
theorem ms_at(A X R:List (List bA))(q:Nat):(Ms (A++X.take q)).size<=(Ms (A++(X++R))).size:=by
 have h:=ms_le (A++X.take q) (X.drop q++R)
 rwa [List.append_assoc,<-List.append_assoc (X.take q),List.take_append_drop] at h
theorem ms_step(A:List (List bA)){X:List (List bA)}{q:Nat}{t:List bA}(h:X[q]? =some t):Ms (A++X.take (q+1))=Ms (A++X.take q)++bs (fI t):=by
 rw[List.take_add_one,h,<-ms_snoc];simp
theorem line_use(u:bA):bs (fI [kUse,u])=(⟨#[117,115,101,32]⟩++u)++⟨#[32,59,10]⟩:=by
 refine bN ?_;rw[gR,line_blk,dS,dS,blk_nil];simp[cP,gR]
theorem line_mod(u:bA):bs (fI [bR,u])=(⟨#[109,111,100,117,108,101,32]⟩++u)++⟨#[32,59,10]⟩:=by
 refine bN ?_;rw[gR,line_blk,dS,dS,blk_nil];simp[cP,gR]
theorem line_var(n:bA)(t:Ty)(x:Xp):bs (fI (kVar::n::(eI t++kEq::aI x)))=(((((⟨#[118,97,114,32]⟩++n)++⟨#[32]⟩)++Jt t)++⟨#[32,61,32]⟩)++Tx x 0)++⟨#[32,59,10]⟩:=by
 refine bN ?_;rw[gR,line_blk,dS,dS,blk_app,dS,jt_blk,tx_blk];simp[cP,gR]
theorem line_move(o:List Fld)(a b:List Xp):bs (fI (lT::aY::(aR (dR o)++cF::gP::(aR (a.map aI)++nU::aR (b.map aI)))))=
  (((((⟨#[109,111,118,101,32,40,32]⟩++Fl o)++⟨#[41,32,102,111,114,119,97,114,100,32]⟩)++Ls a)++⟨#[98,97,99,107,32]⟩)++Ls b)++⟨#[59,10]⟩:=by
 refine bN ?_;rw[gR,line_blk,dS,dS,blk_app,dS,dS,blk_app,dS,<-ls_blk,<-ls_blk,<-fl_list];simp[cP,gR]
theorem app_nil(a:bA):a++⟨#[]⟩=a:=bN (by rw[cP];simp)
theorem fO(a b c:bA):a++(b++c)=(a++b)++c:=bN (by simp only[cP];simp)
def lU(m:Mdl):List (List bA):=m.uses.map (fun s=>[kUse,s])
def lV(m:Mdl):List (List bA):=List.zipWith (fun(f:Fld)e=>kVar::f.1::(eI f.2++kEq::aI e)) m.vars m.init
def lF(m:Mdl):List (List bA):=m.funcs.map fnT
def lM(m:Mdl):List (List bA):=if m.moves then[lT::aY::(aR (dR m.old)++cF::gP::(aR (m.forward.map aI)++nU::aR (m.back.map aI)))] else[]
theorem lines_eq(m:Mdl):oC m=[[bR,m.name]]++(lU m++(lV m++(lF m++lM m))):=rfl
def SU(m:Mdl)(q:Nat):bA:=Ms ([[bR,m.name]]++(lU m).take q)
def SV(m:Mdl)(q:Nat):bA:=Ms (([[bR,m.name]]++lU m)++(lV m).take q)
def SF(m:Mdl)(q:Nat):bA:=Ms ((([[bR,m.name]]++lU m)++lV m)++(lF m).take q)
theorem text_ms(m:Mdl):mG m=Ms (oC m):=rfl
theorem su_size(m:Mdl)(q:Nat):(SU m q).size<=(mG m).size:=by rw[text_ms,lines_eq];exact ms_at _ _ _ _
theorem sv_size(m:Mdl)(q:Nat):(SV m q).size<=(mG m).size:=by
 rw[text_ms,lines_eq,<-List.append_assoc];exact ms_at _ _ _ _
theorem sf_size(m:Mdl)(q:Nat):(SF m q).size<=(mG m).size:=by
 rw[text_ms,lines_eq,<-List.append_assoc,<-List.append_assoc];exact ms_at _ _ _ _
theorem su_zero(m:Mdl):SU m 0=(⟨#[109,111,100,117,108,101,32]⟩++m.name)++⟨#[32,59,10]⟩:=by
 unfold SU;rw[List.take_zero,List.append_nil,<-line_mod];unfold Ms;rw[List.flatMap_cons,List.flatMap_nil,List.append_nil]
theorem su_step{m:Mdl}{q:Nat}{u:bA}(h:m.uses[q]? =some u):SU m (q+1)=((SU m q++⟨#[117,115,101,32]⟩)++u)++⟨#[32,59,10]⟩:=by
 unfold SU;rw[ms_step _ (t:=[kUse,u]) (by unfold lU;rw[List.getElem?_map,h];rfl),line_use,fO,fO]
theorem su_all(m:Mdl):SU m m.uses.length=SV m 0:=by
 unfold SU SV;rw[List.take_zero,List.append_nil,List.take_of_length_le (by unfold lU;rw[List.length_map];exact Nat.le_refl _)]
theorem sv_step{m:Mdl}{q:Nat}{nm:bA}{t:Ty}{x:Xp}(h:m.vars[q]? =some (nm,t))(hx:m.init[q]? =some x):
  SV m (q+1)=((((((SV m q++⟨#[118,97,114,32]⟩)++nm)++⟨#[32]⟩)++Jt t)++⟨#[32,61,32]⟩)++Tx x 0)++⟨#[32,59,10]⟩:=by
 unfold SV;rw[ms_step _ (t:=kVar::nm::(eI t++kEq::aI x)) (by unfold lV;rw[List.getElem?_zipWith,h,hx]),line_var];simp only[fO]
theorem sv_all{m:Mdl}(h:m.init.length=m.vars.length):SV m m.vars.length=SF m 0:=by
 unfold SV SF;rw[List.take_zero,List.append_nil,List.take_of_length_le (by unfold lV;rw[List.length_zipWith];omega)]
theorem sf_step{m:Mdl}{q:Nat}{f:Fnc}(h:m.funcs[q]? =some f):SF m (q+1)=SF m q++Jf f:=by
 unfold SF;rw[ms_step _ (t:=fnT f) (by unfold lF;rw[List.getElem?_map,h];rfl)];rfl
theorem sf_all(m:Mdl):SF m m.funcs.length=Ms ((([[bR,m.name]]++lU m)++lV m)++lF m):=by
 unfold SF;rw[List.take_of_length_le (by unfold lF;rw[List.length_map];exact Nat.le_refl _)]
theorem sf_none{m:Mdl}(h:m.moves=false):mG m=SF m m.funcs.length:=by
 rw[sf_all,text_ms,lines_eq];have e:lM m=[]:=by unfold lM;rw[h];rfl
 rw[e,List.append_nil];simp only[List.append_assoc]
theorem sf_move{m:Mdl}(h:m.moves=true):mG m=((((((SF m m.funcs.length++⟨#[109,111,118,101,32,40,32]⟩)++Fl m.old)++⟨#[41,32,102,111,114,119,97,114,100,32]⟩)++Ls m.forward)++⟨#[98,97,99,107,32]⟩)++Ls m.back)++⟨#[59,10]⟩:=by
 rw[sf_all,text_ms,lines_eq];have e:lM m=[lT::aY::(aR (dR m.old)++cF::gP::(aR (m.forward.map aI)++nU::aR (m.back.map aI)))]:=by unfold lM;rw[h];rfl
 rw[e,<-List.append_assoc,<-List.append_assoc,<-List.append_assoc,ms_snoc,line_move];simp only[fO]
end Go.Proofs.YtiionicikdnnpaaGreatDoor
