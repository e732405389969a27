/- Texts of this seat, joined. -/
import Derived.Test.YtiionicikdnnpaaGreatDoorCF
set_option linter.unusedVariables false
set_option linter.unusedSimpArgs false
namespace Go.Proofs.YtiionicikdnnpaaGreatDoor
theorem XU{p:Prop}(h:p:=by
 simp only[fT,cV,cY,oU];kernel_rfl):p:=h
abbrev C0:bA->Int×bA:=fun _=>(0,ByteArray.empty)
def fW:List Fil:=[⟨⟨#[97]⟩,⟨#[50,10,49,10]⟩⟩,⟨⟨#[98]⟩,⟨#[120]⟩⟩]
theorem ex1:fT C0 ⟨3,[⟨#[97]⟩],⟨#[99]⟩,false⟩ fW [] [] 0 0=.ok (⟨#[49,10,50,10]⟩,[⟨#[50,10,49,10]⟩],0,0):=by
 exact XU
theorem ex2:fT C0 ⟨4,[⟨#[98]⟩],⟨#[99]⟩,false⟩ fW [70,80] [] 1 0=.ok (⟨#[120,56,48,59,10]⟩,[⟨#[120]⟩],2,0):=by
 exact XU
theorem ex3:fT C0 ⟨2,[⟨#[98]⟩,⟨#[97]⟩],⟨#[99]⟩,false⟩ fW [] [1] 0 0=.ok (⟨#[98,10,97,10]⟩,[],0,2):=by
 exact XU
theorem ex4:fT C0 ⟨2,[⟨#[98]⟩,⟨#[97]⟩],⟨#[99]⟩,true⟩ fW [] [1] 0 0=.ok (⟨#[97,10,98,10]⟩,[],0,0):=by
 exact XU
theorem ex5:fT C0 ⟨1,[⟨#[98]⟩,⟨#[97]⟩,⟨#[98]⟩],⟨#[98]⟩,false⟩ fW [] [] 0 0=.error 5:=by
 exact XU
theorem ex6:fT C0 ⟨0,[⟨#[100]⟩],⟨#[99]⟩,false⟩ fW [] [] 0 0=.error 4:=by
 exact XU
theorem ex7:dK fW ⟨#[98]⟩=some ⟨#[120]⟩:=by kernel_rfl
theorem ex8:cX fW=true:=by kernel_rfl
theorem ex9:cW ⟨0,[⟨#[98]⟩],⟨#[97]⟩,false⟩=true:=by kernel_rfl
theorem ex10:cW ⟨0,[],⟨#[]⟩,false⟩=false:=by kernel_rfl
theorem ex11:stepPure ⟨1,[],⟨#[97]⟩,false⟩=true:=by kernel_rfl
theorem ex12:stepPure ⟨2,[],⟨#[97]⟩,false⟩=false:=by kernel_rfl
theorem X7{p:Prop}(h:p:=by
 rename_i h1;exact kZ hT h1 (by simp)):p:=h
theorem YF{p:Prop}(h:p:=by
 cases h;exact nJ (by decide+kernel) (fun x hx=>by cases hx)):p:=h
theorem aP{α β:Type}{m:PR α}{k:α->Nat->PR β}{b:β}{j:Nat}(h:m.bnd k=.ok (b,j)):∃a i,m=.ok (a,i)/\k a i=.ok (b,j):=by
 cases m with
 |error x=>cases h
 |ok p=>exact⟨p.1,p.2,rfl,h⟩
def TokG(t:Tok):Prop:=t.kind=3\/(TokIs t t.text/\eL t.text=true)
theorem nextTok_is{s:bA}{k n:Int}{t:bA}(h:fI s=.ok (k,t,n)):eL t=true/\k=jE t/\n=((cZ t).getD 0:Nat):=by
 unfold fI at h;split at h
 ·cases h
 split at h
 ·split at h
  ·rename_i hw;cases h;refine⟨by unfold eL;rw[hw];rfl,(kind_word hw).symm,by rw[nE hw];rfl⟩
  cases h
 split at h
 ·split at h
  ·rename_i m hm;cases h
   have hw:eZ (jK s (dW cL s.data.toList))=false:=by
    cases hw:eZ (jK s (dW cL s.data.toList)) with
    |false=>rfl
    |true=>rw[nE hw] at hm;cases hm
   refine⟨by unfold eL;rw[hm];simp,by unfold jE;rw[hw,hm];rfl,by rw[hm];rfl⟩
  cases h
 split at h
 ·rename_i x hx;cases h;have hm:=List.mem_of_find?_eq_some hx;obtain⟨h1,h2,-⟩:=signs_facts _ hm;refine⟨?_,by unfold jE;rw[h1,h2];rfl,by rw[h2];rfl⟩;unfold eL;rw[Bool.or_eq_true];exact .inr (List.any_eq_true.2 ⟨_,hm,decide_eq_true rfl⟩)
 cases h
theorem lexFrom_is{s:bA}:∀(f i:Nat)(out l:List Tok),(∀t∈out,TokG t)->gE s f i out=.ok l->∀t∈l,TokG t
 |0,_,out,l,h,e=>by rw[gE] at e;cases e;exact h
 |f+1,i,out,l,h,e=>by
  rw[gE] at e;split at e
  ·cases e;intro t ht;rcases List.mem_append.1 ht with ht|ht
   ·exact h t ht
   rw[List.mem_singleton.1 ht];exact .inl rfl
  split at e
  ·cases e
  rename_i k t n hn;obtain⟨h1,h2,h3⟩:=nextTok_is hn;refine lexFrom_is f _ _ l (fun x hx=>?_) e;rcases List.mem_append.1 hx with hx|hx
  ·exact h x hx
  rw[List.mem_singleton.1 hx];exact .inr ⟨⟨h2,rfl,h3⟩,h1⟩
theorem lexL_is{s:bA}{l:List Tok}(h:lexL s=.ok l):∀i,TokG (aL l i):=by
 unfold lexL at h;split at h
 ·cases h
 intro i;unfold aL;rw[List.getD_eq_getElem?_getD]
 cases hi:l[i]? with
 |none=>exact .inl rfl
 |some t=>exact lexFrom_is _ _ _ _ (fun t ht=>by cases ht) h t (List.mem_of_getElem? hi)
def lC(op n:Int)(s m:bA)(names:List bA)(args:List Xp):Bool:=
 decide (0<=op)&&decide (op<19)&&
  (decide ((fQ (.mk op n s m names args)).2<0)||decide ((fQ (.mk op n s m names args)).2=args.length))&&
  decide ((fQ (.mk op n s m names args)).1.1=n)&&decide ((fQ (.mk op n s m names args)).1.2.1=s)&&decide ((fQ (.mk op n s m names args)).1.2.2.1=m)&&
  decide ((fQ (.mk op n s m names args)).1.2.2.2.length=names.length)&&eY (.mk op n s m names args)
theorem rx_node(d:Nat)(op n:Int)(s m:bA)(names:List bA)(args:List Xp):aJ (d+1) (.mk op n s m names args)=(lC op n s m names args&&args.all (aJ d)):=by rw[aJ];rfl
theorem lWp:∀{args:List Xp}{x:Xp},x∈args->cD x<=eH args
 |[],x,h=>by cases h
 |y::r,x,h=>by
  rw[eH];rcases List.mem_cons.1 h with rfl|h
  ·exact Nat.le_max_left _ _
  exact Nat.le_trans (lWp h) (Nat.le_max_right _ _)
theorem rx_mono:∀(d:Nat)(e:Xp),aJ d e=true->∀n,cD e<=n->aJ n e=true
 |0,.mk op n s m names args,h,_,_=>by simp[aJ] at h
 |d+1,.mk op n s m names args,h,k,hk=>by
  rw[cD] at hk;obtain⟨k,rfl⟩:∃q,k=q+1:=⟨k-1,by omega⟩;rw[rx_node,Bool.and_eq_true,List.all_eq_true] at h ⊢;exact⟨h.1,fun x hx=>rx_mono d x (h.2 x hx) k (by have:=lWp hx;omega)⟩
def GX(e:Xp):Prop:=aJ (cD e) e=true
theorem nJ{op n:Int}{s m:bA}{names:List bA}{args:List Xp}(h:lC op n s m names args=true)(ha:∀x∈args,GX x):GX (.mk op n s m names args):=by
 unfold GX;rw[cD,rx_node,h,Bool.true_and,List.all_eq_true];exact fun x hx=>rx_mono _ x (ha x hx) _ (lWp hx)
theorem gx_right{e:Xp}{n:Nat}(h:GX e)(hd:cD e<=n):aJ n e=true:=rx_mono _ e h n hd
theorem nI{l:List Tok}{i j:Nat}{s:bA}(h:gK l i=.ok (s,j)):aK s=true/\cP l i=true:=by
 unfold gK at h;split at h
 ·rename_i hn;cases h;refine⟨?_,hn⟩;unfold cP at hn;rw[Bool.and_eq_true] at hn;exact hn.2
 cases h
theorem later_inv{l:List Tok}{i j:Nat}{s than:bA}{any:Bool}(h:fP l i than any=.ok (s,j)):aK s=true/\cP l i=true/\(any=true->gtB s than=true):=by
 unfold fP at h;split at h
 ·rename_i hn;split at h
  ·cases h
  split at h
  ·cases h
  rename_i h2;cases h;refine⟨?_,hn,fun ha=>?_⟩
  ·unfold cP at hn;rw[Bool.and_eq_true] at hn;exact hn.2
  cases hg:gtB (aL l i).text than with
  |true=>rfl
  |false=>exact absurd (by rw[ha,hg];rfl) h2
 cases h
theorem fresh_inv{l:List Tok}{i j:Nat}{s:bA}{known:bA->Bool}(h:gQ l i known=.ok (s,j)):aK s=true/\cP l i=true/\known s=false:=by
 unfold gQ at h;split at h
 ·rename_i hn;split at h
  ·cases h
  rename_i h2;cases h;refine⟨?_,hn,by simpa using h2⟩;unfold cP at hn;rw[Bool.and_eq_true] at hn;exact hn.2
 cases h
theorem oV{l:List Tok}{i j have_ most:Nat}{u:Unit}(h:fD l i have_ most=.ok (u,j)):have_<most:=by
 unfold fD at h;split at h
 ·assumption
 cases h
theorem end_inv{l:List Tok}{i j:Nat}{fits:Bool}{s:bA}{u:Unit}(h:lX l i fits s=.ok (u,j)):fits=true:=by
 unfold lX at h;split at h
 ·split at h
  ·assumption
  cases h
 cases h
section
variable {l:List Tok} {rec:RecP} (hT:∀i,TokG (aL l i))
include hT
theorem is_tok{i:Nat}{s:bA}(h:isP l i s=true):(aL l i).kind=jE s/\(aL l i).text=s:=by
 unfold isP at h;simp only[Bool.and_eq_true,decide_eq_true_eq] at h;rcases hT i with h1|⟨⟨h1,-,-⟩,-⟩
 ·exact absurd h1 h.1
 rw[h.2] at h1;exact⟨h1,h.2⟩
theorem kZ{i:Nat}{s:bA}(h:isP l i s=true)(hs:s=kIf\/s=mT\/s=oE\/s=nR\/s=dC\/s=cB\/s=iC\/s=aX\/s=bH):eP l i=true:=by
 obtain⟨h1,h2⟩:=is_tok hT h;unfold eP;rw[h1,h2];rcases hs with h|h|h|h|h|h|h|h|h<;>subst h<;>decide+kernel
theorem begins_primary{i j:Nat}{x:Xp}(h:aQ l rec i=.ok (x,j)):eP l i=true:=by
 unfold aQ at h;split at h
 ·rename_i h1;unfold eP;rw[if_pos h1]
 split at h
 ·exact X7
 split at h
 ·exact X7
 split at h
 ·exact X7
 split at h
 ·rename_i h1;unfold eP;rw[h1.1];simp[h1.2]
 split at h
 ·exact X7
 split at h
 ·exact X7
 obtain⟨s,j1,h1,-⟩:=aP h;have h2:=(nI h1).2;unfold cP at h2;simp only[Bool.and_eq_true,decide_eq_true_eq] at h2;unfold eP;rw[h2.1];simp[h2.2]
theorem begins_exp{f i j:Nat}{x:Xp}(h:bM l f 0 i=.ok (x,j)):eP l i=true:=by
 cases f with
 |zero=>rw[bM] at h;cases h
 |succ f=>
  rw[bM] at h;obtain⟨r,j1,h1,-⟩:=aP h;unfold cH at h1;split at h1
  ·rename_i h2;exact kZ hT h2.2 (by simp)
  split at h1
  ·rename_i h2;exact kZ hT h2.2 (by simp)
  split at h1
  ·rename_i h2;exact kZ hT h2.2 (by simp)
  split at h1
  ·rename_i h2;exact kZ hT h2.2 (by simp)
  obtain⟨e,j2,h2,-⟩:=aP h1;exact begins_primary hT h2
end
section
variable {l:List Tok} {rec:RecP}
theorem gx_bin{t:bA}{op:Int}{fm:Nat}{a b:Xp}(h:(t,op,fm)∈eW)(ha:GX a)(hb:GX b):GX (.mk op 0 noB noB [] [a,b]):=by
 refine nJ ?_ (fun x hx=>by
  simp only[List.mem_cons,List.not_mem_nil,or_false] at hx
  rcases hx with rfl|rfl<;>assumption)
 rcases lP h with h|h|h|h|h|h|h<;>obtain⟨rfl,rfl,rfl⟩:=h<;>simp[lC,fQ,eY]
theorem gx_one{a:Xp}(ha:GX a):∀x∈[a],GX x:=fun x hx=>by rw[List.mem_singleton.1 hx];exact ha
theorem dots_gx:∀(n:Nat)(e:Xp)(i:Nat)(x:Xp)(j:Nat),GX e->lJ l n e i=.ok (x,j)->GX x
 |0,e,i,x,j,he,h=>by rw[lJ] at h;cases h;exact he
 |n+1,e,i,x,j,he,h=>by
  rw[lJ] at h;split at h
  ·obtain⟨s,j1,h1,h2⟩:=aP h;have hs:=(nI h1).1;exact dots_gx n _ _ x j (nJ (by simp[lC,fQ,eY,hs]) (gx_one he)) h2
  cases h;exact he
theorem ops_gx(hr:∀f i x j,rec f i=.ok (x,j)->GX x){form:Nat}:∀(n own:Nat)(e:Xp)(i:Nat)(x:Xp)(j:Nat),GX e->nH l rec form n own e i=.ok (x,j)->GX x
 |0,own,e,i,x,j,he,h=>by rw[nH] at h;cases h;exact he
 |n+1,own,e,i,x,j,he,h=>by
  rw[nH] at h;split at h
  ·cases h;exact he
  rename_i t op fm ho;split at h
  ·cases h;exact he
  obtain⟨b,j1,h1,h2⟩:=aP h;exact ops_gx hr n _ _ _ x j (gx_bin (oper_mem ho) he (hr _ _ _ _ h1)) h2
theorem operandsFrom_gx(hr:∀f i x j,rec f i=.ok (x,j)->GX x)(hb:∀i x j,rec 0 i=.ok (x,j)->eP l i=true):∀(n:Nat)(out:List Xp)(i:Nat)(xs:List Xp)(j:Nat),(∀x∈out,GX x)->out.length<=6->bS l rec n out i=.ok (xs,j)->(∀x∈xs,GX x)/\xs.length<=6
 |0,out,i,xs,j,ho,h6,h=>by rw[bS] at h;cases h;exact⟨ho,h6⟩
 |n+1,out,i,xs,j,ho,h6,h=>by
  rw[bS] at h;obtain⟨_,_,h1,h⟩:=aP h;obtain⟨e,j1,h2,h⟩:=aP h;rw[if_pos (hb _ _ _ h2)] at h1;have rU:=oV h1
  have hn:∀x∈out++[e],GX x:=fun x hx=>by
   rcases List.mem_append.1 hx with hx|hx
   ·exact ho x hx
   rw[List.mem_singleton.1 hx];exact hr _ _ _ _ h2
  have hl:(out++[e]).length<=6:=by rw[List.length_append,List.length_singleton];omega
  split at h
  ·exact operandsFrom_gx hr hb n _ _ xs j hn hl h
  obtain⟨_,_,-,h⟩:=aP h;cases h;exact⟨hn,hl⟩
theorem operands_gx(hr:∀f i x j,rec f i=.ok (x,j)->GX x)(hb:∀i x j,rec 0 i=.ok (x,j)->eP l i=true){i j:Nat}{xs:List Xp}(h:iA l rec i=.ok (xs,j)):(∀x∈xs,GX x)/\xs.length<=6:=by
 unfold iA at h;obtain⟨_,_,-,h⟩:=aP h;split at h
 ·cases h;exact⟨fun x hx=>(by cases hx),by simp⟩
 exact operandsFrom_gx hr hb _ _ _ _ _ (fun x hx=>by cases hx) (by simp) h
theorem names_snoc:∀{ns:List bA}{before:Option bA}{n:bA},dY before ns=true->aK n=true->(∀b,(match ns.getLast? with|none=>before|some x=>some x)=some b->gtB n b=true)->dY before (ns++[n])=true
 |[],before,n,_,hn,hg=>by
  cases before with
  |none=>simp[dY,hn]
  |some b=>simp[dY,hn,hg b rfl]
 |x::ns,before,n,h,hn,hg=>by
  simp only[dY,Bool.and_eq_true] at h;simp only[List.cons_append,dY,Bool.and_eq_true];refine⟨h.1,names_snoc h.2 hn fun b hb=>hg b ?_⟩
  cases hq:ns.getLast? with
  |none=>
   rw[List.getLast?_eq_none_iff.1 hq];rw[hq] at hb;exact hb
  |some y=>
   rw[hq] at hb;rw[List.getLast?_cons,hq];exact hb
theorem recordFrom_gx(hr:∀f i x j,rec f i=.ok (x,j)->GX x):∀(n:Nat)(names:List bA)(args:List Xp)(last:bA)(i:Nat)(x:Xp)(j:Nat),dY none names=true->names.length<=8->names.length=args.length->(∀y∈args,GX y)->(∀b,names.getLast? =some b->b=last)->
  dA l rec n names args last i=.ok (x,j)->GX x
 |0,names,args,last,i,x,j,hn,h8,hl,ha,_,h=>by
  rw[dA] at h;cases h;exact nJ (by simp[lC,fQ,eY,hn,hl];omega) ha
 |n+1,names,args,last,i,x,j,hn,h8,hl,ha,AC,h=>by
  rw[dA] at h;obtain⟨_,_,h1,h⟩:=aP h;obtain⟨s,_,h2,h⟩:=aP h;obtain⟨_,_,-,h⟩:=aP h;obtain⟨e,_,h3,h⟩:=aP h;obtain⟨hs,yD,zI⟩:=later_inv h2;rw[if_pos yD] at h1;have rU:=oV h1
  have OO:dY none (names++[s])=true:=names_snoc hn hs fun b hb=>by
   cases hq:names.getLast? with
   |none=>rw[hq] at hb;cases hb
   |some y=>
    rw[hq] at hb;cases hb;rw[AC _ hq];refine zI (decide_eq_true ?_)
    cases names with
    |nil=>simp at hq
    |cons a r=>simp
  have sS:∀y∈args++[e],GX y:=fun y hy=>by
   rcases List.mem_append.1 hy with hy|hy
   ·exact ha y hy
   rw[List.mem_singleton.1 hy];exact hr _ _ _ _ h3
  have h82:(names++[s]).length<=8:=by rw[List.length_append,List.length_singleton];omega
  have zC:(names++[s]).length=(args++[e]).length:=by simp[hl]
  split at h
  ·exact recordFrom_gx hr n _ _ s _ x j OO h82 zC sS (fun b hb=>by simpa using hb.symm) h
  obtain⟨_,_,-,h⟩:=aP h;cases h;refine nJ ?_ sS;rw[List.length_append,List.length_singleton] at h82;simp[lC,fQ,eY,OO,hl];omega
theorem paren_gx(hr:∀f i x j,rec f i=.ok (x,j)->GX x){i j:Nat}{x:Xp}(h:oY l rec i=.ok (x,j)):GX x:=by
 unfold oY at h;obtain⟨e,_,h1,h⟩:=aP h;obtain⟨_,_,-,h⟩:=aP h;cases h;exact hr _ _ _ _ h1
theorem bit_cases(t:bA)(h:bR t≠0):bR t=1\/bR t=2\/bR t=4\/bR t=8:=by
 unfold bR at h ⊢;split
 ·exact .inl rfl
 split
 ·exact .inr (.inl rfl)
 split
 ·exact .inr (.inr (.inl rfl))
 split
 ·exact .inr (.inr (.inr rfl))
 rename_i h1 h2 h3 h4;rw[if_neg h1,if_neg h2,if_neg h3,if_neg h4] at h;exact absurd rfl h
theorem number_le{t:bA}:((cZ t).getD 0)<=1099511627776:=by
 cases h:cZ t with
 |none=>decide
 |some n=>
  unfold cZ at h;split at h
  ·cases h
  split at h
  ·rename_i hc;cases h;simp only[Bool.and_eq_true,decide_eq_true_eq] at hc;exact hc.2
  cases h
theorem primary_gx(hT:∀i,TokG (aL l i))(hr:∀f i x j,rec f i=.ok (x,j)->GX x)(hb:∀i x j,rec 0 i=.ok (x,j)->eP l i=true){i j:Nat}{x:Xp}(h:aQ l rec i=.ok (x,j)):GX x:=by
 unfold aQ at h;split at h
 ·rename_i h1;cases h;rcases hT i with h2|⟨⟨-,-,h2⟩,-⟩
  ·rw[h1] at h2;cases h2
  have:=number_le (t:=(aL l i).text);refine nJ ?_ (fun x hx=>by cases hx);rw[h2];simp[lC,fQ,eY];omega
 split at h
 ·exact YF
 split at h
 ·exact YF
 split at h
 ·obtain⟨s,_,h1,h⟩:=aP h;cases h;exact nJ (by simp[lC,fQ,eY,(nI h1).1]) (fun x hx=>by cases hx)
 split at h
 ·rename_i h0;obtain⟨_,_,-,h⟩:=aP h;obtain⟨e,_,h1,h⟩:=aP h;cases h;refine nJ ?_ (gx_one (paren_gx hr h1));rcases bit_cases _ h0.2 with h|h|h|h<;>rw[h]<;>simp[lC,fQ,eY]
 split at h
 ·unfold kV at h;split at h
  ·exact YF
  exact recordFrom_gx hr _ _ _ _ _ _ _ rfl (by simp) rfl (fun x hx=>by cases hx) (fun b hb=>by cases hb) h
 split at h
 ·exact paren_gx hr h
 obtain⟨s,j1,h1,h⟩:=aP h;have hs:=(nI h1).1;unfold pW at h;split at h
 ·obtain⟨xs,_,h2,h⟩:=aP h;cases h;obtain⟨g1,g2⟩:=operands_gx hr hb h2;exact nJ (by simp[lC,fQ,eY,hs,g2]) g1
 split at h
 ·obtain⟨t,_,h3,h⟩:=aP h;obtain⟨xs,_,h2,h⟩:=aP h;cases h;obtain⟨g1,g2⟩:=operands_gx hr hb h2;exact nJ (by simp[lC,fQ,eY,hs,(nI h3).1,g2]) g1
 cases h;exact nJ (by simp[lC,fQ,eY,hs]) (fun x hx=>by cases hx)
theorem exp_gx(hT:∀i,TokG (aL l i)):∀(f form i:Nat)(x:Xp)(j:Nat),bM l f form i=.ok (x,j)->GX x:=by
 intro f
 induction f with
 |zero=>intro form i x j h;rw[bM] at h;cases h
 |succ f ih=>
  intro form i x j h;have hb:∀i x j,bM l f 0 i=.ok (x,j)->eP l i=true:=fun i x j h=>begins_exp hT h;rw[bM] at h;obtain⟨r,j1,h1,h⟩:=aP h;obtain⟨e,j2,h2,h⟩:=aP h
  have hg:GX r.1:=by
   unfold cH at h1;split at h1
   ·obtain⟨a,_,k1,h1⟩:=aP h1;obtain⟨_,_,-,h1⟩:=aP h1;obtain⟨b,_,k2,h1⟩:=aP h1;obtain⟨_,_,-,h1⟩:=aP h1;obtain⟨c,_,k3,h1⟩:=aP h1;cases h1;refine nJ (by simp[lC,fQ,eY]) (fun x hx=>?_);simp only[List.mem_cons,List.not_mem_nil,or_false] at hx;rcases hx with rfl|rfl|rfl
    ·exact ih _ _ _ _ k1
    ·exact ih _ _ _ _ k2
    exact ih _ _ _ _ k3
   split at h1
   ·obtain⟨s,_,k0,h1⟩:=aP h1;obtain⟨_,_,-,h1⟩:=aP h1;obtain⟨a,_,k1,h1⟩:=aP h1;obtain⟨_,_,-,h1⟩:=aP h1;obtain⟨b,_,k2,h1⟩:=aP h1;cases h1;refine nJ (by simp[lC,fQ,eY,(nI k0).1]) (fun x hx=>?_);simp only[List.mem_cons,List.not_mem_nil,or_false] at hx;rcases hx with rfl|rfl
    ·exact ih _ _ _ _ k1
    exact ih _ _ _ _ k2
   split at h1
   ·obtain⟨s,_,k0,h1⟩:=aP h1;obtain⟨a,_,k1,h1⟩:=aP h1;cases h1;exact nJ (by simp[lC,fQ,eY,(nI k0).1]) (gx_one (ih _ _ _ _ k1))
   split at h1
   ·obtain⟨a,_,k1,h1⟩:=aP h1;cases h1;exact nJ (by simp[lC,fQ,eY]) (gx_one (ih _ _ _ _ k1))
   obtain⟨e,_,k1,h1⟩:=aP h1;cases h1;exact primary_gx hT ih hb k1
  have yI:GX e:=by
   split at h2
   ·exact dots_gx _ _ _ _ _ hg h2
   cases h2;exact hg
  exact ops_gx ih _ _ _ _ _ _ yI h
end
end Go.Proofs.YtiionicikdnnpaaGreatDoor
namespace Go.Proofs.YtiionicikdnnpaaGreatDoor
theorem ZQ{p:Prop}(h:p:=by rw[List.length_append,List.length_singleton];omega):p:=h
theorem X9{p:Prop}(h:p:=by
 cases h;unfold bL cK;simp only;rw[hr,decide_eq_true h8,List.all_eq_true.2 he,decide_eq_true hl]
 exact⟨rfl,rfl⟩):p:=h
theorem kXp:∀{fs:List Fld}{x:Fld},x∈fs->bI x.2<=cU fs
 |[],x,h=>by cases h
 |(s,t)::r,x,h=>by
  rw[cU];rcases List.mem_cons.1 h with rfl|h
  ·exact Nat.le_max_left _ _
  exact Nat.le_trans (kXp h) (Nat.le_max_right _ _)
theorem fieldsOk_iff{p:Ty->Bool}:∀{fs:List Fld}{before:Option bA},fF p before fs=true↔dY before (fs.map (·.1))=true/\∀x∈fs,p x.2=true
 |[],before=>by simp[fF,dY]
 |(n,t)::r,before=>by
  simp only[fF,List.map_cons,dY,Bool.and_eq_true,fieldsOk_iff (fs:=r),List.mem_cons,forall_eq_or_imp];constructor
  ·rintro⟨⟨⟨h1,h2⟩,h3⟩,h4,h5⟩;exact⟨⟨⟨h1,h2⟩,h4⟩,h3,h5⟩
  rintro⟨⟨⟨h1,h2⟩,h4⟩,h3,h5⟩;exact⟨⟨⟨h1,h2⟩,h3⟩,h4,h5⟩
theorem ty_mono:∀(d:Nat)(t:Ty),aR d t=true->∀n,bI t<=n->aR n t=true
 |0,.mk k fs,h,_,_=>by simp[aR] at h
 |d+1,.mk k fs,h,n,hn=>by
  rw[bI] at hn;obtain⟨n,rfl⟩:∃q,n=q+1:=⟨n-1,by omega⟩;rw[aR,Bool.and_eq_true,fieldsOk_iff] at h ⊢;exact⟨h.1,h.2.1,fun x hx=>ty_mono d x.2 (h.2.2 x hx) n (by have:=kXp hx;omega)⟩
def GT(t:Ty):Prop:=aR (bI t) t=true
theorem gt_rec{fs:List Fld}(h8:fs.length<=8)(hn:dY none (fs.map (·.1))=true)(hg:∀x∈fs,GT x.2):GT (.mk 2 fs):=by
 unfold GT;rw[bI,aR,Bool.and_eq_true,fieldsOk_iff];exact⟨by simp[h8],hn,fun x hx=>ty_mono _ x.2 (hg x hx) _ (kXp hx)⟩
theorem gt_right{t:Ty}{n:Nat}(h:GT t)(hl:bI t<=n):aR n t=true:=ty_mono _ t h n hl
section
variable {l:List Tok}
theorem more_inv{i j:Nat}{t:Ty}{e:bA}{q:Bool}(h:nU l i t e=.ok (q,j)):bI t<=4:=by
 unfold nU at h;split at h
 ·obtain⟨_,_,h1,-⟩:=aP h;simpa using end_inv h1
 obtain⟨_,_,h1,-⟩:=aP h;simpa using end_inv h1
theorem typedFrom_gt{rec:Nat->PR Ty}(hr:∀i t j,rec i=.ok (t,j)->GT t):∀(n:Nat)(fs:List Fld)(i:Nat)(t:Ty)(j:Nat),fs.length<=8->dY none (fs.map (·.1))=true->(∀x∈fs,GT x.2)->eD l rec n fs i=.ok (t,j)->GT t
 |0,fs,i,t,j,h8,hn,hg,h=>by rw[eD] at h;cases h;exact gt_rec h8 hn hg
 |n+1,fs,i,t,j,h8,hn,hg,h=>by
  rw[eD] at h;obtain⟨_,_,h1,h⟩:=aP h;obtain⟨s,_,h2,h⟩:=aP h;obtain⟨T,_,h3,h⟩:=aP h;obtain⟨q,_,h4,h⟩:=aP h;obtain⟨hs,yD,zI⟩:=later_inv h2;rw[if_pos yD] at h1;have rU:=oV h1
  have OO:dY none ((fs++[(s,T)]).map (·.1))=true:=by
   rw[List.map_append,List.map_cons,List.map_nil];refine names_snoc hn hs fun b hb=>?_;rw[List.getLast?_map] at hb
   cases hq:fs.getLast? with
   |none=>rw[hq] at hb;cases hb
   |some y=>
    rw[hq] at hb;cases hb
    have:=zI (decide_eq_true (by
     cases fs with
     |nil=>simp at hq
     |cons a r=>simp))
    rw[hq] at this;exact this
  have yI:∀x∈fs++[(s,T)],GT x.2:=fun x hx=>by
   rcases List.mem_append.1 hx with hx|hx
   ·exact hg x hx
   rw[List.mem_singleton.1 hx];exact hr _ _ _ h3
  have h82:(fs++[(s,T)]).length<=8:=ZQ;split at h
  ·cases h;exact gt_rec h82 OO yI
  exact typedFrom_gt hr n _ _ t j h82 OO yI h
theorem typed_gt:∀(f i:Nat)(t:Ty)(j:Nat),fK l f i=.ok (t,j)->GT t
 |0,i,t,j,h=>by rw[fK] at h;cases h
 |f+1,i,t,j,h=>by
  rw[fK] at h;split at h
  ·cases h;show aR _ _=true;decide+kernel
  split at h
  ·cases h;show aR _ _=true;decide+kernel
  obtain⟨_,_,-,h⟩:=aP h;split at h
  ·cases h;show aR _ _=true;decide+kernel
  exact typedFrom_gt (fun i t j h=>typed_gt f i t j h) _ _ _ _ _ (by simp) rfl (fun x hx=>by cases hx) h
theorem flds_snoc:∀{fs:List Fld}{known:List bA}{n:bA}{t:Ty},bC fs known=true->(known.any fun x=>decide (x=n))=false->(fs.any fun x=>decide (x.1=n))=false->aK n=true->aR 4 t=true->bC (fs++[(n,t)]) known=true
 |[],known,n,t,_,hk,_,hn,ht=>by simp[bC,hk,hn,ht]
 |(m,u)::r,known,n,t,h,hk,hf,hn,ht=>by
  rw[List.cons_append];rw[bC] at h ⊢;split at h
  ·cases h
  rename_i hc;rw[if_neg hc];rw[List.any_cons,Bool.or_eq_false_iff] at hf;refine flds_snoc h ?_ hf.2 hn ht;rw[List.any_cons,hk,Bool.or_false];exact hf.1
theorem fieldsFrom_ok{most:Nat}:∀(n:Nat)(fs:List Fld)(i:Nat)(gs:List Fld)(j:Nat),fs.length<=most->bC fs []=true->dG l most n fs i=.ok (gs,j)->bL gs most=true
 |0,fs,i,gs,j,hm,hr,h=>by rw[dG] at h;cases h;unfold bL;rw[hr,decide_eq_true hm];rfl
 |n+1,fs,i,gs,j,hm,hr,h=>by
  rw[dG] at h;obtain⟨_,_,h1,h⟩:=aP h;obtain⟨s,_,h2,h⟩:=aP h;obtain⟨T,_,h3,h⟩:=aP h;obtain⟨q,_,h4,h⟩:=aP h;obtain⟨hs,yD,hk⟩:=fresh_inv h2;rw[if_pos yD] at h1;have rU:=oV h1;have Q0:(fs++[(s,T)]).length<=most:=ZQ;have wB:=flds_snoc hr (by rfl) hk hs (gt_right (typed_gt _ _ _ _ h3) (more_inv h4));split at h
  ·cases h;unfold bL;rw[wB,decide_eq_true Q0];rfl
  exact fieldsFrom_ok n _ _ gs j Q0 wB h
theorem fields_ok{most i j:Nat}{gs:List Fld}(h:iQ l most i=.ok (gs,j)):bL gs most=true:=by
 unfold iQ at h;obtain⟨_,_,-,h⟩:=aP h;split at h
 ·cases h;unfold bL;simp[bC]
 exact fieldsFrom_ok _ _ _ _ _ (by simp) rfl h
variable (hT:∀i,TokG (aL l i))
include hT
theorem whole_ok{i j:Nat}{e:bA}{x:Xp}(h:kI l i e=.ok (x,j)):aJ 12 x=true:=by
 unfold kI oI at h;obtain⟨y,_,h1,h⟩:=aP h;obtain⟨_,_,h2,h⟩:=aP h;cases h;exact gx_right (exp_gx hT _ _ _ _ _ h1) (by simpa using end_inv h2)
theorem wholesFrom_ok{e:bA}:∀(n:Nat)(out:List Xp)(i:Nat)(xs:List Xp)(j:Nat),(∀x∈out,aJ 12 x=true)->fM l e n out i=.ok (xs,j)->(∀x∈xs,aJ 12 x=true)/\xs.length=out.length+n+1
 |0,out,i,xs,j,ho,h=>by
  rw[fM] at h;obtain⟨x,_,h1,h⟩:=aP h;cases h;refine⟨fun y hy=>?_,by simp⟩;rcases List.mem_append.1 hy with hy|hy
  ·exact ho y hy
  rw[List.mem_singleton.1 hy];exact whole_ok hT h1
 |n+1,out,i,xs,j,ho,h=>by
  rw[fM] at h;obtain⟨x,_,h1,h⟩:=aP h
  obtain⟨g1,g2⟩:=wholesFrom_ok n _ _ xs j (fun y hy=>by
   rcases List.mem_append.1 hy with hy|hy
   ·exact ho y hy
   rw[List.mem_singleton.1 hy];exact whole_ok hT h1) h
  refine⟨g1,?_⟩;rw[g2,List.length_append,List.length_singleton];omega
theorem wholes_ok{n i j:Nat}{e:bA}{xs:List Xp}(h:gX l n i e=.ok (xs,j)):cK xs n=true:=by
 unfold gX at h;unfold cK;rw[Bool.and_eq_true,decide_eq_true_eq,List.all_eq_true];split at h
 ·obtain⟨_,_,-,h⟩:=aP h;cases h;exact⟨fun x hx=>(by cases hx),rfl⟩
 obtain⟨g1,g2⟩:=wholesFrom_ok hT _ _ _ _ _ (fun x hx=>(by cases hx)) h;exact⟨g1,by rw[g2];simp⟩
omit hT in
theorem effects_le(i:Nat):0<=(dQ l cR 0 i).1/\(dQ l cR 0 i).1<=15:=by
 unfold cR;simp only[dQ]
 repeat' split
 all_goals(simp only;decide)
omit hT in
theorem effOk_le{e:Int}(h0:0<=e)(h1:e<=15):effOk e=true:=by
 exact XH
theorem function_ok{i j:Nat}{known:bA->Bool}{f:Fnc}(h:jY l i known=.ok (f,j)):aK f.name=true/\known f.name=false/\fG f=true/\0<=f.effects/\f.effects<=15:=by
 unfold jY at h;obtain⟨_,_,-,h⟩:=aP h;obtain⟨name,_,h1,h⟩:=aP h;obtain⟨ps,_,h2,h⟩:=aP h;obtain⟨t,_,h3,h⟩:=aP h;obtain⟨ef,_,h4,h⟩:=aP h;obtain⟨_,_,h5,h⟩:=aP h;obtain⟨e,_,h6,h⟩:=aP h;cases h;obtain⟨hs,-,hk⟩:=fresh_inv h1
 have EC:bI t<=4/\0<=ef.1/\ef.1<=15:=by
  unfold nL at h4;split at h4
  ·obtain⟨_,_,k1,h4⟩:=aP h4;(have hl:bI t<=4:=by simpa using end_inv k1);split at h4
   ·cases h4;exact⟨hl,effects_le _⟩
   cases h4
  cases h4;exact⟨by simpa using end_inv h5,Int.le_refl 0,show(0:Int)<=15 by decide⟩
 refine⟨hs,hk,?_,EC.2⟩;unfold fG;simp only;rw[fields_ok h2,gt_right (typed_gt _ _ _ _ h3) EC.1,whole_ok hT h6,effOk_le EC.2.1 EC.2.2];rfl
omit hT in
theorem uses_snoc:∀{us known:List bA}{n:bA},dN us known=true->(known.any fun x=>decide (x=n))=false->(us.any fun x=>decide (x=n))=false->aK n=true->dN (us++[n]) known=true
 |[],known,n,_,hk,_,hn=>by simp[dN,hk,hn]
 |m::r,known,n,h,hk,hf,hn=>by
  rw[List.cons_append];rw[dN] at h ⊢;split at h
  ·cases h
  rename_i hc;rw[if_neg hc];rw[List.any_cons,Bool.or_eq_false_iff] at hf;refine uses_snoc h ?_ hf.2 hn;rw[List.any_cons,hk,Bool.or_false];exact hf.1
omit hT in
theorem uses_ok:∀(n:Nat)(out:List bA)(i:Nat)(us:List bA)(j:Nat),out.length<=12->dN out []=true->fV l n out i=.ok (us,j)->dN us []=true/\us.length<=12
 |0,out,i,us,j,AG,hr,h=>by rw[fV] at h;cases h;exact⟨hr,AG⟩
 |n+1,out,i,us,j,AG,hr,h=>by
  rw[fV] at h;split at h
  ·obtain⟨_,_,h1,h⟩:=aP h;obtain⟨s,_,h2,h⟩:=aP h;obtain⟨_,_,-,h⟩:=aP h;obtain⟨hs,-,hk⟩:=fresh_inv h2;have rU:=oV h1;exact uses_ok n _ _ us j ZQ (uses_snoc hr rfl hk hs) h
  cases h;exact⟨hr,AG⟩
theorem vars_ok:∀(n:Nat)(vs:List Fld)(es:List Xp)(i:Nat)(r:List Fld×List Xp)(j:Nat),vs.length<=8->bC vs []=true->(∀x∈es,aJ 12 x=true)->es.length=vs.length->gH l n vs es i=.ok (r,j)->bL r.1 8=true/\cK r.2 r.1.length=true
 |0,vs,es,i,r,j,h8,hr,he,hl,h=>by
  rw[gH] at h;exact X9
 |n+1,vs,es,i,r,j,h8,hr,he,hl,h=>by
  rw[gH] at h;split at h
  ·obtain⟨_,_,h1,h⟩:=aP h;obtain⟨s,_,h2,h⟩:=aP h;obtain⟨T,_,h3,h⟩:=aP h;obtain⟨_,_,h4,h⟩:=aP h;obtain⟨e,_,h5,h⟩:=aP h;obtain⟨hs,-,hk⟩:=fresh_inv h2;have rU:=oV h1
   exact vars_ok n _ _ _ r j ZQ (flds_snoc hr rfl hk hs (gt_right (typed_gt _ _ _ _ h3) (by simpa using end_inv h4))) (fun x hx=>by
    rcases List.mem_append.1 hx with hx|hx
    ·exact he x hx
    rw[List.mem_singleton.1 hx];exact whole_ok hT h5) (by simp[hl]) h
  exact X9
omit hT in
theorem funcs_snoc:∀{fs:List Fnc}{known:List bA}{f:Fnc},cI fs known=true->(known.any fun x=>decide (x=f.name))=false->(fs.any fun x=>decide (x.name=f.name))=false->aK f.name=true->fG f=true->cI (fs++[f]) known=true
 |[],known,f,_,hk,_,hn,hf=>by simp[cI,hk,hn,hf]
 |m::r,known,f,h,hk,ha,hn,hf=>by
  rw[List.cons_append];rw[cI] at h ⊢;split at h
  ·cases h
  rename_i hc;rw[if_neg hc];rw[List.any_cons,Bool.or_eq_false_iff] at ha;refine funcs_snoc h ?_ ha.2 hn hf;rw[List.any_cons,hk,Bool.or_false];exact ha.1
theorem funcs_ok:∀(n:Nat)(out:List Fnc)(i:Nat)(fs:List Fnc)(j:Nat),out.length<=30->cI out []=true->(∀f∈out,0<=f.effects/\f.effects<=15)->eV l n out i=.ok (fs,j)->cI fs []=true/\fs.length<=30/\∀f∈fs,0<=f.effects/\f.effects<=15
 |0,out,i,fs,j,J5,hr,he,h=>by rw[eV] at h;cases h;exact⟨hr,J5,he⟩
 |n+1,out,i,fs,j,J5,hr,he,h=>by
  rw[eV] at h;split at h
  ·obtain⟨_,_,h1,h⟩:=aP h;obtain⟨f,_,h2,h⟩:=aP h;obtain⟨hs,hk,hf,h0,h15⟩:=function_ok hT h2;have rU:=oV h1
   exact funcs_ok n _ _ fs j ZQ (funcs_snoc hr rfl hk hs hf) (fun x hx=>by
    rcases List.mem_append.1 hx with hx|hx
    ·exact he x hx
    rw[List.mem_singleton.1 hx];exact⟨h0,h15⟩) h
  cases h;exact⟨hr,J5,he⟩
theorem module_ok{m:Mdl}{j:Nat}(h:gD l=.ok (m,j)):gI m=true/\∀f∈m.funcs,0<=f.effects/\f.effects<=15:=by
 unfold gD at h;obtain⟨_,_,-,h⟩:=aP h;obtain⟨name,_,h1,h⟩:=aP h;obtain⟨_,_,-,h⟩:=aP h;obtain⟨us,_,h2,h⟩:=aP h;obtain⟨ve,_,h3,h⟩:=aP h;obtain⟨fs,_,h4,h⟩:=aP h;obtain⟨mv,_,h5,h⟩:=aP h;split at h
 ·cases h;obtain⟨u1,u2⟩:=uses_ok _ _ _ _ _ (by simp) rfl h2;obtain⟨v1,v2⟩:=vars_ok hT _ _ _ _ _ _ (by simp) rfl (fun x hx=>(by cases hx)) rfl h3;obtain⟨f1,f2,f3⟩:=funcs_ok hT _ _ _ _ _ (by simp) rfl (fun x hx=>(by cases hx)) h4;refine⟨?_,f3⟩;unfold gI;simp only;rw[u1,f1,(nI h1).1,decide_eq_true u2,decide_eq_true f2,v1,v2];unfold moveP at h5;split at h5
  ·obtain⟨old,_,k1,h5⟩:=aP h5;obtain⟨_,_,-,h5⟩:=aP h5;obtain⟨fw,_,k2,h5⟩:=aP h5;obtain⟨bk,_,k3,h5⟩:=aP h5;cases h5;have w2:=wholes_ok hT k2;have w3:=wholes_ok hT k3;simp[fields_ok k1,w2,w3]
  cases h5;simp[bL,cK,bC]
 cases h
end
theorem parse_right{s:bA}{m:Mdl}(h:iG s=.ok m):gI m=true/\∀f∈m.funcs,0<=f.effects/\f.effects<=15:=by
 unfold iG at h;split at h
 ·cases h
 rename_i l hl;split at h
 ·cases h
 rename_i m' j hm;cases h;exact module_ok (lexL_is hl) hm
end Go.Proofs.YtiionicikdnnpaaGreatDoor
namespace Go.Proofs.YtiionicikdnnpaaGreatDoor
def parseXP(l:List Tok):PR Xp:=(oI l 0 0).bnd fun e j=>if(aL l j).kind=3 then(if cD e<=12 then .ok (e,j) else kL l j 6) else kL l j 11
def parseX(s:bA):Except (Int×Int) Xp:=match lexL s with
 | .error e=>.error e
 | .ok l=>match parseXP l with
  | .error e=>.error e
  | .ok (e,_)=>.ok e
theorem spelt_parseX{e:Xp}(h:aJ 12 e=true){s:bA}(hs:dZ s.data.toList (aG e))(hz:s.size<=8000):parseX s=.ok e:=by
 obtain⟨l,h1,h2,h3⟩:=lex_of hs hz (by rw[eF];exact hs.length);obtain⟨hL,hE⟩:=lies_all (e:=⟨3,⟨#[]⟩,0,s.size⟩) h2 h3;have hk:(aL (l++[⟨3,⟨#[]⟩,0,s.size⟩]) (0+(aG e).length)).kind=3:=by rw[Nat.zero_add,hE]
 have hx:=exp_back h (F:=(l++[(⟨3,⟨#[]⟩,0,s.size⟩:Tok)]).length+1) hL (by omega) (stops_end hk);unfold parseX parseXP oI;rw[h1];simp only;rw[hx,bnd_ok,if_pos hk,if_pos (depth_right 12 e h)]
theorem exp_spells{e:Xp}(h:aJ 12 e=true):dZ (lI (aG e)) (aG e):=by
 have:=dZ.joined (ts:=aG e) (r:=[]) (us:=[]) (oP 12 e h) (fun c hc=>by cases hc) (.none [] fun c hc=>by cases hc);simpa using this
theorem printX_parse{e:Xp}{s:bA}(h:printX e=.ok s):parseX s=.ok e/\aJ 12 e=true/\s.size<=8000/\s=bs (lI (aG e)):=by
 unfold printX at h;split at h
 ·rename_i hr;unfold pV at h;split at h
  ·cases h
  rename_i hz;cases h;exact⟨spelt_parseX hr (exp_spells hr) (by omega),hr,by omega,rfl⟩
 cases h
theorem parseX_right{s:bA}{e:Xp}(h:parseX s=.ok e):aJ 12 e=true:=by
 unfold parseX at h;split at h
 ·cases h
 rename_i l hl;split at h
 ·cases h
 rename_i e' j hm;cases h;unfold parseXP oI at hm;obtain⟨x,j1,h1,hm⟩:=aP hm;split at hm
 ·split at hm
  ·rename_i hd;cases hm;exact gx_right (exp_gx (lexL_is hl) _ _ _ _ _ h1) hd
  cases hm
 cases hm
theorem token_noblank{t:bA}(h:eL t=true):∀c∈t.data.toList,dL c=false:=by
 intro c hc
 cases hb:dL c with
 |false=>rfl
 |true=>
  obtain⟨b1,b2,-⟩:=blank_not hb;rcases token_cases h with h|⟨n,h⟩|h
  ·obtain⟨_,_,-,-,sU⟩:=word_parts h;rw[sU c hc] at b1;cases b1
  ·obtain⟨_,_,-,-,sU⟩:=oC h;rw[sU c hc] at b2;cases b2
  simp only[eM,List.mem_cons,List.not_mem_nil,or_false] at h;rcases h with h|h|h|h|h|h|h|h|h|h|h|h|h|h<;>subst h<;>simp at hc<;>(try rcases hc with rfl|rfl)<;>subst_vars<;>exact hb.symm.trans (by decide)
def spreadB(s:bA):bA:=bs (s.data.toList.map fun c=>if c=32 then 10 else c)
theorem spread_spells{b:List UInt8}{ts:List bA}(h:dZ b ts)(ht:∀t∈ts,eL t=true):dZ (b.map fun c=>if c=32 then 10 else c) ts:=by
 refine dZ.spread (fun c hc=>?_) (fun c hc=>?_) h (fun t h=>token_noblank (ht t h))
 ·rcases blank_cases hc with rfl|rfl|rfl<;>decide
 rw[if_neg (fun e=>by rw[e] at hc;revert hc;decide)]
theorem toks_valid{m:Mdl}(h:gI m=true):∀t∈toksM m,eL t=true:=by
 intro t ht;rw[<-lines_toks] at ht;obtain⟨ts,h1,h2⟩:=List.mem_flatMap.1 ht;rcases List.mem_append.1 h2 with h2|h2
 ·exact mod_valid h ts h1 t h2
 rw[List.mem_singleton.1 h2];decide+kernel
theorem spread_size(s:bA):(spreadB s).size=s.size:=by rw[eF,eF];unfold spreadB;simp
theorem spread_print{m:Mdl}{s:bA}(he:∀f∈m.funcs,0<=f.effects/\f.effects<=15)(h:mC m=.ok s):iG (spreadB s)=.ok m:=by
 obtain⟨-,hr,hz,rfl⟩:=print_parse he h;exact spelt_parse hr he (spread_spells (text_spells hr) (toks_valid hr)) (by rw[spread_size];exact hz)
theorem spread_printX{e:Xp}{s:bA}(h:printX e=.ok s):parseX (spreadB s)=.ok e:=by
 obtain⟨-,hr,hz,rfl⟩:=printX_parse h;exact spelt_parseX hr (spread_spells (exp_spells hr) (oP 12 e hr)) (by rw[spread_size];exact hz)
theorem compile_same{s t:bA}{m:Mdl}(h:iG s=.ok m)(hp:mC m=.ok t):bP t=bP s:=by
 obtain⟨hr,he⟩:=parse_right h;unfold bP;rw[h,(print_parse he hp).1]
theorem print_full{s:bA}{m:Mdl}{e:Int}(h:iG s=.ok m)(hp:mC m=.error e):e=6:=by
 unfold mC at hp;rw[if_pos (parse_right h).1] at hp;unfold pV at hp;split at hp
 ·cases hp;rfl
 cases hp
def aB:bA:=⟨#[97]⟩
def bB:bA:=⟨#[98]⟩
def compS:Stp:=⟨5,[aB],bB,false⟩
def compR(t:bA):DoRes:=if(bP t).1≠0 then .error (bP t).1 else if 65536<(bP t).2.size then .error 6 else .ok ((bP t).2,[t],0,0)
theorem comp_do{t:bA}(h:t.size<=65536):fT bP compS [⟨aB,t⟩] [] [] 0 0=compR t:=by
 have h1:cW compS=true:=by decide+kernel
 have h2:cX [⟨aB,t⟩]=true:=by
  have ha:isName aB=true:=by decide+kernel
  unfold cX eN eN;rw[ha];simp;omega
 have h3:dK [⟨aB,t⟩] compS.out=none:=by
  have:¬aB=bB:=by decide+kernel
  simp[dK,compS,this]
 have h4:nF [⟨aB,t⟩] compS.src=some [t]:=by simp[nF,compS,dK]
 unfold fT;rw[h1,h2,h3,h4];simp[compS,compR]
theorem comp_bad{t:bA}{p e:Int}(hp:iG t=.error (p,e))(he:e≠0):compR t=.error e:=by
 unfold compR bP;rw[hp];simp[he]
theorem comp_good{t:bA}{m:Mdl}(hp:iG t=.ok m):compR t=if 65536<(listC (jG m)).size then .error 6 else .ok (listC (jG m),[t],0,0):=by
 unfold compR bP;rw[hp];simp
theorem comp_canon{s t:bA}{m:Mdl}(h:iG s=.ok m)(hp:mC m=.ok t):iG t=.ok m:=(print_parse (parse_right h).2 hp).1
theorem print_le{m:Mdl}{t:bA}(hp:mC m=.ok t):t.size<=8000:=by
 unfold mC at hp;split at hp
 ·unfold pV at hp;split at hp
  ·cases hp
  cases hp;omega
 cases hp
end Go.Proofs.YtiionicikdnnpaaGreatDoor
