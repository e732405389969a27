/- Texts of this seat, joined. -/
import Derived.Test.YtacgopankhpnbaaGreatDoorTQAJ
set_option linter.unusedVariables false
set_option linter.unusedSimpArgs false
namespace Go.Proofs.YtacgopankhpnbaaGreatDoor
def grow(needs:Nat->List Nat):Nat->(Nat->Bool)->Nat->(Nat->Bool)
 |0,st,_=>st
 |f+1,st,i=>if st i then st else(needs i).foldl (grow needs f) (gS st i)
def kZ(r:Rcp):Nat->Bool:=match aK r.steps r.output with
 |some i=>grow (bL r.steps) (r.steps.length+1) (fun _=>false) i
 |none=>fun _=>false
def pB(r:Rcp):List Nat:=(List.range r.steps.length).filter (kZ r)
def eI(r:Rcp):List Nat:=if aP r≠0 then[] else pB r
def pureL(r:Rcp):Bool:=decide (aP r=0)&& !(eI r).any fun i=>match r.steps[i]? with
 |some s=> !bZ s
 |none=>true
def SolS(C:bA->Int×bA)(steps:List Stp)(F:List Fil):Prop:=∀s∈steps,∃saw t sw,fT F s.src=some saw/\aI F s.out=some t/\(bZ s=true->jH C s saw=.ok (t,sw))
theorem run_solS{C:bA->Int×bA}{r:Rcp}{ck od nx:List Int}{out:List Dn}{F:List Fil}(hc:lC r.steps=false)(h:runAll C r ck od nx=.ok (out,F)):SolS C r.steps F:=by
 obtain⟨h1,h2,h3⟩:=run_says hc h;intro s hs;obtain⟨i,hi,e⟩:=List.getElem_of_mem hs;obtain⟨d,hd,e2⟩:=h3 i hi;obtain⟨j,hj,s',e3,e4,saw,e5,e6⟩:=h2 d hd;have:j=i:=by have:=hj.symm.trans e2;omega
 subst this;rw[List.getElem?_eq_getElem hi,e] at e3;cases e3;exact⟨saw,d.out,d.saw,e5,e4,e6⟩
theorem needs_mem{steps:List Stp}{i k:Nat}{s:Stp}{y:bA}(hs:steps[i]? =some s)(hy:y∈s.src)(hw:aK steps y=some k):k∈bL steps i:=by
 unfold bL;rw[hs];show k∈fD steps s;unfold fD;rw[List.mem_filterMap];exact⟨y,hy,hw⟩
theorem grow_ok{needs:Nat->List Nat}{n:Nat}(hn:∀i k,k∈needs i->k<n):∀(f:Nat)(st:Nat->Bool)(i:Nat),i<n->dZ st n<f->
  (∀j,st j=true->grow needs f st i j=true)/\grow needs f st i i=true/\∀j,grow needs f st i j=true->st j=true\/∀k∈needs j,grow needs f st i k=true
 |0,st,i,hi,hf=>absurd hf (by omega)
 |f+1,st,i,hi,hf=>by
  rw[grow];by_cases hs:st i=true
  ·rw[if_pos hs];exact⟨fun j h=>h,hs,fun j h=>.inl h⟩
  rw[if_neg hs];have uC:st i=false:=by simpa using hs
  have hl:=gP uC n hi
  have key:∀(l:List Nat)(st1:Nat->Bool),(∀k∈l,k<n)->dZ st1 n<f->
    (∀j,st1 j=true->l.foldl (grow needs f) st1 j=true)/\(∀k∈l,l.foldl (grow needs f) st1 k=true)/\∀j,l.foldl (grow needs f) st1 j=true->st1 j=true\/∀k∈needs j,l.foldl (grow needs f) st1 k=true:=by
   intro l
   induction l with
   |nil=>intro st1 _ _;exact⟨fun j h=>h,fun k hk=>by simp at hk,fun j h=>.inl h⟩
   |cons x l ih=>
    intro st1 hx hf1;obtain⟨g1,g2,g3⟩:=grow_ok hn f st1 x (hx x (by simp)) hf1
    have hmono:dZ (grow needs f st1 x) n<=dZ st1 n:=by
     have:∀m,dZ (grow needs f st1 x) m<=dZ st1 m:=by
      intro m
      induction m with
      |zero=>exact Nat.le_refl _
      |succ m ihm=>
       rw[dZ,dZ]
       cases h:st1 m with
       |true=>rw[g1 m h];simpa using ihm
       |false=>simp only[Bool.false_eq_true,if_false];split<;>omega
     exact this n
    obtain⟨i1,i2,i3⟩:=ih (grow needs f st1 x) (fun k hk=>hx k (by simp[hk])) (by omega);rw[List.foldl_cons];refine⟨fun j h=>i1 j (g1 j h),fun k hk=>?_,fun j h=>?_⟩
    ·rcases List.mem_cons.1 hk with rfl|hk
     ·exact i1 _ g2
     exact i2 k hk
    rcases i3 j h with h1|h1
    ·rcases g3 j h1 with h2|h2
     ·exact .inl h2
     exact .inr (fun k hk=>i1 k (h2 k hk))
    exact .inr h1
  obtain⟨k1,k2,k3⟩:=key (needs i) (gS st i) (fun k hk=>hn i k hk) (by omega);refine⟨fun j h=>k1 j (by unfold gS;split<;>first|rfl|exact h),k1 i (by simp[gS]),fun j h=>?_⟩;rcases k3 j h with h1|h1
  ·by_cases e:j=i
   ·subst e;exact .inr k2
   simp only[gS,if_neg e] at h1;exact .inl h1
  exact .inr h1
theorem slice_closed(r:Rcp):(∀i,aK r.steps r.output=some i->kZ r i=true)/\∀i,kZ r i=true->∀k∈bL r.steps i,kZ r k=true:=by
 unfold kZ
 cases hw:aK r.steps r.output with
 |none=>exact⟨fun i h=>(by cases h),fun i h=>(by cases h)⟩
 |some e=>
  obtain⟨s,hs,-⟩:=fL hw;obtain⟨g1,g2,g3⟩:=grow_ok (n:=r.steps.length) (fun i k hk=>pL hk) (r.steps.length+1) (fun _=>false) e (List.getElem?_eq_some_iff.1 hs).1 (by rw[leftN_none];omega);refine⟨fun i h=>by cases h;exact g2,fun i h=>?_⟩;rcases g3 i h with h1|h1
  ·cases h1
  exact h1
theorem mem_sliceAll{r:Rcp}{i:Nat}:i∈pB r↔i<r.steps.length/\kZ r i=true:=by
 unfold pB;rw[List.mem_filter,List.mem_range]
theorem pureL_ok{r:Rcp}(h:pureL r=true):qA r/\eI r=pB r/\∀i s,kZ r i=true->r.steps[i]? =some s->bZ s=true:=by
 unfold pureL at h;rw[Bool.and_eq_true,decide_eq_true_eq,Bool.not_eq_true'] at h;obtain⟨h0,h1⟩:=h;have hl:eI r=pB r:=by unfold eI;rw[if_neg (by omega)]
 refine⟨gG h0,hl,fun i s hi hs=>?_⟩;rw[hl] at h1;have:=List.any_eq_false.1 h1 i (mem_sliceAll.2 ⟨(List.getElem?_eq_some_iff.1 hs).1,hi⟩);rw[hs] at this;simpa using this
theorem replay_says{C:bA->Int×bA}{s:Stp}{F:List Fil}{saw sd:List bA}{t o:bA}{sw:List bA}{ck od:List Int}(hp:bZ s=true)(hsaw:fT F s.src=some saw)(vM:jH C s saw=.ok (t,sw))
  (hsd:s.kind=2\/∀(k:Nat)(n:bA),s.src[k]? =some n->∃u,sd[k]? =some u/\aI F n=some u) (hr:eX C s sd ck od=.ok o):o=t:=by
 obtain⟨hl,sM⟩:=sawOf_at hsaw;unfold eX at hr
 cases hf:fC sd 0 s.src [] with
 |none=>rw[hf] at hr;cases hr
 |some fs=>
  rw[hf] at hr;simp only at hr
  cases hd:cH C s fs ck od 0 0 with
  |error e=>rw[hd] at hr;cases hr
  |ok p=>
   obtain⟨o2,sw2,a,b⟩:=p;rw[hd] at hr;cases hr;obtain⟨S3,-,-,-,-,-,saw2,S0,AP⟩:=rR hd;obtain⟨AP,-,-⟩:=AP hp;by_cases h2:s.kind=2
   ·have h5:s.kind≠5:=by omega
    have GP:s.sorted=true:=by
     have hp:=hp;unfold bZ at hp;simp only[Bool.and_eq_true,Bool.or_eq_true,decide_eq_true_eq] at hp;rcases hp.2 with h3|h3
     ·exact absurd h2 h3
     exact h3
    have hw:∀z,bE s z [] [] 0 0=(rE (fQ s.src),[],0,0):=fun z=>by
     unfold bE;rw[if_neg (by omega),if_neg (by omega),if_neg (by omega),if_pos GP]
    unfold jH at vM AP;rw[if_neg h5,hw] at vM AP;rw[vM] at AP;cases AP;rfl
   have hsd:∀(k:Nat)(n:bA),s.src[k]? =some n->∃u,sd[k]? =some u/\aI F n=some u:=hsd.resolve_left h2
   have C6:∀j n,s.src[j]? =some n->gC sd (0+j)=(aI F n).getD ⟨#[]⟩:=fun j n hn=>by
    obtain⟨u,h1,h3⟩:=hsd j n hn;rw[Nat.zero_add,h3];unfold gC;rw[if_neg (fun e=>by rw[e] at h1;cases h1),List.getD_eq_getElem?_getD,h1]
   obtain⟨fs',a1,a2,a3,a4,a5,-⟩:=replay_ok (fun n=>(aI F n).getD ⟨#[]⟩) s.src 0 [] C6 (fun f hf=>by cases hf) (by simp);rw[hf] at a1;cases a1
   have QO:fT fs s.src=some (s.src.map fun n=>(aI F n).getD ⟨#[]⟩):=saw_map fun n hn=>by
    obtain⟨f,h1,h3⟩:=a5 n hn;have:=find_named a3 h1;rw[h3] at this;rw[this,a2 f h1,h3]
   have BQ:(s.src.map fun n=>(aI F n).getD ⟨#[]⟩)=saw:=by
    refine List.ext_getElem? fun k=>?_;rw[List.getElem?_map]
    cases hk:s.src[k]? with
    |none=>
     have h1:=List.getElem?_eq_none_iff.1 hk;rw[List.getElem?_eq_none (by omega)];rfl
    |some n=>
     obtain⟨u,h1,h3⟩:=sM k n hk;rw[h1];simp[h3]
   rw[QO,BQ] at S0;cases S0;rw[vM] at AP;cases AP;rfl
theorem input_named{r:Rcp}(hR:qA r){f:Fil}(hf:f∈r.inputs):aI r.inputs f.name=some f.text/\aK r.steps f.name=none:=by
 have h:=hR.files;unfold aT at h;rw[Bool.and_eq_true,right_from] at h;have h1:=find_named h.1.2 hf;refine⟨h1,?_⟩
 cases hw:aK r.steps f.name with
 |none=>rfl
 |some i=>
  obtain⟨s,hs,e⟩:=fL hw;have h2:=(writer_at hR.once hs).2;rw[e,find_input h1] at h2;cases h2
theorem text_known{r:Rcp}{X:RSt}{x:bA}(hk:known r x=true):(cW r X x).isSome=true:=by
 unfold cW
 cases hw:aK r.steps x with
 |some i=>rfl
 |none=>
  simp only
  cases hx:X.inp x with
  |some u=>rfl
  |none=>
   obtain⟨t,ht⟩:=known_input hk hw;rw[ht];rfl
theorem convicts_law{C:bA->Int×bA}{r:Rcp}{l a:List Dn}{X:RSt}{ck od nx BY BN:List Int}{s:bA}(hp:pureL r=true)(hX:bQ r l=some X)(xR:∀f∈r.inputs,cW r X f.name=some f.text)
  (hrep:∀d∈l,∀(i:Nat)st,d.step=(i:Int)->i∈eI r->r.steps[i]? =some st->eX C st d.saw BY BN=.ok d.out) (tW:mZ C r ck od nx=.ok (a,s)):cW r X r.output=some s:=by
 obtain⟨hR,PE,E4⟩:=pureL_ok hp;obtain⟨-,F,hF,hs⟩:=runL_ok tW;obtain⟨f1,-,-⟩:=run_says hR.circ hF;have hSol:=run_solS hR.circ hF;obtain⟨px,KT⟩:=readL_ok hX;obtain⟨c1,c2⟩:=slice_closed r
 have hinp:∀x,known r x=true->aK r.steps x=none->∃t,aI F x=some t/\cW r X x=some t:=fun x hk hw=>by
  obtain⟨t,ht⟩:=known_input hk hw;obtain⟨f,hf,e1,e2⟩:=find_mem ht;have h1:=xR f hf;rw[e1,e2] at h1;exact⟨t,f1 x t ht,h1⟩
 have key:∀(n i:Nat),px i<n->kZ r i=true->∀st,r.steps[i]? =some st->aI F st.out=some (X.of i).out:=by
  intro n
  induction n with
  |zero=>intro i h;omega
  |succ n ih=>
   intro i hi hsi st vO;obtain⟨k1,k2,k3,k4⟩:=KT.at_ vO;obtain⟨saw,t,sw,q1,q2,q3⟩:=hSol st (List.mem_of_getElem? vO);have EQ:=E4 i st hsi vO
   have ho:=replay_says (o:=(X.of i).out) EQ q1 (q3 EQ) (by
    by_cases h2:st.kind=2
    ·exact .inl h2
    right;intro k nm hk;have hlen:=k3.len;unfold iC at hlen;rw[if_neg h2] at hlen;have Q6:=(List.getElem?_eq_some_iff.1 hk).1;have hu:=List.getElem?_eq_getElem (l:=(X.of i).saw) (i:=k) (by omega);refine⟨_,hu,?_⟩;have PF:=k3.saw k nm hk;rw[hu] at PF;unfold rZ at PF
    cases hw:aK r.steps nm with
    |some j=>
     rw[hw] at PF;obtain⟨s2,JC,e⟩:=fL hw;have h3:=ih j (by have:=k4 nm j (List.mem_of_getElem? hk) hw;omega) (c2 i hsi j (needs_mem vO (List.mem_of_getElem? hk) hw)) s2 JC;rw[e] at h3;rw[h3,PF.2 _ rfl]
    |none=>
     rw[hw] at PF;have h3:=PF _ rfl;obtain⟨t2,h4,h5⟩:=hinp nm (hR.srcs st (List.mem_of_getElem? vO) nm (List.mem_of_getElem? hk)) hw;unfold cW at h5;rw[hw] at h5;simp only at h5;rw[h3] at h5
     rw[h4,<-h5]) (hrep _ (List.mem_of_getElem? k1) i st k2 (by rw[PE,mem_sliceAll];exact⟨(List.getElem?_eq_some_iff.1 vO).1,hsi⟩) vO)
   rw[q2,ho]
 cases hw:aK r.steps r.output with
 |none=>
  obtain⟨t,h1,h2⟩:=hinp _ hR.out hw;rw[hs,h1,h2];rfl
 |some e=>
  obtain⟨st,vO,ho⟩:=fL hw;have h1:=key _ e (Nat.lt_succ_self _) (c1 e hw) st vO;rw[ho] at h1;rw[hs,h1];unfold cW;rw[hw];rfl
end Go.Proofs.YtacgopankhpnbaaGreatDoor
