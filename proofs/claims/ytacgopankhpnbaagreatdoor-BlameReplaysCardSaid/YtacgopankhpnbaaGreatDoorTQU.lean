/- Texts of this seat, joined. -/
import Derived.Test.YtacgopankhpnbaaGreatDoorTQD
set_option linter.unusedVariables false
set_option linter.unusedSimpArgs false
namespace Go.Proofs.YtacgopankhpnbaaGreatDoor
theorem inspectE_of{r:Rcp}(h:qA r):aP r=0:=by
 have h3:(r.steps.any fun s=> !aM s)=false:=by rw[List.any_eq_false];intro s hs;simp[h.steps s hs]
 have h4:(r.steps.any fun s=>s.src.any fun x=> !known r x)=false:=by
  rw[List.any_eq_false];intro s hs;simp only[List.any_eq_true,not_exists,not_and];intro x hx;simp[h.srcs s hs x hx]
 have h2:=h.few;have h5:=h.room;unfold aP;rw[h.files,h3,decide_eq_false (by omega),h.once,h.out,h4,h.circ];simp;omega
section
variable {r:Rcp} (h:qA r) (h59:r.inputs.length+r.steps.length<60)
include h h59
omit h59 in
end
end Go.Proofs.YtacgopankhpnbaaGreatDoor
namespace Go.Proofs.YtacgopankhpnbaaGreatDoor
theorem do_pure{C:bA->Int×bA}{s:Stp}{files:List Fil}{u0 u1:Int}{saw:List bA}(h:bZ s=true)(hf:aT files=true)(hu:¬min u0 u1<0)(hn:aI files s.out=none)(hl:files.length<60)(hs:fT files s.src=some saw)
  {t:bA} {sw:List bA} (hr:jH C s saw=.ok (t,sw)) (ck od:List Int):cH C s files ck od u0 u1=.ok (t,sw,u0,u1):=by
 have h1:aM s=true:=by unfold bZ at h;simp only[Bool.and_eq_true] at h;exact h.1.1
 unfold cH;rw[if_neg (by simp only[h1,hf,Bool.not_true,Bool.or_self,Bool.false_or,decide_eq_true_eq];exact hu),if_neg (by rw[hn];decide),if_neg (by omega),hs];simp only;unfold jH at hr;by_cases h5:s.kind=5
 ·rw[if_pos h5] at hr ⊢;by_cases he:(C (saw.headD ByteArray.empty)).1≠0
  ·rw[if_pos he] at hr;cases hr
  rw[if_neg he] at hr ⊢;by_cases hz:65536<(C (saw.headD ByteArray.empty)).2.size
  ·rw[if_pos hz] at hr;cases hr
  rw[if_neg hz] at hr ⊢;cases hr;rfl
 rw[if_neg h5] at hr ⊢;rw[write_pure2 h h5 saw ck od u0 u1];by_cases hz:65536<(bE s saw [] [] 0 0).1.size
 ·rw[if_pos hz] at hr;cases hr
 rw[if_neg hz] at hr;simp only[if_neg hz];cases hr;rfl
inductive Tr (C:bA->Int×bA) (steps:List Stp) (ck od:List Int):List Dn->List Fil->Int->Int->List Fil->Prop
 |nil (files:List Fil) (u0 u1:Int):Tr C steps ck od [] files u0 u1 files
 |cons {i:Nat} {s:Stp} {t:bA} {saw:List bA} {a b u0 u1:Int} {l:List Dn} {files F:List Fil} (hs:steps[i]? =some s) (hd:cH C s files ck od u0 u1=.ok (t,saw,a,b)) (ht:Tr C steps ck od l (eY s files t) a b F):
   Tr C steps ck od (⟨i,saw,t⟩::l) files u0 u1 F
theorem run_tr{C:bA->Int×bA}{steps:List Stp}{ck od nx:List Int}(hc:lC steps=false):∀(f:Nat)(done:Nat->Bool)(out:List Dn)(files:List Fil)(u0 u1:Int)(out':List Dn)(F:List Fil),
  dZ done steps.length<f->kR C steps ck od nx f done out files u0 u1=.ok (out',F)->∃l,out'=out++l/\Tr C steps ck od l files u0 u1 F/\l.length=dZ done steps.length
 |0,_,_,_,_,_,_,_,hf,_=>absurd hf (by omega)
 |f+1,done,out,files,u0,u1,out',F,hf,h=>by
  rw[kR] at h;split at h
  ·rename_i he;cases h;refine⟨[],by simp,.nil _ _ _,?_⟩
   have h0:∀n,n<=steps.length->dZ done n=0:=by
    intro n
    induction n with
    |zero=>intro _;rfl
    |succ n ih=>
     intro hn;rw[dZ,ih (by omega)]
     cases hd:done n with
     |true=>rfl
     |false=>exact absurd (List.isEmpty_iff.1 he) (ready_some hc done (by omega) hd)
   rw[h0 _ (Nat.le_refl _)];rfl
  rename_i he;have sC:bK steps done≠[]:=fun e=>he (by rw[e];rfl);obtain⟨h1,h2,-⟩:=nF (choose_mem nx out.length sC);generalize eZ (bK steps done) nx out.length=i at h h1 h2;rw[List.getElem?_eq_getElem h1] at h;simp only at h
  cases hd:cH C steps[i] files ck od u0 u1 with
  |error e=>rw[hd] at h;cases h
  |ok p=>
   obtain⟨t,sw,a,b⟩:=p;rw[hd] at h;simp only at h;have hl:=gP h2 _ h1;obtain⟨l,e1,e2,e3⟩:=run_tr hc f _ _ _ _ _ _ _ (by omega) h;exact⟨_::l,by rw[e1];simp,.cons (List.getElem?_eq_getElem h1) hd e2,by rw[List.length_cons];omega⟩
theorem run_steps{C:bA->Int×bA}{r:Rcp}{ck od nx:List Int}{l:List Dn}{F:List Fil}(hR:qA r)(h:runAll C r ck od nx=.ok (l,F)):Tr C r.steps ck od l r.inputs 0 0 F/\l.length=r.steps.length:=by
 obtain⟨l',e1,e2,e3⟩:=run_tr hR.circ _ _ _ _ _ _ _ _ (by rw[leftN_none];omega) h;rw[List.nil_append] at e1;subst e1;rw[leftN_none] at e3;exact⟨e2,e3⟩
theorem write_saws{s:Stp}(hr:aM s=true)(h5:s.kind≠5)(saw:List bA)(ck od:List Int)(u0 u1:Int):(bE s saw ck od u0 u1).2.1=if s.kind=2 then[] else saw:=by
 have hk:=right_kinds hr;unfold bE;by_cases e01:s.kind=0\/s.kind=1
 ·rw[if_pos e01,if_neg (by omega)]
 rw[if_neg e01];by_cases e3:s.kind=3
 ·rw[if_pos e3,if_neg (by omega)]
 rw[if_neg e3];by_cases e4:s.kind=4
 ·rw[if_pos e4,if_neg (by omega)]
 rw[if_neg e4,if_pos (show s.kind=2 by omega)];split<;>rfl
theorem do_saw{C:bA->Int×bA}{s:Stp}{files:List Fil}{ck od:List Int}{u0 u1:Int}{t:bA}{sw:List bA}{a b:Int}(h:cH C s files ck od u0 u1=.ok (t,sw,a,b)):
  ∃saw,fT files s.src=some saw/\sw=if s.kind=2 then[] else saw:=by
 have hr:=(rR h).1;unfold cH at h;split at h
 ·cases h
 split at h
 ·cases h
 split at h
 ·cases h
 split at h
 ·cases h
 rename_i saw hs;refine⟨saw,hs,?_⟩;split at h
 ·rename_i h5;split at h
  ·cases h
  split at h
  ·cases h
  cases h;rw[if_neg (by omega)]
 rename_i h5;split at h
 ·cases h
 have e:=Except.ok.inj h;rw[<-write_saws hr h5 saw ck od u0 u1,e]
structure RdInv (r:Rcp) (files:List Fil) (st:RSt):Prop where
 done:∀i,st.there i=true->∃s,r.steps[i]? =some s/\aI files s.out=some (st.of i).out
 inp:∀x u,st.inp x=some u->aI files x=some u
 back:∀x t i,aI files x=some t->aK r.steps x=some i->st.there i=true
 same:∀x,aK r.steps x=none->aI files x=aI r.inputs x
theorem rd_src{r:Rcp}{files:List Fil}{st:RSt}(h:RdInv r files st){sw:List bA}:∀(src:List bA)(k:Nat)(m:bA->Option bA),(∀x u,m x=some u->aI files x=some u)->
  (∀j x,src[j]? =some x->∃t,aI files x=some t/\(sw[k+j]? =none\/sw[k+j]? =some t))->∃m',kA r.steps st.there st.of sw k src m=some m'/\∀x u,m' x=some u->aI files x=some u
 |[],k,m,hm,_=>⟨m,rfl,hm⟩
 |x::l,k,m,hm,hs=>by
  obtain⟨t,ht,hk⟩:=hs 0 x rfl;rw[Nat.add_zero] at hk
  have hn:∃m1,dU r.steps st.there st.of sw k x m=some m1/\∀x u,m1 x=some u->aI files x=some u:=by
   unfold dU
   cases hw:aK r.steps x with
   |some i=>
    have MN:=h.back x t i ht hw;obtain⟨s,xG,JC⟩:=h.done i MN;obtain⟨s',hs3,hs4⟩:=fL hw;rw[xG] at hs3;cases hs3;rw[hs4,ht] at JC;simp only[MN,if_true];rcases hk with hk|hk
    ·rw[hk];exact⟨m,rfl,hm⟩
    rw[hk];simp only;rw[if_pos (Option.some.inj JC)];exact⟨m,rfl,hm⟩
   |none=>
    simp only;rcases hk with hk|hk
    ·rw[hk];exact⟨m,rfl,hm⟩
    rw[hk];simp only
    cases hx:m x with
    |some u=>
     have h1:=hm x u hx;rw[ht] at h1;simp only;rw[if_pos (Option.some.inj h1)];exact⟨m,rfl,hm⟩
    |none=>
     refine⟨_,rfl,fun y u hy=>?_⟩;unfold setInp at hy;split at hy
     ·rename_i e;subst e;cases hy;exact ht
     exact hm y u hy
  obtain⟨m1,h1,h2⟩:=hn
  obtain⟨m',h3,h4⟩:=rd_src h l (k+1) m1 h2 (fun j y hy=>by
   have:=hs (j+1) y (by simpa using hy)
   rwa [show k+(j+1)=k+1+j by omega] at this)
  exact⟨m',by rw[kA,h1];exact h3,h4⟩
theorem rd_tr{r:Rcp}(hR:qA r){C:bA->Int×bA}{ck od:List Int}{l:List Dn}{files F:List Fil}{u0 u1:Int}(ht:Tr C r.steps ck od l files u0 u1 F):∀{st:RSt},RdInv r files st->∃st',jG r.steps l st=some st'/\RdInv r F st':=by
 induction ht with
 |nil files u0 u1=>exact fun h=>⟨_,rfl,h⟩
 |@cons i s t sw a b u0 u1 l files F hs hd ht ih=>
  intro st h;obtain⟨saw,hsaw,CF⟩:=do_saw hd;have KS:=(rR hd).2.2.2.1
  have vU:st.there i=false:=by
   cases MN:st.there i with
   |false=>rfl
   |true=>
    obtain⟨s',h1,h2⟩:=h.done i MN;rw[hs] at h1;cases h1;rw[KS] at h2;cases h2
  obtain⟨hl,sM⟩:=sawOf_at hsaw
  obtain⟨m',h3,h4⟩:=rd_src h (sw:=sw) s.src 0 st.inp h.inp (fun j x hx=>by
   obtain⟨t,ht1,ht2⟩:=sM j x hx;refine⟨t,ht2,?_⟩;rw[Nat.zero_add,CF];split
   ·exact .inl rfl
   exact .inr ht1)
  have hlen:sw.length=iC s:=by
   unfold iC;rw[CF];split
   ·rfl
   exact hl
  have hdn:iV r.steps st ⟨(i:Int),sw,t⟩=some ⟨gS st.there i,qG st.of i ⟨(i:Int),sw,t⟩,m'⟩:=by
   unfold iV;rw[if_neg (show ¬(i:Int)<0 by omega)];simp only[Int.toNat_natCast];rw[hs];simp only;rw[if_neg (by rw[vU];simp[hlen]),h3]
  obtain⟨hw,xR⟩:=writer_at hR.once hs
  obtain⟨st',h5,h6⟩:=ih (st:=⟨gS st.there i,qG st.of i ⟨(i:Int),sw,t⟩,m'⟩) ⟨fun j hj=>(by
    by_cases e:j=i
    ·subst e;exact⟨s,hs,by rw[find_do KS];simp[qG]⟩
    (have zJ:st.there j=true:=by simpa[gS,e] using hj);obtain⟨s',h1,h2⟩:=h.done j zJ
    exact⟨s',h1,by rw[keeps_do s files t _ _ h2];simp[qG,e]⟩),
   fun x u hx=>keeps_do s files t x u (h4 x u hx),
   fun x t' k hx hk=>(by
    unfold eY at hx;rw[find_more] at hx
    cases ho:aI files x with
    |some u=>
     have:=h.back x u k ho hk;simp[gS,this]
    |none=>
     rw[ho] at hx;simp only at hx;split at hx
     ·rename_i e;rw[<-e,hw] at hk;cases hk;simp[gS]
     cases hx),
   fun x hx=>(by
    unfold eY;rw[find_more]
    cases ho:aI files x with
    |some u=>rw[<-h.same x hx,ho]
    |none=>
     simp only
     rw[if_neg (fun e=>by rw[e,hx] at hw;cases hw),<-h.same x hx,ho])⟩
  exact⟨st',by rw[jG,hdn];exact h5,h6⟩
theorem run_reads{C:bA->Int×bA}{r:Rcp}{ck od nx:List Int}{a:List Dn}{s:bA}(h:mZ C r ck od nx=.ok (a,s)):
  ∃F X px,bQ r a=some X/\mI r a X px/\(∀x,cW r X x=aI F x)/\(∀x,aK r.steps x=none->aI F x=aI r.inputs x)/\(∀d∈a,∃i,DnSays C r.steps F d i)/\(∀i,i<r.steps.length->∃d∈a,d.step=(i:Int))/\s=(aI F r.output).getD ByteArray.empty:=by
 obtain⟨hR,F,hF,hs⟩:=runL_ok h;obtain⟨LJ,PJ⟩:=run_steps hR hF;obtain⟨f1,f2,f3⟩:=run_says hR.circ hF
 have h0:RdInv r r.inputs mM:=⟨fun i hi=>(by cases hi),fun x u hx=>(by cases hx),fun x t i hx hw=>(by
  obtain⟨s,hs,e⟩:=fL hw;have:=(writer_at hR.once hs).2;rw[e,find_input hx] at this
  cases this),fun x _=>rfl⟩
 obtain⟨X,hX,hI⟩:=rd_tr hR LJ h0
 have QT:bQ r a=some X:=by
  unfold bQ;rw[if_neg (by rw[not_or,Classical.not_not,Classical.not_not];exact⟨inspectE_of hR,PJ⟩)];exact hX
 obtain⟨px,KT⟩:=readL_ok QT;refine⟨F,X,px,QT,KT,fun x=>?_,hI.same,f2,f3,hs⟩;unfold cW
 cases hw:aK r.steps x with
 |some i=>
  obtain⟨s',h1,h2⟩:=fL hw;obtain⟨s'',h3,h4⟩:=hI.done i (KT.all i (List.getElem?_eq_some_iff.1 h1).1);rw[h1] at h3;cases h3;rw[h2] at h4;exact h4.symm
 |none=>
  simp only
  cases hx:X.inp x with
  |some u=>exact(hI.inp x u hx).symm
  |none=>exact(hI.same x hw).symm
theorem nodup_le{α:Type}[DecidableEq α]:∀{l m:List α},l.Nodup->(∀x∈l,x∈m)->l.length<=m.length
 |[],_,_,_=>Nat.zero_le _
 |x::l,m,hn,hm=>by
  rw[List.nodup_cons] at hn;have h1:=nodup_le (l:=l) (m:=m.erase x) hn.2 (fun y hy=>(List.mem_erase_of_ne (fun e=>hn.1 (by rw[<-e];exact hy))).2 (hm y (by simp[hy])));have hx:=hm x (by simp);rw[List.length_erase_of_mem hx] at h1;have:=List.length_pos_of_mem hx;rw[List.length_cons];omega
theorem stepRight_names{s:Stp}(h:aM s=true):(∀x∈s.src,eV x=true)/\eV s.out=true:=by
 unfold aM at h;split at h
 ·cases h
 rename_i hb;rw[Bool.or_eq_true,not_or,Bool.not_eq_true',Bool.not_eq_false,Bool.not_eq_true,List.any_eq_false] at hb;exact⟨fun x hx=>by simpa using hb.2 x hx,hb.1⟩
theorem find_gone{l:List Fil}{x:bA}(h:∀f∈l,f.name≠x):aI l x=none:=by
 unfold aI;rw[Option.map_eq_none_iff,List.find?_eq_none];intro f hf;simpa using h f hf
theorem replay_pure{C:bA->Int×bA}{s:Stp}{files:List Fil}{ck od:List Int}{u0 u1 a b:Int}{t:bA}{sw:List bA}(hp:bZ s=true)(hd:cH C s files ck od u0 u1=.ok (t,sw,a,b))(BY BN:List Int):eX C s sw BY BN=.ok t:=by
 obtain⟨hr,hf,-,CN,hlen,tI,saw,hsaw,vM⟩:=rR hd;obtain⟨vM,-,-⟩:=vM hp;obtain⟨saw',S1,CF⟩:=do_saw hd;rw[hsaw] at S1;cases S1;obtain⟨hl,sM⟩:=sawOf_at hsaw;have hrf:=hf;unfold aT at hrf;rw[Bool.and_eq_true,right_from] at hrf;obtain⟨⟨hf1,hf2⟩,-⟩:=hrf;have xY:=(stepRight_names hr).1
 have hfound:∀n∈s.src,∃f∈files,f.name=n/\aI files n=some f.text:=fun n hn=>by
  obtain⟨k,hk⟩:=List.getElem?_of_mem hn;obtain⟨t,-,ht⟩:=sM k n hk;obtain⟨f,h1,h2,h3⟩:=find_mem ht;exact⟨f,h1,h2,by rw[h3];exact ht⟩
 obtain⟨tx,C6,htz⟩:∃tx:bA->bA,(∀k n,s.src[k]? =some n->gC sw (0+k)=tx n)/\(∀n∈s.src,(tx n).size<=65536)/\(s.kind=2\/s.src.map tx=saw):=by
  by_cases h2:s.kind=2
  ·rw[if_pos h2] at CF;refine⟨fun _=>⟨#[]⟩,fun k n _=>by rw[CF];rfl,fun n _=>by show(0:Nat)<=_;decide,.inl h2⟩
  rw[if_neg h2] at CF;refine⟨fun n=>(aI files n).getD ⟨#[]⟩,fun k n hk=>?_,fun n hn=>?_,.inr ?_⟩
  ·obtain⟨t,h1,h3⟩:=sM k n hk;dsimp only;rw[Nat.zero_add,CF,h3];unfold gC;rw[if_neg (fun e=>by rw[e] at h1;cases h1),List.getD_eq_getElem?_getD,h1]
  ·obtain⟨f,h1,h3,h4⟩:=hfound n hn;dsimp only;rw[h4];exact(hf1 f h1).2.1
  refine List.ext_getElem? fun k=>?_;rw[List.getElem?_map]
  cases hk:s.src[k]? with
  |none=>
   have h1:=List.getElem?_eq_none_iff.1 hk;rw[List.getElem?_eq_none (by omega)];rfl
  |some n=>
   obtain⟨t,h1,h3⟩:=sM k n hk;rw[h1];simp[h3]
 obtain⟨fs,a1,a2,a3,a4,a5,-⟩:=replay_ok tx s.src 0 [] C6 (fun f hf=>by cases hf) (by simp);have a4:∀f∈fs,f.name∈s.src:=fun f hf=>(a4 f hf).elim (fun h=>by cases h) id
 have zI:fs.length<=files.length:=by
  have:=nodup_le (l:=fs.map (·.name)) (m:=files.map (·.name)) a3 (fun x hx=>by
   obtain⟨f,hf,rfl⟩:=List.mem_map.1 hx;obtain⟨g,h1,h2,-⟩:=hfound _ (a4 f hf)
   exact List.mem_map.2 ⟨g,h1,h2⟩)
  simpa using this
 have hfr:aT fs=true:=by
  unfold aT;rw[Bool.and_eq_true,right_from];exact⟨⟨fun f hf=>⟨xY _ (a4 f hf),by rw[a2 f hf];exact htz.1 _ (a4 f hf),by simp⟩,a3⟩,decide_eq_true (by omega)⟩
 have hgo:aI fs s.out=none:=find_gone fun f hf e=>by
  obtain⟨g,h1,h2,h3⟩:=hfound _ (a4 f hf);rw[e,CN] at h3;cases h3
 have QO:fT fs s.src=some (s.src.map tx):=saw_map fun n hn=>by
  obtain⟨f,h1,h2⟩:=a5 n hn;have:=find_named a3 h1;rw[h2] at this;rw[this,a2 f h1,h2]
 have hpr:∃sw2,jH C s (s.src.map tx)=.ok (t,sw2):=by
  rcases htz.2 with h2|h2
  ·have h5:s.kind≠5:=by omega
   have GP:s.sorted=true:=by
    have hp:=hp;unfold bZ at hp;simp only[Bool.and_eq_true,Bool.or_eq_true,decide_eq_true_eq] at hp;rcases hp.2 with h3|h3
    ·exact absurd h2 h3
    exact h3
   have hw:∀z,bE s z [] [] 0 0=(rE (fQ s.src),[],0,0):=fun z=>by
    unfold bE;rw[if_neg (by omega),if_neg (by omega),if_neg (by omega),if_pos GP]
   unfold jH at vM ⊢;rw[if_neg h5,hw] at vM ⊢;exact⟨_,vM⟩
  rw[h2];exact⟨_,vM⟩
 obtain⟨sw2,hpr⟩:=hpr;unfold eX;rw[a1];simp only;rw[do_pure (u0:=0) (u1:=0) hp hfr (by decide) hgo (by omega) QO hpr BY BN]
theorem tr_mem{C:bA->Int×bA}{steps:List Stp}{ck od:List Int}{l:List Dn}{files F:List Fil}{u0 u1:Int}(h:Tr C steps ck od l files u0 u1 F):∀d∈l,∃(i:Nat)(s:Stp)(fs:List Fil)(v0 v1 a b:Int),d.step=(i:Int)/\steps[i]? =some s/\cH C s fs ck od v0 v1=.ok (d.out,d.saw,a,b):=by
 induction h with
 |nil=>exact fun d hd=>(by cases hd)
 |cons hs hd _ ih=>
  intro d hm;rcases List.mem_cons.1 hm with rfl|hm
  ·exact⟨_,_,_,_,_,_,_,rfl,hs,hd⟩
  exact ih d hm
theorem not_wrong{C:bA->Int×bA}{r:Rcp}{ck od nx:List Int}{a:List Dn}{s:bA}(ha:mZ C r ck od nx=.ok (a,s)):∀d∈a,∃(i:Nat)(st:Stp),d.step=(i:Int)/\r.steps[i]? =some st/\oN C r.steps d=false/\d.out.size<=65536/\(bZ st=true->∀BY BN,eX C st d.saw BY BN=.ok d.out):=by
 obtain⟨hR,F',hF,-⟩:=runL_ok ha;obtain⟨LJ,-⟩:=run_steps hR hF;intro d hd;obtain⟨i,st,fs,v0,v1,p,q,h1,h2,h3⟩:=tr_mem LJ d hd;refine⟨i,st,h1,h2,?_,(rR h3).2.2.2.2.2.1,fun hp BY BN=>replay_pure hp h3 BY BN⟩;unfold oN;rw[h1,Int.toNat_natCast,h2];simp only
 cases hp:bZ st with
 |false=>rfl
 |true=>rw[replay_pure hp h3 [] []];simp
end Go.Proofs.YtacgopankhpnbaaGreatDoor
