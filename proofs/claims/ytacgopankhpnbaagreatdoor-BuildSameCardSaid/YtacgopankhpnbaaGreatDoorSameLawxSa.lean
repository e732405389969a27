/- Texts of this seat, joined. -/
import Derived.Test.YtacgopankhpnbaaGreatDoorRefuseLawxSa
import Derived.Test.YtacgopankhpnbaaGreatDoorLpLawBxSaSe
import Derived.Test.YtacgopankhpnbaaGreatDoorKBB
namespace Go.Proofs.YtacgopankhpnbaaGreatDoor
theorem do_pure{C:ByteArray->Int×ByteArray}{s:Stp}{files:List Fil}{u0 u1:Int}{saw:List ByteArray}(h:cH s=true)(hf:aR files=true)(hu:¬min u0 u1<0)(hn:aI files s.out=none)(hl:files.length<60)(hs:eT files s.src=some saw)
  {t:ByteArray} {sw:List ByteArray} (hr:nK C s saw=.ok (t,sw)) (ck od:List Int):aX C s files ck od u0 u1=.ok (t,sw,u0,u1):=by
 have h1:aP s=true:=by unfold cH at h;simp only[Bool.and_eq_true] at h;exact h.1.1
 unfold aX;rw[if_neg (by simp only[h1,hf,Bool.not_true,Bool.or_self,Bool.false_or,decide_eq_true_eq];exact hu),if_neg (by rw[hn];decide),if_neg (by omega),hs];simp only;unfold nK at hr;by_cases h5:s.kind=5
 ·rw[if_pos h5] at hr ⊢;by_cases he:(C (saw.headD ByteArray.empty)).1≠0
  ·rw[if_pos he] at hr;cases hr
  ·rw[if_neg he] at hr ⊢;by_cases hz:65536<(C (saw.headD ByteArray.empty)).2.size
   ·rw[if_pos hz] at hr;cases hr
   ·rw[if_neg hz] at hr ⊢;cases hr;rfl
 ·rw[if_neg h5] at hr ⊢;rw[write_pure2 h h5 saw ck od u0 u1];by_cases hz:65536<(aS s saw [] [] 0 0).1.size
  ·rw[if_pos hz] at hr;cases hr
  ·rw[if_neg hz] at hr;simp only[if_neg hz];cases hr;rfl
theorem pureRes_size{C:ByteArray->Int×ByteArray}{s:Stp}{saw:List ByteArray}{t:ByteArray}{sw:List ByteArray}(hr:nK C s saw=.ok (t,sw)):t.size<=65536:=by
 unfold nK at hr;split at hr
 ·split at hr
  ·cases hr
  ·split at hr
   ·cases hr
   ·cases hr;omega
 ·split at hr
  ·cases hr
  ·cases hr;omega
theorem saw_exists{f:List Fil}:∀{src:List ByteArray},(∀x∈src,(aI f x).isSome=true)->∃saw,eT f src=some saw
 |[],_=>⟨[],rfl⟩
 |x::r,h=>by
  obtain⟨l,hl⟩:=saw_exists (fun y hy=>h y (by simp[hy]):∀y∈r,_);obtain⟨t,ht⟩:=Option.isSome_iff_exists.1 (h x (by simp));exact⟨t::l,by rw[eT,ht,hl]⟩
def SolS(C:ByteArray->Int×ByteArray)(steps:List Stp)(F:List Fil):Prop:=∀s∈steps,∃saw t sw,eT F s.src=some saw/\aI F s.out=some t/\(cH s=true->nK C s saw=.ok (t,sw))
theorem run_solS{C:ByteArray->Int×ByteArray}{r:Rcp}{ck od nx:List Int}{out:List Dn}{F:List Fil}(hc:kL r.steps=false)(h:oF C r ck od nx=.ok (out,F)):SolS C r.steps F:=by
 obtain⟨h1,h2,h3⟩:=run_says hc h;intro s hs;obtain⟨i,hi,e⟩:=List.getElem_of_mem hs;obtain⟨d,hd,e2⟩:=h3 i hi;obtain⟨j,hj,s',e3,e4,saw,e5,e6⟩:=h2 d hd;have:j=i:=by have:=hj.symm.trans e2;omega
 subst this;rw[List.getElem?_eq_getElem hi,e] at e3;cases e3;exact⟨saw,d.out,d.saw,e5,e4,e6⟩
theorem writerOf_none{steps:List Stp}{x:ByteArray}(h:bR steps x=none):∀s∈steps,s.out≠x:=by
 unfold bR at h;rw[List.findIdx?_eq_none_iff] at h;intro s hs;simpa using h s hs
theorem writer_at{r:Rcp}(h:twice r=false){i:Nat}{s:Stp}(hs:r.steps[i]? =some s):bR r.steps s.out=some i/\kR r.inputs s.out=false:=by
 obtain⟨hi,e⟩:=List.getElem?_eq_some_iff.1 hs
 have key:nN r i s.out=false:=by
  rw[<-Bool.not_eq_true];intro hk;have:=(twice_iff r).2 ⟨i,s,hs,hk⟩;rw[h] at this;cases this
 unfold nN at key;rw[Bool.or_eq_false_iff] at key;refine⟨?_,key.2⟩;unfold bR;rw[List.findIdx?_eq_some_iff_getElem];refine⟨hi,by simp[e],fun j hj=>?_⟩
 have hn:bR (r.steps.take i) s.out=none:=by
  cases hw:bR (r.steps.take i) s.out with
  |none=>rfl
  |some k=>rw[hw] at key;cases key.1
 have:=writerOf_none hn r.steps[j] (by
  rw[List.mem_iff_getElem]
  exact⟨j,by rw[List.length_take];omega,by rw[List.getElem_take]⟩)
 simpa using this
theorem needs_mem{steps:List Stp}{i k:Nat}{s:Stp}{y:ByteArray}(hs:steps[i]? =some s)(hy:y∈s.src)(hw:bR steps y=some k):k∈bK steps i:=by
 unfold bK;rw[hs];show k∈fB steps s;unfold fB;rw[List.mem_filterMap];exact⟨y,hy,hw⟩
theorem agree{C:ByteArray->Int×ByteArray}{r r':Rcp}{F F':List Fil}(hc:kL r.steps=false)(S:ByteArray->Prop)
  (hin:∀x,S x->bR r.steps x=none->∃t,aI F x=some t/\aI F' x=some t)
  (hst:∀x i,S x->bR r.steps x=some i->∃s,r.steps[i]? =some s/\cH s=true/\s∈r'.steps/\(∀y∈s.src,S y))
  (hF:SolS C r.steps F) (hF':SolS C r'.steps F'):∀x,S x->∃t,aI F x=some t/\aI F' x=some t:=by
 obtain⟨rk,hr⟩:=circle_rank hc
 have key:∀n x,S x->(∀i,bR r.steps x=some i->rk i<n)->∃t,aI F x=some t/\aI F' x=some t:=by
  intro n
  induction n with
  |zero=>
   intro x hx hn
   cases hw:bR r.steps x with
   |none=>exact hin x hx hw
   |some i=>exact absurd (hn i hw) (by omega)
  |succ n ih=>
   intro x hx hn
   cases hw:bR r.steps x with
   |none=>exact hin x hx hw
   |some i=>
    have hi:=hn i hw;obtain⟨s,hs,hp,hm,hsrc⟩:=hst x i hx hw;obtain⟨s2,hs2,hox⟩:=kO hw;rw[hs] at hs2;cases hs2;obtain⟨saw,t,sw,a1,a2,a3⟩:=hF s (List.mem_of_getElem? hs);obtain⟨saw',t',sw',b1,b2,b3⟩:=hF' s hm
    have hsame:eT F' s.src=eT F s.src:=less_saw (fun y hy=>by
     obtain⟨u,e1,e2⟩:=ih y (hsrc y hy) (fun k hk=>by have:=hr i k (needs_mem hs hy hk);omega)
     rw[e1,e2])
    rw[a1,b1] at hsame;cases hsame;have e:=(a3 hp).symm.trans (b3 hp);simp only[Except.ok.injEq,Prod.mk.injEq] at e;rw[<-hox];exact⟨t,a2,by rw[b2,e.1]⟩
 intro x hx
 cases hw:bR r.steps x with
 |none=>exact hin x hx hw
 |some i=>exact key (rk i+1) x hx (fun j hj=>by rw[hw] at hj;cases hj;omega)
theorem grow_ok{needs:Nat->List Nat}{n:Nat}(hn:∀i k,k∈needs i->k<n):∀(f:Nat)(st:Nat->Bool)(i:Nat),i<n->dR st n<f->
  (∀j,st j=true->grow needs f st i j=true)/\grow needs f st i i=true/\∀j,grow needs f st i j=true->st j=true\/∀k∈needs j,grow needs f st i k=true
 |0,st,i,hi,hf=>absurd hf (by omega)
 |f+1,st,i,hi,hf=>by
  rw[grow];by_cases hs:st i=true
  ·rw[if_pos hs];exact⟨fun j h=>h,hs,fun j h=>.inl h⟩
  ·rw[if_neg hs];(have hs0:st i=false:=by simpa using hs);have hl:=gM hs0 n hi
   have key:∀(l:List Nat)(st1:Nat->Bool),(∀k∈l,k<n)->dR st1 n<f->
     (∀j,st1 j=true->l.foldl (grow needs f) st1 j=true)/\(∀k∈l,l.foldl (grow needs f) st1 k=true)/\∀j,l.foldl (grow needs f) st1 j=true->st1 j=true\/∀k∈needs j,l.foldl (grow needs f) st1 k=true:=by
    intro l
    induction l with
    |nil=>intro st1 _ _;exact⟨fun j h=>h,fun k hk=>by simp at hk,fun j h=>.inl h⟩
    |cons x l ih=>
     intro st1 hx hf1;obtain⟨g1,g2,g3⟩:=grow_ok hn f st1 x (hx x (by simp)) hf1
     have hmono:dR (grow needs f st1 x) n<=dR st1 n:=by
      have:∀m,dR (grow needs f st1 x) m<=dR st1 m:=by
       intro m
       induction m with
       |zero=>exact Nat.le_refl _
       |succ m ihm=>
        rw[dR,dR]
        cases h:st1 m with
        |true=>rw[g1 m h];simpa using ihm
        |false=>simp only[Bool.false_eq_true,if_false];split<;>omega
      exact this n
     obtain⟨i1,i2,i3⟩:=ih (grow needs f st1 x) (fun k hk=>hx k (by simp[hk])) (by omega);rw[List.foldl_cons];refine⟨fun j h=>i1 j (g1 j h),fun k hk=>?_,fun j h=>?_⟩
     ·rcases List.mem_cons.1 hk with rfl|hk
      ·exact i1 _ g2
      ·exact i2 k hk
     ·rcases i3 j h with h1|h1
      ·rcases g3 j h1 with h2|h2
       ·exact .inl h2
       ·exact .inr (fun k hk=>i1 k (h2 k hk))
      ·exact .inr h1
   obtain⟨k1,k2,k3⟩:=key (needs i) (kM st i) (fun k hk=>hn i k hk) (by omega);refine⟨fun j h=>k1 j (by unfold kM;split<;>first|rfl|exact h),k1 i (by simp[kM]),fun j h=>?_⟩;rcases k3 j h with h1|h1
   ·by_cases e:j=i
    ·subst e;exact .inr k2
    ·simp only[kM,if_neg e] at h1;exact .inl h1
   ·exact .inr h1
theorem slice_closed(r:Rcp):(∀i,bR r.steps r.output=some i->jN r i=true)/\∀i,jN r i=true->∀k∈bK r.steps i,jN r k=true:=by
 unfold jN
 cases hw:bR r.steps r.output with
 |none=>exact⟨fun i h=>(by cases h),fun i h=>(by cases h)⟩
 |some e=>
  obtain⟨s,hs,-⟩:=kO hw;obtain⟨g1,g2,g3⟩:=grow_ok (n:=r.steps.length) (fun i k hk=>oO hk) (r.steps.length+1) (fun _=>false) e (List.getElem?_eq_some_iff.1 hs).1 (by rw[lC];omega);refine⟨fun i h=>by cases h;exact g2,fun i h=>?_⟩;rcases g3 i h with h1|h1
  ·cases h1
  ·exact h1
def Wanted(r:Rcp)(x:ByteArray):Prop:=x=r.output\/∃i s,jN r i=true/\r.steps[i]? =some s/\x∈s.src
theorem wanted_step{r:Rcp}{x:ByteArray}{i:Nat}(h:Wanted r x)(hw:bR r.steps x=some i):jN r i=true/\i<r.steps.length:=by
 obtain⟨s,hs,-⟩:=kO hw;refine⟨?_,(List.getElem?_eq_some_iff.1 hs).1⟩;rcases h with rfl|⟨j,s,h1,h2,h3⟩
 ·exact(slice_closed r).1 i hw
 ·exact(slice_closed r).2 j h1 i (needs_mem h2 h3 hw)
theorem mem_sliceAll{r:Rcp}{i:Nat}:i∈oE r↔i<r.steps.length/\jN r i=true:=by
 unfold oE;rw[List.mem_filter,List.mem_range]
theorem pureL_ok{r:Rcp}(h:pureL r=true):mH r/\eG r=oE r/\∀i s,jN r i=true->r.steps[i]? =some s->cH s=true:=by
 unfold pureL at h;rw[Bool.and_eq_true,decide_eq_true_eq,Bool.not_eq_true'] at h;obtain⟨h0,h1⟩:=h;have hl:eG r=oE r:=by unfold eG;rw[if_neg (by omega)]
 refine⟨mY h0,hl,fun i s hi hs=>?_⟩;rw[hl] at h1;have:=List.any_eq_false.1 h1 i (mem_sliceAll.2 ⟨(List.getElem?_eq_some_iff.1 hs).1,hi⟩);rw[hs] at this;simpa using this
theorem find_input{l:List Fil}{x t:ByteArray}(h:aI l x=some t):kR l x=true:=by
 unfold aI at h;unfold kR
 cases hfi:l.find? (fun f=>decide (f.name=x)) with
 |none=>rw[hfi] at h;cases h
 |some g=>
  have hp:=List.find?_some hfi;exact List.any_eq_true.2 ⟨g,List.mem_of_find?_eq_some hfi,hp⟩
theorem wanted_known{r:Rcp}(h:mH r){x:ByteArray}(hx:Wanted r x):aO r x=true:=by
 rcases hx with rfl|⟨i,s,-,hs,hx⟩
 ·exact h.out
 ·exact h.srcs s (List.mem_of_getElem? hs) x hx
theorem runL_of{C:ByteArray->Int×ByteArray}{r:Rcp}{ck od nx:List Int}{a:List Dn}{F:List Fil}(h0:mH r)(h:oF C r ck od nx=.ok (a,F)):pR C r ck od nx=.ok (a,(aI F r.output).getD ByteArray.empty):=by
 unfold pR;rw[if_neg (by simp[inspectE_of h0]),h]
def dnFind(l:List Dn)(i:Int):Option Dn:=l.find? fun d=>decide (d.step=i)
theorem dnFind_ok{C:ByteArray->Int×ByteArray}{r:Rcp}{F:List Fil}{out:List Dn}(h2:∀d∈out,∃i,DnSays C r.steps F d i)(h3:∀i,i<r.steps.length->∃d∈out,d.step=(i:Int)){i:Nat}(hi:i<r.steps.length):
  ∃d,dnFind out (i:Int)=some d/\DnSays C r.steps F d i:=by
 obtain⟨d,hd,e⟩:=h3 i hi;unfold dnFind
 cases hf:out.find? (fun d=>decide (d.step=(i:Int))) with
 |none=>exact absurd (by simpa using e) (List.find?_eq_none.1 hf d hd)
 |some x=>
  obtain⟨j,hj⟩:=h2 x (List.mem_of_find?_eq_some hf);have he:x.step=(i:Int):=by simpa using List.find?_some hf
  have:j=i:=by have:=hj.idx.symm.trans he;omega
  subst this;exact⟨x,rfl,hj⟩
theorem same_law{C:ByteArray->Int×ByteArray}{r:Rcp}{ck od nx ck2 od2 nx2:List Int}{a b:List Dn}{s t:ByteArray}(hp:pureL r=true)(ha:pR C r ck od nx=.ok (a,s))(hb:pR C r ck2 od2 nx2=.ok (b,t)):
  s=t/\∀i∈eG r,∃x y,dnFind a (i:Int)=some x/\dnFind b (i:Int)=some y/\x.step=y.step/\x.saw=y.saw/\x.out=y.out:=by
 obtain⟨hR,hl,hpure⟩:=pureL_ok hp;obtain⟨-,F,hF,rfl⟩:=runL_ok ha;obtain⟨-,F',hF',rfl⟩:=runL_ok hb;obtain⟨f1,f2,f3⟩:=run_says hR.circ hF;obtain⟨g1,g2,g3⟩:=run_says hR.circ hF'
 have key:∀x,Wanted r x->∃t,aI F x=some t/\aI F' x=some t:=by
  refine agree (r':=r) hR.circ (Wanted r) (fun x hx hw=>?_) (fun x i hx hw=>?_) (run_solS hR.circ hF) (run_solS hR.circ hF')
  ·obtain⟨t,ht⟩:=known_input (wanted_known hR hx) hw;exact⟨t,f1 x t ht,g1 x t ht⟩
  ·obtain⟨h1,h2⟩:=wanted_step hx hw;exact⟨r.steps[i],List.getElem?_eq_getElem h2,hpure i _ h1 (List.getElem?_eq_getElem h2),List.getElem_mem h2,fun y hy=>.inr ⟨i,_,h1,List.getElem?_eq_getElem h2,hy⟩⟩
 refine⟨?_,fun i hi=>?_⟩
 ·obtain⟨u,e1,e2⟩:=key r.output (.inl rfl);rw[e1,e2]
 ·rw[hl,mem_sliceAll] at hi;obtain⟨x,hx,ix,sx,x1,x2,sawx,x3,x4⟩:=dnFind_ok f2 f3 hi.1;obtain⟨y,hy,iy,sy,y1,y2,sawy,y3,y4⟩:=dnFind_ok g2 g3 hi.1;rw[x1] at y1;cases y1;have hps:=hpure i sx hi.2 x1
  have hsame:eT F' sx.src=eT F sx.src:=less_saw (fun n hn=>by
   obtain⟨u,e1,e2⟩:=key n (.inr ⟨i,sx,hi.2,x1,hn⟩)
   rw[e1,e2])
  rw[x3,y3] at hsame;cases hsame;have e:=(x4 hps).symm.trans (y4 hps);simp only[Except.ok.injEq,Prod.mk.injEq] at e;exact⟨x,y,hx,hy,ix.trans iy.symm,e.2,e.1⟩
structure RunOk (r:Rcp) (F:List Fil) (done:Nat->Bool) (files:List Fil):Prop where
 keeps:qV files F
 right:aR files=true
 len:files.length+dR done r.steps.length=r.inputs.length+r.steps.length
 has:∀x,(aI files x).isSome=true↔(kR r.inputs x=true\/∃i s,done i=true/\r.steps[i]? =some s/\s.out=x)
theorem RunOk.first{r:Rcp}(h:mH r){F:List Fil}(hk:qV r.inputs F):RunOk r F (fun _=>false) r.inputs:=by
 refine⟨hk,h.files,by rw[lC],fun x=>⟨fun hx=>?_,fun hx=>?_⟩⟩
 ·obtain⟨t,ht⟩:=Option.isSome_iff_exists.1 hx;exact .inl (find_input ht)
 ·rcases hx with hx|⟨i,s,h1,-⟩
  ·obtain⟨t,ht⟩:=input_find hx;rw[ht];rfl
  ·cases h1
theorem run_never_fails{C:ByteArray->Int×ByteArray}{r:Rcp}{F:List Fil}{ck od nx:List Int}(h:mH r)(hall:∀s∈r.steps,cH s=true)(hF:SolS C r.steps F):
  ∀(f:Nat)(done:Nat->Bool)(out:List Dn)(files:List Fil)(u0 u1:Int),RunOk r F done files->¬min u0 u1<0->∃p,gS C r.steps ck od nx f done out files u0 u1=.ok p
 |0,_,_,_,_,_,_,_=>⟨_,rfl⟩
 |f+1,done,out,files,u0,u1,hI,hu=>by
  rw[gS];split
  ·exact⟨_,rfl⟩
  ·rename_i he;have hne:bG r.steps done≠[]:=fun e=>he (by rw[e];rfl);obtain⟨h1,h2,h3⟩:=lJ (choose_mem nx out.length hne);generalize eC (bG r.steps done) nx out.length=i at h1 h2 h3 ⊢;have hs:=List.getElem?_eq_getElem h1;have hm:=List.getElem_mem h1;rw[hs];simp only;generalize r.steps[i]=s at hs hm;obtain⟨w1,w2⟩:=writer_at h.once hs
   have hnone:aI files s.out=none:=by
    cases hf:aI files s.out with
    |none=>rfl
    |some t=>
     rcases(hI.has s.out).1 (by rw[hf];rfl) with hx|⟨j,s',j1,j2,j3⟩
     ·rw[w2] at hx;cases hx
     ·have:=(writer_at h.once j2).1;rw[j3,w1] at this;cases this;rw[h2] at j1;cases j1
   obtain⟨saw,hsaw⟩:=saw_exists (f:=files) (src:=s.src) (fun y hy=>by
    have hk:=h.srcs s hm y hy;rw[hI.has]
    cases hw:bR r.steps y with
    |none=>obtain⟨t,ht⟩:=known_input hk hw;exact .inl (find_input ht)
    |some k=>
     obtain⟨s',k1,k2⟩:=kO hw
     exact .inr ⟨k,s',h3 k (needs_mem hs hy hw),k1,k2⟩)
   obtain⟨saw',t,sw,a1,a2,a3⟩:=hF s hm;rw[saw_keeps hI.keeps hsaw] at a1;cases a1;have hl:=leftN_pos h1 h2;have hal:=gM h2 _ h1;have hlen:=hI.len;have hroom:=h.room;rw[do_pure (hall s hm) hI.right hu hnone (by omega) hsaw (a3 (hall s hm)) ck od];simp only;refine run_never_fails h hall hF f _ _ _ _ _ ⟨fun x u hx=>?_,?_,?_,fun x=>?_⟩ hu
   ·unfold cG at hx;rw[find_more] at hx
    cases hfx:aI files x with
    |some u'=>rw[hfx] at hx;cases hx;exact hI.keeps x _ hfx
    |none=>
     rw[hfx] at hx;simp only at hx;split at hx
     ·rename_i e;cases hx;rw[<-e];exact a2
     ·cases hx
   ·obtain⟨⟨r1,r2⟩,r3⟩:=(fM files).1 hI.right;refine(fM _).2 ⟨⟨?_,fun g hg=>?_⟩,?_⟩
    ·unfold cG;rw[List.map_append,List.nodup_append];refine⟨r1,by simp,fun x hx y hy=>?_⟩;simp at hy;subst hy;intro e;subst e;obtain⟨g,hg,e⟩:=List.mem_map.1 hx;have:aI files s.out=some g.text:=(find_iff r1 s.out g.text).2 ⟨g,hg,e,rfl⟩;rw[hnone] at this;cases this
    ·unfold cG at hg;rcases List.mem_append.1 hg with hg|hg
     ·exact r2 g hg
     ·simp at hg;subst hg;refine⟨?_,pureRes_size (a3 (hall s hm))⟩;have hsr:=h.steps s hm;unfold aP at hsr;split at hsr
      ·cases hsr
      ·rename_i hh;simp only[Bool.or_eq_true,Bool.not_eq_true',not_or,Bool.not_eq_false] at hh;exact hh.1
    ·unfold cG;rw[List.length_append,List.length_singleton];omega
   ·unfold cG;rw[List.length_append,List.length_singleton];omega
   ·unfold cG;rw[find_more];constructor
    ·intro hx
     cases hfx:aI files x with
     |some u'=>
      rcases(hI.has x).1 (by rw[hfx];rfl) with hx|⟨j,s',j1,j2,j3⟩
      ·exact .inl hx
      ·exact .inr ⟨j,s',by simp[kM,j1],j2,j3⟩
     |none=>
      rw[hfx] at hx;simp only at hx;split at hx
      ·rename_i e;exact .inr ⟨i,s,by simp[kM],hs,e⟩
      ·cases hx
    ·intro hx
     cases hfx:aI files x with
     |some u'=>rfl
     |none=>
      simp only;rcases hx with hx|⟨j,s',j1,j2,j3⟩
      ·have:=(hI.has x).2 (.inl hx);rw[hfx] at this;cases this
      ·by_cases e:j=i
       ·subst e;rw[hs] at j2;cases j2;rw[if_pos j3];rfl
       ·simp only[kM,if_neg e] at j1;have:=(hI.has x).2 (.inr ⟨j,s',j1,j2,j3⟩);rw[hfx] at this;cases this
theorem all_law{C:ByteArray->Int×ByteArray}{r r':Rcp}{ck od nx ck2 od2 nx2:List Int}{p:List Dn×ByteArray}(hall:∀s∈r.steps,cH s=true)(ha:pR C r ck od nx=.ok p)(h':mH r')(hinp:r'.inputs=r.inputs)(hsub:∀s∈r'.steps,s∈r.steps):
  ∃q,pR C r' ck2 od2 nx2=.ok q:=by
 obtain⟨a,s⟩:=p;obtain⟨hR,F,hF,-⟩:=runL_ok ha;obtain⟨f1,-,-⟩:=run_says hR.circ hF;have hS:=run_solS hR.circ hF;obtain⟨⟨b,F'⟩,hq⟩:=run_never_fails (C:=C) (ck:=ck2) (od:=od2) (nx:=nx2) h' (fun s hs=>hall s (hsub s hs)) (fun s hs=>hS s (hsub s hs)) (r'.steps.length+1) (fun _=>false) [] r'.inputs 0 0 (RunOk.first h' (by rw[hinp];exact f1)) (by decide);exact⟨_,runL_of h' hq⟩
end Go.Proofs.YtacgopankhpnbaaGreatDoor
