/- Texts of this seat, joined. -/
import Derived.Test.YtacgopankhpnbaaGreatDoorSD
set_option linter.unusedVariables false
set_option linter.unusedSimpArgs false
namespace Go.Proofs.YtacgopankhpnbaaGreatDoor
theorem doStep_cases(C:ByteArray->Int×ByteArray)(s:Stp)(files:List Fil)(u0 u1:Int):
  (∃c,c≠0/\∀ck od,cW C s files ck od u0 u1=.error c)\/
  (∃saw,aM s=true/\aR files=true/\fC files s.src=some saw/\((s.kind=5/\∀ck od,cW C s files ck od u0 u1=.ok ((C (saw.headD ByteArray.empty)).2,saw,u0,u1))\/
   (s.kind≠5/\∀ck od,cW C s files ck od u0 u1=if 65536<(bG s saw ck od u0 u1).1.size then .error 6 else .ok (bG s saw ck od u0 u1)))):=by
 by_cases hb:(!aM s|| !aR files||decide (min u0 u1<0))=true
 ·exact .inl ⟨1,by decide,fun ck od=>by unfold cW;rw[if_pos hb]⟩
 ·have hr:aM s=true/\aR files=true:=by
   simp only[Bool.or_eq_true,Bool.not_eq_true',not_or,Bool.not_eq_false] at hb;exact hb.1
  by_cases hf:(aJ files s.out).isSome=true
  ·exact .inl ⟨5,by decide,fun ck od=>by unfold cW;rw[if_neg hb,if_pos hf]⟩
  ·by_cases AL:60<=files.length
   ·exact .inl ⟨6,by decide,fun ck od=>by unfold cW;rw[if_neg hb,if_neg hf,if_pos AL]⟩
   ·cases hs:fC files s.src with
    |none=>exact .inl ⟨4,by decide,fun ck od=>by unfold cW;rw[if_neg hb,if_neg hf,if_neg AL,hs]⟩
    |some saw=>
     by_cases h5:s.kind=5
     ·by_cases he:(C (saw.headD ByteArray.empty)).1≠0
      ·exact .inl ⟨_,he,fun ck od=>by unfold cW;rw[if_neg hb,if_neg hf,if_neg AL,hs];simp only;rw[if_pos h5,if_pos he]⟩
      ·by_cases hz:65536<(C (saw.headD ByteArray.empty)).2.size
       ·exact .inl ⟨6,by decide,fun ck od=>by unfold cW;rw[if_neg hb,if_neg hf,if_neg AL,hs];simp only;rw[if_pos h5,if_neg he,if_pos hz]⟩
       ·exact .inr ⟨saw,hr.1,hr.2,rfl,.inl ⟨h5,fun ck od=>by unfold cW;rw[if_neg hb,if_neg hf,if_neg AL,hs];simp only;rw[if_pos h5,if_neg he,if_neg hz]⟩⟩
     ·exact .inr ⟨saw,hr.1,hr.2,rfl,.inr ⟨h5,fun ck od=>by unfold cW;rw[if_neg hb,if_neg hf,if_neg AL,hs];simp only;rw[if_neg h5]⟩⟩
theorem right_kinds{s:Stp}(h:aM s=true):s.kind=0\/s.kind=1\/s.kind=2\/s.kind=3\/s.kind=4\/s.kind=5:=by
 unfold aM at h;split at h
 ·cases h
 ·split at h
  ·omega
  ·split at h
   ·omega
   ·split at h
    ·omega
    ·cases h
theorem rightFrom_iff:∀(l:List Fil)(aI:List ByteArray),dC l aI=true↔(l.map (·.name)).Nodup/\∀f∈l,f.name∉aI/\eJ f.name=true/\f.text.size<=65536
 |[],aI=>by simp[dC]
 |f::r,aI=>by
  rw[dC];have ih:=rightFrom_iff r (f.name::aI);split
  ·rename_i h;simp only[Bool.or_eq_true,List.any_eq_true,decide_eq_true_eq,Bool.not_eq_true'] at h;refine⟨fun h=>(by cases h),fun hh=>?_⟩;have h2:=hh.2;obtain⟨h3,h4,h5⟩:=h2 f (by simp);rcases h with(⟨x,hx,e⟩|h)|h
   ·subst e;exact absurd hx h3
   ·rw[h] at h4;cases h4
   ·omega
  ·rename_i h;simp only[Bool.or_eq_true,List.any_eq_true,decide_eq_true_eq,Bool.not_eq_true',not_or,not_exists,not_and,Bool.not_eq_false] at h;obtain⟨⟨h1,h2⟩,h3⟩:=h;rw[ih];simp only[List.map_cons,List.nodup_cons,List.mem_map,not_exists,not_and,List.mem_cons,forall_eq_or_imp,not_or];constructor
   ·rintro⟨hn,ha⟩;refine⟨⟨fun x hx e=>(ha x hx).1.1 e,hn⟩,⟨fun hk=>h1 _ hk rfl,h2,by omega⟩,fun x hx=>⟨(ha x hx).1.2,(ha x hx).2⟩⟩
   ·rintro⟨⟨hx,hn⟩,-,ha⟩;exact⟨hn,fun x K9=>⟨⟨hx x K9,(ha x K9).1⟩,(ha x K9).2⟩⟩
theorem rightFiles_iff(l:List Fil):aR l=true↔((l.map (·.name)).Nodup/\∀f∈l,eJ f.name=true/\f.text.size<=65536)/\l.length<=60:=by
 unfold aR;rw[Bool.and_eq_true,rightFrom_iff,decide_eq_true_eq];simp
theorem find_iff{l:List Fil}(hn:(l.map (·.name)).Nodup)(x t:ByteArray):aJ l x=some t↔∃f∈l,f.name=x/\f.text=t:=by
 unfold aJ
 induction l with
 |nil=>simp
 |cons g l ih=>
  simp only[List.map_cons,List.nodup_cons] at hn;rw[List.find?_cons];by_cases hg:g.name=x
  ·rw[show decide (g.name=x)=true from decide_eq_true hg];simp only[Option.map_some,Option.some.injEq];constructor
   ·intro e;exact⟨g,by simp,hg,e⟩
   ·rintro⟨f,hf,DG,e⟩;rcases List.mem_cons.1 hf with rfl|hf
    ·exact e
    ·exact absurd (List.mem_map.2 ⟨f,hf,DG.trans hg.symm⟩) hn.1
  ·rw[show decide (g.name=x)=false from decide_eq_false hg];simp only;rw[ih hn.2];constructor
   ·rintro⟨f,hf,h⟩;exact⟨f,by simp[hf],h⟩
   ·rintro⟨f,hf,h⟩;rcases List.mem_cons.1 hf with rfl|hf
    ·exact absurd h.1 hg
    ·exact⟨f,hf,h⟩
theorem less_saw{files l2:List Fil}:∀{src:List ByteArray},(∀x∈src,aJ l2 x=aJ files x)->fC l2 src=fC files src
 |[],_=>rfl
 |x::r,h=>by
  rw[fC,fC,h x (by simp),less_saw (fun y hy=>h y (by simp[hy]))]
theorem YC{p:Prop}(h:p:=by omega):p:=h
def mI(C:ByteArray->Int×ByteArray)(s:Stp)(saw:List ByteArray):Except Int (ByteArray×List ByteArray):=
 if s.kind=5 then
  if(C (saw.headD ByteArray.empty)).1≠0 then .error (C (saw.headD ByteArray.empty)).1
  else if 65536<(C (saw.headD ByteArray.empty)).2.size then .error 6
  else .ok ((C (saw.headD ByteArray.empty)).2,saw)
 else if 65536<(bG s saw [] [] 0 0).1.size then .error 6
 else .ok ((bG s saw [] [] 0 0).1,(bG s saw [] [] 0 0).2.1)
theorem write_pure2{s:Stp}(h:cX s=true)(h5:s.kind≠5)(saw:List ByteArray)(ck od:List Int)(u0 u1:Int):
  bG s saw ck od u0 u1=((bG s saw [] [] 0 0).1,(bG s saw [] [] 0 0).2.1,u0,u1):=by
 unfold cX at h;simp only[Bool.and_eq_true,Bool.or_eq_true,decide_eq_true_eq] at h;obtain⟨⟨h1,h4⟩,h2⟩:=h;have hk:=right_kinds h1;unfold bG;by_cases e01:s.kind=0\/s.kind=1
 ·simp only[if_pos e01]
 ·by_cases e3:s.kind=3
  ·simp only[if_neg e01,if_pos e3]
  ·have e2:s.kind=2:=YC
   have hs:s.sorted=true:=by
    rcases h2 with h2|h2
    ·exact absurd e2 h2
    ·exact h2
   simp only[if_neg e01,if_neg e3,if_neg h4,hs,if_true]
theorem do_parts{C:ByteArray->Int×ByteArray}{s:Stp}{files:List Fil}{ck od:List Int}{u0 u1:Int}{t:ByteArray}{sw:List ByteArray}{a b:Int}(h:cW C s files ck od u0 u1=.ok (t,sw,a,b)):
  aM s=true/\aR files=true/\¬min u0 u1<0/\aJ files s.out=none/\files.length<60/\t.size<=65536/\∃saw,fC files s.src=some saw/\(cX s=true->mI C s saw=.ok (t,sw)/\a=u0/\b=u1):=by
 unfold cW at h;split at h
 ·cases h
 rename_i hb;simp only[Bool.or_eq_true,Bool.not_eq_true',not_or,Bool.not_eq_false,decide_eq_true_eq] at hb;split at h
 ·cases h
 rename_i hf;split at h
 ·cases h
 rename_i AL
 have hf0:aJ files s.out=none:=by
  cases e:aJ files s.out with
  |none=>rfl
  |some t=>rw[e] at hf;exact absurd rfl hf
 cases hs:fC files s.src with
 |none=>rw[hs] at h;cases h
 |some saw=>
  rw[hs] at h;simp only at h;by_cases h5:s.kind=5
  ·rw[if_pos h5] at h;by_cases he:(C (saw.headD ByteArray.empty)).1≠0
   ·rw[if_pos he] at h;cases h
   ·rw[if_neg he] at h;by_cases hz:65536<(C (saw.headD ByteArray.empty)).2.size
    ·rw[if_pos hz] at h;cases h
    ·rw[if_neg hz] at h;cases h;exact⟨hb.1.1,hb.1.2,hb.2,hf0,YC,YC,sw,rfl,fun _=>⟨by unfold mI;rw[if_pos h5,if_neg he,if_neg hz],rfl,rfl⟩⟩
  ·rw[if_neg h5] at h;by_cases hz:65536<(bG s saw ck od u0 u1).1.size
   ·rw[if_pos hz] at h;cases h
   ·rw[if_neg hz] at h;have h:=Except.ok.inj h;refine⟨hb.1.1,hb.1.2,hb.2,hf0,YC,by rw[h] at hz;simpa using hz,saw,rfl,fun hp=>?_⟩;have e:=write_pure2 hp h5 saw ck od u0 u1;rw[h] at e;simp only[Prod.mk.injEq] at e;obtain⟨e1,e2,e3,e4⟩:=e;refine⟨?_,e3,e4⟩;unfold mI;rw[h] at hz;rw[if_neg h5,<-e1,<-e2,if_neg hz]
theorem do_pure{C:ByteArray->Int×ByteArray}{s:Stp}{files:List Fil}{u0 u1:Int}{saw:List ByteArray}(h:cX s=true)(hf:aR files=true)(hu:¬min u0 u1<0)(hn:aJ files s.out=none)(hl:files.length<60)(hs:fC files s.src=some saw)
  {t:ByteArray} {sw:List ByteArray} (hr:mI C s saw=.ok (t,sw)) (ck od:List Int):cW C s files ck od u0 u1=.ok (t,sw,u0,u1):=by
 have h1:aM s=true:=by unfold cX at h;simp only[Bool.and_eq_true] at h;exact h.1.1
 unfold cW;rw[if_neg (by simp only[h1,hf,Bool.not_true,Bool.or_self,Bool.false_or,decide_eq_true_eq];exact hu),if_neg (by rw[hn];decide),if_neg YC,hs];simp only;unfold mI at hr;by_cases h5:s.kind=5
 ·rw[if_pos h5] at hr ⊢;by_cases he:(C (saw.headD ByteArray.empty)).1≠0
  ·rw[if_pos he] at hr;cases hr
  ·rw[if_neg he] at hr ⊢;by_cases hz:65536<(C (saw.headD ByteArray.empty)).2.size
   ·rw[if_pos hz] at hr;cases hr
   ·rw[if_neg hz] at hr ⊢;cases hr;rfl
 ·rw[if_neg h5] at hr ⊢;rw[write_pure2 h h5 saw ck od u0 u1];by_cases hz:65536<(bG s saw [] [] 0 0).1.size
  ·rw[if_pos hz] at hr;cases hr
  ·rw[if_neg hz] at hr;simp only[if_neg hz];cases hr;rfl
theorem pureRes_size{C:ByteArray->Int×ByteArray}{s:Stp}{saw:List ByteArray}{t:ByteArray}{sw:List ByteArray}(hr:mI C s saw=.ok (t,sw)):t.size<=65536:=by
 unfold mI at hr;split at hr
 ·split at hr
  ·cases hr
  ·split at hr
   ·cases hr
   ·cases hr;omega
 ·split at hr
  ·cases hr
  ·cases hr;omega
def pN(f g:List Fil):Prop:=∀x t,aJ f x=some t->aJ g x=some t
theorem pN.refl(f:List Fil):pN f f:=fun _ _ h=>h
theorem pN.trans{f g h:List Fil}(h1:pN f g)(h2:pN g h):pN f h:=fun x t e=>h2 x t (h1 x t e)
theorem find_more(l:List Fil)(o t x:ByteArray):aJ (l++[⟨o,t⟩]) x=match aJ l x with
  |some u=>some u
  |none=>if o=x then some t else none:=by
 unfold aJ;rw[List.find?_append]
 cases l.find? (fun f=>decide (f.name=x)) with
 |some f=>rfl
 |none=>
  simp only[Option.none_or,List.find?_cons,List.find?_nil,Option.map_none];by_cases e:o=x
  ·rw[decide_eq_true e,if_pos e];rfl
  ·rw[decide_eq_false e,if_neg e];rfl
theorem keeps_do(s:Stp)(files:List Fil)(t:ByteArray):pN files (eK s files t):=fun x u h=>by
 unfold eK;rw[find_more,h]
theorem find_do{s:Stp}{files:List Fil}{t:ByteArray}(h:aJ files s.out=none):aJ (eK s files t) s.out=some t:=by
 unfold eK;rw[find_more,h];simp
theorem saw_keeps{f g:List Fil}(h:pN f g):∀{src saw:List ByteArray},fC f src=some saw->fC g src=some saw
 |[],_,e=>e
 |x::r,saw,e=>by
  rw[fC] at e ⊢;split at e
  ·rename_i t l ht hl;rw[h x t ht,saw_keeps h hl];exact e
  ·cases e
theorem saw_exists{f:List Fil}:∀{src:List ByteArray},(∀x∈src,(aJ f x).isSome=true)->∃saw,fC f src=some saw
 |[],_=>⟨[],rfl⟩
 |x::r,h=>by
  obtain⟨l,hl⟩:=saw_exists (fun y hy=>h y (by simp[hy]):∀y∈r,_);obtain⟨t,ht⟩:=Option.isSome_iff_exists.1 (h x (by simp));exact⟨t::l,by rw[fC,ht,hl]⟩
structure DnSays (C:ByteArray->Int×ByteArray) (steps:List Stp) (F:List Fil) (d:Dn) (i:Nat):Prop where
 idx:d.step=(i:Int)
 says:∃s,steps[i]? =some s/\aJ F s.out=some d.out/\∃saw,fC F s.src=some saw/\(cX s=true->mI C s saw=.ok (d.out,d.saw))
theorem run_sol{C:ByteArray->Int×ByteArray}{steps:List Stp}{ck od nx:List Int}(hc:kG steps=false):∀(f:Nat)(done:Nat->Bool)(out:List Dn)(files:List Fil)(u0 u1:Int)(out':List Dn)(F:List Fil),
  dF done steps.length<f->jM C steps ck od nx f done out files u0 u1=.ok (out',F)->
  pN files F/\∃more,out'=out++more/\(∀d∈more,∃i,DnSays C steps F d i)/\∀i,i<steps.length->done i=false->∃d∈more,d.step=(i:Int)
 |0,_,_,_,_,_,_,_,hf,_=>absurd hf YC
 |f+1,done,out,files,u0,u1,out',F,hf,h=>by
  rw[jM] at h;split at h
  ·rename_i he;cases h;refine⟨pN.refl _,[],by simp,fun d hd=>by simp at hd,fun i hi hd=>?_⟩;exact absurd (List.isEmpty_iff.1 he) (ready_some hc done hi hd)
  ·rename_i he;have pQ:bC steps done≠[]:=fun e=>he (by rw[e];rfl);obtain⟨h1,h2,-⟩:=oW (choose_mem nx out.length pQ);generalize eG (bC steps done) nx out.length=i at h h1 h2;rw[List.getElem?_eq_getElem h1] at h;simp only at h
   cases hd:cW C steps[i] files ck od u0 u1 with
   |error e=>rw[hd] at h;cases h
   |ok p=>
    obtain⟨t,sw,a,b⟩:=p;rw[hd] at h;simp only at h;have hl:=gL h2 _ h1;obtain⟨k1,more,e,k2,k3⟩:=run_sol hc f _ _ _ _ _ _ _ YC h;obtain⟨d1,d2,d3,d4,d5,d6,saw,d7,d8⟩:=do_parts hd;refine⟨(keeps_do _ _ t).trans k1,⟨i,sw,t⟩::more,by rw[e];simp,fun d hd=>?_,fun j hj hjd=>?_⟩
    ·rcases List.mem_cons.1 hd with rfl|hd
     ·exact⟨i,rfl,steps[i],List.getElem?_eq_getElem h1,k1 _ _ (find_do d4),saw,saw_keeps ((keeps_do _ _ t).trans k1) d7,fun hp=>(d8 hp).1⟩
     ·exact k2 d hd
    ·by_cases e:j=i
     ·subst e;exact⟨_,List.mem_cons_self ..,rfl⟩
     ·obtain⟨d,hd,e2⟩:=k3 j hj (by simp[jI,e,hjd]);exact⟨d,by simp[hd],e2⟩
theorem leftN_none(n:Nat):dF (fun _=>false) n=n:=by
 induction n with
 |zero=>rfl
 |succ n ih=>rw[dF,ih];simp
theorem oS{C:ByteArray->Int×ByteArray}{r:Rcp}{ck od nx:List Int}{out:List Dn}{F:List Fil}(hc:kG r.steps=false)(h:runAll C r ck od nx=.ok (out,F)):
  pN r.inputs F/\(∀d∈out,∃i,DnSays C r.steps F d i)/\∀i,i<r.steps.length->∃d∈out,d.step=(i:Int):=by
 obtain⟨h1,more,e,h2,h3⟩:=run_sol hc _ _ _ _ _ _ _ _ (by rw[leftN_none];omega) h;rw[List.nil_append] at e;subst e;exact⟨h1,h2,fun i hi=>h3 i hi rfl⟩
def SolS(C:ByteArray->Int×ByteArray)(steps:List Stp)(F:List Fil):Prop:=∀s∈steps,∃saw t sw,fC F s.src=some saw/\aJ F s.out=some t/\(cX s=true->mI C s saw=.ok (t,sw))
theorem run_solS{C:ByteArray->Int×ByteArray}{r:Rcp}{ck od nx:List Int}{out:List Dn}{F:List Fil}(hc:kG r.steps=false)(h:runAll C r ck od nx=.ok (out,F)):SolS C r.steps F:=by
 obtain⟨h1,h2,h3⟩:=oS hc h;intro s hs;obtain⟨i,hi,e⟩:=List.getElem_of_mem hs;obtain⟨d,hd,e2⟩:=h3 i hi;obtain⟨j,hj,s',e3,e4,saw,e5,e6⟩:=h2 d hd;have:j=i:=by have:=hj.symm.trans e2;omega
 subst this;rw[List.getElem?_eq_getElem hi,e] at e3;cases e3;exact⟨saw,d.out,d.saw,e5,e4,e6⟩
theorem iQ{steps:List Stp}{x:ByteArray}{i:Nat}(h:bF steps x=some i):∃s,steps[i]? =some s/\s.out=x:=by
 unfold bF at h;rw[List.findIdx?_eq_some_iff_getElem] at h;obtain⟨h1,h2,-⟩:=h;exact⟨steps[i],List.getElem?_eq_getElem h1,by simpa using h2⟩
theorem writerOf_none{steps:List Stp}{x:ByteArray}(h:bF steps x=none):∀s∈steps,s.out≠x:=by
 unfold bF at h;rw[List.findIdx?_eq_none_iff] at h;intro s hs;simpa using h s hs
theorem lG{r:Rcp}(h:nS r=false){i:Nat}{s:Stp}(hs:r.steps[i]? =some s):bF r.steps s.out=some i/\jQ r.inputs s.out=false:=by
 obtain⟨hi,e⟩:=List.getElem?_eq_some_iff.1 hs
 have key:lR r i s.out=false:=by
  rw[<-Bool.not_eq_true];intro hk;have:=(twice_iff r).2 ⟨i,s,hs,hk⟩;rw[h] at this;cases this
 unfold lR at key;rw[Bool.or_eq_false_iff] at key;refine⟨?_,key.2⟩;unfold bF;rw[List.findIdx?_eq_some_iff_getElem];refine⟨hi,by simp[e],fun j hj=>?_⟩
 have hn:bF (r.steps.take i) s.out=none:=by
  cases hw:bF (r.steps.take i) s.out with
  |none=>rfl
  |some k=>rw[hw] at key;cases key.1
 have:=writerOf_none hn r.steps[j] (by
  rw[List.mem_iff_getElem]
  exact⟨j,by rw[List.length_take];omega,by rw[List.getElem_take]⟩)
 simpa using this
theorem needs_mem{steps:List Stp}{i k:Nat}{s:Stp}{y:ByteArray}(hs:steps[i]? =some s)(hy:y∈s.src)(hw:bF steps y=some k):k∈aY steps i:=by
 unfold aY;rw[hs];show k∈eF steps s;unfold eF;rw[List.mem_filterMap];exact⟨y,hy,hw⟩
theorem agree{C:ByteArray->Int×ByteArray}{r r':Rcp}{F F':List Fil}(hc:kG r.steps=false)(S:ByteArray->Prop)
  (xC:∀x,S x->bF r.steps x=none->∃t,aJ F x=some t/\aJ F' x=some t)
  (vE:∀x i,S x->bF r.steps x=some i->∃s,r.steps[i]? =some s/\cX s=true/\s∈r'.steps/\(∀y∈s.src,S y))
  (hF:SolS C r.steps F) (sU:SolS C r'.steps F'):∀x,S x->∃t,aJ F x=some t/\aJ F' x=some t:=by
 obtain⟨rk,hr⟩:=circle_rank hc
 have key:∀n x,S x->(∀i,bF r.steps x=some i->rk i<n)->∃t,aJ F x=some t/\aJ F' x=some t:=by
  intro n
  induction n with
  |zero=>
   intro x hx hn
   cases hw:bF r.steps x with
   |none=>exact xC x hx hw
   |some i=>exact absurd (hn i hw) YC
  |succ n ih=>
   intro x hx hn
   cases hw:bF r.steps x with
   |none=>exact xC x hx hw
   |some i=>
    have hi:=hn i hw;obtain⟨s,hs,hp,hm,hsrc⟩:=vE x i hx hw;obtain⟨s2,KG,hox⟩:=iQ hw;rw[hs] at KG;cases KG;obtain⟨saw,t,sw,a1,a2,a3⟩:=hF s (List.mem_of_getElem? hs);obtain⟨saw',t',sw',b1,b2,b3⟩:=sU s hm
    have NK:fC F' s.src=fC F s.src:=less_saw (fun y hy=>by
     obtain⟨u,e1,e2⟩:=ih y (hsrc y hy) (fun k hk=>by have:=hr i k (needs_mem hs hy hk);omega)
     rw[e1,e2])
    rw[a1,b1] at NK;cases NK;have e:=(a3 hp).symm.trans (b3 hp);simp only[Except.ok.injEq,Prod.mk.injEq] at e;rw[<-hox];exact⟨t,a2,by rw[b2,e.1]⟩
 intro x hx
 cases hw:bF r.steps x with
 |none=>exact xC x hx hw
 |some i=>exact key (rk i+1) x hx (fun j hj=>by rw[hw] at hj;cases hj;omega)
theorem grow_ok{needs:Nat->List Nat}{n:Nat}(hn:∀i k,k∈needs i->k<n):∀(f:Nat)(st:Nat->Bool)(i:Nat),i<n->dF st n<f->
  (∀j,st j=true->grow needs f st i j=true)/\grow needs f st i i=true/\∀j,grow needs f st i j=true->st j=true\/∀k∈needs j,grow needs f st i k=true
 |0,st,i,hi,hf=>absurd hf YC
 |f+1,st,i,hi,hf=>by
  rw[grow];by_cases hs:st i=true
  ·rw[if_pos hs];exact⟨fun j h=>h,hs,fun j h=>.inl h⟩
  ·rw[if_neg hs];(have rF:st i=false:=by simpa using hs);have hl:=gL rF n hi
   have key:∀(l:List Nat)(st1:Nat->Bool),(∀k∈l,k<n)->dF st1 n<f->
     (∀j,st1 j=true->l.foldl (grow needs f) st1 j=true)/\(∀k∈l,l.foldl (grow needs f) st1 k=true)/\∀j,l.foldl (grow needs f) st1 j=true->st1 j=true\/∀k∈needs j,l.foldl (grow needs f) st1 k=true:=by
    intro l
    induction l with
    |nil=>intro st1 _ _;exact⟨fun j h=>h,fun k hk=>by simp at hk,fun j h=>.inl h⟩
    |cons x l ih=>
     intro st1 hx hf1;obtain⟨g1,g2,g3⟩:=grow_ok hn f st1 x (hx x (by simp)) hf1
     have hmono:dF (grow needs f st1 x) n<=dF st1 n:=by
      have:∀m,dF (grow needs f st1 x) m<=dF st1 m:=by
       intro m
       induction m with
       |zero=>exact Nat.le_refl _
       |succ m ihm=>
        rw[dF,dF]
        cases h:st1 m with
        |true=>rw[g1 m h];simpa using ihm
        |false=>simp only[Bool.false_eq_true,if_false];split<;>omega
      exact this n
     obtain⟨i1,i2,i3⟩:=ih (grow needs f st1 x) (fun k hk=>hx k (by simp[hk])) YC;rw[List.foldl_cons];refine⟨fun j h=>i1 j (g1 j h),fun k hk=>?_,fun j h=>?_⟩
     ·rcases List.mem_cons.1 hk with rfl|hk
      ·exact i1 _ g2
      ·exact i2 k hk
     ·rcases i3 j h with h1|h1
      ·rcases g3 j h1 with h2|h2
       ·exact .inl h2
       ·exact .inr (fun k hk=>i1 k (h2 k hk))
      ·exact .inr h1
   obtain⟨k1,k2,k3⟩:=key (needs i) (jI st i) (fun k hk=>hn i k hk) YC;refine⟨fun j h=>k1 j (by unfold jI;split<;>first|rfl|exact h),k1 i (by simp[jI]),fun j h=>?_⟩;rcases k3 j h with h1|h1
   ·by_cases e:j=i
    ·subst e;exact .inr k2
    ·simp only[jI,if_neg e] at h1;exact .inl h1
   ·exact .inr h1
theorem slice_closed(r:Rcp):(∀i,bF r.steps r.output=some i->iH r i=true)/\∀i,iH r i=true->∀k∈aY r.steps i,iH r k=true:=by
 unfold iH
 cases hw:bF r.steps r.output with
 |none=>exact⟨fun i h=>(by cases h),fun i h=>(by cases h)⟩
 |some e=>
  obtain⟨s,hs,-⟩:=iQ hw;obtain⟨g1,g2,g3⟩:=grow_ok (n:=r.steps.length) (fun i k hk=>lJ hk) (r.steps.length+1) (fun _=>false) e (List.getElem?_eq_some_iff.1 hs).1 (by rw[leftN_none];omega);refine⟨fun i h=>by cases h;exact g2,fun i h=>?_⟩;rcases g3 i h with h1|h1
  ·cases h1
  ·exact h1
def Wanted(r:Rcp)(x:ByteArray):Prop:=x=r.output\/∃i s,iH r i=true/\r.steps[i]? =some s/\x∈s.src
theorem wanted_step{r:Rcp}{x:ByteArray}{i:Nat}(h:Wanted r x)(hw:bF r.steps x=some i):iH r i=true/\i<r.steps.length:=by
 obtain⟨s,hs,-⟩:=iQ hw;refine⟨?_,(List.getElem?_eq_some_iff.1 hs).1⟩;rcases h with rfl|⟨j,s,h1,h2,h3⟩
 ·exact(slice_closed r).1 i hw
 ·exact(slice_closed r).2 j h1 i (needs_mem h2 h3 hw)
theorem mL{r:Rcp}{i:Nat}:i∈mZ r↔i<r.steps.length/\iH r i=true:=by
 unfold mZ;rw[List.mem_filter,List.mem_range]
theorem pureL_ok{r:Rcp}(h:pureL r=true):mB r/\bW r=mZ r/\∀i s,iH r i=true->r.steps[i]? =some s->cX s=true:=by
 unfold pureL at h;rw[Bool.and_eq_true,decide_eq_true_eq,Bool.not_eq_true'] at h;obtain⟨h0,h1⟩:=h;have hl:bW r=mZ r:=by unfold bW;rw[if_neg YC]
 refine⟨lU h0,hl,fun i s hi hs=>?_⟩;rw[hl] at h1;have:=List.any_eq_false.1 h1 i (mL.2 ⟨(List.getElem?_eq_some_iff.1 hs).1,hi⟩);rw[hs] at this;simpa using this
theorem input_find{l:List Fil}{x:ByteArray}(h:jQ l x=true):∃t,aJ l x=some t:=by
 unfold jQ at h;unfold aJ;obtain⟨f,hf,e⟩:=List.any_eq_true.1 h
 cases hfi:l.find? (fun f=>decide (f.name=x)) with
 |none=>exact absurd e (List.find?_eq_none.1 hfi f hf)
 |some g=>exact⟨g.text,rfl⟩
theorem find_input{l:List Fil}{x t:ByteArray}(h:aJ l x=some t):jQ l x=true:=by
 unfold aJ at h;unfold jQ
 cases hfi:l.find? (fun f=>decide (f.name=x)) with
 |none=>rw[hfi] at h;cases h
 |some g=>
  have hp:=List.find?_some hfi;exact List.any_eq_true.2 ⟨g,List.mem_of_find?_eq_some hfi,hp⟩
theorem known_input{r:Rcp}{x:ByteArray}(h:aI r x=true)(hw:bF r.steps x=none):∃t,aJ r.inputs x=some t:=by
 unfold aI at h;rw[hw] at h;exact input_find (by simpa using h)
theorem wanted_known{r:Rcp}(h:mB r){x:ByteArray}(hx:Wanted r x):aI r x=true:=by
 rcases hx with rfl|⟨i,s,-,hs,hx⟩
 ·exact h.out
 ·exact h.srcs s (List.mem_of_getElem? hs) x hx
theorem runL_ok{C:ByteArray->Int×ByteArray}{r:Rcp}{ck od nx:List Int}{a:List Dn}{s:ByteArray}(h:mE C r ck od nx=.ok (a,s)):mB r/\∃F,runAll C r ck od nx=.ok (a,F)/\s=(aJ F r.output).getD ByteArray.empty:=by
 unfold mE at h;split at h
 ·cases h
 ·rename_i h0;have h0:aU r=0:=by simpa using h0
  split at h
  ·cases h
  ·rename_i out F hF;cases h;exact⟨lU h0,F,hF,rfl⟩
theorem runL_of{C:ByteArray->Int×ByteArray}{r:Rcp}{ck od nx:List Int}{a:List Dn}{F:List Fil}(h0:mB r)(h:runAll C r ck od nx=.ok (a,F)):mE C r ck od nx=.ok (a,(aJ F r.output).getD ByteArray.empty):=by
 unfold mE;rw[if_neg (by simp[inspectE_of h0]),h]
structure RunOk (r:Rcp) (F:List Fil) (done:Nat->Bool) (files:List Fil):Prop where
 keeps:pN files F
 right:aR files=true
 len:files.length+dF done r.steps.length=r.inputs.length+r.steps.length
 has:∀x,(aJ files x).isSome=true↔(jQ r.inputs x=true\/∃i s,done i=true/\r.steps[i]? =some s/\s.out=x)
theorem RunOk.first{r:Rcp}(h:mB r){F:List Fil}(hk:pN r.inputs F):RunOk r F (fun _=>false) r.inputs:=by
 refine⟨hk,h.files,by rw[leftN_none],fun x=>⟨fun hx=>?_,fun hx=>?_⟩⟩
 ·obtain⟨t,ht⟩:=Option.isSome_iff_exists.1 hx;exact .inl (find_input ht)
 ·rcases hx with hx|⟨i,s,h1,-⟩
  ·obtain⟨t,ht⟩:=input_find hx;rw[ht];rfl
  ·cases h1
theorem run_never_fails{C:ByteArray->Int×ByteArray}{r:Rcp}{F:List Fil}{ck od nx:List Int}(h:mB r)(qP:∀s∈r.steps,cX s=true)(hF:SolS C r.steps F):
  ∀(f:Nat)(done:Nat->Bool)(out:List Dn)(files:List Fil)(u0 u1:Int),RunOk r F done files->¬min u0 u1<0->∃p,jM C r.steps ck od nx f done out files u0 u1=.ok p
 |0,_,_,_,_,_,_,_=>⟨_,rfl⟩
 |f+1,done,out,files,u0,u1,hI,hu=>by
  rw[jM];split
  ·exact⟨_,rfl⟩
  ·rename_i he;have pQ:bC r.steps done≠[]:=fun e=>he (by rw[e];rfl);obtain⟨h1,h2,h3⟩:=oW (choose_mem nx out.length pQ);generalize eG (bC r.steps done) nx out.length=i at h1 h2 h3 ⊢;have hs:=List.getElem?_eq_getElem h1;have hm:=List.getElem_mem h1;rw[hs];simp only;generalize r.steps[i]=s at hs hm;obtain⟨w1,w2⟩:=lG h.once hs
   have BW:aJ files s.out=none:=by
    cases hf:aJ files s.out with
    |none=>rfl
    |some t=>
     rcases(hI.has s.out).1 (by rw[hf];rfl) with hx|⟨j,s',j1,j2,j3⟩
     ·rw[w2] at hx;cases hx
     ·have:=(lG h.once j2).1;rw[j3,w1] at this;cases this;rw[h2] at j1;cases j1
   obtain⟨saw,hsaw⟩:=saw_exists (f:=files) (src:=s.src) (fun y hy=>by
    have hk:=h.srcs s hm y hy;rw[hI.has]
    cases hw:bF r.steps y with
    |none=>obtain⟨t,ht⟩:=known_input hk hw;exact .inl (find_input ht)
    |some k=>
     obtain⟨s',k1,k2⟩:=iQ hw
     exact .inr ⟨k,s',h3 k (needs_mem hs hy hw),k1,k2⟩)
   obtain⟨saw',t,sw,a1,a2,a3⟩:=hF s hm;rw[saw_keeps hI.keeps hsaw] at a1;cases a1;have hl:=leftN_pos h1 h2;have hal:=gL h2 _ h1;have hlen:=hI.len;have hroom:=h.room;rw[do_pure (qP s hm) hI.right hu BW YC hsaw (a3 (qP s hm)) ck od];simp only;refine run_never_fails h qP hF f _ _ _ _ _ ⟨fun x u hx=>?_,?_,?_,fun x=>?_⟩ hu
   ·unfold eK at hx;rw[find_more] at hx
    cases DG:aJ files x with
    |some u'=>rw[DG] at hx;cases hx;exact hI.keeps x _ DG
    |none=>
     rw[DG] at hx;simp only at hx;split at hx
     ·rename_i e;cases hx;rw[<-e];exact a2
     ·cases hx
   ·obtain⟨⟨r1,r2⟩,r3⟩:=(rightFiles_iff files).1 hI.right;refine(rightFiles_iff _).2 ⟨⟨?_,fun g hg=>?_⟩,?_⟩
    ·unfold eK;rw[List.map_append,List.nodup_append];refine⟨r1,by simp,fun x hx y hy=>?_⟩;simp at hy;subst hy;intro e;subst e;obtain⟨g,hg,e⟩:=List.mem_map.1 hx;have:aJ files s.out=some g.text:=(find_iff r1 s.out g.text).2 ⟨g,hg,e,rfl⟩;rw[BW] at this;cases this
    ·unfold eK at hg;rcases List.mem_append.1 hg with hg|hg
     ·exact r2 g hg
     ·simp at hg;subst hg;refine⟨?_,pureRes_size (a3 (qP s hm))⟩;have PF:=h.steps s hm;unfold aM at PF;split at PF
      ·cases PF
      ·rename_i hh;simp only[Bool.or_eq_true,Bool.not_eq_true',not_or,Bool.not_eq_false] at hh;exact hh.1
    ·unfold eK;rw[List.length_append,List.length_singleton];omega
   ·unfold eK;rw[List.length_append,List.length_singleton];omega
   ·unfold eK;rw[find_more];constructor
    ·intro hx
     cases DG:aJ files x with
     |some u'=>
      rcases(hI.has x).1 (by rw[DG];rfl) with hx|⟨j,s',j1,j2,j3⟩
      ·exact .inl hx
      ·exact .inr ⟨j,s',by simp[jI,j1],j2,j3⟩
     |none=>
      rw[DG] at hx;simp only at hx;split at hx
      ·rename_i e;exact .inr ⟨i,s,by simp[jI],hs,e⟩
      ·cases hx
    ·intro hx
     cases DG:aJ files x with
     |some u'=>rfl
     |none=>
      simp only;rcases hx with hx|⟨j,s',j1,j2,j3⟩
      ·have:=(hI.has x).2 (.inl hx);rw[DG] at this;cases this
      ·by_cases e:j=i
       ·subst e;rw[hs] at j2;cases j2;rw[if_pos j3];rfl
       ·simp only[jI,if_neg e] at j1;have:=(hI.has x).2 (.inr ⟨j,s',j1,j2,j3⟩);rw[DG] at this;cases this
theorem all_law{C:ByteArray->Int×ByteArray}{r r':Rcp}{ck od nx ck2 od2 nx2:List Int}{p:List Dn×ByteArray}(qP:∀s∈r.steps,cX s=true)(ha:mE C r ck od nx=.ok p)(h':mB r')(hinp:r'.inputs=r.inputs)(hsub:∀s∈r'.steps,s∈r.steps):
  ∃q,mE C r' ck2 od2 nx2=.ok q:=by
 obtain⟨a,s⟩:=p;obtain⟨hR,F,hF,-⟩:=runL_ok ha;obtain⟨f1,-,-⟩:=oS hR.circ hF;have hS:=run_solS hR.circ hF;obtain⟨⟨b,F'⟩,hq⟩:=run_never_fails (C:=C) (ck:=ck2) (od:=od2) (nx:=nx2) h' (fun s hs=>qP s (hsub s hs)) (fun s hs=>hS s (hsub s hs)) (r'.steps.length+1) (fun _=>false) [] r'.inputs 0 0 (RunOk.first h' (by rw[hinp];exact f1)) (by decide);exact⟨_,runL_of h' hq⟩
theorem leftN_less{a b:Nat->Bool}(h:∀j,a j=true->b j=true):∀n,dF b n<=dF a n
 |0=>Nat.le_refl _
 |n+1=>by
  have:=leftN_less h n;rw[dF,dF]
  cases ha:a n with
  |true=>rw[h n ha];simpa using this
  |false=>simp only[Bool.false_eq_true,if_false];split<;>omega
def marked(st:dT):Nat->Bool:=fun j=>decide (st j≠0)
theorem marked_mark(st:dT)(i:Nat)(x:Int)(hx:x≠0):marked (iA st i x)=jI (marked st) i:=by
 funext j;unfold marked iA jI;by_cases e:j=i
 ·simp[e,hx]
 ·simp[e]
theorem visit_none{needs:Nat->List Nat}{rk:Nat->Nat}{n:Nat}(hr:∀i k,k∈needs i->rk k<rk i)(hn:∀i k,k∈needs i->k<n):∀(f:Nat)(st:dT)(i:Nat),i<n->dF (marked st) n<f->(∀j,st j=1->rk i<rk j)->
  (eE needs f st i).2=false/\∀j,(eE needs f st i).1 j=1->st j=1
 |0,_,_,_,h,_=>absurd h (by omega)
 |f+1,st,i,hi,hf,ho=>by
  rw[eE];by_cases h0:st i≠0
  ·rw[if_pos h0];refine⟨decide_eq_false (fun h1=>?_),fun j h=>h⟩;exact absurd (ho i h1) (Nat.lt_irrefl _)
  ·rw[if_neg h0];(have h00:st i=0:=by simpa using h0);have hm:=marked_mark st i 1 (by decide);(have LP:marked st i=false:=by simp[marked,h00]);have hl:=gL LP n hi
   have key:∀(l:List Nat)(st1:dT),(∀k∈l,k<n)->dF (marked st1) n<f->(∀k∈l,∀j,st1 j=1->rk k<rk j)->(jR (eE needs f) st1 l).2=false/\∀j,(jR (eE needs f) st1 l).1 j=1->st1 j=1:=by
    intro l
    induction l with
    |nil=>intro st1 _ _ _;exact⟨rfl,fun j h=>h⟩
    |cons x l ih=>
     intro st1 hx hf1 pV;obtain⟨v1,v2⟩:=visit_none hr hn f st1 x (hx x (by simp)) hf1 (pV x (by simp));rw[jR,if_neg (by rw[v1];decide)]
     have hmono:dF (marked (eE needs f st1 x).1) n<=dF (marked st1) n:=leftN_less (fun j hj=>by
      unfold marked at hj ⊢;(have hj:st1 j≠0:=by simpa using hj);rw[jB needs f st1 x j hj]
      exact decide_eq_true hj) n
     obtain⟨i1,i2⟩:=ih (eE needs f st1 x).1 (fun k hk=>hx k (by simp[hk])) (by omega) (fun k hk j hj=>pV k (by simp[hk]) j (v2 j hj));exact⟨i1,fun j hj=>v2 j (i2 j hj)⟩
   obtain⟨k1,k2⟩:=key (needs i) (iA st i 1) (fun k hk=>hn i k hk) (by rw[hm];omega) (fun k hk j hj=>by
    have h1:=hr i k hk;unfold iA at hj;split at hj
    ·rename_i e;subst e;exact h1
    ·exact Nat.lt_trans h1 (ho j hj))
   rw[if_neg (by rw[k1];decide)];refine⟨rfl,fun j hj=>?_⟩;dsimp only at hj;unfold iA at hj;split at hj
   ·exact absurd hj (by decide)
   ·rename_i e;have h2:=k2 j hj;unfold iA at h2;rw[if_neg e] at h2;exact h2
theorem circle_none{steps:List Stp}{rk:Nat->Nat}(hr:∀i k,k∈aY steps i->rk k<rk i):kG steps=false:=by
 have key:∀(n k:Nat)(st:dT),k+n=steps.length->(∀j,st j≠1)->gM (aY steps) (steps.length+1) k n st=false:=by
  intro n
  induction n with
  |zero=>intro k st _ _;rfl
  |succ n ih=>
   intro k st hk ho;obtain⟨v1,v2⟩:=visit_none (n:=steps.length) hr (fun i k hk=>lJ hk) (steps.length+1) st k (by omega) (by have:=leftN_le (marked st) steps.length;omega) (fun j hj=>absurd hj (ho j));rw[gM,v1,Bool.false_or];exact ih (k+1) _ (by omega) (fun j hj=>ho j (v2 j hj))
 exact key steps.length 0 _ (by omega) (fun j=>by decide)
theorem nR{r:Rcp}:nS r=false↔(r.steps.map (·.out)).Nodup/\∀s∈r.steps,jQ r.inputs s.out=false:=by
 constructor
 ·intro h;refine⟨?_,fun s hs=>?_⟩
  ·unfold List.Nodup;rw[List.pairwise_iff_getElem];intro i j hi hj yN e;rw[List.length_map] at hi hj;rw[List.getElem_map,List.getElem_map] at e;have h1:=(lG h (List.getElem?_eq_getElem hi)).1;have h2:=(lG h (List.getElem?_eq_getElem hj)).1;rw[e,h2] at h1;cases h1;omega
  ·obtain⟨i,hi⟩:=List.getElem?_of_mem hs;exact(lG h hi).2
 ·rintro⟨h1,h2⟩;rw[<-Bool.not_eq_true,twice_iff];rintro⟨j,s,hs,hk⟩;unfold lR at hk;rw[h2 s (List.mem_of_getElem? hs),Bool.or_false] at hk;obtain⟨m,hm⟩:=Option.isSome_iff_exists.1 hk;obtain⟨s',hs',e⟩:=iQ hm;obtain⟨hj,ej⟩:=List.getElem?_eq_some_iff.1 hs;obtain⟨PN,em⟩:=List.getElem?_eq_some_iff.1 hs';rw[List.length_take] at PN;rw[List.getElem_take] at em;unfold List.Nodup at h1;rw[List.pairwise_iff_getElem] at h1;refine h1 m j (by rw[List.length_map];omega) (by rw[List.length_map];omega) (by omega) ?_;rw[List.getElem_map,List.getElem_map,em,ej,e]
def pB(r:Rcp)(k:Nat):Rcp:={r with steps:=r.steps.eraseIdx k}
theorem less_sub(r:Rcp)(k:Nat):(pB r k).steps.Sublist r.steps:=List.eraseIdx_sublist _ _
theorem less_refused{r:Rcp}(h:mB r)(k:Nat)(hk:k<r.steps.length):aU (pB r k)=4\/mB (pB r k):=by
 have hs:=less_sub r k;have hl:=hs.length_le;by_cases hn:(!aI (pB r k) r.output||(pB r k).steps.any (fun s=>s.src.any fun x=> !aI (pB r k) x))=true
 ·left;have h1:((pB r k).steps.any fun s=> !aM s)=false:=by rw[List.any_eq_false];intro s hm;simp[h.steps s (hs.subset hm)]
  have h2:nS (pB r k)=false:=by
   rw[nR];obtain⟨t1,t2⟩:=nR.1 h.once;exact⟨t1.sublist (hs.map _),fun s hm=>t2 s (hs.subset hm)⟩
  have h3:=h.few;have h4:=h.room;have h5:(pB r k).inputs=r.inputs:=rfl;have h6:(pB r k).output=r.output:=rfl;unfold aU;rw[h1,h2,h5,h6,h.files,decide_eq_false (by omega),if_neg (by decide),if_neg (by decide),if_neg (by omega),if_pos hn]
 ·right;rw[Bool.not_eq_true,Bool.or_eq_false_iff] at hn;obtain⟨zL,hn2⟩:=hn;refine⟨h.files,by have:=h.few;omega,fun s hm=>h.steps s (hs.subset hm),?_,by have:=h.room;show r.inputs.length+_<=60;omega,(by simpa using zL:aI (pB r k) r.output=true),fun s hm x hx=>?_,?_⟩
  ·rw[nR];obtain⟨t1,t2⟩:=nR.1 h.once;exact⟨t1.sublist (hs.map _),fun s hm=>t2 s (hs.subset hm)⟩
  ·have:=List.any_eq_false.1 hn2 s hm;rw[Bool.not_eq_true,List.any_eq_false] at this;have:=this x hx;simpa using this
  ·obtain⟨rk,hr⟩:=circle_rank h.circ
   refine circle_none (rk:=fun i=>match(pB r k).steps[i]? with
    |some s=>(match bF r.steps s.out with
     |some j=>rk j
     |none=>0)
    |none=>0) (fun i m hm=>?_)
   unfold aY at hm
   cases hsi:(pB r k).steps[i]? with
   |none=>rw[hsi] at hm;cases hm
   |some s=>
    rw[hsi] at hm;simp only at hm ⊢;unfold eF at hm;rw[List.mem_filterMap] at hm;obtain⟨y,hy,hw⟩:=hm;obtain⟨s2,KG,e⟩:=iQ hw;rw[KG];simp only;obtain⟨j,hj⟩:=List.getElem?_of_mem (hs.subset (List.mem_of_getElem? hsi));obtain⟨j2,NW⟩:=List.getElem?_of_mem (hs.subset (List.mem_of_getElem? KG));have w1:=(lG h.once hj).1;have w2:=(lG h.once NW).1;rw[w1,w2];simp only;rw[e] at w2;exact hr j j2 (needs_mem hj hy w2)
theorem less_law{C:ByteArray->Int×ByteArray}{r:Rcp}{ck od nx ck2 od2 nx2:List Int}{a:List Dn}{s:ByteArray}(hp:pureL r=true)(ha:mE C r ck od nx=.ok (a,s)){k:Nat}(hk:k<r.steps.length)(xC:k∉bW r):
  (∀b t,mE C (pB r k) ck2 od2 nx2=.ok (b,t)->t=s)/\((∀s∈r.steps,cX s=true)->∀e,mE C (pB r k) ck2 od2 nx2=.error e->e=4):=by
 obtain⟨hR,hl,H5⟩:=pureL_ok hp
 have hnk:iH r k=false:=by
  rw[<-Bool.not_eq_true];intro h;exact xC (by rw[hl,mL];exact⟨hk,h⟩)
 refine⟨fun b t hb=>?_,fun qP e he=>?_⟩
 ·obtain⟨-,F,hF,rfl⟩:=runL_ok ha;obtain⟨QW,F',sU,rfl⟩:=runL_ok hb;obtain⟨f1,-,-⟩:=oS hR.circ hF;obtain⟨g1,-,-⟩:=oS QW.circ sU
  obtain⟨u,e1,e2⟩:=agree (r':=pB r k) hR.circ (Wanted r) (fun x hx hw=>by
   obtain⟨t,ht⟩:=known_input (wanted_known hR hx) hw
   exact⟨t,f1 x t ht,g1 x t ht⟩) (fun x i hx hw=>by
   obtain⟨h1,h2⟩:=wanted_step hx hw;have hs:=List.getElem?_eq_getElem h2;refine⟨r.steps[i],hs,H5 i _ h1 hs,?_,fun y hy=>.inr ⟨i,_,h1,hs,hy⟩⟩;show _∈r.steps.eraseIdx k;rw[List.mem_eraseIdx_iff_getElem?]
   exact⟨i,⟨fun e=>(by subst e;rw[h1] at hnk;cases hnk),hs⟩⟩) (run_solS hR.circ hF) (run_solS QW.circ sU) r.output (.inl rfl)
  have e3:aJ F' (pB r k).output=some u:=e2;rw[e1,e3]
 ·rcases less_refused hR k hk with h4|QW
  ·unfold mE at he;rw[if_pos (by rw[h4];decide)] at he;cases he;exact h4
  ·obtain⟨q,hq⟩:=all_law (C:=C) (ck2:=ck2) (od2:=od2) (nx2:=nx2) qP ha QW rfl (fun s hs=>(less_sub r k).subset hs);rw[hq] at he;cases he
def oX(r:Rcp)(k:Nat)(text:ByteArray):Rcp:={r with inputs:=r.inputs.modify k (fun f=>⟨f.name,text⟩)}
theorem find_modify:∀(l:List Fil)(k:Nat)(g:Fil)(text x:ByteArray),l[k]? =some g->g.name≠x->aJ (l.modify k (fun f=>⟨f.name,text⟩)) x=aJ l x
 |[],k,g,text,x,h,_=>by simp at h
 |f::l,0,g,text,x,h,hn=>by
  simp at h;subst h;unfold aJ;rw[List.modify_zero_cons,List.find?_cons,List.find?_cons];simp only[decide_eq_false hn]
 |f::l,k+1,g,text,x,h,hn=>by
  have ih:=find_modify l k g text x (by simpa using h) hn;unfold aJ at ih ⊢;rw[List.modify_succ_cons,List.find?_cons,List.find?_cons]
  cases decide (f.name=x) with
  |true=>rfl
  |false=>exact ih
theorem other_law{C:ByteArray->Int×ByteArray}{r:Rcp}{ck od nx ck2 od2 nx2:List Int}{a b:List Dn}{s t:ByteArray}(hp:pureL r=true)(ha:mE C r ck od nx=.ok (a,s)){k:Nat}{g:Fil}(hg:r.inputs[k]? =some g){text:ByteArray}(ho:g.name≠r.output)
  (hs:∀i∈bW r,∀s,r.steps[i]? =some s->g.name∉s.src) (hb:mE C (oX r k text) ck2 od2 nx2=.ok (b,t)):t=s:=by
 obtain⟨hR,hl,H5⟩:=pureL_ok hp;obtain⟨-,F,hF,rfl⟩:=runL_ok ha;obtain⟨QW,F',sU,rfl⟩:=runL_ok hb;obtain⟨f1,-,-⟩:=oS hR.circ hF;obtain⟨g1,-,-⟩:=oS QW.circ sU
 obtain⟨u,e1,e2⟩:=agree (r':=oX r k text) hR.circ (Wanted r) (fun x hx hw=>by
  obtain⟨t,ht⟩:=known_input (wanted_known hR hx) hw;refine⟨t,f1 x t ht,g1 x t ?_⟩
  have pQ:g.name≠x:=by
   rcases hx with rfl|⟨i,s,h1,h2,h3⟩
   ·exact ho
   ·intro e;subst e;exact hs i (by rw[hl,mL];exact⟨(List.getElem?_eq_some_iff.1 h2).1,h1⟩) s h2 h3
  show aJ (r.inputs.modify k _) x=some t;rw[find_modify _ _ _ _ _ hg pQ]
  exact ht) (fun x i hx hw=>by
  obtain⟨h1,h2⟩:=wanted_step hx hw;have hs:=List.getElem?_eq_getElem h2
  exact⟨r.steps[i],hs,H5 i _ h1 hs,List.getElem_mem h2,fun y hy=>.inr ⟨i,_,h1,hs,hy⟩⟩) (run_solS hR.circ hF) (run_solS QW.circ sU) r.output (.inl rfl)
 have e3:aJ F' (oX r k text).output=some u:=e2;rw[e1,e3]
end Go.Proofs.YtacgopankhpnbaaGreatDoor
