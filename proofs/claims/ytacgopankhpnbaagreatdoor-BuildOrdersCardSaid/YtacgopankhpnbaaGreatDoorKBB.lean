/- Texts of this seat, joined. -/
import Derived.Test.YtacgopankhpnbaaGreatDoorLpLawB
namespace Go.Proofs.YtacgopankhpnbaaGreatDoor
def exInputs:List Fil:=[⟨⟨#[97]⟩,⟨#[120]⟩⟩,⟨⟨#[98]⟩,⟨#[121]⟩⟩]
def exSteps:List Stp:=[⟨1,[⟨#[98]⟩,⟨#[97]⟩],⟨#[99]⟩,false⟩,⟨4,[⟨#[99]⟩],⟨#[100]⟩,false⟩,⟨0,[⟨#[97]⟩],⟨#[101]⟩,false⟩]
def exR(output:ByteArray):Rcp:=⟨exInputs,exSteps,output⟩
theorem exRun:pR C0 (exR ⟨#[100]⟩) [7] [] [1]=.ok ([⟨2,[⟨#[120]⟩],⟨#[120]⟩⟩,⟨0,[⟨#[121]⟩,⟨#[120]⟩],⟨#[121,120]⟩⟩,⟨1,[⟨#[121,120]⟩],⟨#[121,120,55,59,10]⟩⟩],⟨#[121,120,55,59,10]⟩):=by kernel_rfl
theorem exOrder:iW (exR ⟨#[100]⟩)=[0,1,2]:=by kernel_rfl
theorem exSliceD:eG (exR ⟨#[100]⟩)=[0,1]:=by kernel_rfl
theorem exSliceC:eG (exR ⟨#[99]⟩)=[0]:=by kernel_rfl
theorem exPureD:pureL (exR ⟨#[100]⟩)=false:=by kernel_rfl
theorem exPureC:pureL (exR ⟨#[99]⟩)=true:=by kernel_rfl
def nK(C:ByteArray->Int×ByteArray)(s:Stp)(saw:List ByteArray):Except Int (ByteArray×List ByteArray):=
 if s.kind=5 then
  if(C (saw.headD ByteArray.empty)).1≠0 then .error (C (saw.headD ByteArray.empty)).1
  else if 65536<(C (saw.headD ByteArray.empty)).2.size then .error 6
  else .ok ((C (saw.headD ByteArray.empty)).2,saw)
 else if 65536<(aS s saw [] [] 0 0).1.size then .error 6
 else .ok ((aS s saw [] [] 0 0).1,(aS s saw [] [] 0 0).2.1)
theorem write_pure2{s:Stp}(h:cH s=true)(h5:s.kind≠5)(saw:List ByteArray)(ck od:List Int)(u0 u1:Int):
  aS s saw ck od u0 u1=((aS s saw [] [] 0 0).1,(aS s saw [] [] 0 0).2.1,u0,u1):=by
 unfold cH at h;simp only[Bool.and_eq_true,Bool.or_eq_true,decide_eq_true_eq] at h;obtain⟨⟨h1,h4⟩,h2⟩:=h;have hk:=right_kinds h1;unfold aS;by_cases e01:s.kind=0\/s.kind=1
 ·simp only[if_pos e01]
 ·by_cases e3:s.kind=3
  ·simp only[if_neg e01,if_pos e3]
  ·have e2:s.kind=2:=by omega
   have hs:s.sorted=true:=by
    rcases h2 with h2|h2
    ·exact absurd e2 h2
    ·exact h2
   simp only[if_neg e01,if_neg e3,if_neg h4,hs,if_true]
theorem do_parts{C:ByteArray->Int×ByteArray}{s:Stp}{files:List Fil}{ck od:List Int}{u0 u1:Int}{t:ByteArray}{sw:List ByteArray}{a b:Int}(h:aX C s files ck od u0 u1=.ok (t,sw,a,b)):
  aP s=true/\aR files=true/\¬min u0 u1<0/\aI files s.out=none/\files.length<60/\t.size<=65536/\∃saw,eT files s.src=some saw/\(cH s=true->nK C s saw=.ok (t,sw)/\a=u0/\b=u1):=by
 unfold aX at h;split at h
 ·cases h
 rename_i hb;simp only[Bool.or_eq_true,Bool.not_eq_true',not_or,Bool.not_eq_false,decide_eq_true_eq] at hb;split at h
 ·cases h
 rename_i hf;split at h
 ·cases h
 rename_i h60
 have hf0:aI files s.out=none:=by
  cases e:aI files s.out with
  |none=>rfl
  |some t=>rw[e] at hf;exact absurd rfl hf
 cases hs:eT files s.src with
 |none=>rw[hs] at h;cases h
 |some saw=>
  rw[hs] at h;simp only at h;by_cases h5:s.kind=5
  ·rw[if_pos h5] at h;by_cases he:(C (saw.headD ByteArray.empty)).1≠0
   ·rw[if_pos he] at h;cases h
   ·rw[if_neg he] at h;by_cases hz:65536<(C (saw.headD ByteArray.empty)).2.size
    ·rw[if_pos hz] at h;cases h
    ·rw[if_neg hz] at h;cases h;exact⟨hb.1.1,hb.1.2,hb.2,hf0,by omega,by omega,sw,rfl,fun _=>⟨by unfold nK;rw[if_pos h5,if_neg he,if_neg hz],rfl,rfl⟩⟩
  ·rw[if_neg h5] at h;by_cases hz:65536<(aS s saw ck od u0 u1).1.size
   ·rw[if_pos hz] at h;cases h
   ·rw[if_neg hz] at h;have h:=Except.ok.inj h;refine⟨hb.1.1,hb.1.2,hb.2,hf0,by omega,by rw[h] at hz;simpa using hz,saw,rfl,fun hp=>?_⟩;have e:=write_pure2 hp h5 saw ck od u0 u1;rw[h] at e;simp only[Prod.mk.injEq] at e;obtain⟨e1,e2,e3,e4⟩:=e;refine⟨?_,e3,e4⟩;unfold nK;rw[h] at hz;rw[if_neg h5,<-e1,<-e2,if_neg hz]
def qV(f g:List Fil):Prop:=∀x t,aI f x=some t->aI g x=some t
theorem qV.refl(f:List Fil):qV f f:=fun _ _ h=>h
theorem qV.trans{f g h:List Fil}(h1:qV f g)(h2:qV g h):qV f h:=fun x t e=>h2 x t (h1 x t e)
theorem find_more(l:List Fil)(o t x:ByteArray):aI (l++[⟨o,t⟩]) x=match aI l x with
  |some u=>some u
  |none=>if o=x then some t else none:=by
 unfold aI;rw[List.find?_append]
 cases l.find? (fun f=>decide (f.name=x)) with
 |some f=>rfl
 |none=>
  simp only[Option.none_or,List.find?_cons,List.find?_nil,Option.map_none];by_cases e:o=x
  ·rw[decide_eq_true e,if_pos e];rfl
  ·rw[decide_eq_false e,if_neg e];rfl
theorem keeps_do(s:Stp)(files:List Fil)(t:ByteArray):qV files (cG s files t):=fun x u h=>by
 unfold cG;rw[find_more,h]
theorem find_do{s:Stp}{files:List Fil}{t:ByteArray}(h:aI files s.out=none):aI (cG s files t) s.out=some t:=by
 unfold cG;rw[find_more,h];simp
theorem saw_keeps{f g:List Fil}(h:qV f g):∀{src saw:List ByteArray},eT f src=some saw->eT g src=some saw
 |[],_,e=>e
 |x::r,saw,e=>by
  rw[eT] at e ⊢;split at e
  ·rename_i t l ht hl;rw[h x t ht,saw_keeps h hl];exact e
  ·cases e
structure DnSays (C:ByteArray->Int×ByteArray) (steps:List Stp) (F:List Fil) (d:Dn) (i:Nat):Prop where
 idx:d.step=(i:Int)
 says:∃s,steps[i]? =some s/\aI F s.out=some d.out/\∃saw,eT F s.src=some saw/\(cH s=true->nK C s saw=.ok (d.out,d.saw))
theorem run_sol{C:ByteArray->Int×ByteArray}{steps:List Stp}{ck od nx:List Int}(hc:kL steps=false):∀(f:Nat)(done:Nat->Bool)(out:List Dn)(files:List Fil)(u0 u1:Int)(out':List Dn)(F:List Fil),
  dR done steps.length<f->gS C steps ck od nx f done out files u0 u1=.ok (out',F)->
  qV files F/\∃more,out'=out++more/\(∀d∈more,∃i,DnSays C steps F d i)/\∀i,i<steps.length->done i=false->∃d∈more,d.step=(i:Int)
 |0,_,_,_,_,_,_,_,hf,_=>absurd hf (by omega)
 |f+1,done,out,files,u0,u1,out',F,hf,h=>by
  rw[gS] at h;split at h
  ·rename_i he;cases h;refine⟨qV.refl _,[],by simp,fun d hd=>by simp at hd,fun i hi hd=>?_⟩;exact absurd (List.isEmpty_iff.1 he) (ready_some hc done hi hd)
  ·rename_i he;have hne:bG steps done≠[]:=fun e=>he (by rw[e];rfl);obtain⟨h1,h2,-⟩:=lJ (choose_mem nx out.length hne);generalize eC (bG steps done) nx out.length=i at h h1 h2;rw[List.getElem?_eq_getElem h1] at h;simp only at h
   cases hd:aX C steps[i] files ck od u0 u1 with
   |error e=>rw[hd] at h;cases h
   |ok p=>
    obtain⟨t,sw,a,b⟩:=p;rw[hd] at h;simp only at h;have hl:=gM h2 _ h1;obtain⟨k1,more,e,k2,k3⟩:=run_sol hc f _ _ _ _ _ _ _ (by omega) h;obtain⟨d1,d2,d3,d4,d5,d6,saw,d7,d8⟩:=do_parts hd;refine⟨(keeps_do _ _ t).trans k1,⟨i,sw,t⟩::more,by rw[e];simp,fun d hd=>?_,fun j hj hjd=>?_⟩
    ·rcases List.mem_cons.1 hd with rfl|hd
     ·exact⟨i,rfl,steps[i],List.getElem?_eq_getElem h1,k1 _ _ (find_do d4),saw,saw_keeps ((keeps_do _ _ t).trans k1) d7,fun hp=>(d8 hp).1⟩
     ·exact k2 d hd
    ·by_cases e:j=i
     ·subst e;exact⟨_,List.mem_cons_self ..,rfl⟩
     ·obtain⟨d,hd,e2⟩:=k3 j hj (by simp[kM,e,hjd]);exact⟨d,by simp[hd],e2⟩
theorem lC(n:Nat):dR (fun _=>false) n=n:=by
 induction n with
 |zero=>rfl
 |succ n ih=>rw[dR,ih];simp
theorem run_says{C:ByteArray->Int×ByteArray}{r:Rcp}{ck od nx:List Int}{out:List Dn}{F:List Fil}(hc:kL r.steps=false)(h:oF C r ck od nx=.ok (out,F)):
  qV r.inputs F/\(∀d∈out,∃i,DnSays C r.steps F d i)/\∀i,i<r.steps.length->∃d∈out,d.step=(i:Int):=by
 obtain⟨h1,more,e,h2,h3⟩:=run_sol hc _ _ _ _ _ _ _ _ (by rw[lC];omega) h;rw[List.nil_append] at e;subst e;exact⟨h1,h2,fun i hi=>h3 i hi rfl⟩
theorem kO{steps:List Stp}{x:ByteArray}{i:Nat}(h:bR steps x=some i):∃s,steps[i]? =some s/\s.out=x:=by
 unfold bR at h;rw[List.findIdx?_eq_some_iff_getElem] at h;obtain⟨h1,h2,-⟩:=h;exact⟨steps[i],List.getElem?_eq_getElem h1,by simpa using h2⟩
theorem input_find{l:List Fil}{x:ByteArray}(h:kR l x=true):∃t,aI l x=some t:=by
 unfold kR at h;unfold aI;obtain⟨f,hf,e⟩:=List.any_eq_true.1 h
 cases hfi:l.find? (fun f=>decide (f.name=x)) with
 |none=>exact absurd e (List.find?_eq_none.1 hfi f hf)
 |some g=>exact⟨g.text,rfl⟩
theorem known_input{r:Rcp}{x:ByteArray}(h:aO r x=true)(hw:bR r.steps x=none):∃t,aI r.inputs x=some t:=by
 unfold aO at h;rw[hw] at h;exact input_find (by simpa using h)
theorem runL_ok{C:ByteArray->Int×ByteArray}{r:Rcp}{ck od nx:List Int}{a:List Dn}{s:ByteArray}(h:pR C r ck od nx=.ok (a,s)):mH r/\∃F,oF C r ck od nx=.ok (a,F)/\s=(aI F r.output).getD ByteArray.empty:=by
 unfold pR at h;split at h
 ·cases h
 ·rename_i h0;have h0:bC r=0:=by simpa using h0
  split at h
  ·cases h
  ·rename_i out F hF;cases h;exact⟨mY h0,F,hF,rfl⟩
end Go.Proofs.YtacgopankhpnbaaGreatDoor
