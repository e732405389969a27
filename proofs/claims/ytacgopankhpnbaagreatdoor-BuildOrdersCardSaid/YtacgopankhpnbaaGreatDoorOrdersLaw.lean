/- Texts of this seat, joined. -/
import Derived.Test.YtacgopankhpnbaaGreatDoorKBB
namespace Go.Proofs.YtacgopankhpnbaaGreatDoor
inductive Tr (C:ByteArray->Int×ByteArray) (steps:List Stp) (ck od:List Int):List Dn->List Fil->Int->Int->List Fil->Prop
 |nil (files:List Fil) (u0 u1:Int):Tr C steps ck od [] files u0 u1 files
 |cons {i:Nat} {s:Stp} {t:ByteArray} {saw:List ByteArray} {a b u0 u1:Int} {l:List Dn} {files F:List Fil} (hs:steps[i]? =some s) (hd:aX C s files ck od u0 u1=.ok (t,saw,a,b)) (ht:Tr C steps ck od l (cG s files t) a b F):
   Tr C steps ck od (⟨i,saw,t⟩::l) files u0 u1 F
theorem run_tr{C:ByteArray->Int×ByteArray}{steps:List Stp}{ck od nx:List Int}(hc:kL steps=false):∀(f:Nat)(done:Nat->Bool)(out:List Dn)(files:List Fil)(u0 u1:Int)(out':List Dn)(F:List Fil),
  dR done steps.length<f->gS C steps ck od nx f done out files u0 u1=.ok (out',F)->∃l,out'=out++l/\Tr C steps ck od l files u0 u1 F/\l.length=dR done steps.length
 |0,_,_,_,_,_,_,_,hf,_=>absurd hf (by omega)
 |f+1,done,out,files,u0,u1,out',F,hf,h=>by
  rw[gS] at h;split at h
  ·rename_i he;cases h;refine⟨[],by simp,.nil _ _ _,?_⟩
   have h0:∀n,n<=steps.length->dR done n=0:=by
    intro n
    induction n with
    |zero=>intro _;rfl
    |succ n ih=>
     intro hn;rw[dR,ih (by omega)]
     cases hd:done n with
     |true=>rfl
     |false=>exact absurd (List.isEmpty_iff.1 he) (ready_some hc done (by omega) hd)
   rw[h0 _ (Nat.le_refl _)];rfl
  ·rename_i he;have hne:bG steps done≠[]:=fun e=>he (by rw[e];rfl);obtain⟨h1,h2,-⟩:=lJ (choose_mem nx out.length hne);generalize eC (bG steps done) nx out.length=i at h h1 h2;rw[List.getElem?_eq_getElem h1] at h;simp only at h
   cases hd:aX C steps[i] files ck od u0 u1 with
   |error e=>rw[hd] at h;cases h
   |ok p=>
    obtain⟨t,sw,a,b⟩:=p;rw[hd] at h;simp only at h;have hl:=gM h2 _ h1;obtain⟨l,e1,e2,e3⟩:=run_tr hc f _ _ _ _ _ _ _ (by omega) h;exact⟨_::l,by rw[e1];simp,.cons (List.getElem?_eq_getElem h1) hd e2,by rw[List.length_cons];omega⟩
theorem run_steps{C:ByteArray->Int×ByteArray}{r:Rcp}{ck od nx:List Int}{l:List Dn}{F:List Fil}(hR:mH r)(h:oF C r ck od nx=.ok (l,F)):Tr C r.steps ck od l r.inputs 0 0 F/\l.length=r.steps.length:=by
 obtain⟨l',e1,e2,e3⟩:=run_tr hR.circ _ _ _ _ _ _ _ _ (by rw[lC];omega) h;rw[List.nil_append] at e1;subst e1;rw[lC] at e3;exact⟨e2,e3⟩
theorem order_len{steps:List Stp}(hc:kL steps=false):∀(f:Nat)(done:Nat->Bool)(out:List Nat),dR done steps.length<f->(kD steps f done out).length=out.length+dR done steps.length
 |0,_,_,h=>absurd h (by omega)
 |f+1,done,out,h=>by
  rw[kD];split
  ·rename_i he
   have h0:∀n,n<=steps.length->dR done n=0:=by
    intro n
    induction n with
    |zero=>intro _;rfl
    |succ n ih=>
     intro hn;rw[dR,ih (by omega)]
     cases hd:done n with
     |true=>rfl
     |false=>exact absurd he (ready_some hc done (by omega) hd)
   rw[h0 _ (Nat.le_refl _)];rfl
  ·rename_i i l he;obtain⟨h1,h2,-⟩:=lJ (show i∈bG steps done by rw[he];simp);have hl:=gM h2 _ h1;rw[order_len hc f _ _ (by omega),List.length_append,List.length_singleton];omega
theorem choose_first(i:Nat)(l:List Nat)(u:Nat):eC (i::l) [] u=i:=by
 unfold eC gB;simp
theorem order_run{C:ByteArray->Int×ByteArray}{steps:List Stp}{ck od:List Int}:∀(f:Nat)(done:Nat->Bool)(out:List Dn)(outO:List Nat)(files:List Fil)(u0 u1:Int)(out':List Dn)(F:List Fil),out.map (·.step)=outO.map (fun i:Nat=>(i:Int))->
  gS C steps ck od [] f done out files u0 u1=.ok (out',F)->out'.map (·.step)=(kD steps f done outO).map (fun i:Nat=>(i:Int))
 |0,_,_,_,_,_,_,_,_,he,h=>by rw[gS] at h;cases h;exact he
 |f+1,done,out,outO,files,u0,u1,out',F,he,h=>by
  rw[gS] at h;rw[kD];split at h
  ·rename_i hz;cases h;rw[List.isEmpty_iff.1 hz];exact he
  ·rename_i hz
   cases hr:bG steps done with
   |nil=>rw[hr] at hz;exact absurd rfl hz
   |cons i l=>
    rw[hr,choose_first] at h;obtain⟨h1,h2,-⟩:=lJ (show i∈bG steps done by rw[hr];simp);rw[List.getElem?_eq_getElem h1] at h;simp only at h
    cases hd:aX C steps[i] files ck od u0 u1 with
    |error e=>rw[hd] at h;cases h
    |ok p=>
     obtain⟨t,sw,a,b⟩:=p;rw[hd] at h;simp only at h ⊢;exact order_run f _ _ _ _ _ _ _ _ (by rw[List.map_append,List.map_append,he];rfl) h
theorem order_law{C:ByteArray->Int×ByteArray}{r:Rcp}{ck od:List Int}(hR:mH r):(iW r).length=r.steps.length/\∀m s,pR C r ck od []=.ok (m,s)->m.map (·.step)=(iW r).map (fun i:Nat=>(i:Int))/\m.length=r.steps.length:=by
 have e:iW r=oK r.steps:=by unfold iW;rw[if_neg (by simp[inspectE_of hR])]
 rw[e];refine⟨?_,fun m s h=>?_⟩
 ·unfold oK;rw[order_len hR.circ _ _ _ (by rw[lC];omega),lC,List.length_nil,Nat.zero_add]
 ·obtain⟨-,F,hF,-⟩:=runL_ok h;exact⟨order_run _ _ _ _ _ _ _ _ _ rfl hF,(run_steps hR hF).2⟩
theorem Tr.at_{C:ByteArray->Int×ByteArray}{steps:List Stp}{ck od:List Int}{d:Dn}{l:List Dn}{files F:List Fil}{u0 u1:Int}(h:Tr C steps ck od (d::l) files u0 u1 F):
  ∃(i:Nat)(s:Stp)(a b:Int),d.step=(i:Int)/\steps[i]? =some s/\aX C s files ck od u0 u1=.ok (d.out,d.saw,a,b)/\aI (cG s files d.out) s.out=some d.out/\Tr C steps ck od l (cG s files d.out) a b F:=by
 cases h with
 |cons hs hd ht=>exact⟨_,_,_,_,rfl,hs,hd,find_do (do_parts hd).2.2.2.1,ht⟩
theorem Tr.end_{C:ByteArray->Int×ByteArray}{steps:List Stp}{ck od:List Int}{files F:List Fil}{u0 u1:Int}(h:Tr C steps ck od [] files u0 u1 F):F=files:=by
 cases h;rfl
end Go.Proofs.YtacgopankhpnbaaGreatDoor
