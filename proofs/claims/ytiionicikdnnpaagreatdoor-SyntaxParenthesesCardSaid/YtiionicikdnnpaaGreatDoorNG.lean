/- Texts of this seat, joined. -/
import Derived.Test.YtiionicikdnnpaaGreatDoorNF
set_option linter.unusedVariables false
set_option linter.unusedSimpArgs false
namespace Go.Proofs.YtiionicikdnnpaaGreatDoor
theorem SW{p:Prop}(h:p:=by rw[List.length_append,List.length_singleton];omega):p:=h
theorem RO{p:Prop}(h:p:=by
 cases h;unfold bM cB;simp only;rw[hr,decide_eq_true h8,List.all_eq_true.2 he,decide_eq_true hl]
 exact⟨rfl,rfl⟩):p:=h
theorem levelsFs_inr:∀{fs:List Fld}{x:Fld},x∈fs->aZ x.2<=cH fs
 |[],x,h=>by cases h
 |(s,t)::r,x,h=>by
  rw[cH];rcases List.mem_cons.1 h with rfl|h
  ·exact Nat.le_max_left _ _
  exact Nat.le_trans (levelsFs_inr h) (Nat.le_max_right _ _)
theorem fieldsOk_iff{p:Ty->Bool}:∀{fs:List Fld}{before:Option bA},eQ p before fs=true↔dJ before (fs.map (·.1))=true/\∀x∈fs,p x.2=true
 |[],before=>by simp[eQ,dJ]
 |(n,t)::r,before=>by
  simp only[eQ,List.map_cons,dJ,Bool.and_eq_true,fieldsOk_iff (fs:=r),List.mem_cons,forall_eq_or_imp];constructor
  ·rintro⟨⟨⟨h1,h2⟩,h3⟩,h4,h5⟩;exact⟨⟨⟨h1,h2⟩,h4⟩,h3,h5⟩
  rintro⟨⟨⟨h1,h2⟩,h4⟩,h3,h5⟩;exact⟨⟨⟨h1,h2⟩,h3⟩,h4,h5⟩
theorem ty_mono:∀(d:Nat)(t:Ty),aR d t=true->∀n,aZ t<=n->aR n t=true
 |0,.mk k fs,h,_,_=>by simp[aR] at h
 |d+1,.mk k fs,h,n,hn=>by
  rw[aZ] at hn;obtain⟨n,rfl⟩:∃q,n=q+1:=⟨n-1,by omega⟩;rw[aR,Bool.and_eq_true,fieldsOk_iff] at h ⊢;exact⟨h.1,h.2.1,fun x hx=>ty_mono d x.2 (h.2.2 x hx) n (by have:=levelsFs_inr hx;omega)⟩
def GT(t:Ty):Prop:=aR (aZ t) t=true
theorem gt_rec{fs:List Fld}(h8:fs.length<=8)(hn:dJ none (fs.map (·.1))=true)(hg:∀x∈fs,GT x.2):GT (.mk 2 fs):=by
 unfold GT;rw[aZ,aR,Bool.and_eq_true,fieldsOk_iff];exact⟨by simp[h8],hn,fun x hx=>ty_mono _ x.2 (hg x hx) _ (levelsFs_inr hx)⟩
theorem gt_right{t:Ty}{n:Nat}(h:GT t)(hl:aZ t<=n):aR n t=true:=ty_mono _ t h n hl
section
variable {l:List Tok}
theorem more_inv{i j:Nat}{t:Ty}{e:bA}{q:Bool}(h:lE l i t e=.ok (q,j)):aZ t<=4:=by
 unfold lE at h;split at h
 ·obtain⟨_,_,h1,-⟩:=aK h;simpa using end_inv h1
 obtain⟨_,_,h1,-⟩:=aK h;simpa using end_inv h1
theorem typedFrom_gt{rec:Nat->PR Ty}(hr:∀i t j,rec i=.ok (t,j)->GT t):∀(n:Nat)(fs:List Fld)(i:Nat)(t:Ty)(j:Nat),fs.length<=8->dJ none (fs.map (·.1))=true->(∀x∈fs,GT x.2)->dE l rec n fs i=.ok (t,j)->GT t
 |0,fs,i,t,j,h8,hn,hg,h=>by rw[dE] at h;cases h;exact gt_rec h8 hn hg
 |n+1,fs,i,t,j,h8,hn,hg,h=>by
  rw[dE] at h;obtain⟨_,_,h1,h⟩:=aK h;obtain⟨s,_,h2,h⟩:=aK h;obtain⟨T,_,h3,h⟩:=aK h;obtain⟨q,_,h4,h⟩:=aK h;obtain⟨hs,FO,yG⟩:=later_inv h2;rw[if_pos FO] at h1;have qA:=nA h1
  have FP:dJ none ((fs++[(s,T)]).map (·.1))=true:=by
   rw[List.map_append,List.map_cons,List.map_nil];refine names_snoc hn hs fun b hb=>?_;rw[List.getLast?_map] at hb
   cases hq:fs.getLast? with
   |none=>rw[hq] at hb;cases hb
   |some y=>
    rw[hq] at hb;cases hb
    have:=yG (decide_eq_true (by
     cases fs with
     |nil=>simp at hq
     |cons a r=>simp))
    rw[hq] at this;exact this
  have xT:∀x∈fs++[(s,T)],GT x.2:=fun x hx=>by
   rcases List.mem_append.1 hx with hx|hx
   ·exact hg x hx
   rw[List.mem_singleton.1 hx];exact hr _ _ _ h3
  have h82:(fs++[(s,T)]).length<=8:=SW;split at h
  ·cases h;exact gt_rec h82 FP xT
  exact typedFrom_gt hr n _ _ t j h82 FP xT h
theorem typed_gt:∀(f i:Nat)(t:Ty)(j:Nat),eF l f i=.ok (t,j)->GT t
 |0,i,t,j,h=>by rw[eF] at h;cases h
 |f+1,i,t,j,h=>by
  rw[eF] at h;split at h
  ·cases h;show aR _ _=true;decide+kernel
  split at h
  ·cases h;show aR _ _=true;decide+kernel
  obtain⟨_,_,-,h⟩:=aK h;split at h
  ·cases h;show aR _ _=true;decide+kernel
  exact typedFrom_gt (fun i t j h=>typed_gt f i t j h) _ _ _ _ _ (by simp) rfl (fun x hx=>by cases hx) h
theorem flds_snoc:∀{fs:List Fld}{known:List bA}{n:bA}{t:Ty},bB fs known=true->(known.any fun x=>decide (x=n))=false->(fs.any fun x=>decide (x.1=n))=false->aM n=true->aR 4 t=true->bB (fs++[(n,t)]) known=true
 |[],known,n,t,_,hk,_,hn,ht=>by simp[bB,hk,hn,ht]
 |(m,u)::r,known,n,t,h,hk,hf,hn,ht=>by
  rw[List.cons_append];rw[bB] at h ⊢;split at h
  ·cases h
  rename_i hc;rw[if_neg hc];rw[List.any_cons,Bool.or_eq_false_iff] at hf;refine flds_snoc h ?_ hf.2 hn ht;rw[List.any_cons,hk,Bool.or_false];exact hf.1
theorem fieldsFrom_ok{most:Nat}:∀(n:Nat)(fs:List Fld)(i:Nat)(gs:List Fld)(j:Nat),fs.length<=most->bB fs []=true->cK l most n fs i=.ok (gs,j)->bM gs most=true
 |0,fs,i,gs,j,hm,hr,h=>by rw[cK] at h;cases h;unfold bM;rw[hr,decide_eq_true hm];rfl
 |n+1,fs,i,gs,j,hm,hr,h=>by
  rw[cK] at h;obtain⟨_,_,h1,h⟩:=aK h;obtain⟨s,_,h2,h⟩:=aK h;obtain⟨T,_,h3,h⟩:=aK h;obtain⟨q,_,h4,h⟩:=aK h;obtain⟨hs,FO,hk⟩:=fresh_inv h2;rw[if_pos FO] at h1;have qA:=nA h1;have hm2:(fs++[(s,T)]).length<=most:=SW;have yV:=flds_snoc hr (by rfl) hk hs (gt_right (typed_gt _ _ _ _ h3) (more_inv h4));split at h
  ·cases h;unfold bM;rw[yV,decide_eq_true hm2];rfl
  exact fieldsFrom_ok n _ _ gs j hm2 yV h
theorem fields_ok{most i j:Nat}{gs:List Fld}(h:gK l most i=.ok (gs,j)):bM gs most=true:=by
 unfold gK at h;obtain⟨_,_,-,h⟩:=aK h;split at h
 ·cases h;unfold bM;simp[bB]
 exact fieldsFrom_ok _ _ _ _ _ (by simp) rfl h
variable (hT:∀i,TokG (aI l i))
include hT
theorem whole_ok{i j:Nat}{e:bA}{x:Xp}(h:iM l i e=.ok (x,j)):aJ 12 x=true:=by
 unfold iM jY at h;obtain⟨y,_,h1,h⟩:=aK h;obtain⟨_,_,h2,h⟩:=aK h;cases h;exact gx_right (exp_gx hT _ _ _ _ _ h1) (by simpa using end_inv h2)
theorem wholesFrom_ok{e:bA}:∀(n:Nat)(out:List Xp)(i:Nat)(xs:List Xp)(j:Nat),(∀x∈out,aJ 12 x=true)->dR l e n out i=.ok (xs,j)->(∀x∈xs,aJ 12 x=true)/\xs.length=out.length+n+1
 |0,out,i,xs,j,ho,h=>by
  rw[dR] at h;obtain⟨x,_,h1,h⟩:=aK h;cases h;refine⟨fun y hy=>?_,by simp⟩;rcases List.mem_append.1 hy with hy|hy
  ·exact ho y hy
  rw[List.mem_singleton.1 hy];exact whole_ok hT h1
 |n+1,out,i,xs,j,ho,h=>by
  rw[dR] at h;obtain⟨x,_,h1,h⟩:=aK h
  obtain⟨g1,g2⟩:=wholesFrom_ok n _ _ xs j (fun y hy=>by
   rcases List.mem_append.1 hy with hy|hy
   ·exact ho y hy
   rw[List.mem_singleton.1 hy];exact whole_ok hT h1) h
  refine⟨g1,?_⟩;rw[g2,List.length_append,List.length_singleton];omega
theorem wholes_ok{n i j:Nat}{e:bA}{xs:List Xp}(h:fL l n i e=.ok (xs,j)):cB xs n=true:=by
 unfold fL at h;unfold cB;rw[Bool.and_eq_true,decide_eq_true_eq,List.all_eq_true];split at h
 ·obtain⟨_,_,-,h⟩:=aK h;cases h;exact⟨fun x hx=>(by cases hx),rfl⟩
 obtain⟨g1,g2⟩:=wholesFrom_ok hT _ _ _ _ _ (fun x hx=>(by cases hx)) h;exact⟨g1,by rw[g2];simp⟩
omit hT in
theorem effects_le(i:Nat):0<=(dF l cD 0 i).1/\(dF l cD 0 i).1<=15:=by
 unfold cD;simp only[dF]
 repeat' split
 all_goals(simp only;decide)
omit hT in
theorem effOk_le{e:Int}(h0:0<=e)(h1:e<=15):effOk e=true:=by
 exact QX
theorem function_ok{i j:Nat}{known:bA->Bool}{f:Fnc}(h:gW l i known=.ok (f,j)):aM f.name=true/\known f.name=false/\eY f=true/\0<=f.effects/\f.effects<=15:=by
 unfold gW at h;obtain⟨_,_,-,h⟩:=aK h;obtain⟨name,_,h1,h⟩:=aK h;obtain⟨ps,_,h2,h⟩:=aK h;obtain⟨t,_,h3,h⟩:=aK h;obtain⟨ef,_,h4,h⟩:=aK h;obtain⟨_,_,h5,h⟩:=aK h;obtain⟨e,_,h6,h⟩:=aK h;cases h;obtain⟨hs,-,hk⟩:=fresh_inv h1
 have BB:aZ t<=4/\0<=ef.1/\ef.1<=15:=by
  unfold lC at h4;split at h4
  ·obtain⟨_,_,k1,h4⟩:=aK h4;(have hl:aZ t<=4:=by simpa using end_inv k1);split at h4
   ·cases h4;exact⟨hl,effects_le _⟩
   cases h4
  cases h4;exact⟨by simpa using end_inv h5,Int.le_refl 0,show(0:Int)<=15 by decide⟩
 refine⟨hs,hk,?_,BB.2⟩;unfold eY;simp only;rw[fields_ok h2,gt_right (typed_gt _ _ _ _ h3) BB.1,whole_ok hT h6,effOk_le BB.2.1 BB.2.2];rfl
omit hT in
theorem uses_snoc:∀{us known:List bA}{n:bA},cW us known=true->(known.any fun x=>decide (x=n))=false->(us.any fun x=>decide (x=n))=false->aM n=true->cW (us++[n]) known=true
 |[],known,n,_,hk,_,hn=>by simp[cW,hk,hn]
 |m::r,known,n,h,hk,hf,hn=>by
  rw[List.cons_append];rw[cW] at h ⊢;split at h
  ·cases h
  rename_i hc;rw[if_neg hc];rw[List.any_cons,Bool.or_eq_false_iff] at hf;refine uses_snoc h ?_ hf.2 hn;rw[List.any_cons,hk,Bool.or_false];exact hf.1
omit hT in
theorem uses_ok:∀(n:Nat)(out:List bA)(i:Nat)(us:List bA)(j:Nat),out.length<=12->cW out []=true->eM l n out i=.ok (us,j)->cW us []=true/\us.length<=12
 |0,out,i,us,j,CG,hr,h=>by rw[eM] at h;cases h;exact⟨hr,CG⟩
 |n+1,out,i,us,j,CG,hr,h=>by
  rw[eM] at h;split at h
  ·obtain⟨_,_,h1,h⟩:=aK h;obtain⟨s,_,h2,h⟩:=aK h;obtain⟨_,_,-,h⟩:=aK h;obtain⟨hs,-,hk⟩:=fresh_inv h2;have qA:=nA h1;exact uses_ok n _ _ us j SW (uses_snoc hr rfl hk hs) h
  cases h;exact⟨hr,CG⟩
theorem vars_ok:∀(n:Nat)(vs:List Fld)(es:List Xp)(i:Nat)(r:List Fld×List Xp)(j:Nat),vs.length<=8->bB vs []=true->(∀x∈es,aJ 12 x=true)->es.length=vs.length->eV l n vs es i=.ok (r,j)->bM r.1 8=true/\cB r.2 r.1.length=true
 |0,vs,es,i,r,j,h8,hr,he,hl,h=>by
  rw[eV] at h;exact RO
 |n+1,vs,es,i,r,j,h8,hr,he,hl,h=>by
  rw[eV] at h;split at h
  ·obtain⟨_,_,h1,h⟩:=aK h;obtain⟨s,_,h2,h⟩:=aK h;obtain⟨T,_,h3,h⟩:=aK h;obtain⟨_,_,h4,h⟩:=aK h;obtain⟨e,_,h5,h⟩:=aK h;obtain⟨hs,-,hk⟩:=fresh_inv h2;have qA:=nA h1
   exact vars_ok n _ _ _ r j SW (flds_snoc hr rfl hk hs (gt_right (typed_gt _ _ _ _ h3) (by simpa using end_inv h4))) (fun x hx=>by
    rcases List.mem_append.1 hx with hx|hx
    ·exact he x hx
    rw[List.mem_singleton.1 hx];exact whole_ok hT h5) (by simp[hl]) h
  exact RO
omit hT in
theorem funcs_snoc:∀{fs:List Fnc}{known:List bA}{f:Fnc},bK fs known=true->(known.any fun x=>decide (x=f.name))=false->(fs.any fun x=>decide (x.name=f.name))=false->aM f.name=true->eY f=true->bK (fs++[f]) known=true
 |[],known,f,_,hk,_,hn,hf=>by simp[bK,hk,hn,hf]
 |m::r,known,f,h,hk,ha,hn,hf=>by
  rw[List.cons_append];rw[bK] at h ⊢;split at h
  ·cases h
  rename_i hc;rw[if_neg hc];rw[List.any_cons,Bool.or_eq_false_iff] at ha;refine funcs_snoc h ?_ ha.2 hn hf;rw[List.any_cons,hk,Bool.or_false];exact ha.1
theorem funcs_ok:∀(n:Nat)(out:List Fnc)(i:Nat)(fs:List Fnc)(j:Nat),out.length<=30->bK out []=true->(∀f∈out,0<=f.effects/\f.effects<=15)->dQ l n out i=.ok (fs,j)->bK fs []=true/\fs.length<=30/\∀f∈fs,0<=f.effects/\f.effects<=15
 |0,out,i,fs,j,I5,hr,he,h=>by rw[dQ] at h;cases h;exact⟨hr,I5,he⟩
 |n+1,out,i,fs,j,I5,hr,he,h=>by
  rw[dQ] at h;split at h
  ·obtain⟨_,_,h1,h⟩:=aK h;obtain⟨f,_,h2,h⟩:=aK h;obtain⟨hs,hk,hf,h0,h15⟩:=function_ok hT h2;have qA:=nA h1
   exact funcs_ok n _ _ fs j SW (funcs_snoc hr rfl hk hs hf) (fun x hx=>by
    rcases List.mem_append.1 hx with hx|hx
    ·exact he x hx
    rw[List.mem_singleton.1 hx];exact⟨h0,h15⟩) h
  cases h;exact⟨hr,I5,he⟩
theorem module_ok{m:Mdl}{j:Nat}(h:fD l=.ok (m,j)):eX m=true/\∀f∈m.funcs,0<=f.effects/\f.effects<=15:=by
 unfold fD at h;obtain⟨_,_,-,h⟩:=aK h;obtain⟨name,_,h1,h⟩:=aK h;obtain⟨_,_,-,h⟩:=aK h;obtain⟨us,_,h2,h⟩:=aK h;obtain⟨ve,_,h3,h⟩:=aK h;obtain⟨fs,_,h4,h⟩:=aK h;obtain⟨mv,_,h5,h⟩:=aK h;split at h
 ·cases h;obtain⟨u1,u2⟩:=uses_ok _ _ _ _ _ (by simp) rfl h2;obtain⟨v1,v2⟩:=vars_ok hT _ _ _ _ _ _ (by simp) rfl (fun x hx=>(by cases hx)) rfl h3;obtain⟨f1,f2,f3⟩:=funcs_ok hT _ _ _ _ _ (by simp) rfl (fun x hx=>(by cases hx)) h4;refine⟨?_,f3⟩;unfold eX;simp only;rw[u1,f1,(lA h1).1,decide_eq_true u2,decide_eq_true f2,v1,v2];unfold oY at h5;split at h5
  ·obtain⟨old,_,k1,h5⟩:=aK h5;obtain⟨_,_,-,h5⟩:=aK h5;obtain⟨fw,_,k2,h5⟩:=aK h5;obtain⟨bk,_,k3,h5⟩:=aK h5;cases h5;have w2:=wholes_ok hT k2;have w3:=wholes_ok hT k3;simp[fields_ok k1,w2,w3]
  cases h5;simp[bM,cB,bB]
 cases h
end
theorem iH{s:bA}{m:Mdl}(h:eI s=.ok m):eX m=true/\∀f∈m.funcs,0<=f.effects/\f.effects<=15:=by
 unfold eI at h;split at h
 ·cases h
 rename_i l hl;split at h
 ·cases h
 rename_i m' j hm;cases h;exact module_ok (lexL_is hl) hm
end Go.Proofs.YtiionicikdnnpaaGreatDoor
namespace Go.Proofs.YtiionicikdnnpaaGreatDoor
def fA(l:List Tok):PR Xp:=(jY l 0 0).bnd fun e j=>if(aI l j).kind=3 then(if bE e<=12 then .ok (e,j) else gO l j 6) else gO l j 11
def fN(s:bA):Except (Int×Int) Xp:=match lX s with
 | .error e=>.error e
 | .ok l=>match fA l with
  | .error e=>.error e
  | .ok (e,_)=>.ok e
theorem spelt_parseX{e:Xp}(h:aJ 12 e=true){s:bA}(hs:dG s.data.toList (aG e))(hz:s.size<=8000):fN s=.ok e:=by
 obtain⟨l,h1,h2,h3⟩:=lex_of hs hz (by rw[cZ];exact hs.length);obtain⟨hL,hE⟩:=lies_all (e:=⟨3,⟨#[]⟩,0,s.size⟩) h2 h3;have hk:(aI (l++[⟨3,⟨#[]⟩,0,s.size⟩]) (0+(aG e).length)).kind=3:=by rw[Nat.zero_add,hE]
 have hx:=exp_back h (F:=(l++[(⟨3,⟨#[]⟩,0,s.size⟩:Tok)]).length+1) hL (by omega) (stops_end hk);unfold fN fA jY;rw[h1];simp only;rw[hx,bnd_ok,if_pos hk,if_pos (depth_right 12 e h)]
theorem exp_spells{e:Xp}(h:aJ 12 e=true):dG (iI (aG e)) (aG e):=by
 have:=dG.joined (ts:=aG e) (r:=[]) (us:=[]) (mV 12 e h) (fun c hc=>by cases hc) (.none [] fun c hc=>by cases hc);simpa using this
theorem printX_parse{e:Xp}{s:bA}(h:jD e=.ok s):fN s=.ok e/\aJ 12 e=true/\s.size<=8000/\s=bs (iI (aG e)):=by
 unfold jD at h;split at h
 ·rename_i hr;unfold mG at h;split at h
  ·cases h
  rename_i hz;cases h;exact⟨spelt_parseX hr (exp_spells hr) (by omega),hr,by omega,rfl⟩
 cases h
theorem iQ{s:bA}{e:Xp}(h:fN s=.ok e):aJ 12 e=true:=by
 unfold fN at h;split at h
 ·cases h
 rename_i l hl;split at h
 ·cases h
 rename_i e' j hm;cases h;unfold fA jY at hm;obtain⟨x,j1,h1,hm⟩:=aK hm;split at hm
 ·split at hm
  ·rename_i hd;cases hm;exact gx_right (exp_gx (lexL_is hl) _ _ _ _ _ h1) hd
  cases hm
 cases hm
theorem token_noblank{t:bA}(h:dS t=true):∀c∈t.data.toList,cI c=false:=by
 intro c hc
 cases hb:cI c with
 |false=>rfl
 |true=>
  obtain⟨b1,b2,-⟩:=blank_not hb;rcases token_cases h with h|⟨n,h⟩|h
  ·obtain⟨_,_,-,-,uQ⟩:=word_parts h;rw[uQ c hc] at b1;cases b1
  ·obtain⟨_,_,-,-,uQ⟩:=mJ h;rw[uQ c hc] at b2;cases b2
  simp only[dU,List.mem_cons,List.not_mem_nil,or_false] at h;rcases h with h|h|h|h|h|h|h|h|h|h|h|h|h|h<;>subst h<;>simp at hc<;>(try rcases hc with rfl|rfl)<;>subst_vars<;>exact hb.symm.trans (by decide)
def gT(s:bA):bA:=bs (s.data.toList.map fun c=>if c=32 then 10 else c)
theorem spread_spells{b:List UInt8}{ts:List bA}(h:dG b ts)(ht:∀t∈ts,dS t=true):dG (b.map fun c=>if c=32 then 10 else c) ts:=by
 refine dG.spread (fun c hc=>?_) (fun c hc=>?_) h (fun t h=>token_noblank (ht t h))
 ·rcases blank_cases hc with rfl|rfl|rfl<;>decide
 rw[if_neg (fun e=>by rw[e] at hc;revert hc;decide)]
theorem toks_valid{m:Mdl}(h:eX m=true):∀t∈toksM m,dS t=true:=by
 intro t ht;rw[<-lines_toks] at ht;obtain⟨ts,h1,h2⟩:=List.mem_flatMap.1 ht;rcases List.mem_append.1 h2 with h2|h2
 ·exact mod_valid h ts h1 t h2
 rw[List.mem_singleton.1 h2];decide+kernel
theorem fJ(s:bA):(gT s).size=s.size:=by rw[cZ,cZ];unfold gT;simp
theorem spread_print{m:Mdl}{s:bA}(he:∀f∈m.funcs,0<=f.effects/\f.effects<=15)(h:kD m=.ok s):eI (gT s)=.ok m:=by
 obtain⟨-,hr,hz,rfl⟩:=print_parse he h;exact spelt_parse hr he (spread_spells (text_spells hr) (toks_valid hr)) (by rw[fJ];exact hz)
theorem nW{e:Xp}{s:bA}(h:jD e=.ok s):fN (gT s)=.ok e:=by
 obtain⟨-,hr,hz,rfl⟩:=printX_parse h;exact spelt_parseX hr (spread_spells (exp_spells hr) (mV 12 e hr)) (by rw[fJ];exact hz)
theorem compile_same{s t:bA}{m:Mdl}(h:eI s=.ok m)(hp:kD m=.ok t):compileStep t=compileStep s:=by
 obtain⟨hr,he⟩:=iH h;unfold compileStep;rw[h,(print_parse he hp).1]
theorem print_full{s:bA}{m:Mdl}{e:Int}(h:eI s=.ok m)(hp:kD m=.error e):e=6:=by
 unfold kD at hp;rw[if_pos (iH h).1] at hp;unfold mG at hp;split at hp
 ·cases hp;rfl
 cases hp
theorem RC{p:Prop}(h:p:=by
 simp only[tsz]
 omega):p:=h
def tsz:List bA->Nat
 |[]=>0
 |t::r=>t.size+1+tsz r
theorem eW:∀a b:List bA,tsz (a++b)=tsz a+tsz b
 |[],b=>by simp[tsz]
 |t::a,b=>by rw[List.cons_append,tsz,tsz,eW a b];omega
theorem aV(t:bA)(r:List bA):tsz (t::r)=t.size+1+tsz r:=by rw[tsz]
def bX:Nat->Nat
 |0=>0
 |d+1=>208+8*bX d
def bT:Nat->Nat
 |0=>0
 |d+1=>188+8*bT d
theorem gL{s:bA}(h:aM s=true):s.size<=20:=by
 have:=oV h;unfold eT at this;split at this
 ·cases this
 simp only[Bool.and_eq_true,decide_eq_true_eq] at this;exact this.1.2
theorem lO{B:Nat}:∀{L:List (List bA)},(∀x∈L,tsz x<=B)->tsz (aL L)<=L.length*(B+2)
 |[],_=>by simp[aL,tsz]
 |[x],h=>by
  have:=h x (by simp);simp[aL];omega
 |x::y::r,h=>by
  have h1:=h x (by simp);have h2:=lO (L:=y::r) fun z hz=>h z (by simp[hz]);rw[aL,eW,aV,List.length_cons,Nat.succ_mul];have e:aY.size=1:=rfl;rw[e];omega
theorem rec_size{B:Nat}:∀{names:List bA}{before:Option bA}{args:List Xp},dJ before names=true->(∀x∈args,tsz (aG x)<=B)->∀p∈iG names (cV args),tsz p<=23+B
 |[],_,_,_,_,p,hp=>by simp[iG] at hp
 |_::_,_,[],_,_,p,hp=>by simp[iG,cV] at hp
 |n::ns,_,x::xs,hn,h,p,hp=>by
  simp only[dJ,Bool.and_eq_true] at hn;rw[cV,iG,List.mem_cons] at hp;rcases hp with rfl|hp
  ·have h1:=gL hn.1.1;have h2:=h x (by simp);rw[aV,aV];have e:kEq.size=1:=rfl;rw[e];simp only;omega
  exact rec_size hn.2 (fun y hy=>h y (by simp[hy])) p hp
theorem recT_length:∀(names:List bA)(as:List (Nat×List bA)),(iG names as).length<=names.length
 |[],_=>by simp[iG]
 |_::_,[]=>by simp[iG]
 |n::ns,a::as=>by rw[iG,List.length_cons,List.length_cons];have:=recT_length ns as;omega
theorem numX_size{n:Int}(h0:0<=n)(h1:n<=1099511627776):(numX n).size<=13:=by
 have h:=nS h0 h1;unfold cO at h;split at h
 ·cases h
 split at h
 ·rename_i hc;simp only[Bool.and_eq_true,decide_eq_true_eq] at hc;exact hc.1.2
 cases h
theorem exp_size:∀(d:Nat)(e:Xp),aJ d e=true->tsz (aG e)+4<=bX d:=by
 intro d
 induction d with
 |zero=>intro e h;obtain⟨op,n,s,m,names,args⟩:=e;simp[aJ] at h
 |succ d ih=>
  intro e h
  have at_:∀{a lf},aJ d a=true->tsz (aX a lf)<=bX d:=fun{a lf}ha=>by
   have h1:=ih a ha;by_cases ho:jE a<lf
   ·rw[jM ho,aV,eW,aV];have e1:aS.size=1:=rfl;have e2:bQ.size=1:=rfl;rw[e1,e2];exact RC
   rw[dZ ho];omega
  have w:∀{a},aJ d a=true->tsz (aG a)<=bX d:=fun ha=>by have:=ih _ ha;omega
  rw[bX]
  cases shape_of h with
  |int n h0 h1=>
   rw[wd_int,aV];have:=numX_size h0 h1;exact RC
  |bool n hn=>
   rw[wd_bool];rcases hn with rfl|rfl
   ·rw[if_neg (by decide)];have:tsz [bU]=6:=rfl;omega
   rw[if_pos rfl];have:tsz [cU]=5:=rfl;omega
  |var s hs=>
   rw[wd_var,aV];have:=gL hs;exact RC
  |get s hs=>
   rw[wd_get,aV,aV];have:=gL hs;have e:gM.size=3:=rfl;exact RC
  |bin t op fm a b ht ha hb=>
   rw[wd_bin ht,eW,aV];have h1:=at_ (lf:=if fm=4 then 5 else fm) ha;have h2:=at_ (lf:=fm+1) hb;(have h3:t.size<=3:=by rcases jP ht with h|h|h|h|h|h|h<;>rw[h.1]<;>decide+kernel);omega
  |not a ha=>
   rw[wd_not,aV];have h1:=at_ (lf:=3) ha;have e:mD.size=3:=rfl;omega
  |iff a b c ha hb hc=>
   rw[wd_if,aV,eW,aV,eW,aV];have h1:=at_ (lf:=0) ha;have h2:=at_ (lf:=0) hb;have h3:=at_ (lf:=0) hc;have e1:kIf.size=2:=rfl;have e2:kU.size=4:=rfl;have e3:kV.size=4:=rfl;omega
  |lets s a b hs ha hb=>
   rw[wd_let,aV,aV,aV,eW,aV];have h1:=at_ (lf:=0) ha;have h2:=at_ (lf:=0) hb;have h3:=gL hs;have e1:lJ.size=3:=rfl;have e2:kEq.size=1:=rfl;have e3:kIn.size=2:=rfl;omega
  |set s a hs ha=>
   rw[wd_set,aV,aV];have h1:=at_ (lf:=0) ha;have h3:=gL hs;have e1:mL.size=3:=rfl;omega
  |field s a hs ha=>
   rw[oH,eW,aV,aV];have h1:=at_ (lf:=7) ha;have h3:=gL hs;have e1:kX.size=1:=rfl;exact RC
  |recd names args hn h8 qG ha=>
   rw[wd_rec,aV,eW,aV];have h1:=lO (rec_size hn fun x hx=>w (ha x hx));have h2:=recT_length names (cV args);have h3:(iG names (cV args)).length*(23+bX d+2)<=8*(23+bX d+2):=Nat.mul_le_mul_right _ (by omega);have e1:bH.size=1:=rfl;have e2:cL.size=1:=rfl;exact RC
  |call s m args hs hm h6 ha=>
   rw[wd_call,eW,List.singleton_append,aV,aV,eW,aV]
   have h1:=lO (L:=args.map aG) (B:=bX d) fun x hx=>by
    obtain⟨y,hy,rfl⟩:=List.mem_map.1 hx;exact w (ha y hy)
   have h2:(args.map aG).length*(bX d+2)<=6*(bX d+2):=Nat.mul_le_mul_right _ (by rw[List.length_map];exact h6);have h3:=gL hs
   have h4:tsz (if m≠noB then[m,kX] else[])<=23:=by
    split
    ·rename_i yE;have:=gL (hm.resolve_left yE);have e:kX.size=1:=rfl;exact RC
    simp[tsz]
   have e1:aS.size=1:=rfl;have e2:bQ.size=1:=rfl;exact RC
  |act n a hn ha=>
   have key:∀w',w'.size<=7->(cD.filter fun w=>decide (w.2=n)).map (·.1)=[w']->tsz (aG (.mk 16 n noB noB [] [a]))+4<=208+8*bX d:=fun w' hw he=>by
    rw[wd_act n a he,aV,aV,eW,aV];have h1:=w ha;have e1:aS.size=1:=rfl;have e2:bQ.size=1:=rfl;exact RC
   exact QG
theorem exp_size12{e:Xp}(h:aJ 12 e=true):tsz (aG e)<=2041950165840:=by
 have h1:=exp_size 12 e h;have h2:bX 12=2041950165840:=by decide
 omega
theorem flds_size{p:Ty->Bool}{B:Nat}:∀{gs:List Fld},(∀g∈gs,aM g.1=true/\tsz (dH g.2)<=B)->∀x∈cE gs,tsz x<=21+B
 |[],_,x,hx=>by simp[cE] at hx
 |(n,t)::r,h,x,hx=>by
  rw[hH,List.mem_cons] at hx;rcases hx with rfl|hx
  ·have h1:=h (n,t) (by simp);have h2:=gL h1.1;have h3:=h1.2;rw[aV];simp only at h2 h3;omega
  exact flds_size (p:=p) (fun g hg=>h g (by simp[hg])) x hx
theorem mO:∀gs:List Fld,(cE gs).length=gs.length
 |[]=>by simp[cE]
 |(n,t)::r=>by rw[hH,List.length_cons,List.length_cons,mO r]
theorem type_size:∀(d:Nat)(t:Ty),aR d t=true->tsz (dH t)<=bT d
 |0,.mk k fs,h=>by simp[aR] at h
 |d+1,.mk k fs,h=>by
  obtain⟨hk,h8,pQ,uF⟩:=ty_parts h;rw[dH,bT];split
  ·have:tsz [kIntW]=4:=rfl;omega
  split
  ·have:tsz [kBool]=5:=rfl;omega
  rw[aV,eW,aV];have h1:=lO (flds_size (p:=aR d) (B:=bT d) fun g hg=>⟨(hJ uF g hg).1,type_size d g.2 (hJ uF g hg).2⟩);rw[mO] at h1;have h2:fs.length*(21+bT d+2)<=8*(21+bT d+2):=Nat.mul_le_mul_right _ h8;have e1:bH.size=1:=rfl;have e2:cL.size=1:=rfl;exact RC
theorem type_size4{t:Ty}(h:aR 4 t=true):tsz (dH t)<=109980:=by
 have h1:=type_size 4 t h;have h2:bT 4=109980:=by decide
 omega
theorem rflds_size{gs:List Fld}{most:Nat}(h:bM gs most=true):tsz (aL (cE gs))<=most*110003:=by
 have h1:=lO (flds_size (p:=aR 4) (B:=109980) fun g hg=>⟨(gP h g hg).1,type_size4 (gP h g hg).2⟩);rw[mO] at h1;unfold bM at h;rw[Bool.and_eq_true,decide_eq_true_eq] at h;exact Nat.le_trans h1 (Nat.mul_le_mul_right _ h.2)
theorem xps_size{es:List Xp}(h:∀e∈es,aJ 12 e=true):tsz (aL (es.map aG))<=es.length*2041950165842:=by
 have h1:=lO (L:=es.map aG) (B:=2041950165840) fun x hx=>by
  obtain⟨y,hy,rfl⟩:=List.mem_map.1 hx;exact exp_size12 (h y hy)
 rw[List.length_map] at h1;exact h1
theorem eff_size(e:Int):tsz (effT e)<=24:=by
 have key:∀l:List (bA×Int),tsz ((l.filter fun w=>decide (Go.bits .and .i64 e w.2≠0)).map (·.1))<=tsz (l.map (·.1)):=by
  intro l
  induction l with
  |nil=>exact Nat.le_refl _
  |cons x r ih=>
   rw[List.filter_cons];split
   ·rw[List.map_cons,List.map_cons,aV,aV];omega
   rw[List.map_cons,aV];omega
 exact Nat.le_trans (key cD) (by decide)
theorem fn_size{f:Fnc}(hn:aM f.name=true)(h:eY f=true):tsz (fnT f)<=2041950936000:=by
 unfold eY at h;simp only[Bool.and_eq_true] at h;obtain⟨⟨⟨hp,hr⟩,hb⟩,-⟩:=h;have h1:=rflds_size hp;have h2:=type_size4 hr;have h3:=exp_size12 hb;have h4:=eff_size f.effects;have h5:=gL hn;have e1:tsz (if f.pub then[kF] else[])<=4:=by split<;>decide
 have e2:tsz (if f.effects≠0 then[hM] else[])<=2:=by split<;>decide
 have e3:kFn.size=2:=rfl;have e4:aS.size=1:=rfl;have e5:bQ.size=1:=rfl;have e6:kEq.size=1:=rfl;unfold fnT;rw[eW,aV,aV,aV,eW,aV,eW,eW,eW,aV];omega
theorem join_size:∀ts:List bA,ts≠[]->(iI ts).length+1=tsz ts
 |[],h=>absurd rfl h
 |[t],_=>by rw[iI,tsz,tsz,<-cZ]
 |t::u::r,_=>by
  have:=join_size (u::r) (by simp);rw[iI,List.length_append,List.length_cons,aV,<-this,cZ];omega
theorem pA(ts:List bA):(fW ts).length=tsz ts+2:=by
 have:=join_size (ts++[dB]) (by simp);rw[eW] at this;have e:tsz [dB]=2:=rfl;unfold fW;rw[List.length_append,List.length_singleton];omega
theorem lines_size{B:Nat}:∀{L:List (List bA)},(∀x∈L,tsz x<=B)->(L.flatMap fW).length<=L.length*(B+2)
 |[],_=>by simp
 |x::r,h=>by
  have h1:=h x (by simp);have h2:=lines_size (L:=r) fun y hy=>h y (by simp[hy]);rw[List.flatMap_cons,List.length_append,pA,List.length_cons,Nat.succ_mul];omega
theorem text_size{m:Mdl}(h:eX m=true):(textM m).size<=140737488355328:=by
 unfold eX at h;simp only[Bool.and_eq_true,decide_eq_true_eq,Bool.or_eq_true] at h;obtain⟨⟨⟨⟨⟨⟨⟨⟨⟨⟨hu,hf⟩,hn⟩,CR⟩,ED⟩,hv⟩,hi⟩,zR⟩,hold⟩,CY⟩,EG⟩:=h
 have hl:∀{es:List Xp}{n:Nat},cB es n=true->es.length=n:=fun h=>by
  unfold cB at h;rw[Bool.and_eq_true,decide_eq_true_eq] at h;exact h.2
 have hv8:m.vars.length<=8:=by unfold bM at hv;rw[Bool.and_eq_true,decide_eq_true_eq] at hv;exact hv.2
 have rZ:m.old.length<=8:=by unfold bM at hold;rw[Bool.and_eq_true,decide_eq_true_eq] at hold;exact hold.2
 have n1:=gL hn
 have a1:(fW [bZ,m.name]).length<=30:=by
  rw[pA,aV,aV];have e:bZ.size=6:=rfl;exact RC
 have a2:=lines_size (L:=m.uses.map fun s=>[pC,s]) (B:=25) fun x hx=>by
  obtain⟨s,hs,rfl⟩:=List.mem_map.1 hx;have:=gL (uses_each hu s hs);have e:pC.size=3:=rfl;rw[aV,aV];exact RC
 have a3:=lines_size (L:=List.zipWith (fun(f:Fld)e=>nJ::f.1::(dH f.2++kEq::aG e)) m.vars m.init) (B:=2041950276000) fun x hx=>by
  obtain⟨g,e,hg,he,rfl⟩:=mem_zipWith hx;have h1:=gL (gP hv g hg).1;have h2:=type_size4 (gP hv g hg).2;have h3:=exp_size12 (jU hi e he);have e1:nJ.size=3:=rfl;have e2:kEq.size=1:=rfl;rw[aV,aV,eW,aV];omega
 have a4:=lines_size (L:=m.funcs.map fnT) (B:=2041950936000) fun x hx=>by
  obtain⟨f,hfm,rfl⟩:=List.mem_map.1 hx;obtain⟨h1,h2⟩:=funcs_each hf f hfm;exact fn_size h1 h2
 have b3:(List.zipWith (fun(f:Fld)e=>nJ::f.1::(dH f.2++kEq::aG e)) m.vars m.init).length<=8:=by rw[List.length_zipWith];omega
 have c2:(m.uses.map fun s=>[pC,s]).length*(25+2)<=12*(25+2):=Nat.mul_le_mul_right _ (by rw[List.length_map];exact CR);have c3:=Nat.mul_le_mul_right (2041950276000+2) b3;have c4:(m.funcs.map fnT).length*(2041950936000+2)<=30*(2041950936000+2):=Nat.mul_le_mul_right _ (by rw[List.length_map];exact ED)
 have a5:((if m.moves then[kK::aS::(aL (cE m.old)++bQ::iB::(aL (m.forward.map aG)++nT::aL (m.back.map aG)))] else[]).flatMap fW).length<=32671203600000:=by
  split
  ·rename_i hm;rw[if_pos hm] at CY;have h1:=rflds_size hold;have h2:=xps_size (jU CY);have h3:=xps_size (jU EG);have h4:m.forward.length*2041950165842<=8*2041950165842:=Nat.mul_le_mul_right _ (by rw[hl CY];exact hv8);have h5:m.back.length*2041950165842<=8*2041950165842:=Nat.mul_le_mul_right _ (by rw[hl EG];exact rZ);have e1:kK.size=4:=rfl;have e2:aS.size=1:=rfl;have e3:bQ.size=1:=rfl;have e4:iB.size=7:=rfl;have e5:nT.size=4:=rfl;rw[List.flatMap_cons,List.flatMap_nil,List.append_nil,pA,aV,aV,eW,aV,aV,eW,aV];omega
  simp
 have e:(textM m).size=((jG m).flatMap fW).length:=by rw[cZ];rfl
 rw[e];unfold jG;rw[List.flatMap_cons,List.flatMap_append,List.flatMap_append,List.flatMap_append,List.length_append,List.length_append,List.length_append,List.length_append];omega
def jJ:Bool->List bA->List UInt8
 |_,[]=>[]
 |ins,t::r=>(if ins then[32] else[])++(t.data.toList++jJ true r)
def insL(ins:Bool)(ts:List bA):Bool:=ins|| !ts.isEmpty
theorem emit_app:∀(ins:Bool)(a b:List bA),jJ ins (a++b)=jJ ins a++jJ (insL ins a) b
 |ins,[],b=>by simp[jJ,insL]
 |ins,t::a,b=>by
  rw[List.cons_append,jJ,jJ,emit_app true a b];simp[insL]
theorem ins_app(ins:Bool)(a b:List bA):insL ins (a++b)=insL (insL ins a) b:=by
 unfold insL;cases a<;>cases b<;>simp
theorem ins_cons(ins:Bool)(t:bA)(r:List bA):insL ins (t::r)=true:=by unfold insL;simp
theorem emit_join:∀ts:List bA,jJ false ts=iI ts
 |[]=>rfl
 |[t]=>by simp[jJ,iI]
 |t::u::r=>by
  have h:=emit_join (u::r);rw[jJ] at h;rw[jJ,jJ,iI,<-h];simp
theorem emit_line(ts:List bA):jJ false (ts++[dB])++[10]=fW ts:=by rw[emit_join];rfl
theorem emit_size:∀(ins:Bool)(ts:List bA),(jJ ins ts).length<=tsz ts
 |ins,[]=>by simp[jJ,tsz]
 |ins,t::r=>by
  have h:=emit_size true r;rw[jJ,tsz,List.length_append,List.length_append,cZ];have:(if ins then[32] else([]:List UInt8)).length<=1:=by split<;>simp
  omega
theorem QW{p:Prop}(h:p:=by
 constructor
 ·rintro⟨⟨⟨⟨⟨h1,h2⟩,h3⟩,h4⟩,h5⟩,h6⟩;exact⟨h1,h2,h3,h4,h5,h6⟩
 rintro⟨h1,h2,h3,h4,h5,h6⟩;exact⟨⟨⟨⟨⟨h1,h2⟩,h3⟩,h4⟩,h5⟩,h6⟩):p:=h
mutual
def kS:Xp->Xp->Bool
 | .mk o n s m ns as,.mk o' n' s' m' ns' as'=>decide (o=o')&&decide (n=n')&&decide (s=s')&&decide (m=m')&&decide (ns=ns')&&eG as as'
def eG:List Xp->List Xp->Bool
 |[],[]=>true
 |x::r,y::q=>kS x y&&eG r q
 |[],_::_=>false
 |_::_,[]=>false
end
mutual
def jN:Ty->Ty->Bool
 | .mk k fs,.mk k' fs'=>decide (k=k')&&eU fs fs'
def eU:List (bA×Ty)->List (bA×Ty)->Bool
 |[],[]=>true
 |(s,t)::r,(s',t')::q=>decide (s=s')&&jN t t'&&eU r q
 |[],_::_=>false
 |_::_,[]=>false
end
def mZ(a b:Fnc):Bool:=decide (a.name=b.name)&&decide (a.pub=b.pub)&&eU a.params b.params&&jN a.result b.result&&decide (a.effects=b.effects)&&kS a.body b.body
def hY:List Fnc->List Fnc->Bool
 |[],[]=>true
 |x::r,y::q=>mZ x y&&hY r q
 |[],_::_=>false
 |_::_,[]=>false
def sameM(a b:Mdl):Bool:=
 hY a.funcs b.funcs&&decide (a.name=b.name)&&decide (a.uses=b.uses)&&eU a.vars b.vars&&eG a.init b.init&&decide (a.moves=b.moves)&&eU a.old b.old&&eG a.forward b.forward&&eG a.back b.back
mutual
theorem iZ:∀(a b:Xp),kS a b=true↔a=b
 | .mk o n s m ns as,.mk o' n' s' m' ns' as'=>by
  rw[kS];simp only[Bool.and_eq_true,decide_eq_true_eq,iN as as',Xp.mk.injEq];exact QW
theorem iN:∀(a b:List Xp),eG a b=true↔a=b
 |[],[]=>by simp[eG]
 |x::r,y::q=>by rw[eG,Bool.and_eq_true,iZ x y,iN r q,List.cons.injEq]
 |[],_::_=>by simp[eG]
 |_::_,[]=>by simp[eG]
end
mutual
theorem oM:∀(a b:Ty),jN a b=true↔a=b
 | .mk k fs,.mk k' fs'=>by rw[jN,Bool.and_eq_true,decide_eq_true_eq,lI fs fs',Ty.mk.injEq]
theorem lI:∀(a b:List (bA×Ty)),eU a b=true↔a=b
 |[],[]=>by simp[eU]
 |(s,t)::r,(s',t')::q=>by rw[eU,Bool.and_eq_true,Bool.and_eq_true,decide_eq_true_eq,oM t t',lI r q,List.cons.injEq,Prod.mk.injEq]
 |[],_::_=>by simp[eU]
 |_::_,[]=>by simp[eU]
end
theorem sameFn_iff(a b:Fnc):mZ a b=true↔a=b:=by
 obtain⟨n,p,ps,r,e,x⟩:=a;obtain⟨n',p',ps',r',e',x'⟩:=b;unfold mZ;simp only[Bool.and_eq_true,decide_eq_true_eq,lI,oM,iZ,Fnc.mk.injEq];exact QW
theorem jO:∀(a b:List Fnc),hY a b=true↔a=b
 |[],[]=>by simp[hY]
 |x::r,y::q=>by rw[hY,Bool.and_eq_true,sameFn_iff x y,jO r q,List.cons.injEq]
 |[],_::_=>by simp[hY]
 |_::_,[]=>by simp[hY]
theorem oN(a b:Mdl):sameM a b=true↔a=b:=by
 obtain⟨n,us,vs,is,fs,mv,o,f,k⟩:=a;obtain⟨n',us',vs',is',fs',mv',o',f',k'⟩:=b;unfold sameM;simp only[Bool.and_eq_true,decide_eq_true_eq,jO,lI,iN,Mdl.mk.injEq];constructor
 ·rintro⟨⟨⟨⟨⟨⟨⟨⟨h1,h2⟩,h3⟩,h4⟩,h5⟩,h6⟩,h7⟩,h8⟩,h9⟩;exact⟨h2,h3,h4,h5,h1,h6,h7,h8,h9⟩
 rintro⟨h2,h3,h4,h5,h1,h6,h7,h8,h9⟩;exact⟨⟨⟨⟨⟨⟨⟨⟨h1,h2⟩,h3⟩,h4⟩,h5⟩,h6⟩,h7⟩,h8⟩,h9⟩
def lawFiles:List Fil:=[⟨⟨#[97]⟩,⟨#[50,10,49,10]⟩⟩,⟨⟨#[98]⟩,⟨#[120]⟩⟩]
theorem TK{p:Prop}(h:p:=by kernel_rfl):p:=h
theorem sm_ex1:fN (bs [97,43,98,42,50,60,99])=.ok (.mk 6 0 noB noB [] [.mk 3 0 noB noB [] [(.mk 2 0 (bs [97]) noB [] []),.mk 5 0 noB noB [] [(.mk 2 0 (bs [98]) noB [] []),(.mk 0 2 noB noB [] [])]],(.mk 2 0 (bs [99]) noB [] [])]):=TK
theorem sm_ex1p:jD (.mk 6 0 noB noB [] [.mk 3 0 noB noB [] [(.mk 2 0 (bs [97]) noB [] []),.mk 5 0 noB noB [] [(.mk 2 0 (bs [98]) noB [] []),(.mk 0 2 noB noB [] [])]],(.mk 2 0 (bs [99]) noB [] [])])=.ok (bs [97,32,43,32,98,32,42,32,50,32,60,32,99]):=TK
theorem sm_ex2p:jD (.mk 5 0 noB noB [] [(.mk 0 2 noB noB [] []),.mk 3 0 noB noB [] [(.mk 2 0 (bs [97]) noB [] []),(.mk 2 0 (bs [98]) noB [] [])]])=.ok (bs [50,32,42,32,40,32,97,32,43,32,98,32,41]):=TK
theorem sm_ex3:fN (bs [112,46,120,42,98,97,115,101,46,100,111,117,98,108,101,40,110,41])=.ok (.mk 5 0 noB noB [] [.mk 14 0 (bs [120]) noB [] [(.mk 2 0 (bs [112]) noB [] [])],.mk 15 0 (bs [100,111,117,98,108,101]) (bs [98,97,115,101]) [] [(.mk 2 0 (bs [110]) noB [] [])]]):=TK
theorem sm_ex3p:jD (.mk 5 0 noB noB [] [.mk 14 0 (bs [120]) noB [] [(.mk 2 0 (bs [112]) noB [] [])],.mk 15 0 (bs [100,111,117,98,108,101]) (bs [98,97,115,101]) [] [(.mk 2 0 (bs [110]) noB [] [])]])=.ok (bs [112,32,46,32,120,32,42,32,98,97,115,101,32,46,32,100,111,117,98,108,101,32,40,32,110,32,41]):=TK
theorem sm_ex4:eI (bs [109,111,100,117,108,101,32,109,59,102,110,32,102,40,41,105,110,116,61,49,59])=.ok (⟨bs [109],[],[],[],[⟨bs [102],false,[],.mk 0 [],0,(.mk 0 1 noB noB [] [])⟩],false,[],[],[]⟩:Mdl):=TK
theorem sm_ex4p:kD (⟨bs [109],[],[],[],[⟨bs [102],false,[],.mk 0 [],0,(.mk 0 1 noB noB [] [])⟩],false,[],[],[]⟩:Mdl)=.ok (bs [109,111,100,117,108,101,32,109,32,59,10,102,110,32,102,32,40,32,41,32,105,110,116,32,61,32,49,32,59,10]):=TK
theorem sm_ex5:eI (bs [109,111,100,117,108,101,32,105,102,59])=.error (7,11):=TK
theorem sm_ex6:eI (bs [109,111,100,117,108,101,32,109,59,118,97,114,32,97,32,105,110,116,59])=.error (18,11):=TK
theorem sm_ex7:eI (bs [109,111,100,117,108,101,32,109,59,118,97,114,32,97,123,121,32,105,110,116,44,120,32,105,110,116,125,61,123,125,59])=.error (21,12):=TK
theorem sm_ex8:eI (bs [109,111,100,117,108,101,32,109,59,102,110,32,102,40,97,32,105,110,116,44,97,32,105,110,116,41,105,110,116,61,49,59])=.error (20,5):=TK
theorem sm_ex9:eX (⟨bs [109],[],[],[],[⟨bs [102],false,[],.mk 0 [],0,(.mk 0 1 noB noB [] [])⟩],false,[],[],[]⟩:Mdl)=true:=TK
theorem sm_ex10:eX ⟨noB,[],[],[],[],false,[],[],[]⟩=false:=TK
theorem sm_ex11:aJ 12 (.mk 2 0 (bs [97]) noB [] [])=true/\aJ 12 (.mk 2 0 noB noB [] [])=false/\aR 4 (.mk 0 [])=true/\aM (bs [97,49])=true/\aM (bs [110,101,116])=false:=by decide+kernel
theorem funcs_less:∀{fs:List Fnc}{known known':List bA},(∀s,(known'.any fun x=>decide (x=s))=true->(known.any fun x=>decide (x=s))=true)->bK fs known=true->bK fs known'=true
 |[],_,_,_,_=>by simp[bK]
 |f::r,known,known',hk,h=>by
  rw[bK] at h ⊢;split at h
  ·cases h
  rename_i hc
  have hkf:(known'.any fun x=>decide (x=f.name))=false:=by
   cases hq:known'.any fun x=>decide (x=f.name) with
   |false=>rfl
   |true=>exact absurd (by rw[hk _ hq];rfl) hc
  have sI:¬((known'.any fun x=>decide (x=f.name))|| !aM f.name|| !eY f)=true:=by
   rw[hkf];intro hq;apply hc;simp only[Bool.or_eq_true] at hq ⊢;rcases hq with(hq|hq)|hq
   ·cases hq
   ·exact .inl (.inr hq)
   exact .inr hq
  rw[if_neg sI];refine funcs_less (fun s hs=>?_) h;rw[List.any_cons,Bool.or_eq_true] at hs ⊢;exact hs.imp id (hk s)
theorem funcs_erase:∀{fs:List Fnc}{known:List bA}(k:Nat),bK fs known=true->bK (fs.take k++fs.drop (k+1)) known=true
 |[],_,k,_=>by simp[bK]
 |f::r,known,0,h=>by
  rw[bK] at h;split at h
  ·cases h
  simpa using funcs_less (fun s hs=>by rw[List.any_cons,hs,Bool.or_true]) h
 |f::r,known,k+1,h=>by
  rw[bK] at h;split at h
  ·cases h
  rename_i hc;rw[List.take_succ_cons,List.cons_append,List.drop_succ_cons,bK,if_neg hc];exact funcs_erase k h
def lessM(m:Mdl)(k:Nat):Mdl:={m with funcs:=m.funcs.take k++m.funcs.drop (k+1)}
theorem less_right{m:Mdl}(k:Nat)(h:eX m=true):eX (lessM m k)=true:=by
 unfold eX lessM at *;simp only[Bool.and_eq_true,decide_eq_true_eq] at h ⊢;obtain⟨⟨⟨⟨⟨⟨⟨⟨⟨⟨hu,hf⟩,hn⟩,CR⟩,ED⟩,hv⟩,hi⟩,zR⟩,hold⟩,CY⟩,EG⟩:=h;exact⟨⟨⟨⟨⟨⟨⟨⟨⟨⟨hu,funcs_erase k hf⟩,hn⟩,CR⟩,by rw[List.length_append,List.length_take,List.length_drop];omega⟩,hv⟩,hi⟩,zR⟩,hold⟩,CY⟩,EG⟩
def oneM(f:Fnc):Mdl:=⟨bs [109],[],[],[],[f],false,[],[],[]⟩
theorem one_right{f:Fnc}(hn:aM f.name=true)(h:eY f=true):eX (oneM f)=true:=by
 unfold eX oneM;simp[cW,bK,hn,h,bM,bB,cB];decide+kernel
def rowB(f:Fnc):List UInt8:=fW (fnT f)
theorem one_text(f:Fnc):(textM (oneM f)).data.toList=[109,111,100,117,108,101,32,109,32,59,10]++rowB f:=by
 show(jG (oneM f)).flatMap fW=_;unfold jG oneM rowB;simp;rfl
theorem less_text{m:Mdl}{k:Nat}{f:Fnc}(hf:m.funcs[k]? =some f):∃a b:List UInt8,(textM m).data.toList=a++(rowB f++b)/\(textM (lessM m k)).data.toList=a++b/\11<=a.length+(if m.name.size=0 then 1 else 0):=by
 have vR:m.funcs=m.funcs.take k++f::m.funcs.drop (k+1):=by
  have h:=(List.getElem?_eq_some_iff.1 hf);obtain⟨qA,rfl⟩:=h;rw[<-List.drop_eq_getElem_cons qA,List.take_append_drop]
 have qG:10+m.name.size<=(fW [bZ,m.name]).length:=by
  unfold fW;simp only[List.cons_append,List.nil_append,iI,List.length_append,List.length_cons];have e1:bZ.data.toList.length=6:=rfl;have e2:dB.data.toList.length=1:=rfl;have e3:m.name.data.toList.length=m.name.size:=by rw[cZ]
  simp only[e1,e2,e3,List.length_nil];omega
 refine⟨fW [bZ,m.name]++((m.uses.map fun s=>[pC,s]).flatMap fW++((List.zipWith (fun(f:Fld)e=>nJ::f.1::(dH f.2++kEq::aG e)) m.vars m.init).flatMap fW++((m.funcs.take k).map fnT).flatMap fW)),
  ((m.funcs.drop (k+1)).map fnT).flatMap fW++(if m.moves then[kK::aS::(aL (cE m.old)++bQ::iB::(aL (m.forward.map aG)++nT::aL (m.back.map aG)))] else[]).flatMap fW,?_,?_,?_⟩
 ·show(jG m).flatMap fW=_;unfold jG rowB;rw[List.flatMap_cons,List.flatMap_append,List.flatMap_append,List.flatMap_append]
  conv=>lhs;rw[vR]
  rw[List.map_append,List.map_cons,List.flatMap_append,List.flatMap_cons];simp only[List.append_assoc]
 ·show(jG (lessM m k)).flatMap fW=_;unfold jG lessM;simp only;rw[List.flatMap_cons,List.flatMap_append,List.flatMap_append,List.flatMap_append,List.map_append,List.flatMap_append];simp only[List.append_assoc]
 rw[List.length_append];split<;>omega
theorem SB{p:Prop}(h:p:=by decide+kernel):p:=h
def dA:List bA->Nat
 |[]=>0
 |t::r=>(if t=aS then 1 else 0)+dA r
def pcT(l:List Tok):Nat->Nat
 |0=>0
 |j+1=>pcT l j+(if(aI l j).text=aS then 1 else 0)
theorem eP:∀(a b:List bA),dA (a++b)=dA a+dA b
 |[],b=>by simp[dA]
 |t::a,b=>by rw[List.cons_append,dA,dA,eP a b];omega
theorem cT{t:bA}(h:t≠aS)(r:List bA):dA (t::r)=dA r:=by rw[dA,if_neg h];omega
theorem oX(r:List bA):dA (aS::r)=dA r+1:=by rw[dA,if_pos rfl];omega
theorem fS{l:List Tok}{i j:Nat}(h:i<=j):pcT l i<=pcT l j:=by
 induction h with
 |refl=>exact Nat.le_refl _
 |step _ ih=>exact Nat.le_trans ih (by rw[pcT];omega)
theorem pc_open{l:List Tok}{i:Nat}(h:isP l i aS=true):pcT l (i+1)=pcT l i+1:=by
 unfold isP at h;simp only[Bool.and_eq_true,decide_eq_true_eq] at h;rw[pcT,if_pos h.2]
theorem kG{l:List Tok}{i j:Nat}{s:bA}{u:Unit}(h:dD l i s=.ok (u,j)):j=i+1/\isP l i s=true:=by
 unfold dD at h;split at h
 ·cases h;exact⟨rfl,by assumption⟩
 cases h
theorem mR{l:List Tok}{i j:Nat}{s:bA}(h:fC l i=.ok (s,j)):j=i+1/\s≠aS:=by
 have hn:=(lA h).1;unfold fC at h;split at h
 ·cases h;exact⟨rfl,jV hn SB⟩
 cases h
theorem later_next{l:List Tok}{i j:Nat}{s than:bA}{any:Bool}(h:eC l i than any=.ok (s,j)):j=i+1/\s≠aS:=by
 have hn:=(later_inv h).1;unfold eC at h;split at h
 ·split at h
  ·cases h
  split at h
  ·cases h
  cases h;exact⟨rfl,jV hn SB⟩
 cases h
theorem toks_most(e:Xp)(a:Nat):dA (aX e a)<=dA (aG e)+1:=by
 by_cases h:jE e<a
 ·rw[jM h,oX,eP,cT SB];simp[dA]
 rw[dZ h];omega
theorem toks_least(e:Xp)(a:Nat):dA (aG e)<=dA (aX e a):=by
 by_cases h:jE e<a
 ·rw[jM h,oX,eP];omega
 rw[dZ h];exact Nat.le_refl _
theorem toks_mono(e:Xp){a b:Nat}(h:a<=b):dA (aX e a)<=dA (aX e b):=by
 by_cases ha:jE e<a
 ·rw[jM ha,jM (show jE e<b by omega)];exact Nat.le_refl _
 rw[dZ ha];exact toks_least e b
def StP(l:List Tok)(e:Xp)(own i j:Nat):Prop:=(own=8/\pcT l i+dA (aX e 7)<=pcT l j)\/(own<=6/\jE e=own/\pcT l i+dA (aG e)<=pcT l j)
theorem StP.at_{l:List Tok}{e:Xp}{own i j lf:Nat}(h:StP l e own i j)(h1:lf<=own)(h7:lf<=7):pcT l i+dA (aX e lf)<=pcT l j:=by
 rcases h with⟨-,h⟩|⟨-,ho,h⟩
 ·exact Nat.le_trans (Nat.add_le_add_left (toks_mono e h7) _) h
 rw[dZ (by omega)];exact h
theorem numX_ne(n:Int):numX n≠aS:=by
 intro h;have h1:Lib.itoa n=[40]:=congrArg (fun b:bA=>b.data.toList) h;unfold Lib.itoa at h1;split at h1
 ·cases h1
 obtain⟨h2,-⟩:=dec_all n.toNat;rw[h1] at h2;exact absurd (h2 40 (by simp)) (by decide)
def sumO(xs:List Xp):Nat:=(xs.map fun x=>dA (aG x)).sum
theorem sumO_snoc(xs:List Xp)(x:Xp):sumO (xs++[x])=sumO xs+dA (aG x):=by simp[sumO]
theorem nOpen_comma:∀L:List (List bA),dA (aL L)=(L.map dA).sum
 |[]=>rfl
 |[x]=>by simp[aL]
 |x::y::r=>by
  rw[aL,eP,cT SB,nOpen_comma (y::r)];simp
theorem nOpen_args(xs:List Xp):dA (aL (xs.map aG))=sumO xs:=by rw[nOpen_comma,List.map_map];rfl
theorem nOpen_rec:∀{names:List bA}{xs:List Xp},(∀s∈names,s≠aS)->dA (aL (iG names (cV xs)))<=sumO xs:=by
 intro names xs hn;rw[nOpen_comma]
 induction names generalizing xs with
 |nil=>simp[iG]
 |cons s names ih=>
  cases xs with
  |nil=>simp[iG,cV]
  |cons x xs=>
   have:=ih (xs:=xs) fun t ht=>hn t (by simp[ht]);rw[cV,iG,List.map_cons,List.sum_cons,cT (hn s (by simp)),cT SB];unfold sumO at this ⊢;rw[List.map_cons,List.sum_cons];simp only;omega
section
variable {l:List Tok} {rec:RecP} (hr:∀f i x j,f<=7->rec f i=.ok (x,j)->pcT l i+dA (aX x f)<=pcT l j)
include hr
theorem rec0{i j:Nat}{x:Xp}(h:rec 0 i=.ok (x,j)):pcT l i+dA (aG x)<=pcT l j:=by
 have:=hr 0 i x j (by decide) h
 rwa [fX] at this
theorem operandsFrom_pc:∀(n:Nat)(out:List Xp)(i0 i:Nat)(xs:List Xp)(j:Nat),pcT l i0+sumO out<=pcT l i->bF l rec n out i=.ok (xs,j)->pcT l i0+sumO xs<=pcT l j
 |0,out,i0,i,xs,j,ho,h=>by rw[bF] at h;cases h;exact ho
 |n+1,out,i0,i,xs,j,ho,h=>by
  rw[bF] at h;obtain⟨_,_,-,h⟩:=aK h;obtain⟨e,j1,h2,h⟩:=aK h;have h3:=rec0 hr h2;have h4:pcT l i0+sumO (out++[e])<=pcT l j1:=by rw[sumO_snoc];omega
  split at h
  ·exact operandsFrom_pc n _ i0 _ xs j (Nat.le_trans h4 (fS (Nat.le_succ _))) h
  obtain⟨_,_,h5,h⟩:=aK h;cases h;rw[(kG h5).1];exact Nat.le_trans h4 (fS (Nat.le_succ _))
theorem operands_pc{i j:Nat}{xs:List Xp}(h:eO l rec i=.ok (xs,j)):pcT l i+1+sumO xs<=pcT l j:=by
 unfold eO at h;obtain⟨_,_,h1,h⟩:=aK h;obtain⟨rfl,h2⟩:=kG h1;have h3:=pc_open h2;split at h
 ·cases h;have:=fS (l:=l) (show i+1<=i+1+1 by omega);simp only[sumO,List.map_nil,List.sum_nil];omega
 have:=operandsFrom_pc hr _ _ (i+1) _ _ _ (by simp[sumO]) h;omega
theorem recordFrom_pc:∀(n:Nat)(names:List bA)(args:List Xp)(last:bA)(i0 i:Nat)(x:Xp)(j:Nat),(∀s∈names,s≠aS)->pcT l i0+sumO args<=pcT l i->bV l rec n names args last i=.ok (x,j)->pcT l i0+dA (aX x 7)<=pcT l j
 |0,names,args,last,i0,i,x,j,hn,ha,h=>by
  rw[bV] at h;cases h;rw[dZ (show ¬(eL 13).1<7 by decide+kernel),wd_rec,cT SB,eP];have:=nOpen_rec (xs:=args) hn;have e:dA [cL]=0:=SB;omega
 |n+1,names,args,last,i0,i,x,j,hn,ha,h=>by
  rw[bV] at h;obtain⟨_,j0,h1,g1⟩:=aK h;obtain⟨s,_,h2,g2⟩:=aK g1;obtain⟨_,_,h3,g3⟩:=aK g2;obtain⟨e,j4,h4,g4⟩:=aK g3;clear h g1 g2 g3;obtain⟨rfl,hs⟩:=later_next h2;obtain⟨rfl,-⟩:=kG h3;have h5:=rec0 hr h4;have FP:∀t∈names++[s],t≠aS:=fun t ht=>(List.mem_append.1 ht).elim (hn t) fun ht=>by rw[List.mem_singleton.1 ht];exact hs
  have h6:=fS (l:=l) (show i<=i+1+1 by omega);have h7:pcT l i0+sumO (args++[e])<=pcT l j4:=by rw[sumO_snoc];omega
  split at g4
  ·exact recordFrom_pc n _ _ _ i0 _ x j FP (Nat.le_trans h7 (fS (Nat.le_succ _))) g4
  obtain⟨_,_,h8,g5⟩:=aK g4;cases g5;rw[(kG h8).1,dZ (show ¬(eL 13).1<7 by decide+kernel),wd_rec,cT SB,eP];have h9:=nOpen_rec (xs:=args++[e]) FP;have e:dA [cL]=0:=SB;have BP:=fS (l:=l) (show j4<=j4+1 by omega);omega
theorem paren_pc{i j:Nat}{x:Xp}(h:kQ l rec i=.ok (x,j)):pcT l i+dA (aG x)<=pcT l j:=by
 unfold kQ at h;obtain⟨e,j1,h1,h⟩:=aK h;obtain⟨_,_,h2,h⟩:=aK h;cases h;rw[(kG h2).1];exact Nat.le_trans (rec0 hr h1) (fS (Nat.le_succ _))
theorem primary_pc{i j:Nat}{x:Xp}(h:aP l rec i=.ok (x,j)):pcT l i+dA (aX x 7)<=pcT l j:=by
 have hp:∀{op n:Int}{s m:bA}{names:List bA}{args:List Xp},(eL op).1=8->aX (.mk op n s m names args) 7=aG (.mk op n s m names args):=fun h=>dZ (show ¬(eL _).1<7 by rw[h];decide);unfold aP at h;split at h
 ·cases h;rw[hp SB,wd_int,cT (numX_ne _)];exact fS (Nat.le_succ _)
 split at h
 ·cases h;rw[hp SB,wd_bool,if_pos rfl,cT SB];exact fS (Nat.le_succ _)
 split at h
 ·cases h;rw[hp SB,wd_bool,if_neg (by decide),cT SB];exact fS (Nat.le_succ _)
 split at h
 ·obtain⟨s,_,h1,h⟩:=aK h;cases h;obtain⟨rfl,hs⟩:=mR h1;rw[hp SB,wd_get,cT SB,cT hs];exact fS (by omega)
 split at h
 ·rename_i h0;obtain⟨_,_,h1,h⟩:=aK h;obtain⟨e,_,h2,h⟩:=aK h;cases h;obtain⟨rfl,h3⟩:=kG h1;have h4:=paren_pc hr h2;have h5:=pc_open h3;have h6:=fS (l:=l) (show i<=i+1 by omega)
  have key:∀w,w≠aS->(cD.filter fun w=>decide (w.2=bN (aI l i).text)).map (·.1)=[w]->pcT l i+dA (aX (.mk 16 (bN (aI l i).text) noB noB [] [e]) 7)<=pcT l j:=fun w hw he=>by
   rw[hp SB,wd_act _ _ he,cT hw,oX,eP];have e1:dA [bQ]=0:=SB;omega
  rcases bit_cases _ h0.2 with hb|hb|hb|hb<;>rw[hb] at key ⊢
  ·exact key nK SB SB
  ·exact key kNet SB SB
  ·exact key nL SB SB
  exact key jR SB SB
 split at h
 ·have h6:=fS (l:=l) (show i<=i+1 by omega);unfold iP at h;split at h
  ·cases h;rw[hp SB,wd_rec];have e1:dA (bH::(aL (iG [] (cV []))++[cL]))=0:=SB;rw[e1];exact fS (by omega)
  have:=recordFrom_pc hr _ _ _ _ (i+1) _ _ _ (fun s hs=>by cases hs) (by simp[sumO]) h;omega
 split at h
 ·rename_i h0;have h1:=paren_pc hr h;have h2:=pc_open h0;have h3:=toks_most x 7;omega
 obtain⟨s,_,h1,h⟩:=aK h;obtain⟨rfl,hs⟩:=mR h1;have h6:=fS (l:=l) (show i<=i+1 by omega);unfold mH at h;split at h
 ·obtain⟨xs,_,h2,h⟩:=aK h;cases h;have h3:=operands_pc hr h2;rw[hp SB,wd_call,if_neg (by simp),List.nil_append,List.singleton_append,cT hs,oX,eP,nOpen_args];have e1:dA [bQ]=0:=SB;omega
 split at h
 ·obtain⟨t,_,h3,h⟩:=aK h;obtain⟨xs,_,h2,h⟩:=aK h;cases h;obtain⟨rfl,ht⟩:=mR h3;have h4:=operands_pc hr h2;have h5:=fS (l:=l) (show i<=i+1+1+1 by omega);have e1:dA [bQ]=0:=SB
  have e2:dA (if s≠noB then[s,kX] else[])=0:=by
   split
   ·rw[cT hs];decide+kernel
   rfl
  rw[hp SB,wd_call,eP,e2,List.singleton_append,cT ht,oX,eP,nOpen_args];omega
 cases h;rw[hp SB,wd_var,cT hs];exact h6
omit hr in
theorem dots_pc:∀(n:Nat)(e:Xp)(i0 i:Nat)(x:Xp)(j:Nat),pcT l i0+dA (aX e 7)<=pcT l i->iK l n e i=.ok (x,j)->pcT l i0+dA (aX x 7)<=pcT l j
 |0,e,i0,i,x,j,he,h=>by rw[iK] at h;cases h;exact he
 |n+1,e,i0,i,x,j,he,h=>by
  rw[iK] at h;split at h
  ·obtain⟨s,_,h1,h2⟩:=aK h;obtain⟨rfl,hs⟩:=mR h1;refine dots_pc n _ i0 _ x j ?_ h2;rw[dZ (show ¬(eL 14).1<7 by decide+kernel),oH,eP,cT SB,cT hs];have:=fS (l:=l) (show i<=i+1+1 by omega);simp only[dA];omega
  cases h;exact he
theorem ops_pc{form:Nat}(hf:form<=7):∀(n own:Nat)(e:Xp)(i0 i:Nat)(x:Xp)(j:Nat),form<=own->StP l e own i0 i->kR l rec form n own e i=.ok (x,j)->pcT l i0+dA (aX x form)<=pcT l j
 |0,own,e,i0,i,x,j,ho,he,h=>by rw[kR] at h;cases h;exact he.at_ ho hf
 |n+1,own,e,i0,i,x,j,ho,he,h=>by
  rw[kR] at h;split at h
  ·cases h;exact he.at_ ho hf
  rename_i t op fm uT;split at h
  ·cases h;exact he.at_ ho hf
  rename_i hc;obtain⟨b,j1,h1,h2⟩:=aK h;have hm:=oper_mem uT;obtain⟨f1,f2,f3,f4⟩:=mQ hm;have ht:t≠aS:=by rcases jP hm with h|h|h|h|h|h|h<;>rw[h.1]<;>decide+kernel
  have hl:(if fm=4 then 5 else fm)<=own/\(if fm=4 then 5 else fm)<=7:=by split<;>omega
  have ha:=he.at_ hl.1 hl.2;have hb:=hr (fm+1) _ _ _ (by omega) h1;have hi:=fS (l:=l) (show i<=i+1 by omega);refine ops_pc hf n fm (.mk op 0 noB noB [] [e,b]) i0 _ x j (by omega) (.inr ⟨f3,show(eL op).1=fm by rw[f1],?_⟩) h2;rw[wd_bin hm,eP,cT ht];omega
end
theorem exp_pc{l:List Tok}:∀(f form i:Nat)(x:Xp)(j:Nat),form<=7->bL l f form i=.ok (x,j)->pcT l i+dA (aX x form)<=pcT l j:=by
 intro f
 induction f with
 |zero=>intro form i x j _ h;rw[bL] at h;cases h
 |succ f ih=>
  intro form i x j hf h;have r0:∀{i j x},bL l f 0 i=.ok (x,j)->pcT l i+dA (aG x)<=pcT l j:=fun h=>rec0 ih h;rw[bL] at h;obtain⟨r,j1,h1,h⟩:=aK h;obtain⟨e,j2,h2,h⟩:=aK h
  have hg:StP l r.1 r.2 i j1/\form<=r.2:=by
   have hi:=fS (l:=l) (show i<=i+1 by omega);unfold bS at h1;split at h1
   ·rename_i h0;obtain⟨a,_,k1,h1⟩:=aK h1;obtain⟨_,_,w1,h1⟩:=aK h1;obtain⟨b,_,k2,h1⟩:=aK h1;obtain⟨_,_,w2,h1⟩:=aK h1;obtain⟨c,_,k3,h1⟩:=aK h1;cases h1;have g1:=r0 k1;have g2:=r0 k2;have g3:=r0 k3;rw[(kG w1).1,pcT] at g2;rw[(kG w2).1,pcT] at g3;refine⟨.inr ⟨Nat.zero_le _,show(eL 11).1=0 by decide+kernel,?_⟩,by simp only;omega⟩;rw[wd_if,fX,fX,fX,cT SB,eP,cT SB,eP,cT SB];omega
   split at h1
   ·rename_i h0;obtain⟨s,_,k0,h1⟩:=aK h1;obtain⟨_,_,w1,h1⟩:=aK h1;obtain⟨a,_,k1,h1⟩:=aK h1;obtain⟨_,_,w2,h1⟩:=aK h1;obtain⟨b,_,k2,h1⟩:=aK h1;cases h1;obtain⟨rfl,hs⟩:=mR k0;have g1:=r0 k1;have g2:=r0 k2;rw[(kG w1).1] at g1;rw[(kG w2).1,pcT] at g2;have LD:=fS (l:=l) (show i<=i+1+1+1 by omega);refine⟨.inr ⟨Nat.zero_le _,show(eL 12).1=0 by decide+kernel,?_⟩,by simp only;omega⟩;rw[wd_let,fX,fX,cT SB,cT hs,cT SB,eP,cT SB];omega
   split at h1
   ·rename_i h0;obtain⟨s,_,k0,h1⟩:=aK h1;obtain⟨a,_,k1,h1⟩:=aK h1;cases h1;obtain⟨rfl,hs⟩:=mR k0;have g1:=r0 k1;have LD:=fS (l:=l) (show i<=i+1+1 by omega);refine⟨.inr ⟨Nat.zero_le _,show(eL 18).1=0 by decide+kernel,?_⟩,by simp only;omega⟩;rw[wd_set,fX,cT SB,cT hs];omega
   split at h1
   ·rename_i h0;obtain⟨a,_,k1,h1⟩:=aK h1;cases h1;have g1:=ih 3 _ _ _ (by decide) k1;refine⟨.inr ⟨show(3:Nat)<=6 by decide,show(eL 10).1=3 by decide+kernel,?_⟩,h0.1⟩;rw[wd_not,cT SB];omega
   obtain⟨e,_,k1,h1⟩:=aK h1;cases h1;exact⟨.inl ⟨rfl,primary_pc ih k1⟩,by simp only;omega⟩
  have xT:StP l e r.2 i j2:=by
   split at h2
   ·rename_i h7;rcases hg.1 with⟨h8,hd⟩|⟨h6,-⟩
    ·exact .inl ⟨h8,dots_pc _ _ _ _ _ _ hd h2⟩
    omega
   cases h2;exact hg.1
  exact ops_pc ih hf _ _ _ _ _ _ _ hg.2 xT h
theorem pc_toks{l:List Tok}{ts:List bA}:∀(n:Nat),(∀k,k<n->(aI l k).text=ts.getD k noB)->pcT l n=dA (ts.take n)+0*n
 |0,_=>by simp[pcT,dA]
 |n+1,h=>by
  rw[pcT,pc_toks n fun k hk=>h k (by omega),h n (Nat.lt_succ_self _),List.take_add_one,eP]
  cases hq:ts[n]? with
  |none=>
   rw[List.getD_eq_getElem?_getD,hq];simp[dA]
  |some t=>
   rw[List.getD_eq_getElem?_getD,hq];simp[dA]
theorem parens_law{e:Xp}{ts:List bA}(hv:∀t∈ts,dS t=true)(hz:(bs (iI ts)).size<=8000)(hn:dA ts<dA (aG e)):fN (bs (iI ts))≠ .ok e:=by
 intro h
 have hs:dG (bs (iI ts)).data.toList ts:=by
  have:=dG.joined (ts:=ts) (r:=[]) (us:=[]) hv (fun c hc=>by cases hc) (.none [] fun c hc=>by cases hc);simpa using this
 obtain⟨l,h1,h2,h3⟩:=lex_of hs hz (by rw[cZ];exact hs.length);unfold fN at h;rw[h1] at h;simp only at h;split at h
 ·cases h
 rename_i e' j hm;cases h;unfold fA jY at hm;obtain⟨x,j1,k1,hm⟩:=aK hm
 have hx:x=e:=by
  split at hm
  ·split at hm
   ·cases hm;rfl
   cases hm
  cases hm
 subst hx;have hp:=exp_pc _ _ _ _ _ (by decide) k1;rw[fX] at hp
 have hc:=pc_toks (l:=l++[⟨3,⟨#[]⟩,0,((bs (iI ts)).size:Nat)⟩]) (ts:=ts) j1 fun k hk=>by
  unfold aI;rw[List.getD_eq_getElem?_getD,List.getD_eq_getElem?_getD];by_cases hkl:k<ts.length
  ·obtain⟨tok,ht,hI⟩:=h3 k _ (List.getElem?_eq_getElem hkl);rw[List.getElem?_append_left (by omega),ht,List.getElem?_eq_getElem hkl];exact hI.2.1
  rw[List.getElem?_eq_none (l:=ts) (by omega)];rcases Nat.lt_or_ge l.length k with hq|hq
  ·rw[List.getElem?_eq_none (by simp;omega)];rfl
  rw[show k=l.length by omega];simp
 rw[hc] at hp
 have:dA (ts.take j1)<=dA ts:=by
  conv=>rhs;rw[<-List.take_append_drop j1 ts,eP]
  omega
 simp only[pcT] at hp;omega
end Go.Proofs.YtiionicikdnnpaaGreatDoor
namespace Go.Proofs.YtiionicikdnnpaaGreatDoor
theorem eff_range{e:Int}(h:effOk e=true)(h0: -9223372036854775808<=e)(h1:e<=9223372036854775807):0<=e/\e<=15:=by
 unfold effOk Go.bits at h;rw[decide_eq_true_eq] at h;simp only at h;obtain⟨x,hx⟩:∃x:BitVec 64,x=BitVec.ofInt 64 e:=⟨_,rfl⟩;have hb:IntKind.i64.bits=64:=rfl;have h2:IntKind.i64.wrap ((x&&& ~~~(15#64)).toNat:Int)=0:=by rw[hx];exact h
 have qA:=(x&&& ~~~(15#64)).isLt
 have h3:(x&&& ~~~(15#64)).toNat=0:=by
  generalize (x&&& ~~~(15#64)).toNat=y at h2 qA;unfold IntKind.wrap at h2;simp only[IntKind.signed,IntKind.bits,Bool.true_and] at h2;split at h2<;>omega
 have h4:x&&& ~~~(15#64)=0#64:=BitVec.eq_of_toNat_eq (by rw[h3];rfl)
 have h5:x.toNat<2 ^ 4:=by
  refine Nat.lt_pow_two_of_testBit _ fun i hi=>?_;rw[BitVec.testBit_toNat];by_cases MZ:i<64
  ·have h6:=congrArg (fun v:BitVec 64=>v.getLsbD i) h4;simp only[BitVec.getLsbD_and,BitVec.getLsbD_not,BitVec.getLsbD_zero,MZ,decide_true,Bool.true_and] at h6
   have h7:(15#64).getLsbD i=false:=by
    rw[BitVec.getLsbD_eq_getElem MZ];(have:∀k:Fin 60,(15#64).getLsbD (k.val+4)=false:=by decide+kernel);have:=this ⟨i-4,by omega⟩;rw[<-BitVec.getLsbD_eq_getElem MZ];simpa[show i-4+4=i by omega] using this
   rw[h7] at h6;simpa using h6
  exact BitVec.getLsbD_of_ge _ _ (by omega)
 have h8:x.toInt=e:=by
  rw[hx,BitVec.toInt_ofInt];exact Int.bmod_eq_of_le (by omega) (by omega)
 have h9:x.toInt=x.toNat:=by
  rw[BitVec.toInt_eq_toNat_cond,if_pos (by omega)]
 omega
end Go.Proofs.YtiionicikdnnpaaGreatDoor
