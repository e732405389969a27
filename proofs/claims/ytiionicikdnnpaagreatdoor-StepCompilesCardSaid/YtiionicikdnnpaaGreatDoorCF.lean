/- Texts of this seat, joined. -/
import Derived.Test.YtiionicikdnnpaaGreatDoorCE
set_option linter.unusedVariables false
set_option linter.unusedSimpArgs false
namespace Go.Proofs.YtiionicikdnnpaaGreatDoor
theorem ZP{p:Prop}(h:p:=by decide+kernel):p:=h
theorem aAB{p:Prop}(h:p:=by omega):p:=h
theorem aAC{p:Prop}(h:p:=by simp):p:=h
theorem WU{p:Prop}(h:p:=by
 rcases hn with rfl|rfl|rfl|rfl
 ·exact key qF ZP ZP
 ·exact key kNet ZP ZP
 ·exact key qG ZP ZP
 exact key lH ZP ZP):p:=h
theorem oM{t:bA}:∀{L:List (List bA)},t∈aM L->t=aY\/∃x∈L,t∈x
 |[],h=>by simp[aM] at h
 |[x],h=>.inr ⟨x,aAC,by simpa[aM] using h⟩
 |x::y::r,h=>by
  rw[aM,List.mem_append,List.mem_cons] at h;rcases h with h|h|h
  ·exact .inr ⟨x,aAC,h⟩
  ·exact .inl h
  rcases oM h with h|⟨z,h1,h2⟩
  ·exact .inl h
  exact .inr ⟨z,by simp at h1 ⊢;exact .inr h1,h2⟩
theorem fO{s:bA}(h:aK s=true):eL s=true:=by unfold eL;rw[qX h];rfl
theorem rec_valid:∀{names:List bA}{before:Option bA}{args:List Xp},dY before names=true->(∀x∈args,∀t∈aG x,eL t=true)->∀p∈kO names (eC args),∀t∈p,eL t=true
 |[],_,_,_,_,p,hp=>by simp[kO] at hp
 |_::_,_,[],_,_,p,hp=>by simp[kO,eC] at hp
 |n::ns,_,x::xs,hn,h,p,hp=>by
  simp only[dY,Bool.and_eq_true] at hn;rw[eC,kO,List.mem_cons] at hp;rcases hp with rfl|hp
  ·intro t ht;simp only[List.mem_cons] at ht;rcases ht with rfl|rfl|ht
   ·exact fO hn.1.1
   ·decide+kernel
   exact h x aAC t ht
  exact rec_valid hn.2 (fun y hy=>h y (by simp[hy])) p hp
theorem oP:∀(d:Nat)(e:Xp),aJ d e=true->∀t∈aG e,eL t=true:=by
 intro d
 induction d with
 |zero=>intro e h;obtain⟨op,n,s,m,names,args⟩:=e;simp[aJ] at h
 |succ d ih=>
  intro e h
  have at_:∀{a lf},aJ d a=true->∀t∈bE a lf,eL t=true:=fun{a lf}ha t ht=>by
   by_cases ho:lG a<lf
   ·rw[toks_paren ho] at ht;simp only[List.mem_cons,List.mem_append,List.not_mem_nil,or_false] at ht;rcases ht with rfl|ht|rfl
    ·decide+kernel
    ·exact ih a ha t ht
    decide+kernel
   rw[kK ho] at ht;exact ih a ha t ht
  intro t ht
  cases shape_of h with
  |int n h0 h1=>
   rw[wd_int,List.mem_singleton] at ht;subst ht;unfold eL;rw[pS h0 h1];simp
  |bool n hn=>rw[wd_bool,List.mem_singleton] at ht;subst ht;rcases hn with rfl|rfl<;>decide+kernel
  |var s hs=>rw[wd_var,List.mem_singleton] at ht;subst ht;exact fO hs
  |get s hs=>
   rw[wd_get] at ht;simp only[List.mem_cons,List.not_mem_nil,or_false] at ht;rcases ht with rfl|rfl
   ·decide+kernel
   exact fO hs
  |bin t' op fm a b tN ha hb=>
   rw[wd_bin tN] at ht;simp only[List.mem_append,List.mem_cons] at ht;rcases ht with ht|rfl|ht
   ·exact at_ ha t ht
   ·rcases lP tN with h|h|h|h|h|h|h<;>obtain⟨rfl,rfl,rfl⟩:=h<;>decide+kernel
   exact at_ hb t ht
  |not a ha=>
   rw[wd_not,List.mem_cons] at ht;rcases ht with rfl|ht
   ·decide+kernel
   exact at_ ha t ht
  |iff a b c ha hb hc=>
   rw[wd_if] at ht;simp only[List.mem_append,List.mem_cons] at ht;rcases ht with rfl|ht|rfl|ht|rfl|ht
   ·decide+kernel
   ·exact at_ ha t ht
   ·decide+kernel
   ·exact at_ hb t ht
   ·decide+kernel
   exact at_ hc t ht
  |lets s a b hs ha hb=>
   rw[wd_let] at ht;simp only[List.mem_append,List.mem_cons] at ht;rcases ht with rfl|rfl|rfl|ht|rfl|ht
   ·decide+kernel
   ·exact fO hs
   ·decide+kernel
   ·exact at_ ha t ht
   ·decide+kernel
   exact at_ hb t ht
  |set s a hs ha=>
   rw[wd_set] at ht;simp only[List.mem_cons] at ht;rcases ht with rfl|rfl|ht
   ·decide+kernel
   ·exact fO hs
   exact at_ ha t ht
  |field s a hs ha=>
   rw[wd_field] at ht;simp only[List.mem_append,List.mem_cons,List.not_mem_nil,or_false] at ht;rcases ht with ht|rfl|rfl
   ·exact at_ ha t ht
   ·decide+kernel
   exact fO hs
  |recd names args hn h8 hlen ha=>
   rw[wd_rec] at ht;simp only[List.mem_append,List.mem_cons,List.not_mem_nil,or_false] at ht;rcases ht with rfl|ht|rfl
   ·decide+kernel
   ·rcases oM ht with rfl|⟨p,hp,ht⟩
    ·decide+kernel
    exact rec_valid hn (fun x hx=>ih x (ha x hx)) p hp t ht
   decide+kernel
  |call s m args hs hm h6 ha=>
   rw[wd_call] at ht;simp only[List.mem_append,List.mem_cons,List.not_mem_nil,or_false] at ht;rcases ht with ht|rfl|rfl|ht|rfl
   ·split at ht
    ·rename_i sM;simp only[List.mem_cons,List.not_mem_nil,or_false] at ht;rcases ht with rfl|rfl
     ·exact fO (hm.resolve_left sM)
     decide+kernel
    cases ht
   ·exact fO hs
   ·decide+kernel
   ·rcases oM ht with rfl|⟨p,hp,ht⟩
    ·decide+kernel
    obtain⟨x,hx,rfl⟩:=List.mem_map.1 hp;exact ih x (ha x hx) t ht
   decide+kernel
  |act n a hn ha=>
   have key:∀w,eL w=true->(cR.filter fun w=>decide (w.2=n)).map (·.1)=[w]->eL t=true:=fun w hw he=>by
    rw[wd_act n a he] at ht;simp only[List.mem_append,List.mem_cons,List.not_mem_nil,or_false] at ht;rcases ht with rfl|rfl|ht|rfl
    ·exact hw
    ·decide+kernel
    ·exact ih a ha t ht
    decide+kernel
   exact WU
theorem depthXs_le':∀{args:List Xp}{d:Nat},(∀x∈args,cD x<=d)->eH args<=d
 |[],_,_=>by rw[eH];exact Nat.zero_le _
 |x::r,d,h=>by rw[eH];exact Nat.max_le.2 ⟨h x aAC,depthXs_le' fun y hy=>h y (by simp[hy])⟩
theorem depth_right:∀(d:Nat)(e:Xp),aJ d e=true->cD e<=d
 |0,.mk op n s m names args,h=>by simp[aJ] at h
 |d+1,.mk op n s m names args,h=>by
  rw[aJ] at h;simp only[Bool.and_eq_true,List.all_eq_true] at h;rw[cD];have:=depthXs_le' (d:=d) fun x hx=>depth_right d x (h.2 x hx);omega
section
variable {l:List Tok} {i:Nat} {s t:bA} {ts:List bA}
theorem dM.end_(h:dM l i (t::ts)):lX l i true t=.ok ((),i+1):=by unfold lX;rw[if_pos h.yes,if_pos rfl]
theorem dM.later(h:dM l i (t::ts))(hn:aK t=true){last:bA}{any:Bool}(zI:any=true->gtB t last=true):fP l i last any=.ok (t,i+1):=by
 unfold fP;rw[if_pos (h.isName hn),h.text]
 cases any with
 |false=>rfl
 |true=>rw[if_neg (by simp[gt_ne (zI rfl)]),if_neg (by simp[zI rfl])]
theorem dM.fresh(h:dM l i (t::ts))(hn:aK t=true){known:bA->Bool}(hk:known t=false):gQ l i known=.ok (t,i+1):=by
 unfold gQ;rw[if_pos (h.isName hn),h.text,if_neg (by rw[hk];decide)]
theorem roomIf{p:Bool}{have_ most:Nat}(h:have_<most):(if p then fD l i have_ most else .ok ((),i))=(.ok ((),i):PR Unit):=by
 unfold fD;rw[if_pos h,ite_self]
theorem more_comma{T:Ty}(hT:bI T<=4)(h:dM l i (aY::ts))(e:bA):nU l i T e=.ok (false,i+1):=by
 unfold nU;rw[if_pos h.yes,decide_eq_true hT,h.end_,bnd_ok]
theorem more_end{T:Ty}(hT:bI T<=4)(h:dM l i (t::ts))(hc:t≠aY):nU l i T t=.ok (true,i+1):=by
 unfold nU;rw[if_neg (h.no hc),decide_eq_true hT,h.end_,bnd_ok]
end
theorem iW(s:bA)(t:Ty)(r:List Fld):cO ((s,t)::r)=(s::dV t)::cO r:=by rw[cO]
theorem typed_from{l:List Tok}{rec:Nat->PR Ty}{p:Ty->Bool}(hp:∀t,p t=true->bI t<=4):∀(gs:List Fld)(f:Nat)(fs:List Fld)(before:Option bA)(i:Nat),gs≠[]->(∀t,p t=true->∀k,i<=k->dM l k (dV t)->rec k=.ok (t,k+(dV t).length))->
  fs.length+gs.length<=8->fF p before gs=true->(fs=[]/\before=none\/before=fs.getLast?.map (·.1))->dM l i (aM (cO gs)++[dH])->l.length<f+i->eD l rec f fs i=.ok (.mk 2 (fs++gs),i+(aM (cO gs)).length+1)
 |[],_,_,_,_,h,_,_,_,_,_,_=>absurd rfl h
 |(n,T)::gs,f,fs,before,i,_,xG,h8,wZ,hbe,hL,hf=>by
  have hr:=hL.room;obtain⟨f,rfl⟩:∃g,f=g+1:=⟨f-1,aAB⟩;simp only[fF,Bool.and_eq_true] at wZ;obtain⟨⟨⟨hn,zI⟩,hT⟩,wZ⟩:=wZ;have wX:∀q:Bool,(if q then fD l i fs.length 8 else .ok ((),i))=(.ok ((),i):PR Unit):=fun q=>roomIf (by rw[List.length_cons] at h8;omega)
  have uO:decide (0<fs.length)=true->gtB n ((fs.getLast?.map (·.1)).getD noB)=true:=fun hd=>by
   rcases hbe with⟨rfl,-⟩|rfl
   ·simp at hd
   cases hq:fs.getLast? with
   |none=>rw[List.getLast?_eq_none_iff.1 hq] at hd;simp at hd
   |some x=>rw[hq] at zI;exact zI
  rw[iW] at hL ⊢
  cases gs with
  |nil=>
   simp only[cO,aM,List.cons_append] at hL ⊢;have hE:=hL.tail;rw[eD,wX,bnd_ok,hL.later hn uO,bnd_ok,xG T hT _ aAB hE.left,bnd_ok,more_end (hp T hT) hE.right ZP,bnd_ok,if_pos rfl];simp only[List.length_cons];rw[show i+1+(dV T).length+1=i+((dV T).length+1)+1 by omega]
  |cons g gs=>
   obtain⟨n2,T2⟩:=g;(have e:aM ((n::dV T)::cO ((n2,T2)::gs))=n::(dV T++aY::aM (cO ((n2,T2)::gs))):=by rw[iW];simp[aM]);rw[e] at hL ⊢;simp only[List.cons_append,List.append_assoc] at hL;have hE:=hL.tail
   rw[eD,wX,bnd_ok,hL.later hn uO,bnd_ok,xG T hT _ aAB hE.left,bnd_ok,more_comma (hp T hT) hE.right,bnd_ok,if_neg (by decide),
    typed_from hp ((n2,T2)::gs) f (fs++[(n,T)]) (some n) _ aAC (fun t ht k hk=>xG t ht k aAB) (by simp at h8 ⊢;omega) wZ (.inr aAC) hE.right.tail aAB]
   simp;omega
theorem lvFs_le:∀{fs:List Fld}{d:Nat},(∀x∈fs,bI x.2<=d)->cU fs<=d
 |[],_,_=>by rw[cU];exact Nat.zero_le _
 |(s,t)::r,d,h=>by rw[cU];exact Nat.max_le.2 ⟨h (s,t) aAC,lvFs_le fun y hy=>h y (by simp[hy])⟩
theorem iX{p:Ty->Bool}:∀{fs:List Fld}{before:Option bA},fF p before fs=true->∀x∈fs,aK x.1=true/\p x.2=true
 |[],_,_,x,hx=>by cases hx
 |(n,t)::r,before,h,x,hx=>by
  simp only[fF,Bool.and_eq_true] at h;rcases List.mem_cons.1 hx with rfl|hx
  ·exact⟨h.1.1.1,h.1.2⟩
  exact iX h.2 x hx
theorem ty_parts{d:Nat}{k:Int}{fs:List Fld}(h:aR (d+1) (.mk k fs)=true):(k=0\/k=1\/k=2)/\fs.length<=8/\(k≠2->fs=[])/\fF (aR d) none fs=true:=by
 rw[aR] at h;simp only[Bool.and_eq_true,Bool.or_eq_true,decide_eq_true_eq] at h;obtain⟨⟨⟨⟨h0,h1⟩,h2⟩,h3⟩,h4⟩:=h;exact⟨aAB,h2,fun hk=>List.length_eq_zero_iff.1 (h3.resolve_left hk),h4⟩
theorem mF:∀(d:Nat)(t:Ty),aR d t=true->bI t<=d
 |0,.mk k fs,h=>by simp[aR] at h
 |d+1,.mk k fs,h=>by
  obtain⟨-,-,-,h4⟩:=ty_parts h;rw[bI];have:=lvFs_le (d:=d) fun x hx=>mF d x.2 (iX h4 x hx).2;omega
theorem typed_back:∀(d:Nat)(t:Ty),d<=4->aR d t=true->∀(l:List Tok)(i F:Nat),dM l i (dV t)->l.length<F+i->fK l F i=.ok (t,i+(dV t).length)
 |0,.mk k fs,_,h,_,_,_,_,_=>by simp[aR] at h
 |d+1,.mk k fs,hd,h,l,i,F,hL,hF=>by
  obtain⟨hk,h8,rO,wZ⟩:=ty_parts h;have hr:=hL.room;obtain⟨F,rfl⟩:∃g,F=g+1:=⟨F-1,aAB⟩;rw[dV] at hL ⊢;rcases hk with rfl|rfl|rfl
  ·obtain rfl:=rO (by decide);rw[if_pos rfl] at hL ⊢;rw[fK,if_pos hL.yes];rfl
  ·obtain rfl:=rO (by decide);rw[if_neg (by decide),if_pos rfl] at hL ⊢;rw[fK,if_neg (hL.no ZP),if_pos hL.yes];rfl
  rw[if_neg (by decide),if_neg (by decide)] at hL ⊢;rw[fK,if_neg (hL.no ZP),if_neg (hL.no ZP),hL.want,bnd_ok];have hT:=hL.tail
  cases fs with
  |nil=>
   simp only[cO,aM,List.nil_append] at hT ⊢;rw[if_pos hT.yes];rfl
  |cons g gs=>
   obtain⟨n,T⟩:=g;have hn:=(iX wZ (n,T) aAC).1
   have wN:¬isP l (i+1) dH=true:=by
    obtain⟨r,hr⟩:∃r,aM (cO ((n,T)::gs))++[dH]=n::r:=by
     rw[iW]
     cases hq:cO gs with
     |nil=>exact⟨_,rfl⟩
     |cons y ys=>exact⟨_,rfl⟩
    rw[hr] at hT;exact hT.no (mE hn ZP)
   rw[if_neg wN,typed_from (p:=aR d) (fun t ht=>Nat.le_trans (mF d t ht) aAB) ((n,T)::gs) (l.length+1) [] none (i+1) aAC
    (fun t ht k hk hLk=>typed_back d t aAB ht l k F hLk aAB) (by simpa using h8) wZ (.inl ⟨rfl,rfl⟩) hT aAB]
   simp;omega
theorem typed_all{t:Ty}(h:aR 4 t=true){l:List Tok}{i:Nat}(hL:dM l i (dV t)):jV l i=.ok (t,i+(dV t).length):=typed_back 4 t (by decide) h l i _ hL aAB
theorem type_valid:∀(d:Nat)(t:Ty),aR d t=true->∀x∈dV t,eL x=true
 |0,.mk k fs,h,_,_=>by simp[aR] at h
 |d+1,.mk k fs,h,x,hx=>by
  obtain⟨hk,h8,rO,wZ⟩:=ty_parts h
  have key:∀(gs:List Fld),(∀g∈gs,aK g.1=true/\aR d g.2=true)->∀p∈cO gs,∀y∈p,eL y=true:=by
   intro gs
   induction gs with
   |nil=>intro _ p hp;simp[cO] at hp
   |cons g gs ih=>
    obtain⟨n,T⟩:=g;intro hg p hp;rw[iW,List.mem_cons] at hp;rcases hp with rfl|hp
    ·intro y hy;rcases List.mem_cons.1 hy with hy|hy
     ·rw[hy];exact fO (hg (n,T) aAC).1
     exact type_valid d T (hg (n,T) aAC).2 y hy
    exact ih (fun g hgm=>hg g (by simp[hgm])) p hp
  rw[dV] at hx;split at hx
  ·rw[List.mem_singleton.1 hx];decide+kernel
  split at hx
  ·rw[List.mem_singleton.1 hx];decide+kernel
  simp only[List.mem_append,List.mem_cons,List.not_mem_nil,or_false] at hx;rcases hx with rfl|hx|rfl
  ·decide+kernel
  ·rcases oM hx with rfl|⟨p,hp,hx⟩
   ·decide+kernel
   exact key fs (fun g hg=>iX wZ g hg) p hp x hx
  decide+kernel
theorem flds_valid:∀{gs:List Fld},(∀g∈gs,aK g.1=true/\aR 4 g.2=true)->∀x∈aM (cO gs),eL x=true:=by
 intro gs hg x hx
 have key:∀(gs:List Fld),(∀g∈gs,aK g.1=true/\aR 4 g.2=true)->∀p∈cO gs,∀y∈p,eL y=true:=by
  intro gs
  induction gs with
  |nil=>intro _ p hp;simp[cO] at hp
  |cons g gs ih=>
   obtain⟨n,T⟩:=g;intro hg p hp;rw[iW,List.mem_cons] at hp;rcases hp with rfl|hp
   ·intro y hy;rcases List.mem_cons.1 hy with hy|hy
    ·rw[hy];exact fO (hg (n,T) aAC).1
    exact type_valid 4 T (hg (n,T) aAC).2 y hy
   exact ih (fun g hgm=>hg g (by simp[hgm])) p hp
 rcases oM hx with rfl|⟨p,hp,hx⟩
 ·decide+kernel
 exact key gs hg p hp x hx
theorem rG:∀{gs:List Fld}{known:List bA},bC gs known=true->∀g∈gs,aK g.1=true/\aR 4 g.2=true
 |[],_,_,g,hg=>by cases hg
 |(n,t)::r,known,h,g,hg=>by
  rw[bC] at h;split at h
  ·cases h
  rename_i hc;simp only[Bool.or_eq_true,not_or,Bool.not_eq_true,Bool.not_eq_eq_eq_not,Bool.not_true,Bool.not_eq_false] at hc;rcases List.mem_cons.1 hg with rfl|hg
  ·exact⟨by simpa using hc.1.2,by simpa using hc.2⟩
  exact rG h g hg
theorem fields_from{l:List Tok}{most:Nat}:∀(gs:List Fld)(f:Nat)(fs:List Fld)(known:List bA)(i:Nat),gs≠[]->fs.length+gs.length<=most->bC gs known=true->(∀s,(fs.any fun x=>decide (x.1=s))=known.any fun x=>decide (x=s))->
  dM l i (aM (cO gs)++[cF])->l.length<f+i->dG l most f fs i=.ok (fs++gs,i+(aM (cO gs)).length+1)
 |[],_,_,_,_,h,_,_,_,_,_=>absurd rfl h
 |(n,T)::gs,f,fs,known,i,_,hm,wZ,Q7,hL,hf=>by
  have hr:=hL.room;obtain⟨f,rfl⟩:∃g,f=g+1:=⟨f-1,aAB⟩;obtain⟨hn,hT⟩:=rG wZ (n,T) aAC;rw[bC] at wZ;split at wZ
  ·cases wZ
  rename_i hc
  have FY:(known.any fun x=>decide (x=n))=false:=by
   cases hq:known.any fun x=>decide (x=n) with
   |false=>rfl
   |true=>exact absurd (by rw[hq];rfl) hc
  have wX:∀q:Bool,(if q then fD l i fs.length most else .ok ((),i))=(.ok ((),i):PR Unit):=fun q=>roomIf (by rw[List.length_cons] at hm;omega);have hfr:(fs.any fun x=>decide (x.1=n))=false:=by rw[Q7,FY]
  have NG:=mF 4 T hT;rw[iW] at hL ⊢
  cases gs with
  |nil=>
   simp only[cO,aM,List.cons_append] at hL ⊢;have hE:=hL.tail;rw[dG,wX,bnd_ok,hL.fresh hn hfr,bnd_ok,typed_all hT hE.left,bnd_ok,more_end NG hE.right ZP,bnd_ok,if_pos rfl];simp only[List.length_cons];rw[show i+1+(dV T).length+1=i+((dV T).length+1)+1 by omega]
  |cons g gs=>
   obtain⟨n2,T2⟩:=g;(have e:aM ((n::dV T)::cO ((n2,T2)::gs))=n::(dV T++aY::aM (cO ((n2,T2)::gs))):=by rw[iW];simp[aM]);rw[e] at hL ⊢;simp only[List.cons_append,List.append_assoc] at hL;have hE:=hL.tail
   rw[dG,wX,bnd_ok,hL.fresh hn hfr,bnd_ok,typed_all hT hE.left,bnd_ok,more_comma NG hE.right,bnd_ok,if_neg (by decide),
    fields_from ((n2,T2)::gs) f (fs++[(n,T)]) (n::known) _ aAC (by simp at hm ⊢;omega) wZ (fun s=>by rw[List.any_append,Q7 s];simp[Bool.or_comm]) hE.right.tail aAB]
   simp;omega
theorem fields_back{l:List Tok}{most i:Nat}{gs:List Fld}{ts:List bA}(h:bL gs most=true)(hL:dM l i (aX::(aM (cO gs)++cF::ts))):iQ l most i=.ok (gs,i+(aM (cO gs)).length+2):=by
 unfold bL at h;rw[Bool.and_eq_true,decide_eq_true_eq] at h;have hT:=hL.tail;unfold iQ;rw[hL.want,bnd_ok]
 cases gs with
 |nil=>
  simp only[cO,aM,List.nil_append] at hT ⊢;rw[if_pos hT.yes];rfl
 |cons g gs=>
  obtain⟨n,T⟩:=g;have hn:=(rG h.1 (n,T) aAC).1
  have wN:¬isP l (i+1) cF=true:=by
   obtain⟨r,hr⟩:∃r,aM (cO ((n,T)::gs))++cF::ts=n::r:=by
    rw[iW]
    cases hq:cO gs with
    |nil=>exact⟨_,rfl⟩
    |cons y ys=>exact⟨_,rfl⟩
   rw[hr] at hT;exact hT.no (mE hn ZP)
  have hT2:dM l (i+1) (aM (cO ((n,T)::gs))++[cF]):=dM.left (us:=ts) (by rw[List.append_assoc];exact hT);rw[if_neg wN,fields_from ((n,T)::gs) (l.length+1) [] [] (i+1) aAC (by simpa using h.2) h.1 (fun s=>rfl) hT2 aAB,List.nil_append];rw[show i+1+(aM (cO ((n,T)::gs))).length+1=i+(aM (cO ((n,T)::gs))).length+2 by omega]
theorem whole_back{l:List Tok}{i:Nat}{e:Xp}{t:bA}{ts:List bA}(h:aJ 12 e=true)(ht:stopper t=true)(hL:dM l i (aG e++t::ts)):kI l i t=.ok (e,i+(aG e).length+1):=by
 unfold kI oI;rw[exp_back h hL.left aAB (hL.right.stops ht),bnd_ok,decide_eq_true (depth_right 12 e h),hL.right.end_,bnd_ok]
theorem wholes_from{l:List Tok}{t:bA}{ts:List bA}(ht:stopper t=true):∀(xs:List Xp)(out:List Xp)(i n:Nat),xs.length=n+1->(∀x∈xs,aJ 12 x=true)->dM l i (aM (xs.map aG)++t::ts)->fM l t n out i=.ok (out++xs,i+(aM (xs.map aG)).length+1)
 |[],_,_,_,h,_,_=>by simp at h
 |[x],out,i,n,hn,hx,hL=>by
  obtain rfl:n=0:=by simpa using hn.symm
  rw[List.map_cons,List.map_nil,aM] at hL ⊢;rw[fM,whole_back (hx x aAC) ht hL,bnd_ok]
 |x::y::xs,out,i,n,hn,hx,hL=>by
  obtain⟨n,rfl⟩:∃k,n=k+1:=⟨n-1,by simp at hn;omega⟩;have e:aM ((x::y::xs).map aG)=aG x++aY::aM ((y::xs).map aG):=by simp[aM]
  rw[e] at hL ⊢;simp only[List.cons_append,List.append_assoc] at hL;rw[fM,whole_back (hx x aAC) ZP hL,bnd_ok,wholes_from ht (y::xs) (out++[x]) _ n (by simp at hn ⊢;omega) (fun z hz=>hx z (by simp[hz])) hL.right.tail];simp;omega
theorem wholes_back{l:List Tok}{i n:Nat}{t:bA}{ts:List bA}{xs:List Xp}(ht:stopper t=true)(h:cK xs n=true)(hL:dM l i (aM (xs.map aG)++t::ts)):gX l n i t=.ok (xs,i+(aM (xs.map aG)).length+1):=by
 unfold cK at h;rw[Bool.and_eq_true,decide_eq_true_eq,List.all_eq_true] at h;obtain⟨h1,rfl⟩:=h;unfold gX
 cases xs with
 |nil=>
  simp only[List.map_nil,aM,List.nil_append,List.length_nil] at hL ⊢;rw[hL.want,bnd_ok]
 |cons x xs=>
  simp only[List.length_cons];rw[wholes_from ht (x::xs) [] i xs.length rfl h1 hL,List.nil_append]
end Go.Proofs.YtiionicikdnnpaaGreatDoor
namespace Go.Proofs.YtiionicikdnnpaaGreatDoor
theorem aAt{p:Prop}(h:p:=by decide+kernel):p:=h
theorem aAN{p:Prop}(h:p:=by omega):p:=h
theorem XH{p:Prop}(h:p:=by
 have h:e=0\/e=1\/e=2\/e=3\/e=4\/e=5\/e=6\/e=7\/e=8\/e=9\/e=10\/e=11\/e=12\/e=13\/e=14\/e=15:=aAN
 rcases h with h|h|h|h|h|h|h|h|h|h|h|h|h|h|h|h<;>subst h<;>decide+kernel):p:=h
theorem effects_from{l:List Tok}{ts:List bA}{p:bA×Int->Bool}:∀(L:List (bA×Int))(n:Int)(i:Nat),(L.map (·.1)).Nodup->(∀w∈L,w.1≠kEq)->dM l i ((L.filter p).map (·.1)++kEq::ts)->
  dQ l L n i=(n+((L.filter p).map (·.2)).sum,i+(L.filter p).length)
 |[],n,i,_,_,_=>by simp[dQ]
 |(s,b)::r,n,i,hd,hq,hL=>by
  rw[List.map_cons,List.nodup_cons] at hd
  cases hp:p (s,b) with
  |true=>
   rw[List.filter_cons_of_pos hp] at hL ⊢;simp only[List.map_cons,List.cons_append] at hL;rw[dQ,if_pos hL.yes,effects_from r (n+b) (i+1) hd.2 (fun w hw=>hq w (by simp[hw])) hL.tail];simp;constructor<;>omega
  |false=>
   rw[List.filter_cons_of_neg (by rw[hp];decide)] at hL ⊢
   have wN:¬isP l i s=true:=by
    cases hf:r.filter p with
    |nil=>rw[hf] at hL;exact dM.no (ts:=ts) hL fun e=>hq (s,b) (by simp) e.symm
    |cons w ws=>
     rw[hf] at hL;simp only[List.map_cons,List.cons_append] at hL;refine hL.no fun e=>hd.1 ?_;rw[<-e];exact List.mem_map.2 ⟨w,(List.mem_filter.1 (hf▸List.mem_cons_self ..)).1,rfl⟩
   rw[dQ,if_neg wN,effects_from r n i hd.2 (fun w hw=>hq w (by simp[hw])) hL]
theorem eff_sum{e:Int}(h0:0<=e)(h1:e<=15):((cR.filter fun w=>decide (Go.bits .and .i64 e w.2≠0)).map (·.2)).sum=e:=by
 exact XH
theorem bang_back{l:List Tok}{i:Nat}{e:Int}{ts:List bA}(h0:0<=e)(h1:e<=15)(hL:dM l i ((if e≠0 then[jA] else[])++(effT e++kEq::ts))):nL l i true=.ok ((e,true),i+((if e≠0 then[jA] else[])++effT e).length):=by
 by_cases he:e=0
 ·subst he;have e0:effT 0=[]:=aAt;rw[e0,if_neg (by decide)] at hL ⊢;simp only[List.nil_append] at hL;unfold nL;rw[if_neg (hL.no aAt)];rfl
 rw[if_pos he] at hL ⊢;simp only[List.cons_append,List.nil_append] at hL;have hs:=effects_from (p:=fun w=>decide (Go.bits .and .i64 e w.2≠0)) cR 0 (i+1) aAt aAt hL.tail;rw[eff_sum h0 h1,Int.zero_add] at hs;unfold nL;rw[if_pos hL.yes,hL.end_,bnd_ok,hs];simp only;rw[if_pos he];unfold effT;simp;omega
theorem function_back{l:List Tok}{i:Nat}{f:Fnc}{ts:List bA}{known:bA->Bool}(h:fG f=true)(hn:aK f.name=true)(h0:0<=f.effects)(h1:f.effects<=15)(hk:known f.name=false)(hL:dM l i (fnT f++dP::ts)):
  jY l i known=.ok (f,i+(fnT f).length+1):=by
 unfold fG at h;simp only[Bool.and_eq_true] at h;obtain⟨⟨⟨hp,hr⟩,hb⟩,-⟩:=h;obtain⟨name,pub,params,result,effects,body⟩:=f;simp only at hn h0 h1 hk hp hr hb;obtain⟨R,hR⟩:∃R,R=kFn::name::aX::(aM (cO params)++cF::(dV result++((if effects≠0 then[jA] else[])++(effT effects++kEq::aG body)))):=⟨_,rfl⟩
 have key:∀j,dM l j (R++dP::ts)->(eB l j kFn).bnd (fun _ j=>(gQ l j known).bnd fun name j2=>(iQ l 6 j2).bnd fun ps j3=>(jV l j3).bnd fun t j4=>(nL l j4 (decide (bI t<=4))).bnd fun ef j5=>
   (lX l j5 ef.2 kEq).bnd fun _ j6=>(kI l j6 dP).bnd fun e j7=>(.ok (⟨name,isP l i lE,ps,t,ef.1,e⟩,j7):PR Fnc))=.ok (⟨name,isP l i lE,params,result,effects,body⟩,j+R.length+1):=by
  intro j hj;have hlen:R.length=3+(aM (cO params)).length+1+(dV result).length+((if effects≠0 then[jA] else[])++effT effects).length+1+(aG body).length:=by rw[hR];simp;omega
  rw[hR] at hj;simp only[List.cons_append,List.append_assoc] at hj;have j2:=hj.tail.tail;have j3:=(j2.tail).right.tail;have j4:=j3.right;have j4':dM l (j+1+1+1+(aM (cO params)).length+1+(dV result).length) (((if effects≠0 then[jA] else[])++effT effects)++kEq::(aG body++dP::ts)):=by rw[List.append_assoc];exact j4
  have j5:=j4'.right
  rw[hj.want,bnd_ok,hj.tail.fresh hn hk,bnd_ok,fields_back hp j2,bnd_ok,
   show j+1+1+(aM (cO params)).length+2=j+1+1+1+(aM (cO params)).length+1 by omega,typed_all hr j3.left,bnd_ok,decide_eq_true (mF 4 result hr),bang_back h0 h1 j4,bnd_ok,j5.end_,bnd_ok,whole_back hb aAt j5.tail,bnd_ok,hlen]
  rw[show j+1+1+1+(aM (cO params)).length+1+(dV result).length+((if effects≠0 then[jA] else[])++effT effects).length+1+(aG body).length+1=j+(3+(aM (cO params)).length+1+(dV result).length+((if effects≠0 then[jA] else[])++effT effects).length+1+(aG body).length)+1 by omega]
 unfold fnT at hL ⊢;simp only at hL ⊢;rw[<-hR] at hL ⊢;unfold jY
 cases pub with
 |true=>
  simp only[if_true,List.cons_append,List.nil_append,List.length_cons] at hL ⊢;rw[hL.yes] at key ⊢;rw[if_pos rfl,key (i+1) hL.tail];rw[show i+1+R.length+1=i+(R.length+1)+1 by omega]
 |false=>
  simp only[Bool.false_eq_true,if_false,List.nil_append] at hL ⊢
  have wN:isP l i lE=false:=by
   rw[hR] at hL;rw[hL.says];decide+kernel
  rw[wN] at key ⊢;rw[if_neg (by decide),key i hL]
def nS(us:List bA):List bA:=us.flatMap fun s=>[kUse,s,dP]
def lB(vs:List Fld)(es:List Xp):List bA:=(List.zip vs es).flatMap fun x=>pK::x.1.1::(dV x.1.2++kEq::(aG x.2++[dP]))
def gP(fs:List Fnc):List bA:=fs.flatMap fun f=>fnT f++[dP]
def pC(m:Mdl):List bA:=if m.moves then lT::aX::(aM (cO m.old)++cF::jS::(aM (m.forward.map aG)++rC::(aM (m.back.map aG)++[dP]))) else[]
def toksM(m:Mdl):List bA:=cJ::m.name::dP::(nS m.uses++(lB m.vars m.init++(gP m.funcs++pC m)))
theorem lines_toks(m:Mdl):((nQ m).flatMap fun ts=>ts++[dP])=toksM m:=by
 have hz:∀(vs:List Fld)(es:List Xp),(List.zipWith (fun(f:Fld)e=>pK::f.1::(dV f.2++kEq::aG e)) vs es).flatMap (fun ts=>ts++[dP])=lB vs es:=by
  intro vs
  induction vs with
  |nil=>intro es;rfl
  |cons v vs ih=>
   intro es
   cases es with
   |nil=>rfl
   |cons e es=>
    have:=ih es;unfold lB at this ⊢;simp only[List.zipWith_cons_cons,List.zip_cons_cons,List.flatMap_cons];rw[this];simp
 unfold nQ toksM;rw[List.flatMap_cons,List.flatMap_append,List.flatMap_append,List.flatMap_append,hz,List.flatMap_map,List.flatMap_map];unfold nS gP pC;by_cases hm:m.moves=true
 ·simp[hm]
 simp[hm]
theorem uses_from{l:List Tok}:∀(us:List bA)(f:Nat)(out known:List bA)(i:Nat),dN us known=true->(∀s,(out.any fun x=>decide (x=s))=known.any fun x=>decide (x=s))->out.length+us.length<=12->dM l i (nS us)->isP l (i+(nS us).length) kUse=false->l.length<f+i->
  fV l f out i=.ok (out++us,i+(nS us).length)
 |[],f,out,known,i,_,_,_,hL,wN,hf=>by
  have hr:=hL.room;obtain⟨f,rfl⟩:∃g,f=g+1:=⟨f-1,by simp[nS] at hr;omega⟩;have SR:isP l i kUse=false:=by simpa[nS] using wN
  rw[fV,if_neg (by rw[SR];decide)];simp[nS]
 |s::us,f,out,known,i,hu,hk,AG,hL,wN,hf=>by
  have hr:=hL.room;obtain⟨f,rfl⟩:∃g,f=g+1:=⟨f-1,aAN⟩;have e:nS (s::us)=kUse::s::dP::nS us:=rfl;rw[e] at hL wN ⊢;rw[dN] at hu;split at hu
  ·cases hu
  rename_i hc
  have FY:(known.any fun x=>decide (x=s))=false:=by
   cases hq:known.any fun x=>decide (x=s) with
   |false=>rfl
   |true=>exact absurd (by rw[hq];rfl) hc
  have hs:aK s=true:=by
   cases hq:aK s with
   |true=>rfl
   |false=>exact absurd (by rw[hq];simp) hc
  have e2:i+(kUse::s::dP::nS us).length=i+1+1+1+(nS us).length:=by simp;omega
  rw[e2] at wN ⊢;rw[fV,if_pos hL.yes];unfold fD;rw[List.length_cons] at AG;rw[if_pos aAN,bnd_ok,hL.tail.fresh hs (by rw[hk,FY]),bnd_ok,hL.tail.tail.want,bnd_ok,uses_from us f (out++[s]) (s::known) _ hu (fun x=>by rw[List.any_append,hk x];simp[Bool.or_comm]) (by simp;omega) hL.tail.tail.tail wN aAN];simp
theorem vars_from{l:List Tok}:∀(vs:List Fld)(es:List Xp)(f:Nat)(ov:List Fld)(oe:List Xp)(known:List bA)(i:Nat),vs.length=es.length->bC vs known=true->(∀e∈es,aJ 12 e=true)->(∀s,(ov.any fun x=>decide (x.1=s))=known.any fun x=>decide (x=s))->ov.length+vs.length<=8->dM l i (lB vs es)->isP l (i+(lB vs es).length) pK=false->l.length<f+i->
  gH l f ov oe i=.ok ((ov++vs,oe++es),i+(lB vs es).length)
 |[],es,f,ov,oe,known,i,hlen,_,_,_,_,hL,wN,hf=>by
  obtain rfl:es=[]:=List.length_eq_zero_iff.1 (by simpa using hlen.symm);have hr:=hL.room;obtain⟨f,rfl⟩:∃g,f=g+1:=⟨f-1,by simp[lB] at hr;omega⟩;have SR:isP l i pK=false:=by simpa[lB] using wN
  rw[gH,if_neg (by rw[SR];decide)];simp[lB]
 |_::_,[],_,_,_,_,_,h,_,_,_,_,_,_,_=>by simp at h
 |(n,T)::vs,e::es,f,ov,oe,known,i,hlen,hv,he,hk,h8,hL,wN,hf=>by
  have hr:=hL.room;obtain⟨f,rfl⟩:∃g,f=g+1:=⟨f-1,aAN⟩;have ee:lB ((n,T)::vs) (e::es)=pK::n::(dV T++kEq::(aG e++dP::lB vs es)):=by simp[lB]
  rw[ee] at hL wN ⊢;obtain⟨hn,hT⟩:=rG hv (n,T) (by simp);rw[bC] at hv;split at hv
  ·cases hv
  rename_i hc
  have FY:(known.any fun x=>decide (x=n))=false:=by
   cases hq:known.any fun x=>decide (x=n) with
   |false=>rfl
   |true=>exact absurd (by rw[hq];rfl) hc
  have e2:i+(pK::n::(dV T++kEq::(aG e++dP::lB vs es))).length=i+1+1+(dV T).length+1+(aG e).length+1+(lB vs es).length:=by simp;omega
  rw[e2] at wN ⊢;have h1:=hL.tail.tail;have h2:=h1.right;have h3:=h2.tail.right.tail;rw[gH,if_pos hL.yes];unfold fD;rw[List.length_cons] at h8
  rw[if_pos aAN,bnd_ok,hL.tail.fresh hn (by rw[hk,FY]),bnd_ok,typed_all hT h1.left,bnd_ok,decide_eq_true (mF 4 T hT),h2.end_,bnd_ok,whole_back (he e (by simp)) aAt h2.tail,bnd_ok,
   vars_from vs es f (ov++[(n,T)]) (oe++[e]) (n::known) _ (by simpa using hlen) hv (fun x hx=>he x (by simp[hx])) (fun x=>by rw[List.any_append,hk x];simp[Bool.or_comm]) (by simp;omega) h3 wN aAN]
  simp
theorem funcs_from{l:List Tok}:∀(fs:List Fnc)(f:Nat)(out:List Fnc)(known:List bA)(i:Nat),cI fs known=true->(∀x∈fs,0<=x.effects/\x.effects<=15)->(∀s,(out.any fun x=>decide (x.name=s))=known.any fun x=>decide (x=s))->out.length+fs.length<=30->dM l i (gP fs)->isP l (i+(gP fs).length) lE=false->isP l (i+(gP fs).length) kFn=false->l.length<f+i->
  eV l f out i=.ok (out++fs,i+(gP fs).length)
 |[],f,out,known,i,_,_,_,_,hL,wN,K3,hf=>by
  have hr:=hL.room;obtain⟨f,rfl⟩:∃g,f=g+1:=⟨f-1,by simp[gP] at hr;omega⟩;have h1:isP l i lE=false:=by simpa[gP] using wN
  have h2:isP l i kFn=false:=by simpa[gP] using K3
  rw[eV,if_neg (by rw[h1,h2];decide)];simp[gP]
 |x::fs,f,out,known,i,hu,he,hk,J5,hL,wN,K3,hf=>by
  have hr:=hL.room;obtain⟨f,rfl⟩:∃g,f=g+1:=⟨f-1,aAN⟩;have e:gP (x::fs)=fnT x++dP::gP fs:=by simp[gP]
  rw[e] at hL wN K3 ⊢;rw[cI] at hu;split at hu
  ·cases hu
  rename_i hc
  have FY:(known.any fun y=>decide (y=x.name))=false:=by
   cases hq:known.any fun y=>decide (y=x.name) with
   |false=>rfl
   |true=>exact absurd (by rw[hq];rfl) hc
  have hs:aK x.name=true:=by
   cases hq:aK x.name with
   |true=>rfl
   |false=>exact absurd (by rw[hq];simp) hc
  have hfn:fG x=true:=by
   cases hq:fG x with
   |true=>rfl
   |false=>exact absurd (by rw[hq];simp) hc
  have e2:i+(fnT x++dP::gP fs).length=i+(fnT x).length+1+(gP fs).length:=by simp;omega
  rw[e2] at wN K3 ⊢
  have hst:(isP l i lE||isP l i kFn)=true:=by
   unfold fnT at hL;split at hL
   ·have h:dM l i (lE::_):=hL;rw[h.yes];rfl
   have h:dM l i (kFn::_):=hL;rw[h.yes,Bool.or_true]
  rw[eV,if_pos hst];unfold fD;rw[List.length_cons] at J5;obtain⟨e0,e1⟩:=he x (by simp)
  rw[if_pos aAN,bnd_ok,function_back hfn hs e0 e1 (by rw[hk,FY]) hL,bnd_ok,
   funcs_from fs f (out++[x]) (x.name::known) _ hu (fun y hy=>he y (by simp[hy])) (fun s=>by rw[List.any_append,hk s];simp[Bool.or_comm]) (by simp;omega) hL.right.tail wN K3 aAN]
  simp
theorem not_next{l:List Tok}{j:Nat}{R:List bA}{s:bA}(hL:dM l j R)(h0:R=[]->(aL l j).kind=3)(h1:∀t r,R=t::r->t≠s):isP l j s=false:=by
 cases R with
 |nil=>unfold isP;rw[h0 rfl];rfl
 |cons t r=>rw[hL.says,decide_eq_false_iff_not];exact h1 t r rfl
theorem vars_head{vs:List Fld}{es:List Xp}:lB vs es=[]\/∃r,lB vs es=pK::r:=by
 unfold lB
 cases List.zip vs es with
 |nil=>exact .inl rfl
 |cons x r=>exact .inr ⟨_,rfl⟩
theorem funcs_head{fs:List Fnc}:gP fs=[]\/∃r,gP fs=lE::r\/gP fs=kFn::r:=by
 unfold gP
 cases fs with
 |nil=>exact .inl rfl
 |cons x r=>
  rw[List.flatMap_cons];unfold fnT;split
  ·exact .inr ⟨_,.inl rfl⟩
  exact .inr ⟨_,.inr rfl⟩
theorem move_head{m:Mdl}:pC m=[]\/∃r,pC m=lT::r:=by
 unfold pC;split
 ·exact .inr ⟨_,rfl⟩
 exact .inl rfl
theorem module_back{m:Mdl}(h:gI m=true)(he:∀f∈m.funcs,0<=f.effects/\f.effects<=15){l:List Tok}(hL:dM l 0 (toksM m))(xI:(aL l (toksM m).length).kind=3):∃j,gD l=.ok (m,j):=by
 unfold gI at h;simp only[Bool.and_eq_true,decide_eq_true_eq,Bool.or_eq_true] at h;obtain⟨⟨⟨⟨⟨⟨⟨⟨⟨⟨hu,hf⟩,hn⟩,KQ⟩,JA⟩,hv⟩,hi⟩,DN⟩,hold⟩,I9⟩,yV⟩:=h;have hlenM:(toksM m).length=0+1+1+1+(nS m.uses).length+(lB m.vars m.init).length+(gP m.funcs).length+(pC m).length:=by unfold toksM;simp;omega
 rw[hlenM] at xI;unfold toksM at hL;have h1:=hL.tail.tail.tail;have h2:=h1.right;have h3:=h2.right;have h4:=h3.right;have e4:pC m=[]->(aL l (0+1+1+1+(nS m.uses).length+(lB m.vars m.init).length+(gP m.funcs).length)).kind=3:=fun e=>by rw[e] at xI;exact xI
 have OX:∀t r,pC m=t::r->t=lT:=fun t r e=>by
  rcases move_head (m:=m) with h|⟨r',h⟩<;>rw[h] at e<;>cases e;rfl
 have e3:gP m.funcs++pC m=[]->(aL l (0+1+1+1+(nS m.uses).length+(lB m.vars m.init).length)).kind=3:=fun e=>by
  obtain⟨ea,eb⟩:=List.append_eq_nil_iff.1 e;have:=e4 eb;rw[ea] at this;exact this
 have RG:∀t r,gP m.funcs++pC m=t::r->t=lE\/t=kFn\/t=lT:=fun t r e=>by
  rcases funcs_head (fs:=m.funcs) with h|⟨r',h|h⟩
  ·rw[h] at e;exact .inr (.inr (OX t r e))
  ·rw[h] at e;cases e;exact .inl rfl
  rw[h] at e;cases e;exact .inr (.inl rfl)
 have e2:lB m.vars m.init++(gP m.funcs++pC m)=[]->(aL l (0+1+1+1+(nS m.uses).length)).kind=3:=fun e=>by
  obtain⟨ea,eb⟩:=List.append_eq_nil_iff.1 e;have:=e3 eb;rw[ea] at this;exact this
 have TG:∀t r,lB m.vars m.init++(gP m.funcs++pC m)=t::r->t=pK\/t=lE\/t=kFn\/t=lT:=fun t r e=>by
  rcases vars_head (vs:=m.vars) (es:=m.init) with h|⟨r',h⟩
  ·rw[h] at e;exact .inr (RG t r e)
  rw[h] at e;cases e;exact .inl rfl
 unfold bL at hv;rw[Bool.and_eq_true,decide_eq_true_eq] at hv;have RA:=hi;unfold cK at RA;rw[Bool.and_eq_true,decide_eq_true_eq,List.all_eq_true] at RA;have hU:=uses_from m.uses (l.length+1) [] [] _ hu (fun s=>rfl) (by simpa using KQ) h1.left (not_next h2 e2 fun t r e=>by rcases TG t r e with rfl|rfl|rfl|rfl<;>decide+kernel) aAN;have hV:=vars_from m.vars m.init (l.length+1) [] [] [] _ RA.2.symm hv.1 RA.1 (fun s=>rfl) (by simpa using hv.2) h2.left (not_next h3 e3 fun t r e=>by rcases RG t r e with rfl|rfl|rfl<;>decide+kernel) aAN;have hF:=funcs_from m.funcs (l.length+1) [] [] _ hf he (fun s=>rfl) (by simpa using JA) h3.left (not_next h4 e4 fun t r e=>by rw[OX t r e];decide+kernel) (not_next h4 e4 fun t r e=>by rw[OX t r e];decide+kernel) aAN;rw[List.nil_append] at hU hF;rw[List.nil_append,List.nil_append] at hV;obtain⟨name,uses,vars,init,funcs,moves,old,forward,back⟩:=m;simp only at *;unfold gD;rw[hL.want,bnd_ok,hL.tail.name hn,bnd_ok,hL.tail.tail.want,bnd_ok,hU,bnd_ok,hV,bnd_ok,hF,bnd_ok];unfold moveP
 cases moves with
 |false=>
  have eo:old=[]:=List.length_eq_zero_iff.1 (by simpa using DN);subst eo
  have ef:forward=[]:=by
   unfold cK at I9;rw[Bool.and_eq_true,decide_eq_true_eq] at I9;exact List.length_eq_zero_iff.1 (by simpa using I9.2)
  have eb:back=[]:=by
   unfold cK at yV;rw[Bool.and_eq_true,decide_eq_true_eq] at yV;exact List.length_eq_zero_iff.1 (by simpa using yV.2)
  subst ef eb;have wN:=not_next (s:=lT) h4 e4 fun t r e=>by simp[pC] at e
  rw[if_neg (by rw[wN];decide),bnd_ok];have h9:=e4 (by simp[pC]);rw[if_pos h9];exact⟨_,rfl⟩
 |true=>
  simp only[pC,if_true] at h4 xI I9;have k1:=h4.tail;have k2:=(k1.tail).right.tail;have k3:=k2.tail.right.tail;rw[if_pos h4.yes,fields_back hold k1,bnd_ok];have ek:∀a b:Nat,a+1+b+2=a+1+1+b+1:=fun a b=>aAN;rw[ek,k2.want,bnd_ok,wholes_back aAt I9 k2.tail,bnd_ok,wholes_back aAt yV k3,bnd_ok,bnd_ok];refine⟨_,if_pos ?_⟩;rw[<-xI];congr 2;simp;omega
theorem uses_each:∀{us known:List bA},dN us known=true->∀s∈us,aK s=true
 |[],_,_,s,hs=>by cases hs
 |n::r,known,h,s,hs=>by
  rw[dN] at h;split at h
  ·cases h
  rename_i hc;rcases List.mem_cons.1 hs with rfl|hs
  ·cases hq:aK s with
   |true=>rfl
   |false=>exact absurd (by rw[hq];simp) hc
  exact uses_each h s hs
theorem funcs_each:∀{fs:List Fnc}{known:List bA},cI fs known=true->∀f∈fs,aK f.name=true/\fG f=true
 |[],_,_,f,hf=>by cases hf
 |x::r,known,h,f,hf=>by
  rw[cI] at h;split at h
  ·cases h
  rename_i hc;rcases List.mem_cons.1 hf with rfl|hf
  ·constructor
   ·cases hq:aK f.name with
    |true=>rfl
    |false=>exact absurd (by rw[hq];simp) hc
   cases hq:fG f with
   |true=>rfl
   |false=>exact absurd (by rw[hq];simp) hc
  exact funcs_each h f hf
theorem eff_valid(e:Int):∀t∈effT e,eL t=true:=by
 intro t ht;unfold effT at ht;obtain⟨w,hw,rfl⟩:=List.mem_map.1 ht;have hw:=(List.mem_filter.1 hw).1;simp only[cR,List.mem_cons,List.not_mem_nil,or_false] at hw;rcases hw with rfl|rfl|rfl|rfl<;>decide+kernel
theorem iE{gs:List Fld}{most:Nat}(h:bL gs most=true):∀g∈gs,aK g.1=true/\aR 4 g.2=true:=by
 unfold bL at h;rw[Bool.and_eq_true] at h;exact rG h.1
theorem kU{es:List Xp}{n:Nat}(h:cK es n=true):∀e∈es,aJ 12 e=true:=by
 unfold cK at h;rw[Bool.and_eq_true,List.all_eq_true] at h;exact h.1
theorem xps_valid{es:List Xp}(h:∀e∈es,aJ 12 e=true):∀t∈aM (es.map aG),eL t=true:=by
 intro t ht;rcases oM ht with rfl|⟨p,hp,ht⟩
 ·decide+kernel
 obtain⟨x,hx,rfl⟩:=List.mem_map.1 hp;exact oP 12 x (h x hx) t ht
theorem fn_valid{f:Fnc}(hn:aK f.name=true)(h:fG f=true):∀t∈fnT f,eL t=true:=by
 unfold fG at h;simp only[Bool.and_eq_true] at h;obtain⟨⟨⟨hp,hr⟩,hb⟩,-⟩:=h;intro t ht;unfold fnT at ht;simp only[List.mem_append,List.mem_cons] at ht;rcases ht with ht|rfl|rfl|rfl|ht|rfl|ht|ht|ht|rfl|ht
 ·split at ht
  ·rw[List.mem_singleton.1 ht];decide+kernel
  cases ht
 ·decide+kernel
 ·exact fO hn
 ·decide+kernel
 ·exact flds_valid (iE hp) t ht
 ·decide+kernel
 ·exact type_valid 4 _ hr t ht
 ·split at ht
  ·rw[List.mem_singleton.1 ht];decide+kernel
  cases ht
 ·exact eff_valid _ t ht
 ·decide+kernel
 exact oP 12 _ hb t ht
theorem mem_zipWith{α β γ:Type}{f:α->β->γ}{c:γ}:∀{as:List α}{bs:List β},c∈List.zipWith f as bs->∃a b,a∈as/\b∈bs/\c=f a b
 |[],_,h=>by cases h
 |_::_,[],h=>by cases h
 |a::as,b::bs,h=>by
  rw[List.zipWith_cons_cons,List.mem_cons] at h;rcases h with rfl|h
  ·exact⟨a,b,by simp,by simp,rfl⟩
  obtain⟨x,y,h1,h2,h3⟩:=mem_zipWith h;exact⟨x,y,by simp[h1],by simp[h2],h3⟩
theorem mod_valid{m:Mdl}(h:gI m=true):∀ts∈nQ m,∀t∈ts,eL t=true:=by
 unfold gI at h;simp only[Bool.and_eq_true,decide_eq_true_eq,Bool.or_eq_true] at h;obtain⟨⟨⟨⟨⟨⟨⟨⟨⟨⟨hu,hf⟩,hn⟩,KQ⟩,JA⟩,hv⟩,hi⟩,DN⟩,hold⟩,I9⟩,yV⟩:=h;intro ts FS t ht;unfold nQ at FS;simp only[List.mem_cons,List.mem_append] at FS;rcases FS with rfl|FS|FS|FS|FS
 ·simp only[List.mem_cons,List.not_mem_nil,or_false] at ht;rcases ht with rfl|rfl
  ·decide+kernel
  exact fO hn
 ·obtain⟨s,hs,rfl⟩:=List.mem_map.1 FS;simp only[List.mem_cons,List.not_mem_nil,or_false] at ht;rcases ht with rfl|rfl
  ·decide+kernel
  exact fO (uses_each hu _ hs)
 ·obtain⟨g,e,hg,he,rfl⟩:=mem_zipWith FS;simp only[List.mem_cons,List.mem_append] at ht;rcases ht with rfl|rfl|ht|rfl|ht
  ·decide+kernel
  ·exact fO (iE hv g hg).1
  ·exact type_valid 4 _ (iE hv g hg).2 t ht
  ·decide+kernel
  exact oP 12 _ (kU hi e he) t ht
 ·obtain⟨f,FF,rfl⟩:=List.mem_map.1 FS;obtain⟨h1,h2⟩:=funcs_each hf f FF;exact fn_valid h1 h2 t ht
 split at FS
 ·rw[List.mem_singleton.1 FS] at ht;simp only[List.mem_cons,List.mem_append] at ht;rcases ht with rfl|rfl|ht|rfl|rfl|ht|rfl|ht
  ·decide+kernel
  ·decide+kernel
  ·exact flds_valid (iE hold) t ht
  ·decide+kernel
  ·decide+kernel
  ·exact xps_valid (kU I9) t ht
  ·decide+kernel
  exact xps_valid (kU yV) t ht
 cases FS
theorem lies_all{l:List Tok}{e:Tok}{ts:List bA}(h1:l.length=ts.length)(h2:∀(k:Nat)t,ts[k]? =some t->∃tok,l[k]? =some tok/\TokIs tok t):dM (l++[e]) 0 ts/\aL (l++[e]) ts.length=e:=by
 refine⟨⟨by simp;omega,fun k t hk=>?_⟩,?_⟩
 ·obtain⟨tok,ht,h⟩:=h2 k t hk;have rU:=(List.getElem?_eq_some_iff.1 ht).1;unfold aL;rw[Nat.zero_add,List.getD_eq_getElem?_getD,List.getElem?_append_left rU,ht];exact h
 unfold aL;rw[List.getD_eq_getElem?_getD,<-h1];simp
theorem spelt_parse{m:Mdl}(h:gI m=true)(he:∀f∈m.funcs,0<=f.effects/\f.effects<=15){s:bA}(hs:dZ s.data.toList (toksM m))(hz:s.size<=8000):iG s=.ok m:=by
 obtain⟨l,h1,h2,h3⟩:=lex_of hs hz (by rw[eF];exact hs.length);obtain⟨hL,hE⟩:=lies_all (e:=⟨3,⟨#[]⟩,0,s.size⟩) h2 h3;obtain⟨j,hj⟩:=module_back h he hL (by rw[hE]);unfold iG;rw[h1];simp only;rw[hj]
theorem text_spells{m:Mdl}(h:gI m=true):dZ (textM m).data.toList (toksM m):=by
 rw[<-lines_toks];exact dZ.lines (mod_valid h)
theorem print_parse{m:Mdl}{s:bA}(he:∀f∈m.funcs,0<=f.effects/\f.effects<=15)(h:mC m=.ok s):iG s=.ok m/\gI m=true/\s.size<=8000/\s=textM m:=by
 unfold mC at h;split at h
 ·rename_i hr;unfold pV at h;split at h
  ·cases h
  rename_i hz;cases h;exact⟨spelt_parse hr he (text_spells hr) (by omega),hr,by omega,rfl⟩
 cases h
theorem XT{p:Prop}(h:p:=by
 simp only[tsz]
 omega):p:=h
def tsz:List bA->Nat
 |[]=>0
 |t::r=>t.size+1+tsz r
theorem fN:∀a b:List bA,tsz (a++b)=tsz a+tsz b
 |[],b=>by simp[tsz]
 |t::a,b=>by rw[List.cons_append,tsz,tsz,fN a b];omega
theorem aW(t:bA)(r:List bA):tsz (t::r)=t.size+1+tsz r:=by rw[tsz]
def bX:Nat->Nat
 |0=>0
 |d+1=>208+8*bX d
def bT:Nat->Nat
 |0=>0
 |d+1=>188+8*bT d
theorem iB{s:bA}(h:aK s=true):s.size<=20:=by
 have:=qX h;unfold eZ at this;split at this
 ·cases this
 simp only[Bool.and_eq_true,decide_eq_true_eq] at this;exact this.1.2
theorem mY{B:Nat}:∀{L:List (List bA)},(∀x∈L,tsz x<=B)->tsz (aM L)<=L.length*(B+2)
 |[],_=>by simp[aM,tsz]
 |[x],h=>by
  have:=h x (by simp);simp[aM];omega
 |x::y::r,h=>by
  have h1:=h x (by simp);have h2:=mY (L:=y::r) fun z hz=>h z (by simp[hz]);rw[aM,fN,aW,List.length_cons,Nat.succ_mul];have e:aY.size=1:=rfl;rw[e];omega
theorem rec_size{B:Nat}:∀{names:List bA}{before:Option bA}{args:List Xp},dY before names=true->(∀x∈args,tsz (aG x)<=B)->∀p∈kO names (eC args),tsz p<=23+B
 |[],_,_,_,_,p,hp=>by simp[kO] at hp
 |_::_,_,[],_,_,p,hp=>by simp[kO,eC] at hp
 |n::ns,_,x::xs,hn,h,p,hp=>by
  simp only[dY,Bool.and_eq_true] at hn;rw[eC,kO,List.mem_cons] at hp;rcases hp with rfl|hp
  ·have h1:=iB hn.1.1;have h2:=h x (by simp);rw[aW,aW];have e:kEq.size=1:=rfl;rw[e];simp only;omega
  exact rec_size hn.2 (fun y hy=>h y (by simp[hy])) p hp
theorem recT_length:∀(names:List bA)(as:List (Nat×List bA)),(kO names as).length<=names.length
 |[],_=>by simp[kO]
 |_::_,[]=>by simp[kO]
 |n::ns,a::as=>by rw[kO,List.length_cons,List.length_cons];have:=recT_length ns as;omega
theorem numX_size{n:Int}(h0:0<=n)(h1:n<=1099511627776):(numX n).size<=13:=by
 have h:=pS h0 h1;unfold cZ at h;split at h
 ·cases h
 split at h
 ·rename_i hc;simp only[Bool.and_eq_true,decide_eq_true_eq] at hc;exact hc.1.2
 cases h
theorem exp_size:∀(d:Nat)(e:Xp),aJ d e=true->tsz (aG e)+4<=bX d:=by
 intro d
 induction d with
 |zero=>intro e h;obtain⟨op,n,s,m,names,args⟩:=e;simp[aJ] at h
 |succ d ih=>
  intro e h
  have at_:∀{a lf},aJ d a=true->tsz (bE a lf)<=bX d:=fun{a lf}ha=>by
   have h1:=ih a ha;by_cases ho:lG a<lf
   ·rw[toks_paren ho,aW,fN,aW];have e1:aX.size=1:=rfl;have e2:cF.size=1:=rfl;rw[e1,e2];exact XT
   rw[kK ho];omega
  have w:∀{a},aJ d a=true->tsz (aG a)<=bX d:=fun ha=>by have:=ih _ ha;omega
  rw[bX]
  cases shape_of h with
  |int n h0 h1=>
   rw[wd_int,aW];have:=numX_size h0 h1;exact XT
  |bool n hn=>
   rw[wd_bool];rcases hn with rfl|rfl
   ·rw[if_neg (by decide)];have:tsz [cB]=6:=rfl;omega
   rw[if_pos rfl];have:tsz [dC]=5:=rfl;omega
  |var s hs=>
   rw[wd_var,aW];have:=iB hs;exact XT
  |get s hs=>
   rw[wd_get,aW,aW];have:=iB hs;have e:iC.size=3:=rfl;exact XT
  |bin t op fm a b ht ha hb=>
   rw[wd_bin ht,fN,aW];have h1:=at_ (lf:=if fm=4 then 5 else fm) ha;have h2:=at_ (lf:=fm+1) hb;(have h3:t.size<=3:=by rcases lP ht with h|h|h|h|h|h|h<;>rw[h.1]<;>decide+kernel);omega
  |not a ha=>
   rw[wd_not,aW];have h1:=at_ (lf:=3) ha;have e:nR.size=3:=rfl;omega
  |iff a b c ha hb hc=>
   rw[wd_if,aW,fN,aW,fN,aW];have h1:=at_ (lf:=0) ha;have h2:=at_ (lf:=0) hb;have h3:=at_ (lf:=0) hc;have e1:kIf.size=2:=rfl;have e2:lS.size=4:=rfl;have e3:lU.size=4:=rfl;omega
  |lets s a b hs ha hb=>
   rw[wd_let,aW,aW,aW,fN,aW];have h1:=at_ (lf:=0) ha;have h2:=at_ (lf:=0) hb;have h3:=iB hs;have e1:mT.size=3:=rfl;have e2:kEq.size=1:=rfl;have e3:kIn.size=2:=rfl;omega
  |set s a hs ha=>
   rw[wd_set,aW,aW];have h1:=at_ (lf:=0) ha;have h3:=iB hs;have e1:oE.size=3:=rfl;omega
  |field s a hs ha=>
   rw[wd_field,fN,aW,aW];have h1:=at_ (lf:=7) ha;have h3:=iB hs;have e1:mH.size=1:=rfl;exact XT
  |recd names args hn h8 hlen ha=>
   rw[wd_rec,aW,fN,aW];have h1:=mY (rec_size hn fun x hx=>w (ha x hx));have h2:=recT_length names (eC args);have h3:(kO names (eC args)).length*(23+bX d+2)<=8*(23+bX d+2):=Nat.mul_le_mul_right _ (by omega);have e1:bH.size=1:=rfl;have e2:dH.size=1:=rfl;exact XT
  |call s m args hs hm h6 ha=>
   rw[wd_call,fN,List.singleton_append,aW,aW,fN,aW]
   have h1:=mY (L:=args.map aG) (B:=bX d) fun x hx=>by
    obtain⟨y,hy,rfl⟩:=List.mem_map.1 hx;exact w (ha y hy)
   have h2:(args.map aG).length*(bX d+2)<=6*(bX d+2):=Nat.mul_le_mul_right _ (by rw[List.length_map];exact h6);have h3:=iB hs
   have h4:tsz (if m≠noB then[m,mH] else[])<=23:=by
    split
    ·rename_i sM;have:=iB (hm.resolve_left sM);have e:mH.size=1:=rfl;exact XT
    simp[tsz]
   have e1:aX.size=1:=rfl;have e2:cF.size=1:=rfl;exact XT
  |act n a hn ha=>
   have key:∀w',w'.size<=7->(cR.filter fun w=>decide (w.2=n)).map (·.1)=[w']->tsz (aG (.mk 16 n noB noB [] [a]))+4<=208+8*bX d:=fun w' hw he=>by
    rw[wd_act n a he,aW,aW,fN,aW];have h1:=w ha;have e1:aX.size=1:=rfl;have e2:cF.size=1:=rfl;exact XT
   exact WU
theorem exp_size12{e:Xp}(h:aJ 12 e=true):tsz (aG e)<=2041950165840:=by
 have h1:=exp_size 12 e h;have h2:bX 12=2041950165840:=by decide
 omega
theorem flds_size{p:Ty->Bool}{B:Nat}:∀{gs:List Fld},(∀g∈gs,aK g.1=true/\tsz (dV g.2)<=B)->∀x∈cO gs,tsz x<=21+B
 |[],_,x,hx=>by simp[cO] at hx
 |(n,t)::r,h,x,hx=>by
  rw[iW,List.mem_cons] at hx;rcases hx with rfl|hx
  ·have h1:=h (n,t) (by simp);have h2:=iB h1.1;have h3:=h1.2;rw[aW];simp only at h2 h3;omega
  exact flds_size (p:=p) (fun g hg=>h g (by simp[hg])) x hx
theorem oH:∀gs:List Fld,(cO gs).length=gs.length
 |[]=>by simp[cO]
 |(n,t)::r=>by rw[iW,List.length_cons,List.length_cons,oH r]
theorem type_size:∀(d:Nat)(t:Ty),aR d t=true->tsz (dV t)<=bT d
 |0,.mk k fs,h=>by simp[aR] at h
 |d+1,.mk k fs,h=>by
  obtain⟨hk,h8,rO,wZ⟩:=ty_parts h;rw[dV,bT];split
  ·have:tsz [kIntW]=4:=rfl;omega
  split
  ·have:tsz [kBool]=5:=rfl;omega
  rw[aW,fN,aW];have h1:=mY (flds_size (p:=aR d) (B:=bT d) fun g hg=>⟨(iX wZ g hg).1,type_size d g.2 (iX wZ g hg).2⟩);rw[oH] at h1;have h2:fs.length*(21+bT d+2)<=8*(21+bT d+2):=Nat.mul_le_mul_right _ h8;have e1:bH.size=1:=rfl;have e2:dH.size=1:=rfl;exact XT
theorem type_size4{t:Ty}(h:aR 4 t=true):tsz (dV t)<=109980:=by
 have h1:=type_size 4 t h;have h2:bT 4=109980:=by decide
 omega
theorem rflds_size{gs:List Fld}{most:Nat}(h:bL gs most=true):tsz (aM (cO gs))<=most*110003:=by
 have h1:=mY (flds_size (p:=aR 4) (B:=109980) fun g hg=>⟨(iE h g hg).1,type_size4 (iE h g hg).2⟩);rw[oH] at h1;unfold bL at h;rw[Bool.and_eq_true,decide_eq_true_eq] at h;exact Nat.le_trans h1 (Nat.mul_le_mul_right _ h.2)
theorem xps_size{es:List Xp}(h:∀e∈es,aJ 12 e=true):tsz (aM (es.map aG))<=es.length*2041950165842:=by
 have h1:=mY (L:=es.map aG) (B:=2041950165840) fun x hx=>by
  obtain⟨y,hy,rfl⟩:=List.mem_map.1 hx;exact exp_size12 (h y hy)
 rw[List.length_map] at h1;exact h1
theorem eff_size(e:Int):tsz (effT e)<=24:=by
 have key:∀l:List (bA×Int),tsz ((l.filter fun w=>decide (Go.bits .and .i64 e w.2≠0)).map (·.1))<=tsz (l.map (·.1)):=by
  intro l
  induction l with
  |nil=>exact Nat.le_refl _
  |cons x r ih=>
   rw[List.filter_cons];split
   ·rw[List.map_cons,List.map_cons,aW,aW];omega
   rw[List.map_cons,aW];omega
 exact Nat.le_trans (key cR) (by decide)
theorem fn_size{f:Fnc}(hn:aK f.name=true)(h:fG f=true):tsz (fnT f)<=2041950936000:=by
 unfold fG at h;simp only[Bool.and_eq_true] at h;obtain⟨⟨⟨hp,hr⟩,hb⟩,-⟩:=h;have h1:=rflds_size hp;have h2:=type_size4 hr;have h3:=exp_size12 hb;have h4:=eff_size f.effects;have h5:=iB hn;have e1:tsz (if f.pub then[lE] else[])<=4:=by split<;>decide
 have e2:tsz (if f.effects≠0 then[jA] else[])<=2:=by split<;>decide
 have e3:kFn.size=2:=rfl;have e4:aX.size=1:=rfl;have e5:cF.size=1:=rfl;have e6:kEq.size=1:=rfl;unfold fnT;rw[fN,aW,aW,aW,fN,aW,fN,fN,fN,aW];omega
theorem join_size:∀ts:List bA,ts≠[]->(lI ts).length+1=tsz ts
 |[],h=>absurd rfl h
 |[t],_=>by rw[lI,tsz,tsz,<-eF]
 |t::u::r,_=>by
  have:=join_size (u::r) (by simp);rw[lI,List.length_append,List.length_cons,aW,<-this,eF];omega
theorem rA(ts:List bA):(kQ ts).length=tsz ts+2:=by
 have:=join_size (ts++[dP]) (by simp);rw[fN] at this;have e:tsz [dP]=2:=rfl;unfold kQ;rw[List.length_append,List.length_singleton];omega
theorem lines_size{B:Nat}:∀{L:List (List bA)},(∀x∈L,tsz x<=B)->(L.flatMap kQ).length<=L.length*(B+2)
 |[],_=>by simp
 |x::r,h=>by
  have h1:=h x (by simp);have h2:=lines_size (L:=r) fun y hy=>h y (by simp[hy]);rw[List.flatMap_cons,List.length_append,rA,List.length_cons,Nat.succ_mul];omega
theorem text_size{m:Mdl}(h:gI m=true):(textM m).size<=140737488355328:=by
 unfold gI at h;simp only[Bool.and_eq_true,decide_eq_true_eq,Bool.or_eq_true] at h;obtain⟨⟨⟨⟨⟨⟨⟨⟨⟨⟨hu,hf⟩,hn⟩,KQ⟩,JA⟩,hv⟩,hi⟩,DN⟩,hold⟩,I9⟩,yV⟩:=h
 have hl:∀{es:List Xp}{n:Nat},cK es n=true->es.length=n:=fun h=>by
  unfold cK at h;rw[Bool.and_eq_true,decide_eq_true_eq] at h;exact h.2
 have ND:m.vars.length<=8:=by unfold bL at hv;rw[Bool.and_eq_true,decide_eq_true_eq] at hv;exact hv.2
 have tO:m.old.length<=8:=by unfold bL at hold;rw[Bool.and_eq_true,decide_eq_true_eq] at hold;exact hold.2
 have n1:=iB hn
 have a1:(kQ [cJ,m.name]).length<=30:=by
  rw[rA,aW,aW];have e:cJ.size=6:=rfl;exact XT
 have a2:=lines_size (L:=m.uses.map fun s=>[kUse,s]) (B:=25) fun x hx=>by
  obtain⟨s,hs,rfl⟩:=List.mem_map.1 hx;have:=iB (uses_each hu s hs);have e:kUse.size=3:=rfl;rw[aW,aW];exact XT
 have a3:=lines_size (L:=List.zipWith (fun(f:Fld)e=>pK::f.1::(dV f.2++kEq::aG e)) m.vars m.init) (B:=2041950276000) fun x hx=>by
  obtain⟨g,e,hg,he,rfl⟩:=mem_zipWith hx;have h1:=iB (iE hv g hg).1;have h2:=type_size4 (iE hv g hg).2;have h3:=exp_size12 (kU hi e he);have e1:pK.size=3:=rfl;have e2:kEq.size=1:=rfl;rw[aW,aW,fN,aW];omega
 have a4:=lines_size (L:=m.funcs.map fnT) (B:=2041950936000) fun x hx=>by
  obtain⟨f,FF,rfl⟩:=List.mem_map.1 hx;obtain⟨h1,h2⟩:=funcs_each hf f FF;exact fn_size h1 h2
 have b3:(List.zipWith (fun(f:Fld)e=>pK::f.1::(dV f.2++kEq::aG e)) m.vars m.init).length<=8:=by rw[List.length_zipWith];omega
 have c2:(m.uses.map fun s=>[kUse,s]).length*(25+2)<=12*(25+2):=Nat.mul_le_mul_right _ (by rw[List.length_map];exact KQ);have c3:=Nat.mul_le_mul_right (2041950276000+2) b3;have c4:(m.funcs.map fnT).length*(2041950936000+2)<=30*(2041950936000+2):=Nat.mul_le_mul_right _ (by rw[List.length_map];exact JA)
 have a5:((if m.moves then[lT::aX::(aM (cO m.old)++cF::jS::(aM (m.forward.map aG)++rC::aM (m.back.map aG)))] else[]).flatMap kQ).length<=32671203600000:=by
  split
  ·rename_i hm;rw[if_pos hm] at I9;have h1:=rflds_size hold;have h2:=xps_size (kU I9);have h3:=xps_size (kU yV);have h4:m.forward.length*2041950165842<=8*2041950165842:=Nat.mul_le_mul_right _ (by rw[hl I9];exact ND);have h5:m.back.length*2041950165842<=8*2041950165842:=Nat.mul_le_mul_right _ (by rw[hl yV];exact tO);have e1:lT.size=4:=rfl;have e2:aX.size=1:=rfl;have e3:cF.size=1:=rfl;have e4:jS.size=7:=rfl;have e5:rC.size=4:=rfl;rw[List.flatMap_cons,List.flatMap_nil,List.append_nil,rA,aW,aW,fN,aW,aW,fN,aW];omega
  simp
 have e:(textM m).size=((nQ m).flatMap kQ).length:=by rw[eF];rfl
 rw[e];unfold nQ;rw[List.flatMap_cons,List.flatMap_append,List.flatMap_append,List.flatMap_append,List.length_append,List.length_append,List.length_append,List.length_append];omega
def kF:Bool->List bA->List UInt8
 |_,[]=>[]
 |ins,t::r=>(if ins then[32] else[])++(t.data.toList++kF true r)
def insL(ins:Bool)(ts:List bA):Bool:=ins|| !ts.isEmpty
theorem emit_app:∀(ins:Bool)(a b:List bA),kF ins (a++b)=kF ins a++kF (insL ins a) b
 |ins,[],b=>by simp[kF,insL]
 |ins,t::a,b=>by
  rw[List.cons_append,kF,kF,emit_app true a b];simp[insL]
theorem ins_app(ins:Bool)(a b:List bA):insL ins (a++b)=insL (insL ins a) b:=by
 unfold insL;cases a<;>cases b<;>simp
theorem ins_cons(ins:Bool)(t:bA)(r:List bA):insL ins (t::r)=true:=by unfold insL;simp
theorem emit_join:∀ts:List bA,kF false ts=lI ts
 |[]=>rfl
 |[t]=>by simp[kF,lI]
 |t::u::r=>by
  have h:=emit_join (u::r);rw[kF] at h;rw[kF,kF,lI,<-h];simp
theorem emit_line(ts:List bA):kF false (ts++[dP])++[10]=kQ ts:=by rw[emit_join];rfl
theorem emit_size:∀(ins:Bool)(ts:List bA),(kF ins ts).length<=tsz ts
 |ins,[]=>by simp[kF,tsz]
 |ins,t::r=>by
  have h:=emit_size true r;rw[kF,tsz,List.length_append,List.length_append,eF];have:(if ins then[32] else([]:List UInt8)).length<=1:=by split<;>simp
  omega
abbrev leB(x y:List UInt8):Bool:=decide (x<=y)
theorem leB_trans(a b c:List UInt8)(h:leB a b=true)(k:leB b c=true):leB a c=true:=by
 simp only[leB,decide_eq_true_eq] at *;exact List.le_trans h k
theorem leB_total(a b:List UInt8):(leB a b||leB b a)=true:=by
 simp only[leB,Bool.or_eq_true,decide_eq_true_eq];exact List.le_total a b
theorem leB_anti{a b:List UInt8}(h:leB a b=true)(k:leB b a=true):a=b:=by
 simp only[leB,decide_eq_true_eq] at *;exact List.le_antisymm h k
abbrev msort(l:List (List UInt8)):List (List UInt8):=l.mergeSort fun x y=>decide (x<=y)
theorem msort_sorted(l:List (List UInt8)):(msort l).Pairwise fun a b=>leB a b=true:=List.pairwise_mergeSort leB_trans leB_total l
theorem msort_perm(l:List (List UInt8)):(msort l).Perm l:=List.mergeSort_perm l _
theorem sorted_unique{l l':List (List UInt8)}(h:l.Pairwise fun a b=>leB a b=true)(h':l'.Pairwise fun a b=>leB a b=true)(p:l.Perm l'):l=l':=
 List.Perm.eq_of_pairwise (le:=fun a b=>leB a b=true) (fun _ _ _ _ h k=>leB_anti h k) h h' p
def insertS(x:List UInt8):List (List UInt8)->List (List UInt8)
 |[]=>[x]
 |y::l=>if leB x y then x::y::l else y::insertS x l
def isort:List (List UInt8)->List (List UInt8)
 |[]=>[]
 |x::l=>insertS x (isort l)
theorem insertS_perm(x:List UInt8)(l:List (List UInt8)):(insertS x l).Perm (x::l):=by
 induction l with
 |nil=>exact List.Perm.refl _
 |cons y l ih=>
  rw[insertS];split
  ·exact List.Perm.refl _
  exact((ih.cons y).trans (List.Perm.swap x y l))
theorem insertS_sorted(x:List UInt8)(l:List (List UInt8))(h:l.Pairwise fun a b=>leB a b=true):(insertS x l).Pairwise fun a b=>leB a b=true:=by
 induction l with
 |nil=>simp[insertS]
 |cons y l ih=>
  rw[insertS];rw[List.pairwise_cons] at h;split
  ·rename_i yC;rw[List.pairwise_cons];refine⟨fun z hz=>?_,List.pairwise_cons.2 h⟩;rcases List.mem_cons.1 hz with rfl|hz
   ·exact yC
   exact leB_trans _ _ _ yC (h.1 z hz)
  rename_i yC
  have hyx:leB y x=true:=by
   have:=leB_total x y;simp only[Bool.or_eq_true] at this;rcases this with h'|h'
   ·exact absurd h' yC
   exact h'
  rw[List.pairwise_cons];refine⟨fun z hz=>?_,ih h.2⟩;rcases List.mem_cons.1 ((insertS_perm x l).mem_iff.1 hz) with rfl|hz
  ·exact hyx
  exact h.1 z hz
theorem isort_perm(l:List (List UInt8)):(isort l).Perm l:=by
 induction l with
 |nil=>exact List.Perm.refl _
 |cons x l ih=>exact(insertS_perm x _).trans (ih.cons x)
theorem isort_sorted(l:List (List UInt8)):(isort l).Pairwise fun a b=>leB a b=true:=by
 induction l with
 |nil=>simp[isort]
 |cons x l ih=>exact insertS_sorted x _ ih
theorem msort_eq(l:List (List UInt8)):msort l=isort l:=sorted_unique (msort_sorted l) (isort_sorted l) ((msort_perm l).trans (isort_perm l).symm)
theorem oU(l:List bA):gA l=(isort (l.map (·.data.toList))).map fun x=>⟨x.toArray⟩:=by
 unfold gA;rw[show(l.map (·.data.toList)).mergeSort (fun x y=>decide (x<=y))=isort (l.map (·.data.toList)) from msort_eq _]
example:gA [⟨#[50]⟩,⟨#[49]⟩]=[⟨#[49]⟩,⟨#[50]⟩]:=by rw[oU];decide+kernel
end Go.Proofs.YtiionicikdnnpaaGreatDoor
