/- Texts of this seat, joined. -/
import Derived.Test.YtiionicikdnnpaaGreatDoorNE
set_option linter.unusedVariables false
set_option linter.unusedSimpArgs false
namespace Go.Proofs.YtiionicikdnnpaaGreatDoor
theorem ST{p:Prop}(h:p:=by decide+kernel):p:=h
theorem UE{p:Prop}(h:p:=by omega):p:=h
theorem UF{p:Prop}(h:p:=by simp):p:=h
theorem QG{p:Prop}(h:p:=by
 rcases hn with rfl|rfl|rfl|rfl
 ·exact key nK ST ST
 ·exact key kNet ST ST
 ·exact key nL ST ST
 exact key jR ST ST):p:=h
theorem mS{t:bA}:∀{L:List (List bA)},t∈aL L->t=aY\/∃x∈L,t∈x
 |[],h=>by simp[aL] at h
 |[x],h=>.inr ⟨x,UF,by simpa[aL] using h⟩
 |x::y::r,h=>by
  rw[aL,List.mem_append,List.mem_cons] at h;rcases h with h|h|h
  ·exact .inr ⟨x,UF,h⟩
  ·exact .inl h
  rcases mS h with h|⟨z,h1,h2⟩
  ·exact .inl h
  exact .inr ⟨z,by simp at h1 ⊢;exact .inr h1,h2⟩
theorem fB{s:bA}(h:aM s=true):dS s=true:=by unfold dS;rw[oV h];rfl
theorem rec_valid:∀{names:List bA}{before:Option bA}{args:List Xp},dJ before names=true->(∀x∈args,∀t∈aG x,dS t=true)->∀p∈iG names (cV args),∀t∈p,dS t=true
 |[],_,_,_,_,p,hp=>by simp[iG] at hp
 |_::_,_,[],_,_,p,hp=>by simp[iG,cV] at hp
 |n::ns,_,x::xs,hn,h,p,hp=>by
  simp only[dJ,Bool.and_eq_true] at hn;rw[cV,iG,List.mem_cons] at hp;rcases hp with rfl|hp
  ·intro t ht;simp only[List.mem_cons] at ht;rcases ht with rfl|rfl|ht
   ·exact fB hn.1.1
   ·decide+kernel
   exact h x UF t ht
  exact rec_valid hn.2 (fun y hy=>h y (by simp[hy])) p hp
theorem mV:∀(d:Nat)(e:Xp),aJ d e=true->∀t∈aG e,dS t=true:=by
 intro d
 induction d with
 |zero=>intro e h;obtain⟨op,n,s,m,names,args⟩:=e;simp[aJ] at h
 |succ d ih=>
  intro e h
  have at_:∀{a lf},aJ d a=true->∀t∈aX a lf,dS t=true:=fun{a lf}ha t ht=>by
   by_cases ho:jE a<lf
   ·rw[jM ho] at ht;simp only[List.mem_cons,List.mem_append,List.not_mem_nil,or_false] at ht;rcases ht with rfl|ht|rfl
    ·decide+kernel
    ·exact ih a ha t ht
    decide+kernel
   rw[dZ ho] at ht;exact ih a ha t ht
  intro t ht
  cases shape_of h with
  |int n h0 h1=>
   rw[wd_int,List.mem_singleton] at ht;subst ht;unfold dS;rw[nS h0 h1];simp
  |bool n hn=>rw[wd_bool,List.mem_singleton] at ht;subst ht;rcases hn with rfl|rfl<;>decide+kernel
  |var s hs=>rw[wd_var,List.mem_singleton] at ht;subst ht;exact fB hs
  |get s hs=>
   rw[wd_get] at ht;simp only[List.mem_cons,List.not_mem_nil,or_false] at ht;rcases ht with rfl|rfl
   ·decide+kernel
   exact fB hs
  |bin t' op fm a b uT ha hb=>
   rw[wd_bin uT] at ht;simp only[List.mem_append,List.mem_cons] at ht;rcases ht with ht|rfl|ht
   ·exact at_ ha t ht
   ·rcases jP uT with h|h|h|h|h|h|h<;>obtain⟨rfl,rfl,rfl⟩:=h<;>decide+kernel
   exact at_ hb t ht
  |not a ha=>
   rw[wd_not,List.mem_cons] at ht;rcases ht with rfl|ht
   ·decide+kernel
   exact at_ ha t ht
  |iff a b c ha hb hc=>
   rw[wd_if] at ht;simp only[List.mem_append,List.mem_cons] at ht;rcases ht with rfl|ht|rfl|ht|rfl|ht
   ·decide+kernel
   ·exact at_ ha t ht
   ·decide+kernel
   ·exact at_ hb t ht
   ·decide+kernel
   exact at_ hc t ht
  |lets s a b hs ha hb=>
   rw[wd_let] at ht;simp only[List.mem_append,List.mem_cons] at ht;rcases ht with rfl|rfl|rfl|ht|rfl|ht
   ·decide+kernel
   ·exact fB hs
   ·decide+kernel
   ·exact at_ ha t ht
   ·decide+kernel
   exact at_ hb t ht
  |set s a hs ha=>
   rw[wd_set] at ht;simp only[List.mem_cons] at ht;rcases ht with rfl|rfl|ht
   ·decide+kernel
   ·exact fB hs
   exact at_ ha t ht
  |field s a hs ha=>
   rw[oH] at ht;simp only[List.mem_append,List.mem_cons,List.not_mem_nil,or_false] at ht;rcases ht with ht|rfl|rfl
   ·exact at_ ha t ht
   ·decide+kernel
   exact fB hs
  |recd names args hn h8 qG ha=>
   rw[wd_rec] at ht;simp only[List.mem_append,List.mem_cons,List.not_mem_nil,or_false] at ht;rcases ht with rfl|ht|rfl
   ·decide+kernel
   ·rcases mS ht with rfl|⟨p,hp,ht⟩
    ·decide+kernel
    exact rec_valid hn (fun x hx=>ih x (ha x hx)) p hp t ht
   decide+kernel
  |call s m args hs hm h6 ha=>
   rw[wd_call] at ht;simp only[List.mem_append,List.mem_cons,List.not_mem_nil,or_false] at ht;rcases ht with ht|rfl|rfl|ht|rfl
   ·split at ht
    ·rename_i yE;simp only[List.mem_cons,List.not_mem_nil,or_false] at ht;rcases ht with rfl|rfl
     ·exact fB (hm.resolve_left yE)
     decide+kernel
    cases ht
   ·exact fB hs
   ·decide+kernel
   ·rcases mS ht with rfl|⟨p,hp,ht⟩
    ·decide+kernel
    obtain⟨x,hx,rfl⟩:=List.mem_map.1 hp;exact ih x (ha x hx) t ht
   decide+kernel
  |act n a hn ha=>
   have key:∀w,dS w=true->(cD.filter fun w=>decide (w.2=n)).map (·.1)=[w]->dS t=true:=fun w hw he=>by
    rw[wd_act n a he] at ht;simp only[List.mem_append,List.mem_cons,List.not_mem_nil,or_false] at ht;rcases ht with rfl|rfl|ht|rfl
    ·exact hw
    ·decide+kernel
    ·exact ih a ha t ht
    decide+kernel
   exact QG
theorem depthXs_le':∀{args:List Xp}{d:Nat},(∀x∈args,bE x<=d)->dP args<=d
 |[],_,_=>by rw[dP];exact Nat.zero_le _
 |x::r,d,h=>by rw[dP];exact Nat.max_le.2 ⟨h x UF,depthXs_le' fun y hy=>h y (by simp[hy])⟩
theorem depth_right:∀(d:Nat)(e:Xp),aJ d e=true->bE e<=d
 |0,.mk op n s m names args,h=>by simp[aJ] at h
 |d+1,.mk op n s m names args,h=>by
  rw[aJ] at h;simp only[Bool.and_eq_true,List.all_eq_true] at h;rw[bE];have:=depthXs_le' (d:=d) fun x hx=>depth_right d x (h.2 x hx);omega
section
variable {l:List Tok} {i:Nat} {s t:bA} {ts:List bA}
theorem cY.end_(h:cY l i (t::ts)):kL l i true t=.ok ((),i+1):=by unfold kL;rw[if_pos h.yes,if_pos rfl]
theorem cY.later(h:cY l i (t::ts))(hn:aM t=true){last:bA}{any:Bool}(yG:any=true->gtB t last=true):eC l i last any=.ok (t,i+1):=by
 unfold eC;rw[if_pos (h.isName hn),h.text]
 cases any with
 |false=>rfl
 |true=>rw[if_neg (by simp[gt_ne (yG rfl)]),if_neg (by simp[yG rfl])]
theorem cY.fresh(h:cY l i (t::ts))(hn:aM t=true){known:bA->Bool}(hk:known t=false):fO l i known=.ok (t,i+1):=by
 unfold fO;rw[if_pos (h.isName hn),h.text,if_neg (by rw[hk];decide)]
theorem roomIf{p:Bool}{have_ most:Nat}(h:have_<most):(if p then eH l i have_ most else .ok ((),i))=(.ok ((),i):PR Unit):=by
 unfold eH;rw[if_pos h,ite_self]
theorem more_comma{T:Ty}(hT:aZ T<=4)(h:cY l i (aY::ts))(e:bA):lE l i T e=.ok (false,i+1):=by
 unfold lE;rw[if_pos h.yes,decide_eq_true hT,h.end_,bnd_ok]
theorem more_end{T:Ty}(hT:aZ T<=4)(h:cY l i (t::ts))(hc:t≠aY):lE l i T t=.ok (true,i+1):=by
 unfold lE;rw[if_neg (h.no hc),decide_eq_true hT,h.end_,bnd_ok]
end
theorem hH(s:bA)(t:Ty)(r:List Fld):cE ((s,t)::r)=(s::dH t)::cE r:=by rw[cE]
theorem typed_from{l:List Tok}{rec:Nat->PR Ty}{p:Ty->Bool}(hp:∀t,p t=true->aZ t<=4):∀(gs:List Fld)(f:Nat)(fs:List Fld)(before:Option bA)(i:Nat),gs≠[]->(∀t,p t=true->∀k,i<=k->cY l k (dH t)->rec k=.ok (t,k+(dH t).length))->
  fs.length+gs.length<=8->eQ p before gs=true->(fs=[]/\before=none\/before=fs.getLast?.map (·.1))->cY l i (aL (cE gs)++[cL])->l.length<f+i->dE l rec f fs i=.ok (.mk 2 (fs++gs),i+(aL (cE gs)).length+1)
 |[],_,_,_,_,h,_,_,_,_,_,_=>absurd rfl h
 |(n,T)::gs,f,fs,before,i,_,uN,h8,uF,hbe,hL,hf=>by
  have hr:=hL.room;obtain⟨f,rfl⟩:∃g,f=g+1:=⟨f-1,UE⟩;simp only[eQ,Bool.and_eq_true] at uF;obtain⟨⟨⟨hn,yG⟩,hT⟩,uF⟩:=uF;have uE:∀q:Bool,(if q then eH l i fs.length 8 else .ok ((),i))=(.ok ((),i):PR Unit):=fun q=>roomIf (by rw[List.length_cons] at h8;omega)
  have sK:decide (0<fs.length)=true->gtB n ((fs.getLast?.map (·.1)).getD noB)=true:=fun hd=>by
   rcases hbe with⟨rfl,-⟩|rfl
   ·simp at hd
   cases hq:fs.getLast? with
   |none=>rw[List.getLast?_eq_none_iff.1 hq] at hd;simp at hd
   |some x=>rw[hq] at yG;exact yG
  rw[hH] at hL ⊢
  cases gs with
  |nil=>
   simp only[cE,aL,List.cons_append] at hL ⊢;have hE:=hL.tail;rw[dE,uE,bnd_ok,hL.later hn sK,bnd_ok,uN T hT _ UE hE.left,bnd_ok,more_end (hp T hT) hE.right ST,bnd_ok,if_pos rfl];simp only[List.length_cons];rw[show i+1+(dH T).length+1=i+((dH T).length+1)+1 by omega]
  |cons g gs=>
   obtain⟨n2,T2⟩:=g;(have e:aL ((n::dH T)::cE ((n2,T2)::gs))=n::(dH T++aY::aL (cE ((n2,T2)::gs))):=by rw[hH];simp[aL]);rw[e] at hL ⊢;simp only[List.cons_append,List.append_assoc] at hL;have hE:=hL.tail
   rw[dE,uE,bnd_ok,hL.later hn sK,bnd_ok,uN T hT _ UE hE.left,bnd_ok,more_comma (hp T hT) hE.right,bnd_ok,if_neg (by decide),
    typed_from hp ((n2,T2)::gs) f (fs++[(n,T)]) (some n) _ UF (fun t ht k hk=>uN t ht k UE) (by simp at h8 ⊢;omega) uF (.inr UF) hE.right.tail UE]
   simp;omega
theorem lvFs_le:∀{fs:List Fld}{d:Nat},(∀x∈fs,aZ x.2<=d)->cH fs<=d
 |[],_,_=>by rw[cH];exact Nat.zero_le _
 |(s,t)::r,d,h=>by rw[cH];exact Nat.max_le.2 ⟨h (s,t) UF,lvFs_le fun y hy=>h y (by simp[hy])⟩
theorem hJ{p:Ty->Bool}:∀{fs:List Fld}{before:Option bA},eQ p before fs=true->∀x∈fs,aM x.1=true/\p x.2=true
 |[],_,_,x,hx=>by cases hx
 |(n,t)::r,before,h,x,hx=>by
  simp only[eQ,Bool.and_eq_true] at h;rcases List.mem_cons.1 hx with rfl|hx
  ·exact⟨h.1.1.1,h.1.2⟩
  exact hJ h.2 x hx
theorem ty_parts{d:Nat}{k:Int}{fs:List Fld}(h:aR (d+1) (.mk k fs)=true):(k=0\/k=1\/k=2)/\fs.length<=8/\(k≠2->fs=[])/\eQ (aR d) none fs=true:=by
 rw[aR] at h;simp only[Bool.and_eq_true,Bool.or_eq_true,decide_eq_true_eq] at h;obtain⟨⟨⟨⟨h0,h1⟩,h2⟩,h3⟩,h4⟩:=h;exact⟨UE,h2,fun hk=>List.length_eq_zero_iff.1 (h3.resolve_left hk),h4⟩
theorem lB:∀(d:Nat)(t:Ty),aR d t=true->aZ t<=d
 |0,.mk k fs,h=>by simp[aR] at h
 |d+1,.mk k fs,h=>by
  obtain⟨-,-,-,h4⟩:=ty_parts h;rw[aZ];have:=lvFs_le (d:=d) fun x hx=>lB d x.2 (hJ h4 x hx).2;omega
theorem typed_back:∀(d:Nat)(t:Ty),d<=4->aR d t=true->∀(l:List Tok)(i F:Nat),cY l i (dH t)->l.length<F+i->eF l F i=.ok (t,i+(dH t).length)
 |0,.mk k fs,_,h,_,_,_,_,_=>by simp[aR] at h
 |d+1,.mk k fs,hd,h,l,i,F,hL,hF=>by
  obtain⟨hk,h8,pQ,uF⟩:=ty_parts h;have hr:=hL.room;obtain⟨F,rfl⟩:∃g,F=g+1:=⟨F-1,UE⟩;rw[dH] at hL ⊢;rcases hk with rfl|rfl|rfl
  ·obtain rfl:=pQ (by decide);rw[if_pos rfl] at hL ⊢;rw[eF,if_pos hL.yes];rfl
  ·obtain rfl:=pQ (by decide);rw[if_neg (by decide),if_pos rfl] at hL ⊢;rw[eF,if_neg (hL.no ST),if_pos hL.yes];rfl
  rw[if_neg (by decide),if_neg (by decide)] at hL ⊢;rw[eF,if_neg (hL.no ST),if_neg (hL.no ST),hL.want,bnd_ok];have hT:=hL.tail
  cases fs with
  |nil=>
   simp only[cE,aL,List.nil_append] at hT ⊢;rw[if_pos hT.yes];rfl
  |cons g gs=>
   obtain⟨n,T⟩:=g;have hn:=(hJ uF (n,T) UF).1
   have uP:¬isP l (i+1) cL=true:=by
    obtain⟨r,hr⟩:∃r,aL (cE ((n,T)::gs))++[cL]=n::r:=by
     rw[hH]
     cases hq:cE gs with
     |nil=>exact⟨_,rfl⟩
     |cons y ys=>exact⟨_,rfl⟩
    rw[hr] at hT;exact hT.no (jV hn ST)
   rw[if_neg uP,typed_from (p:=aR d) (fun t ht=>Nat.le_trans (lB d t ht) UE) ((n,T)::gs) (l.length+1) [] none (i+1) UF
    (fun t ht k hk hLk=>typed_back d t UE ht l k F hLk UE) (by simpa using h8) uF (.inl ⟨rfl,rfl⟩) hT UE]
   simp;omega
theorem typed_all{t:Ty}(h:aR 4 t=true){l:List Tok}{i:Nat}(hL:cY l i (dH t)):iW l i=.ok (t,i+(dH t).length):=typed_back 4 t (by decide) h l i _ hL UE
theorem type_valid:∀(d:Nat)(t:Ty),aR d t=true->∀x∈dH t,dS x=true
 |0,.mk k fs,h,_,_=>by simp[aR] at h
 |d+1,.mk k fs,h,x,hx=>by
  obtain⟨hk,h8,pQ,uF⟩:=ty_parts h
  have key:∀(gs:List Fld),(∀g∈gs,aM g.1=true/\aR d g.2=true)->∀p∈cE gs,∀y∈p,dS y=true:=by
   intro gs
   induction gs with
   |nil=>intro _ p hp;simp[cE] at hp
   |cons g gs ih=>
    obtain⟨n,T⟩:=g;intro hg p hp;rw[hH,List.mem_cons] at hp;rcases hp with rfl|hp
    ·intro y hy;rcases List.mem_cons.1 hy with hy|hy
     ·rw[hy];exact fB (hg (n,T) UF).1
     exact type_valid d T (hg (n,T) UF).2 y hy
    exact ih (fun g hgm=>hg g (by simp[hgm])) p hp
  rw[dH] at hx;split at hx
  ·rw[List.mem_singleton.1 hx];decide+kernel
  split at hx
  ·rw[List.mem_singleton.1 hx];decide+kernel
  simp only[List.mem_append,List.mem_cons,List.not_mem_nil,or_false] at hx;rcases hx with rfl|hx|rfl
  ·decide+kernel
  ·rcases mS hx with rfl|⟨p,hp,hx⟩
   ·decide+kernel
   exact key fs (fun g hg=>hJ uF g hg) p hp x hx
  decide+kernel
theorem flds_valid:∀{gs:List Fld},(∀g∈gs,aM g.1=true/\aR 4 g.2=true)->∀x∈aL (cE gs),dS x=true:=by
 intro gs hg x hx
 have key:∀(gs:List Fld),(∀g∈gs,aM g.1=true/\aR 4 g.2=true)->∀p∈cE gs,∀y∈p,dS y=true:=by
  intro gs
  induction gs with
  |nil=>intro _ p hp;simp[cE] at hp
  |cons g gs ih=>
   obtain⟨n,T⟩:=g;intro hg p hp;rw[hH,List.mem_cons] at hp;rcases hp with rfl|hp
   ·intro y hy;rcases List.mem_cons.1 hy with hy|hy
    ·rw[hy];exact fB (hg (n,T) UF).1
    exact type_valid 4 T (hg (n,T) UF).2 y hy
   exact ih (fun g hgm=>hg g (by simp[hgm])) p hp
 rcases mS hx with rfl|⟨p,hp,hx⟩
 ·decide+kernel
 exact key gs hg p hp x hx
theorem pG:∀{gs:List Fld}{known:List bA},bB gs known=true->∀g∈gs,aM g.1=true/\aR 4 g.2=true
 |[],_,_,g,hg=>by cases hg
 |(n,t)::r,known,h,g,hg=>by
  rw[bB] at h;split at h
  ·cases h
  rename_i hc;simp only[Bool.or_eq_true,not_or,Bool.not_eq_true,Bool.not_eq_eq_eq_not,Bool.not_true,Bool.not_eq_false] at hc;rcases List.mem_cons.1 hg with rfl|hg
  ·exact⟨by simpa using hc.1.2,by simpa using hc.2⟩
  exact pG h g hg
theorem fields_from{l:List Tok}{most:Nat}:∀(gs:List Fld)(f:Nat)(fs:List Fld)(known:List bA)(i:Nat),gs≠[]->fs.length+gs.length<=most->bB gs known=true->(∀s,(fs.any fun x=>decide (x.1=s))=known.any fun x=>decide (x=s))->
  cY l i (aL (cE gs)++[bQ])->l.length<f+i->cK l most f fs i=.ok (fs++gs,i+(aL (cE gs)).length+1)
 |[],_,_,_,_,h,_,_,_,_,_=>absurd rfl h
 |(n,T)::gs,f,fs,known,i,_,hm,uF,MT,hL,hf=>by
  have hr:=hL.room;obtain⟨f,rfl⟩:∃g,f=g+1:=⟨f-1,UE⟩;obtain⟨hn,hT⟩:=pG uF (n,T) UF;rw[bB] at uF;split at uF
  ·cases uF
  rename_i hc
  have CX:(known.any fun x=>decide (x=n))=false:=by
   cases hq:known.any fun x=>decide (x=n) with
   |false=>rfl
   |true=>exact absurd (by rw[hq];rfl) hc
  have uE:∀q:Bool,(if q then eH l i fs.length most else .ok ((),i))=(.ok ((),i):PR Unit):=fun q=>roomIf (by rw[List.length_cons] at hm;omega);have hfr:(fs.any fun x=>decide (x.1=n))=false:=by rw[MT,CX]
  have IZ:=lB 4 T hT;rw[hH] at hL ⊢
  cases gs with
  |nil=>
   simp only[cE,aL,List.cons_append] at hL ⊢;have hE:=hL.tail;rw[cK,uE,bnd_ok,hL.fresh hn hfr,bnd_ok,typed_all hT hE.left,bnd_ok,more_end IZ hE.right ST,bnd_ok,if_pos rfl];simp only[List.length_cons];rw[show i+1+(dH T).length+1=i+((dH T).length+1)+1 by omega]
  |cons g gs=>
   obtain⟨n2,T2⟩:=g;(have e:aL ((n::dH T)::cE ((n2,T2)::gs))=n::(dH T++aY::aL (cE ((n2,T2)::gs))):=by rw[hH];simp[aL]);rw[e] at hL ⊢;simp only[List.cons_append,List.append_assoc] at hL;have hE:=hL.tail
   rw[cK,uE,bnd_ok,hL.fresh hn hfr,bnd_ok,typed_all hT hE.left,bnd_ok,more_comma IZ hE.right,bnd_ok,if_neg (by decide),
    fields_from ((n2,T2)::gs) f (fs++[(n,T)]) (n::known) _ UF (by simp at hm ⊢;omega) uF (fun s=>by rw[List.any_append,MT s];simp[Bool.or_comm]) hE.right.tail UE]
   simp;omega
theorem fields_back{l:List Tok}{most i:Nat}{gs:List Fld}{ts:List bA}(h:bM gs most=true)(hL:cY l i (aS::(aL (cE gs)++bQ::ts))):gK l most i=.ok (gs,i+(aL (cE gs)).length+2):=by
 unfold bM at h;rw[Bool.and_eq_true,decide_eq_true_eq] at h;have hT:=hL.tail;unfold gK;rw[hL.want,bnd_ok]
 cases gs with
 |nil=>
  simp only[cE,aL,List.nil_append] at hT ⊢;rw[if_pos hT.yes];rfl
 |cons g gs=>
  obtain⟨n,T⟩:=g;have hn:=(pG h.1 (n,T) UF).1
  have uP:¬isP l (i+1) bQ=true:=by
   obtain⟨r,hr⟩:∃r,aL (cE ((n,T)::gs))++bQ::ts=n::r:=by
    rw[hH]
    cases hq:cE gs with
    |nil=>exact⟨_,rfl⟩
    |cons y ys=>exact⟨_,rfl⟩
   rw[hr] at hT;exact hT.no (jV hn ST)
  have hT2:cY l (i+1) (aL (cE ((n,T)::gs))++[bQ]):=cY.left (us:=ts) (by rw[List.append_assoc];exact hT);rw[if_neg uP,fields_from ((n,T)::gs) (l.length+1) [] [] (i+1) UF (by simpa using h.2) h.1 (fun s=>rfl) hT2 UE,List.nil_append];rw[show i+1+(aL (cE ((n,T)::gs))).length+1=i+(aL (cE ((n,T)::gs))).length+2 by omega]
theorem whole_back{l:List Tok}{i:Nat}{e:Xp}{t:bA}{ts:List bA}(h:aJ 12 e=true)(ht:stopper t=true)(hL:cY l i (aG e++t::ts)):iM l i t=.ok (e,i+(aG e).length+1):=by
 unfold iM jY;rw[exp_back h hL.left UE (hL.right.stops ht),bnd_ok,decide_eq_true (depth_right 12 e h),hL.right.end_,bnd_ok]
theorem wholes_from{l:List Tok}{t:bA}{ts:List bA}(ht:stopper t=true):∀(xs:List Xp)(out:List Xp)(i n:Nat),xs.length=n+1->(∀x∈xs,aJ 12 x=true)->cY l i (aL (xs.map aG)++t::ts)->dR l t n out i=.ok (out++xs,i+(aL (xs.map aG)).length+1)
 |[],_,_,_,h,_,_=>by simp at h
 |[x],out,i,n,hn,hx,hL=>by
  obtain rfl:n=0:=by simpa using hn.symm
  rw[List.map_cons,List.map_nil,aL] at hL ⊢;rw[dR,whole_back (hx x UF) ht hL,bnd_ok]
 |x::y::xs,out,i,n,hn,hx,hL=>by
  obtain⟨n,rfl⟩:∃k,n=k+1:=⟨n-1,by simp at hn;omega⟩;have e:aL ((x::y::xs).map aG)=aG x++aY::aL ((y::xs).map aG):=by simp[aL]
  rw[e] at hL ⊢;simp only[List.cons_append,List.append_assoc] at hL;rw[dR,whole_back (hx x UF) ST hL,bnd_ok,wholes_from ht (y::xs) (out++[x]) _ n (by simp at hn ⊢;omega) (fun z hz=>hx z (by simp[hz])) hL.right.tail];simp;omega
theorem wholes_back{l:List Tok}{i n:Nat}{t:bA}{ts:List bA}{xs:List Xp}(ht:stopper t=true)(h:cB xs n=true)(hL:cY l i (aL (xs.map aG)++t::ts)):fL l n i t=.ok (xs,i+(aL (xs.map aG)).length+1):=by
 unfold cB at h;rw[Bool.and_eq_true,decide_eq_true_eq,List.all_eq_true] at h;obtain⟨h1,rfl⟩:=h;unfold fL
 cases xs with
 |nil=>
  simp only[List.map_nil,aL,List.nil_append,List.length_nil] at hL ⊢;rw[hL.want,bnd_ok]
 |cons x xs=>
  simp only[List.length_cons];rw[wholes_from ht (x::xs) [] i xs.length rfl h1 hL,List.nil_append]
end Go.Proofs.YtiionicikdnnpaaGreatDoor
namespace Go.Proofs.YtiionicikdnnpaaGreatDoor
theorem T9{p:Prop}(h:p:=by decide+kernel):p:=h
theorem UM{p:Prop}(h:p:=by omega):p:=h
theorem QX{p:Prop}(h:p:=by
 have h:e=0\/e=1\/e=2\/e=3\/e=4\/e=5\/e=6\/e=7\/e=8\/e=9\/e=10\/e=11\/e=12\/e=13\/e=14\/e=15:=UM
 rcases h with h|h|h|h|h|h|h|h|h|h|h|h|h|h|h|h<;>subst h<;>decide+kernel):p:=h
theorem effects_from{l:List Tok}{ts:List bA}{p:bA×Int->Bool}:∀(L:List (bA×Int))(n:Int)(i:Nat),(L.map (·.1)).Nodup->(∀w∈L,w.1≠kEq)->cY l i ((L.filter p).map (·.1)++kEq::ts)->
  dF l L n i=(n+((L.filter p).map (·.2)).sum,i+(L.filter p).length)
 |[],n,i,_,_,_=>by simp[dF]
 |(s,b)::r,n,i,hd,hq,hL=>by
  rw[List.map_cons,List.nodup_cons] at hd
  cases hp:p (s,b) with
  |true=>
   rw[List.filter_cons_of_pos hp] at hL ⊢;simp only[List.map_cons,List.cons_append] at hL;rw[dF,if_pos hL.yes,effects_from r (n+b) (i+1) hd.2 (fun w hw=>hq w (by simp[hw])) hL.tail];simp;constructor<;>omega
  |false=>
   rw[List.filter_cons_of_neg (by rw[hp];decide)] at hL ⊢
   have uP:¬isP l i s=true:=by
    cases hf:r.filter p with
    |nil=>rw[hf] at hL;exact cY.no (ts:=ts) hL fun e=>hq (s,b) (by simp) e.symm
    |cons w ws=>
     rw[hf] at hL;simp only[List.map_cons,List.cons_append] at hL;refine hL.no fun e=>hd.1 ?_;rw[<-e];exact List.mem_map.2 ⟨w,(List.mem_filter.1 (hf▸List.mem_cons_self ..)).1,rfl⟩
   rw[dF,if_neg uP,effects_from r n i hd.2 (fun w hw=>hq w (by simp[hw])) hL]
theorem eff_sum{e:Int}(h0:0<=e)(h1:e<=15):((cD.filter fun w=>decide (Go.bits .and .i64 e w.2≠0)).map (·.2)).sum=e:=by
 exact QX
theorem bang_back{l:List Tok}{i:Nat}{e:Int}{ts:List bA}(h0:0<=e)(h1:e<=15)(hL:cY l i ((if e≠0 then[hM] else[])++(effT e++kEq::ts))):lC l i true=.ok ((e,true),i+((if e≠0 then[hM] else[])++effT e).length):=by
 by_cases he:e=0
 ·subst he;have e0:effT 0=[]:=T9;rw[e0,if_neg (by decide)] at hL ⊢;simp only[List.nil_append] at hL;unfold lC;rw[if_neg (hL.no T9)];rfl
 rw[if_pos he] at hL ⊢;simp only[List.cons_append,List.nil_append] at hL;have hs:=effects_from (p:=fun w=>decide (Go.bits .and .i64 e w.2≠0)) cD 0 (i+1) T9 T9 hL.tail;rw[eff_sum h0 h1,Int.zero_add] at hs;unfold lC;rw[if_pos hL.yes,hL.end_,bnd_ok,hs];simp only;rw[if_pos he];unfold effT;simp;omega
theorem function_back{l:List Tok}{i:Nat}{f:Fnc}{ts:List bA}{known:bA->Bool}(h:eY f=true)(hn:aM f.name=true)(h0:0<=f.effects)(h1:f.effects<=15)(hk:known f.name=false)(hL:cY l i (fnT f++dB::ts)):
  gW l i known=.ok (f,i+(fnT f).length+1):=by
 unfold eY at h;simp only[Bool.and_eq_true] at h;obtain⟨⟨⟨hp,hr⟩,hb⟩,-⟩:=h;obtain⟨name,pub,params,result,effects,body⟩:=f;simp only at hn h0 h1 hk hp hr hb;obtain⟨R,hR⟩:∃R,R=kFn::name::aS::(aL (cE params)++bQ::(dH result++((if effects≠0 then[hM] else[])++(effT effects++kEq::aG body)))):=⟨_,rfl⟩
 have key:∀j,cY l j (R++dB::ts)->(dD l j kFn).bnd (fun _ j=>(fO l j known).bnd fun name j2=>(gK l 6 j2).bnd fun ps j3=>(iW l j3).bnd fun t j4=>(lC l j4 (decide (aZ t<=4))).bnd fun ef j5=>
   (kL l j5 ef.2 kEq).bnd fun _ j6=>(iM l j6 dB).bnd fun e j7=>(.ok (⟨name,isP l i kF,ps,t,ef.1,e⟩,j7):PR Fnc))=.ok (⟨name,isP l i kF,params,result,effects,body⟩,j+R.length+1):=by
  intro j hj;have qG:R.length=3+(aL (cE params)).length+1+(dH result).length+((if effects≠0 then[hM] else[])++effT effects).length+1+(aG body).length:=by rw[hR];simp;omega
  rw[hR] at hj;simp only[List.cons_append,List.append_assoc] at hj;have j2:=hj.tail.tail;have j3:=(j2.tail).right.tail;have j4:=j3.right;have j4':cY l (j+1+1+1+(aL (cE params)).length+1+(dH result).length) (((if effects≠0 then[hM] else[])++effT effects)++kEq::(aG body++dB::ts)):=by rw[List.append_assoc];exact j4
  have j5:=j4'.right
  rw[hj.want,bnd_ok,hj.tail.fresh hn hk,bnd_ok,fields_back hp j2,bnd_ok,
   show j+1+1+(aL (cE params)).length+2=j+1+1+1+(aL (cE params)).length+1 by omega,typed_all hr j3.left,bnd_ok,decide_eq_true (lB 4 result hr),bang_back h0 h1 j4,bnd_ok,j5.end_,bnd_ok,whole_back hb T9 j5.tail,bnd_ok,qG]
  rw[show j+1+1+1+(aL (cE params)).length+1+(dH result).length+((if effects≠0 then[hM] else[])++effT effects).length+1+(aG body).length+1=j+(3+(aL (cE params)).length+1+(dH result).length+((if effects≠0 then[hM] else[])++effT effects).length+1+(aG body).length)+1 by omega]
 unfold fnT at hL ⊢;simp only at hL ⊢;rw[<-hR] at hL ⊢;unfold gW
 cases pub with
 |true=>
  simp only[if_true,List.cons_append,List.nil_append,List.length_cons] at hL ⊢;rw[hL.yes] at key ⊢;rw[if_pos rfl,key (i+1) hL.tail];rw[show i+1+R.length+1=i+(R.length+1)+1 by omega]
 |false=>
  simp only[Bool.false_eq_true,if_false,List.nil_append] at hL ⊢
  have uP:isP l i kF=false:=by
   rw[hR] at hL;rw[hL.says];decide+kernel
  rw[uP] at key ⊢;rw[if_neg (by decide),key i hL]
def mE(us:List bA):List bA:=us.flatMap fun s=>[pC,s,dB]
def kC(vs:List Fld)(es:List Xp):List bA:=(List.zip vs es).flatMap fun x=>nJ::x.1.1::(dH x.1.2++kEq::(aG x.2++[dB]))
def gA(fs:List Fnc):List bA:=fs.flatMap fun f=>fnT f++[dB]
def nH(m:Mdl):List bA:=if m.moves then kK::aS::(aL (cE m.old)++bQ::iB::(aL (m.forward.map aG)++nT::(aL (m.back.map aG)++[dB]))) else[]
def toksM(m:Mdl):List bA:=bZ::m.name::dB::(mE m.uses++(kC m.vars m.init++(gA m.funcs++nH m)))
theorem lines_toks(m:Mdl):((jG m).flatMap fun ts=>ts++[dB])=toksM m:=by
 have hz:∀(vs:List Fld)(es:List Xp),(List.zipWith (fun(f:Fld)e=>nJ::f.1::(dH f.2++kEq::aG e)) vs es).flatMap (fun ts=>ts++[dB])=kC vs es:=by
  intro vs
  induction vs with
  |nil=>intro es;rfl
  |cons v vs ih=>
   intro es
   cases es with
   |nil=>rfl
   |cons e es=>
    have:=ih es;unfold kC at this ⊢;simp only[List.zipWith_cons_cons,List.zip_cons_cons,List.flatMap_cons];rw[this];simp
 unfold jG toksM;rw[List.flatMap_cons,List.flatMap_append,List.flatMap_append,List.flatMap_append,hz,List.flatMap_map,List.flatMap_map];unfold mE gA nH;by_cases hm:m.moves=true
 ·simp[hm]
 simp[hm]
theorem uses_from{l:List Tok}:∀(us:List bA)(f:Nat)(out known:List bA)(i:Nat),cW us known=true->(∀s,(out.any fun x=>decide (x=s))=known.any fun x=>decide (x=s))->out.length+us.length<=12->cY l i (mE us)->isP l (i+(mE us).length) pC=false->l.length<f+i->
  eM l f out i=.ok (out++us,i+(mE us).length)
 |[],f,out,known,i,_,_,_,hL,uP,hf=>by
  have hr:=hL.room;obtain⟨f,rfl⟩:∃g,f=g+1:=⟨f-1,by simp[mE] at hr;omega⟩;have MO:isP l i pC=false:=by simpa[mE] using uP
  rw[eM,if_neg (by rw[MO];decide)];simp[mE]
 |s::us,f,out,known,i,hu,hk,CG,hL,uP,hf=>by
  have hr:=hL.room;obtain⟨f,rfl⟩:∃g,f=g+1:=⟨f-1,UM⟩;have e:mE (s::us)=pC::s::dB::mE us:=rfl;rw[e] at hL uP ⊢;rw[cW] at hu;split at hu
  ·cases hu
  rename_i hc
  have CX:(known.any fun x=>decide (x=s))=false:=by
   cases hq:known.any fun x=>decide (x=s) with
   |false=>rfl
   |true=>exact absurd (by rw[hq];rfl) hc
  have hs:aM s=true:=by
   cases hq:aM s with
   |true=>rfl
   |false=>exact absurd (by rw[hq];simp) hc
  have e2:i+(pC::s::dB::mE us).length=i+1+1+1+(mE us).length:=by simp;omega
  rw[e2] at uP ⊢;rw[eM,if_pos hL.yes];unfold eH;rw[List.length_cons] at CG;rw[if_pos UM,bnd_ok,hL.tail.fresh hs (by rw[hk,CX]),bnd_ok,hL.tail.tail.want,bnd_ok,uses_from us f (out++[s]) (s::known) _ hu (fun x=>by rw[List.any_append,hk x];simp[Bool.or_comm]) (by simp;omega) hL.tail.tail.tail uP UM];simp
theorem vars_from{l:List Tok}:∀(vs:List Fld)(es:List Xp)(f:Nat)(ov:List Fld)(oe:List Xp)(known:List bA)(i:Nat),vs.length=es.length->bB vs known=true->(∀e∈es,aJ 12 e=true)->(∀s,(ov.any fun x=>decide (x.1=s))=known.any fun x=>decide (x=s))->ov.length+vs.length<=8->cY l i (kC vs es)->isP l (i+(kC vs es).length) nJ=false->l.length<f+i->
  eV l f ov oe i=.ok ((ov++vs,oe++es),i+(kC vs es).length)
 |[],es,f,ov,oe,known,i,qG,_,_,_,_,hL,uP,hf=>by
  obtain rfl:es=[]:=List.length_eq_zero_iff.1 (by simpa using qG.symm);have hr:=hL.room;obtain⟨f,rfl⟩:∃g,f=g+1:=⟨f-1,by simp[kC] at hr;omega⟩;have MO:isP l i nJ=false:=by simpa[kC] using uP
  rw[eV,if_neg (by rw[MO];decide)];simp[kC]
 |_::_,[],_,_,_,_,_,h,_,_,_,_,_,_,_=>by simp at h
 |(n,T)::vs,e::es,f,ov,oe,known,i,qG,hv,he,hk,h8,hL,uP,hf=>by
  have hr:=hL.room;obtain⟨f,rfl⟩:∃g,f=g+1:=⟨f-1,UM⟩;have ee:kC ((n,T)::vs) (e::es)=nJ::n::(dH T++kEq::(aG e++dB::kC vs es)):=by simp[kC]
  rw[ee] at hL uP ⊢;obtain⟨hn,hT⟩:=pG hv (n,T) (by simp);rw[bB] at hv;split at hv
  ·cases hv
  rename_i hc
  have CX:(known.any fun x=>decide (x=n))=false:=by
   cases hq:known.any fun x=>decide (x=n) with
   |false=>rfl
   |true=>exact absurd (by rw[hq];rfl) hc
  have e2:i+(nJ::n::(dH T++kEq::(aG e++dB::kC vs es))).length=i+1+1+(dH T).length+1+(aG e).length+1+(kC vs es).length:=by simp;omega
  rw[e2] at uP ⊢;have h1:=hL.tail.tail;have h2:=h1.right;have h3:=h2.tail.right.tail;rw[eV,if_pos hL.yes];unfold eH;rw[List.length_cons] at h8
  rw[if_pos UM,bnd_ok,hL.tail.fresh hn (by rw[hk,CX]),bnd_ok,typed_all hT h1.left,bnd_ok,decide_eq_true (lB 4 T hT),h2.end_,bnd_ok,whole_back (he e (by simp)) T9 h2.tail,bnd_ok,
   vars_from vs es f (ov++[(n,T)]) (oe++[e]) (n::known) _ (by simpa using qG) hv (fun x hx=>he x (by simp[hx])) (fun x=>by rw[List.any_append,hk x];simp[Bool.or_comm]) (by simp;omega) h3 uP UM]
  simp
theorem funcs_from{l:List Tok}:∀(fs:List Fnc)(f:Nat)(out:List Fnc)(known:List bA)(i:Nat),bK fs known=true->(∀x∈fs,0<=x.effects/\x.effects<=15)->(∀s,(out.any fun x=>decide (x.name=s))=known.any fun x=>decide (x=s))->out.length+fs.length<=30->cY l i (gA fs)->isP l (i+(gA fs).length) kF=false->isP l (i+(gA fs).length) kFn=false->l.length<f+i->
  dQ l f out i=.ok (out++fs,i+(gA fs).length)
 |[],f,out,known,i,_,_,_,_,hL,uP,FN,hf=>by
  have hr:=hL.room;obtain⟨f,rfl⟩:∃g,f=g+1:=⟨f-1,by simp[gA] at hr;omega⟩;have h1:isP l i kF=false:=by simpa[gA] using uP
  have h2:isP l i kFn=false:=by simpa[gA] using FN
  rw[dQ,if_neg (by rw[h1,h2];decide)];simp[gA]
 |x::fs,f,out,known,i,hu,he,hk,I5,hL,uP,FN,hf=>by
  have hr:=hL.room;obtain⟨f,rfl⟩:∃g,f=g+1:=⟨f-1,UM⟩;have e:gA (x::fs)=fnT x++dB::gA fs:=by simp[gA]
  rw[e] at hL uP FN ⊢;rw[bK] at hu;split at hu
  ·cases hu
  rename_i hc
  have CX:(known.any fun y=>decide (y=x.name))=false:=by
   cases hq:known.any fun y=>decide (y=x.name) with
   |false=>rfl
   |true=>exact absurd (by rw[hq];rfl) hc
  have hs:aM x.name=true:=by
   cases hq:aM x.name with
   |true=>rfl
   |false=>exact absurd (by rw[hq];simp) hc
  have hfn:eY x=true:=by
   cases hq:eY x with
   |true=>rfl
   |false=>exact absurd (by rw[hq];simp) hc
  have e2:i+(fnT x++dB::gA fs).length=i+(fnT x).length+1+(gA fs).length:=by simp;omega
  rw[e2] at uP FN ⊢
  have hst:(isP l i kF||isP l i kFn)=true:=by
   unfold fnT at hL;split at hL
   ·have h:cY l i (kF::_):=hL;rw[h.yes];rfl
   have h:cY l i (kFn::_):=hL;rw[h.yes,Bool.or_true]
  rw[dQ,if_pos hst];unfold eH;rw[List.length_cons] at I5;obtain⟨e0,e1⟩:=he x (by simp)
  rw[if_pos UM,bnd_ok,function_back hfn hs e0 e1 (by rw[hk,CX]) hL,bnd_ok,
   funcs_from fs f (out++[x]) (x.name::known) _ hu (fun y hy=>he y (by simp[hy])) (fun s=>by rw[List.any_append,hk s];simp[Bool.or_comm]) (by simp;omega) hL.right.tail uP FN UM]
  simp
theorem not_next{l:List Tok}{j:Nat}{R:List bA}{s:bA}(hL:cY l j R)(h0:R=[]->(aI l j).kind=3)(h1:∀t r,R=t::r->t≠s):isP l j s=false:=by
 cases R with
 |nil=>unfold isP;rw[h0 rfl];rfl
 |cons t r=>rw[hL.says,decide_eq_false_iff_not];exact h1 t r rfl
theorem vars_head{vs:List Fld}{es:List Xp}:kC vs es=[]\/∃r,kC vs es=nJ::r:=by
 unfold kC
 cases List.zip vs es with
 |nil=>exact .inl rfl
 |cons x r=>exact .inr ⟨_,rfl⟩
theorem funcs_head{fs:List Fnc}:gA fs=[]\/∃r,gA fs=kF::r\/gA fs=kFn::r:=by
 unfold gA
 cases fs with
 |nil=>exact .inl rfl
 |cons x r=>
  rw[List.flatMap_cons];unfold fnT;split
  ·exact .inr ⟨_,.inl rfl⟩
  exact .inr ⟨_,.inr rfl⟩
theorem move_head{m:Mdl}:nH m=[]\/∃r,nH m=kK::r:=by
 unfold nH;split
 ·exact .inr ⟨_,rfl⟩
 exact .inl rfl
theorem module_back{m:Mdl}(h:eX m=true)(he:∀f∈m.funcs,0<=f.effects/\f.effects<=15){l:List Tok}(hL:cY l 0 (toksM m))(zG:(aI l (toksM m).length).kind=3):∃j,fD l=.ok (m,j):=by
 unfold eX at h;simp only[Bool.and_eq_true,decide_eq_true_eq,Bool.or_eq_true] at h;obtain⟨⟨⟨⟨⟨⟨⟨⟨⟨⟨hu,hf⟩,hn⟩,CR⟩,ED⟩,hv⟩,hi⟩,zR⟩,hold⟩,CY⟩,EG⟩:=h;have hlenM:(toksM m).length=0+1+1+1+(mE m.uses).length+(kC m.vars m.init).length+(gA m.funcs).length+(nH m).length:=by unfold toksM;simp;omega
 rw[hlenM] at zG;unfold toksM at hL;have h1:=hL.tail.tail.tail;have h2:=h1.right;have h3:=h2.right;have h4:=h3.right;have e4:nH m=[]->(aI l (0+1+1+1+(mE m.uses).length+(kC m.vars m.init).length+(gA m.funcs).length)).kind=3:=fun e=>by rw[e] at zG;exact zG
 have hd4:∀t r,nH m=t::r->t=kK:=fun t r e=>by
  rcases move_head (m:=m) with h|⟨r',h⟩<;>rw[h] at e<;>cases e;rfl
 have e3:gA m.funcs++nH m=[]->(aI l (0+1+1+1+(mE m.uses).length+(kC m.vars m.init).length)).kind=3:=fun e=>by
  obtain⟨ea,eb⟩:=List.append_eq_nil_iff.1 e;have:=e4 eb;rw[ea] at this;exact this
 have hd3:∀t r,gA m.funcs++nH m=t::r->t=kF\/t=kFn\/t=kK:=fun t r e=>by
  rcases funcs_head (fs:=m.funcs) with h|⟨r',h|h⟩
  ·rw[h] at e;exact .inr (.inr (hd4 t r e))
  ·rw[h] at e;cases e;exact .inl rfl
  rw[h] at e;cases e;exact .inr (.inl rfl)
 have e2:kC m.vars m.init++(gA m.funcs++nH m)=[]->(aI l (0+1+1+1+(mE m.uses).length)).kind=3:=fun e=>by
  obtain⟨ea,eb⟩:=List.append_eq_nil_iff.1 e;have:=e3 eb;rw[ea] at this;exact this
 have hd2:∀t r,kC m.vars m.init++(gA m.funcs++nH m)=t::r->t=nJ\/t=kF\/t=kFn\/t=kK:=fun t r e=>by
  rcases vars_head (vs:=m.vars) (es:=m.init) with h|⟨r',h⟩
  ·rw[h] at e;exact .inr (hd3 t r e)
  rw[h] at e;cases e;exact .inl rfl
 unfold bM at hv;rw[Bool.and_eq_true,decide_eq_true_eq] at hv;have hi':=hi;unfold cB at hi';rw[Bool.and_eq_true,decide_eq_true_eq,List.all_eq_true] at hi';have hU:=uses_from m.uses (l.length+1) [] [] _ hu (fun s=>rfl) (by simpa using CR) h1.left (not_next h2 e2 fun t r e=>by rcases hd2 t r e with rfl|rfl|rfl|rfl<;>decide+kernel) UM;have hV:=vars_from m.vars m.init (l.length+1) [] [] [] _ hi'.2.symm hv.1 hi'.1 (fun s=>rfl) (by simpa using hv.2) h2.left (not_next h3 e3 fun t r e=>by rcases hd3 t r e with rfl|rfl|rfl<;>decide+kernel) UM;have hF:=funcs_from m.funcs (l.length+1) [] [] _ hf he (fun s=>rfl) (by simpa using ED) h3.left (not_next h4 e4 fun t r e=>by rw[hd4 t r e];decide+kernel) (not_next h4 e4 fun t r e=>by rw[hd4 t r e];decide+kernel) UM;rw[List.nil_append] at hU hF;rw[List.nil_append,List.nil_append] at hV;obtain⟨name,uses,vars,init,funcs,moves,old,forward,back⟩:=m;simp only at *;unfold fD;rw[hL.want,bnd_ok,hL.tail.name hn,bnd_ok,hL.tail.tail.want,bnd_ok,hU,bnd_ok,hV,bnd_ok,hF,bnd_ok];unfold oY
 cases moves with
 |false=>
  have eo:old=[]:=List.length_eq_zero_iff.1 (by simpa using zR);subst eo
  have ef:forward=[]:=by
   unfold cB at CY;rw[Bool.and_eq_true,decide_eq_true_eq] at CY;exact List.length_eq_zero_iff.1 (by simpa using CY.2)
  have eb:back=[]:=by
   unfold cB at EG;rw[Bool.and_eq_true,decide_eq_true_eq] at EG;exact List.length_eq_zero_iff.1 (by simpa using EG.2)
  subst ef eb;have uP:=not_next (s:=kK) h4 e4 fun t r e=>by simp[nH] at e
  rw[if_neg (by rw[uP];decide),bnd_ok];have h9:=e4 (by simp[nH]);rw[if_pos h9];exact⟨_,rfl⟩
 |true=>
  simp only[nH,if_true] at h4 zG CY;have k1:=h4.tail;have k2:=(k1.tail).right.tail;have k3:=k2.tail.right.tail;rw[if_pos h4.yes,fields_back hold k1,bnd_ok];have ek:∀a b:Nat,a+1+b+2=a+1+1+b+1:=fun a b=>UM;rw[ek,k2.want,bnd_ok,wholes_back T9 CY k2.tail,bnd_ok,wholes_back T9 EG k3,bnd_ok,bnd_ok];refine⟨_,if_pos ?_⟩;rw[<-zG];congr 2;simp;omega
theorem uses_each:∀{us known:List bA},cW us known=true->∀s∈us,aM s=true
 |[],_,_,s,hs=>by cases hs
 |n::r,known,h,s,hs=>by
  rw[cW] at h;split at h
  ·cases h
  rename_i hc;rcases List.mem_cons.1 hs with rfl|hs
  ·cases hq:aM s with
   |true=>rfl
   |false=>exact absurd (by rw[hq];simp) hc
  exact uses_each h s hs
theorem funcs_each:∀{fs:List Fnc}{known:List bA},bK fs known=true->∀f∈fs,aM f.name=true/\eY f=true
 |[],_,_,f,hf=>by cases hf
 |x::r,known,h,f,hf=>by
  rw[bK] at h;split at h
  ·cases h
  rename_i hc;rcases List.mem_cons.1 hf with rfl|hf
  ·constructor
   ·cases hq:aM f.name with
    |true=>rfl
    |false=>exact absurd (by rw[hq];simp) hc
   cases hq:eY f with
   |true=>rfl
   |false=>exact absurd (by rw[hq];simp) hc
  exact funcs_each h f hf
theorem eff_valid(e:Int):∀t∈effT e,dS t=true:=by
 intro t ht;unfold effT at ht;obtain⟨w,hw,rfl⟩:=List.mem_map.1 ht;have hw:=(List.mem_filter.1 hw).1;simp only[cD,List.mem_cons,List.not_mem_nil,or_false] at hw;rcases hw with rfl|rfl|rfl|rfl<;>decide+kernel
theorem gP{gs:List Fld}{most:Nat}(h:bM gs most=true):∀g∈gs,aM g.1=true/\aR 4 g.2=true:=by
 unfold bM at h;rw[Bool.and_eq_true] at h;exact pG h.1
theorem jU{es:List Xp}{n:Nat}(h:cB es n=true):∀e∈es,aJ 12 e=true:=by
 unfold cB at h;rw[Bool.and_eq_true,List.all_eq_true] at h;exact h.1
theorem xps_valid{es:List Xp}(h:∀e∈es,aJ 12 e=true):∀t∈aL (es.map aG),dS t=true:=by
 intro t ht;rcases mS ht with rfl|⟨p,hp,ht⟩
 ·decide+kernel
 obtain⟨x,hx,rfl⟩:=List.mem_map.1 hp;exact mV 12 x (h x hx) t ht
theorem fn_valid{f:Fnc}(hn:aM f.name=true)(h:eY f=true):∀t∈fnT f,dS t=true:=by
 unfold eY at h;simp only[Bool.and_eq_true] at h;obtain⟨⟨⟨hp,hr⟩,hb⟩,-⟩:=h;intro t ht;unfold fnT at ht;simp only[List.mem_append,List.mem_cons] at ht;rcases ht with ht|rfl|rfl|rfl|ht|rfl|ht|ht|ht|rfl|ht
 ·split at ht
  ·rw[List.mem_singleton.1 ht];decide+kernel
  cases ht
 ·decide+kernel
 ·exact fB hn
 ·decide+kernel
 ·exact flds_valid (gP hp) t ht
 ·decide+kernel
 ·exact type_valid 4 _ hr t ht
 ·split at ht
  ·rw[List.mem_singleton.1 ht];decide+kernel
  cases ht
 ·exact eff_valid _ t ht
 ·decide+kernel
 exact mV 12 _ hb t ht
theorem mem_zipWith{α β γ:Type}{f:α->β->γ}{c:γ}:∀{as:List α}{bs:List β},c∈List.zipWith f as bs->∃a b,a∈as/\b∈bs/\c=f a b
 |[],_,h=>by cases h
 |_::_,[],h=>by cases h
 |a::as,b::bs,h=>by
  rw[List.zipWith_cons_cons,List.mem_cons] at h;rcases h with rfl|h
  ·exact⟨a,b,by simp,by simp,rfl⟩
  obtain⟨x,y,h1,h2,h3⟩:=mem_zipWith h;exact⟨x,y,by simp[h1],by simp[h2],h3⟩
theorem mod_valid{m:Mdl}(h:eX m=true):∀ts∈jG m,∀t∈ts,dS t=true:=by
 unfold eX at h;simp only[Bool.and_eq_true,decide_eq_true_eq,Bool.or_eq_true] at h;obtain⟨⟨⟨⟨⟨⟨⟨⟨⟨⟨hu,hf⟩,hn⟩,CR⟩,ED⟩,hv⟩,hi⟩,zR⟩,hold⟩,CY⟩,EG⟩:=h;intro ts CS t ht;unfold jG at CS;simp only[List.mem_cons,List.mem_append] at CS;rcases CS with rfl|CS|CS|CS|CS
 ·simp only[List.mem_cons,List.not_mem_nil,or_false] at ht;rcases ht with rfl|rfl
  ·decide+kernel
  exact fB hn
 ·obtain⟨s,hs,rfl⟩:=List.mem_map.1 CS;simp only[List.mem_cons,List.not_mem_nil,or_false] at ht;rcases ht with rfl|rfl
  ·decide+kernel
  exact fB (uses_each hu _ hs)
 ·obtain⟨g,e,hg,he,rfl⟩:=mem_zipWith CS;simp only[List.mem_cons,List.mem_append] at ht;rcases ht with rfl|rfl|ht|rfl|ht
  ·decide+kernel
  ·exact fB (gP hv g hg).1
  ·exact type_valid 4 _ (gP hv g hg).2 t ht
  ·decide+kernel
  exact mV 12 _ (jU hi e he) t ht
 ·obtain⟨f,hfm,rfl⟩:=List.mem_map.1 CS;obtain⟨h1,h2⟩:=funcs_each hf f hfm;exact fn_valid h1 h2 t ht
 split at CS
 ·rw[List.mem_singleton.1 CS] at ht;simp only[List.mem_cons,List.mem_append] at ht;rcases ht with rfl|rfl|ht|rfl|rfl|ht|rfl|ht
  ·decide+kernel
  ·decide+kernel
  ·exact flds_valid (gP hold) t ht
  ·decide+kernel
  ·decide+kernel
  ·exact xps_valid (jU CY) t ht
  ·decide+kernel
  exact xps_valid (jU EG) t ht
 cases CS
theorem lies_all{l:List Tok}{e:Tok}{ts:List bA}(h1:l.length=ts.length)(h2:∀(k:Nat)t,ts[k]? =some t->∃tok,l[k]? =some tok/\TokIs tok t):cY (l++[e]) 0 ts/\aI (l++[e]) ts.length=e:=by
 refine⟨⟨by simp;omega,fun k t hk=>?_⟩,?_⟩
 ·obtain⟨tok,ht,h⟩:=h2 k t hk;have qA:=(List.getElem?_eq_some_iff.1 ht).1;unfold aI;rw[Nat.zero_add,List.getD_eq_getElem?_getD,List.getElem?_append_left qA,ht];exact h
 unfold aI;rw[List.getD_eq_getElem?_getD,<-h1];simp
theorem spelt_parse{m:Mdl}(h:eX m=true)(he:∀f∈m.funcs,0<=f.effects/\f.effects<=15){s:bA}(hs:dG s.data.toList (toksM m))(hz:s.size<=8000):eI s=.ok m:=by
 obtain⟨l,h1,h2,h3⟩:=lex_of hs hz (by rw[cZ];exact hs.length);obtain⟨hL,hE⟩:=lies_all (e:=⟨3,⟨#[]⟩,0,s.size⟩) h2 h3;obtain⟨j,hj⟩:=module_back h he hL (by rw[hE]);unfold eI;rw[h1];simp only;rw[hj]
theorem text_spells{m:Mdl}(h:eX m=true):dG (textM m).data.toList (toksM m):=by
 rw[<-lines_toks];exact dG.lines (mod_valid h)
theorem print_parse{m:Mdl}{s:bA}(he:∀f∈m.funcs,0<=f.effects/\f.effects<=15)(h:kD m=.ok s):eI s=.ok m/\eX m=true/\s.size<=8000/\s=textM m:=by
 unfold kD at h;split at h
 ·rename_i hr;unfold mG at h;split at h
  ·cases h
  rename_i hz;cases h;exact⟨spelt_parse hr he (text_spells hr) (by omega),hr,by omega,rfl⟩
 cases h
theorem RM{p:Prop}(h:p:=by
 rename_i h1;exact kA hT h1 (by simp)):p:=h
theorem RS{p:Prop}(h:p:=by
 cases h;exact lY (by decide+kernel) (fun x hx=>by cases hx)):p:=h
theorem aK{α β:Type}{m:PR α}{k:α->Nat->PR β}{b:β}{j:Nat}(h:m.bnd k=.ok (b,j)):∃a i,m=.ok (a,i)/\k a i=.ok (b,j):=by
 cases m with
 |error x=>cases h
 |ok p=>exact⟨p.1,p.2,rfl,h⟩
def TokG(t:Tok):Prop:=t.kind=3\/(TokIs t t.text/\dS t.text=true)
theorem nextTok_is{s:bA}{k n:Int}{t:bA}(h:eR s=.ok (k,t,n)):dS t=true/\k=iA t/\n=((cO t).getD 0:Nat):=by
 unfold eR at h;split at h
 ·cases h
 split at h
 ·split at h
  ·rename_i hw;cases h;refine⟨by unfold dS;rw[hw];rfl,(kind_word hw).symm,by rw[lU hw];rfl⟩
  cases h
 split at h
 ·split at h
  ·rename_i m hm;cases h
   have hw:eT (iJ s (cR cF s.data.toList))=false:=by
    cases hw:eT (iJ s (cR cF s.data.toList)) with
    |false=>rfl
    |true=>rw[lU hw] at hm;cases hm
   refine⟨by unfold dS;rw[hm];simp,by unfold iA;rw[hw,hm];rfl,by rw[hm];rfl⟩
  cases h
 split at h
 ·rename_i x hx;cases h;have hm:=List.mem_of_find?_eq_some hx;obtain⟨h1,h2,-⟩:=signs_facts _ hm;refine⟨?_,by unfold iA;rw[h1,h2];rfl,by rw[h2];rfl⟩;unfold dS;rw[Bool.or_eq_true];exact .inr (List.any_eq_true.2 ⟨_,hm,decide_eq_true rfl⟩)
 cases h
theorem lexFrom_is{s:bA}:∀(f i:Nat)(out l:List Tok),(∀t∈out,TokG t)->eK s f i out=.ok l->∀t∈l,TokG t
 |0,_,out,l,h,e=>by rw[eK] at e;cases e;exact h
 |f+1,i,out,l,h,e=>by
  rw[eK] at e;split at e
  ·cases e;intro t ht;rcases List.mem_append.1 ht with ht|ht
   ·exact h t ht
   rw[List.mem_singleton.1 ht];exact .inl rfl
  split at e
  ·cases e
  rename_i k t n hn;obtain⟨h1,h2,h3⟩:=nextTok_is hn;refine lexFrom_is f _ _ l (fun x hx=>?_) e;rcases List.mem_append.1 hx with hx|hx
  ·exact h x hx
  rw[List.mem_singleton.1 hx];exact .inr ⟨⟨h2,rfl,h3⟩,h1⟩
theorem lexL_is{s:bA}{l:List Tok}(h:lX s=.ok l):∀i,TokG (aI l i):=by
 unfold lX at h;split at h
 ·cases h
 intro i;unfold aI;rw[List.getD_eq_getElem?_getD]
 cases hi:l[i]? with
 |none=>exact .inl rfl
 |some t=>exact lexFrom_is _ _ _ _ (fun t ht=>by cases ht) h t (List.mem_of_getElem? hi)
def kE(op n:Int)(s m:bA)(names:List bA)(args:List Xp):Bool:=
 decide (0<=op)&&decide (op<19)&&
  (decide ((fK (.mk op n s m names args)).2<0)||decide ((fK (.mk op n s m names args)).2=args.length))&&
  decide ((fK (.mk op n s m names args)).1.1=n)&&decide ((fK (.mk op n s m names args)).1.2.1=s)&&decide ((fK (.mk op n s m names args)).1.2.2.1=m)&&
  decide ((fK (.mk op n s m names args)).1.2.2.2.length=names.length)&&gE (.mk op n s m names args)
theorem rx_node(d:Nat)(op n:Int)(s m:bA)(names:List bA)(args:List Xp):aJ (d+1) (.mk op n s m names args)=(kE op n s m names args&&args.all (aJ d)):=by rw[aJ];rfl
theorem depthXs_inr:∀{args:List Xp}{x:Xp},x∈args->bE x<=dP args
 |[],x,h=>by cases h
 |y::r,x,h=>by
  rw[dP];rcases List.mem_cons.1 h with rfl|h
  ·exact Nat.le_max_left _ _
  exact Nat.le_trans (depthXs_inr h) (Nat.le_max_right _ _)
theorem rx_mono:∀(d:Nat)(e:Xp),aJ d e=true->∀n,bE e<=n->aJ n e=true
 |0,.mk op n s m names args,h,_,_=>by simp[aJ] at h
 |d+1,.mk op n s m names args,h,k,hk=>by
  rw[bE] at hk;obtain⟨k,rfl⟩:∃q,k=q+1:=⟨k-1,by omega⟩;rw[rx_node,Bool.and_eq_true,List.all_eq_true] at h ⊢;exact⟨h.1,fun x hx=>rx_mono d x (h.2 x hx) k (by have:=depthXs_inr hx;omega)⟩
def GX(e:Xp):Prop:=aJ (bE e) e=true
theorem lY{op n:Int}{s m:bA}{names:List bA}{args:List Xp}(h:kE op n s m names args=true)(ha:∀x∈args,GX x):GX (.mk op n s m names args):=by
 unfold GX;rw[bE,rx_node,h,Bool.true_and,List.all_eq_true];exact fun x hx=>rx_mono _ x (ha x hx) _ (depthXs_inr hx)
theorem gx_right{e:Xp}{n:Nat}(h:GX e)(hd:bE e<=n):aJ n e=true:=rx_mono _ e h n hd
theorem lA{l:List Tok}{i j:Nat}{s:bA}(h:fC l i=.ok (s,j)):aM s=true/\cG l i=true:=by
 unfold fC at h;split at h
 ·rename_i hn;cases h;refine⟨?_,hn⟩;unfold cG at hn;rw[Bool.and_eq_true] at hn;exact hn.2
 cases h
theorem later_inv{l:List Tok}{i j:Nat}{s than:bA}{any:Bool}(h:eC l i than any=.ok (s,j)):aM s=true/\cG l i=true/\(any=true->gtB s than=true):=by
 unfold eC at h;split at h
 ·rename_i hn;split at h
  ·cases h
  split at h
  ·cases h
  rename_i h2;cases h;refine⟨?_,hn,fun ha=>?_⟩
  ·unfold cG at hn;rw[Bool.and_eq_true] at hn;exact hn.2
  cases hg:gtB (aI l i).text than with
  |true=>rfl
  |false=>exact absurd (by rw[ha,hg];rfl) h2
 cases h
theorem fresh_inv{l:List Tok}{i j:Nat}{s:bA}{known:bA->Bool}(h:fO l i known=.ok (s,j)):aM s=true/\cG l i=true/\known s=false:=by
 unfold fO at h;split at h
 ·rename_i hn;split at h
  ·cases h
  rename_i h2;cases h;refine⟨?_,hn,by simpa using h2⟩;unfold cG at hn;rw[Bool.and_eq_true] at hn;exact hn.2
 cases h
theorem nA{l:List Tok}{i j have_ most:Nat}{u:Unit}(h:eH l i have_ most=.ok (u,j)):have_<most:=by
 unfold eH at h;split at h
 ·assumption
 cases h
theorem end_inv{l:List Tok}{i j:Nat}{fits:Bool}{s:bA}{u:Unit}(h:kL l i fits s=.ok (u,j)):fits=true:=by
 unfold kL at h;split at h
 ·split at h
  ·assumption
  cases h
 cases h
section
variable {l:List Tok} {rec:RecP} (hT:∀i,TokG (aI l i))
include hT
theorem is_tok{i:Nat}{s:bA}(h:isP l i s=true):(aI l i).kind=iA s/\(aI l i).text=s:=by
 unfold isP at h;simp only[Bool.and_eq_true,decide_eq_true_eq] at h;rcases hT i with h1|⟨⟨h1,-,-⟩,-⟩
 ·exact absurd h1 h.1
 rw[h.2] at h1;exact⟨h1,h.2⟩
theorem kA{i:Nat}{s:bA}(h:isP l i s=true)(hs:s=kIf\/s=lJ\/s=mL\/s=mD\/s=cU\/s=bU\/s=gM\/s=aS\/s=bH):dX l i=true:=by
 obtain⟨h1,h2⟩:=is_tok hT h;unfold dX;rw[h1,h2];rcases hs with h|h|h|h|h|h|h|h|h<;>subst h<;>decide+kernel
theorem begins_primary{i j:Nat}{x:Xp}(h:aP l rec i=.ok (x,j)):dX l i=true:=by
 unfold aP at h;split at h
 ·rename_i h1;unfold dX;rw[if_pos h1]
 split at h
 ·exact RM
 split at h
 ·exact RM
 split at h
 ·exact RM
 split at h
 ·rename_i h1;unfold dX;rw[h1.1];simp[h1.2]
 split at h
 ·exact RM
 split at h
 ·exact RM
 obtain⟨s,j1,h1,-⟩:=aK h;have h2:=(lA h1).2;unfold cG at h2;simp only[Bool.and_eq_true,decide_eq_true_eq] at h2;unfold dX;rw[h2.1];simp[h2.2]
theorem begins_exp{f i j:Nat}{x:Xp}(h:bL l f 0 i=.ok (x,j)):dX l i=true:=by
 cases f with
 |zero=>rw[bL] at h;cases h
 |succ f=>
  rw[bL] at h;obtain⟨r,j1,h1,-⟩:=aK h;unfold bS at h1;split at h1
  ·rename_i h2;exact kA hT h2.2 (by simp)
  split at h1
  ·rename_i h2;exact kA hT h2.2 (by simp)
  split at h1
  ·rename_i h2;exact kA hT h2.2 (by simp)
  split at h1
  ·rename_i h2;exact kA hT h2.2 (by simp)
  obtain⟨e,j2,h2,-⟩:=aK h1;exact begins_primary hT h2
end
section
variable {l:List Tok} {rec:RecP}
theorem gx_bin{t:bA}{op:Int}{fm:Nat}{a b:Xp}(h:(t,op,fm)∈eJ)(ha:GX a)(hb:GX b):GX (.mk op 0 noB noB [] [a,b]):=by
 refine lY ?_ (fun x hx=>by
  simp only[List.mem_cons,List.not_mem_nil,or_false] at hx
  rcases hx with rfl|rfl<;>assumption)
 rcases jP h with h|h|h|h|h|h|h<;>obtain⟨rfl,rfl,rfl⟩:=h<;>simp[kE,fK,gE]
theorem gx_one{a:Xp}(ha:GX a):∀x∈[a],GX x:=fun x hx=>by rw[List.mem_singleton.1 hx];exact ha
theorem dots_gx:∀(n:Nat)(e:Xp)(i:Nat)(x:Xp)(j:Nat),GX e->iK l n e i=.ok (x,j)->GX x
 |0,e,i,x,j,he,h=>by rw[iK] at h;cases h;exact he
 |n+1,e,i,x,j,he,h=>by
  rw[iK] at h;split at h
  ·obtain⟨s,j1,h1,h2⟩:=aK h;have hs:=(lA h1).1;exact dots_gx n _ _ x j (lY (by simp[kE,fK,gE,hs]) (gx_one he)) h2
  cases h;exact he
theorem ops_gx(hr:∀f i x j,rec f i=.ok (x,j)->GX x){form:Nat}:∀(n own:Nat)(e:Xp)(i:Nat)(x:Xp)(j:Nat),GX e->kR l rec form n own e i=.ok (x,j)->GX x
 |0,own,e,i,x,j,he,h=>by rw[kR] at h;cases h;exact he
 |n+1,own,e,i,x,j,he,h=>by
  rw[kR] at h;split at h
  ·cases h;exact he
  rename_i t op fm ho;split at h
  ·cases h;exact he
  obtain⟨b,j1,h1,h2⟩:=aK h;exact ops_gx hr n _ _ _ x j (gx_bin (oper_mem ho) he (hr _ _ _ _ h1)) h2
theorem operandsFrom_gx(hr:∀f i x j,rec f i=.ok (x,j)->GX x)(hb:∀i x j,rec 0 i=.ok (x,j)->dX l i=true):∀(n:Nat)(out:List Xp)(i:Nat)(xs:List Xp)(j:Nat),(∀x∈out,GX x)->out.length<=6->bF l rec n out i=.ok (xs,j)->(∀x∈xs,GX x)/\xs.length<=6
 |0,out,i,xs,j,ho,h6,h=>by rw[bF] at h;cases h;exact⟨ho,h6⟩
 |n+1,out,i,xs,j,ho,h6,h=>by
  rw[bF] at h;obtain⟨_,_,h1,h⟩:=aK h;obtain⟨e,j1,h2,h⟩:=aK h;rw[if_pos (hb _ _ _ h2)] at h1;have qA:=nA h1
  have hn:∀x∈out++[e],GX x:=fun x hx=>by
   rcases List.mem_append.1 hx with hx|hx
   ·exact ho x hx
   rw[List.mem_singleton.1 hx];exact hr _ _ _ _ h2
  have hl:(out++[e]).length<=6:=by rw[List.length_append,List.length_singleton];omega
  split at h
  ·exact operandsFrom_gx hr hb n _ _ xs j hn hl h
  obtain⟨_,_,-,h⟩:=aK h;cases h;exact⟨hn,hl⟩
theorem operands_gx(hr:∀f i x j,rec f i=.ok (x,j)->GX x)(hb:∀i x j,rec 0 i=.ok (x,j)->dX l i=true){i j:Nat}{xs:List Xp}(h:eO l rec i=.ok (xs,j)):(∀x∈xs,GX x)/\xs.length<=6:=by
 unfold eO at h;obtain⟨_,_,-,h⟩:=aK h;split at h
 ·cases h;exact⟨fun x hx=>(by cases hx),by simp⟩
 exact operandsFrom_gx hr hb _ _ _ _ _ (fun x hx=>by cases hx) (by simp) h
theorem names_snoc:∀{ns:List bA}{before:Option bA}{n:bA},dJ before ns=true->aM n=true->(∀b,(match ns.getLast? with|none=>before|some x=>some x)=some b->gtB n b=true)->dJ before (ns++[n])=true
 |[],before,n,_,hn,hg=>by
  cases before with
  |none=>simp[dJ,hn]
  |some b=>simp[dJ,hn,hg b rfl]
 |x::ns,before,n,h,hn,hg=>by
  simp only[dJ,Bool.and_eq_true] at h;simp only[List.cons_append,dJ,Bool.and_eq_true];refine⟨h.1,names_snoc h.2 hn fun b hb=>hg b ?_⟩
  cases hq:ns.getLast? with
  |none=>
   rw[List.getLast?_eq_none_iff.1 hq];rw[hq] at hb;exact hb
  |some y=>
   rw[hq] at hb;rw[List.getLast?_cons,hq];exact hb
theorem recordFrom_gx(hr:∀f i x j,rec f i=.ok (x,j)->GX x):∀(n:Nat)(names:List bA)(args:List Xp)(last:bA)(i:Nat)(x:Xp)(j:Nat),dJ none names=true->names.length<=8->names.length=args.length->(∀y∈args,GX y)->(∀b,names.getLast? =some b->b=last)->
  bV l rec n names args last i=.ok (x,j)->GX x
 |0,names,args,last,i,x,j,hn,h8,hl,ha,_,h=>by
  rw[bV] at h;cases h;exact lY (by simp[kE,fK,gE,hn,hl];omega) ha
 |n+1,names,args,last,i,x,j,hn,h8,hl,ha,yF,h=>by
  rw[bV] at h;obtain⟨_,_,h1,h⟩:=aK h;obtain⟨s,_,h2,h⟩:=aK h;obtain⟨_,_,-,h⟩:=aK h;obtain⟨e,_,h3,h⟩:=aK h;obtain⟨hs,FO,yG⟩:=later_inv h2;rw[if_pos FO] at h1;have qA:=nA h1
  have FP:dJ none (names++[s])=true:=names_snoc hn hs fun b hb=>by
   cases hq:names.getLast? with
   |none=>rw[hq] at hb;cases hb
   |some y=>
    rw[hq] at hb;cases hb;rw[yF _ hq];refine yG (decide_eq_true ?_)
    cases names with
    |nil=>simp at hq
    |cons a r=>simp
  have qY:∀y∈args++[e],GX y:=fun y hy=>by
   rcases List.mem_append.1 hy with hy|hy
   ·exact ha y hy
   rw[List.mem_singleton.1 hy];exact hr _ _ _ _ h3
  have h82:(names++[s]).length<=8:=by rw[List.length_append,List.length_singleton];omega
  have xC:(names++[s]).length=(args++[e]).length:=by simp[hl]
  split at h
  ·exact recordFrom_gx hr n _ _ s _ x j FP h82 xC qY (fun b hb=>by simpa using hb.symm) h
  obtain⟨_,_,-,h⟩:=aK h;cases h;refine lY ?_ qY;rw[List.length_append,List.length_singleton] at h82;simp[kE,fK,gE,FP,hl];omega
theorem paren_gx(hr:∀f i x j,rec f i=.ok (x,j)->GX x){i j:Nat}{x:Xp}(h:kQ l rec i=.ok (x,j)):GX x:=by
 unfold kQ at h;obtain⟨e,_,h1,h⟩:=aK h;obtain⟨_,_,-,h⟩:=aK h;cases h;exact hr _ _ _ _ h1
theorem bit_cases(t:bA)(h:bN t≠0):bN t=1\/bN t=2\/bN t=4\/bN t=8:=by
 unfold bN at h ⊢;split
 ·exact .inl rfl
 split
 ·exact .inr (.inl rfl)
 split
 ·exact .inr (.inr (.inl rfl))
 split
 ·exact .inr (.inr (.inr rfl))
 rename_i h1 h2 h3 h4;rw[if_neg h1,if_neg h2,if_neg h3,if_neg h4] at h;exact absurd rfl h
theorem number_le{t:bA}:((cO t).getD 0)<=1099511627776:=by
 cases h:cO t with
 |none=>decide
 |some n=>
  unfold cO at h;split at h
  ·cases h
  split at h
  ·rename_i hc;cases h;simp only[Bool.and_eq_true,decide_eq_true_eq] at hc;exact hc.2
  cases h
theorem primary_gx(hT:∀i,TokG (aI l i))(hr:∀f i x j,rec f i=.ok (x,j)->GX x)(hb:∀i x j,rec 0 i=.ok (x,j)->dX l i=true){i j:Nat}{x:Xp}(h:aP l rec i=.ok (x,j)):GX x:=by
 unfold aP at h;split at h
 ·rename_i h1;cases h;rcases hT i with h2|⟨⟨-,-,h2⟩,-⟩
  ·rw[h1] at h2;cases h2
  have:=number_le (t:=(aI l i).text);refine lY ?_ (fun x hx=>by cases hx);rw[h2];simp[kE,fK,gE];omega
 split at h
 ·exact RS
 split at h
 ·exact RS
 split at h
 ·obtain⟨s,_,h1,h⟩:=aK h;cases h;exact lY (by simp[kE,fK,gE,(lA h1).1]) (fun x hx=>by cases hx)
 split at h
 ·rename_i h0;obtain⟨_,_,-,h⟩:=aK h;obtain⟨e,_,h1,h⟩:=aK h;cases h;refine lY ?_ (gx_one (paren_gx hr h1));rcases bit_cases _ h0.2 with h|h|h|h<;>rw[h]<;>simp[kE,fK,gE]
 split at h
 ·unfold iP at h;split at h
  ·exact RS
  exact recordFrom_gx hr _ _ _ _ _ _ _ rfl (by simp) rfl (fun x hx=>by cases hx) (fun b hb=>by cases hb) h
 split at h
 ·exact paren_gx hr h
 obtain⟨s,j1,h1,h⟩:=aK h;have hs:=(lA h1).1;unfold mH at h;split at h
 ·obtain⟨xs,_,h2,h⟩:=aK h;cases h;obtain⟨g1,g2⟩:=operands_gx hr hb h2;exact lY (by simp[kE,fK,gE,hs,g2]) g1
 split at h
 ·obtain⟨t,_,h3,h⟩:=aK h;obtain⟨xs,_,h2,h⟩:=aK h;cases h;obtain⟨g1,g2⟩:=operands_gx hr hb h2;exact lY (by simp[kE,fK,gE,hs,(lA h3).1,g2]) g1
 cases h;exact lY (by simp[kE,fK,gE,hs]) (fun x hx=>by cases hx)
theorem exp_gx(hT:∀i,TokG (aI l i)):∀(f form i:Nat)(x:Xp)(j:Nat),bL l f form i=.ok (x,j)->GX x:=by
 intro f
 induction f with
 |zero=>intro form i x j h;rw[bL] at h;cases h
 |succ f ih=>
  intro form i x j h;have hb:∀i x j,bL l f 0 i=.ok (x,j)->dX l i=true:=fun i x j h=>begins_exp hT h;rw[bL] at h;obtain⟨r,j1,h1,h⟩:=aK h;obtain⟨e,j2,h2,h⟩:=aK h
  have hg:GX r.1:=by
   unfold bS at h1;split at h1
   ·obtain⟨a,_,k1,h1⟩:=aK h1;obtain⟨_,_,-,h1⟩:=aK h1;obtain⟨b,_,k2,h1⟩:=aK h1;obtain⟨_,_,-,h1⟩:=aK h1;obtain⟨c,_,k3,h1⟩:=aK h1;cases h1;refine lY (by simp[kE,fK,gE]) (fun x hx=>?_);simp only[List.mem_cons,List.not_mem_nil,or_false] at hx;rcases hx with rfl|rfl|rfl
    ·exact ih _ _ _ _ k1
    ·exact ih _ _ _ _ k2
    exact ih _ _ _ _ k3
   split at h1
   ·obtain⟨s,_,k0,h1⟩:=aK h1;obtain⟨_,_,-,h1⟩:=aK h1;obtain⟨a,_,k1,h1⟩:=aK h1;obtain⟨_,_,-,h1⟩:=aK h1;obtain⟨b,_,k2,h1⟩:=aK h1;cases h1;refine lY (by simp[kE,fK,gE,(lA k0).1]) (fun x hx=>?_);simp only[List.mem_cons,List.not_mem_nil,or_false] at hx;rcases hx with rfl|rfl
    ·exact ih _ _ _ _ k1
    exact ih _ _ _ _ k2
   split at h1
   ·obtain⟨s,_,k0,h1⟩:=aK h1;obtain⟨a,_,k1,h1⟩:=aK h1;cases h1;exact lY (by simp[kE,fK,gE,(lA k0).1]) (gx_one (ih _ _ _ _ k1))
   split at h1
   ·obtain⟨a,_,k1,h1⟩:=aK h1;cases h1;exact lY (by simp[kE,fK,gE]) (gx_one (ih _ _ _ _ k1))
   obtain⟨e,_,k1,h1⟩:=aK h1;cases h1;exact primary_gx hT ih hb k1
  have xT:GX e:=by
   split at h2
   ·exact dots_gx _ _ _ _ _ hg h2
   cases h2;exact hg
  exact ops_gx ih _ _ _ _ _ _ xT h
end
end Go.Proofs.YtiionicikdnnpaaGreatDoor
