/- Texts of this seat, joined. -/
import Derived.Test.YtmpopphjaggeoaaGreatDoorKD
import Derived.Lib.ItoaMem
set_option linter.unusedVariables false
set_option linter.unusedSimpArgs false
set_option linter.constructorNameAsVariable false
namespace Go.Proofs.YtmpopphjaggeoaaGreatDoor
theorem FD{p:Prop}(h:p:=by omega):p:=h
theorem dec_dig(u:Nat):(∀c∈Lib.decDigits u,48<=c.toNat/\c.toNat<=57)/\(Lib.decDigits u).foldl (fun a c=>a*10+(c.toNat-48)) 0=u:=by
 induction u using Nat.strongRecOn with
 |_ u ih=>
  by_cases h:u<10
  ·rw[Lib.decDigits_one h];(have e:(UInt8.ofNat (48+u)).toNat=48+u:=by rw[UInt8.toNat_ofNat'];omega);refine⟨fun c hc=>by rw[List.mem_singleton.1 hc,e];omega,?_⟩;simp only[List.foldl_cons,List.foldl_nil,e];omega
  obtain⟨i1,i2⟩:=ih (u / 10) FD;have e:(UInt8.ofNat (48+u % 10)).toNat=48+u % 10:=by rw[UInt8.toNat_ofNat'];omega
  rw[Lib.decDigits,dif_neg h];refine⟨fun c hc=>(List.mem_append.1 hc).elim (i1 c) fun hc=>by rw[List.mem_singleton.1 hc,e];omega,?_⟩;rw[List.foldl_append,i2];simp only[List.foldl_cons,List.foldl_nil,e];omega
theorem itoa_pos{n:Int}(h:0<=n):Lib.itoa n=Lib.decDigits n.toNat:=by unfold Lib.itoa;rw[if_neg FD]
theorem itoa_dig{n:Int}(h:0<=n):∀c∈Lib.itoa n,48<=c.toNat/\c.toNat<=57:=by rw[itoa_pos h];exact(dec_dig _).1
theorem itoa_inj{n m:Int}(h:0<=n)(k:0<=m)(e:Lib.itoa n=Lib.itoa m):n=m:=by
 rw[itoa_pos h,itoa_pos k] at e;have h1:=(dec_dig n.toNat).2;have h2:=(dec_dig m.toNat).2;rw[e] at h1;omega
theorem sep_inj{c:UInt8}:∀{a b x y:List UInt8},c∉a->c∉b->a++c::x=b++c::y->a=b/\x=y
 |[],[],x,y,_,_,h=>by simpa using h
 |[],d::b,x,y,_,hb,h=>by simp at h;exact absurd h.1 (fun e=>hb (by rw[e];simp))
 |d::a,[],x,y,ha,_,h=>by simp at h;exact absurd h.1.symm (fun e=>ha (by rw[e];simp))
 |d::a,d'::b,x,y,ha,hb,h=>by
  simp only[List.cons_append,List.cons.injEq] at h;obtain⟨rfl,h⟩:=h;obtain⟨h1,h2⟩:=sep_inj (fun e=>ha (by simp[e])) (fun e=>hb (by simp[e])) h;exact⟨by rw[h1],h2⟩
theorem no_dot{n:Int}(h:0<=n):(46:UInt8)∉Lib.itoa n:=fun e=>by have:=itoa_dig h _ e;revert this;decide
theorem verOk_nn{v:Ver}(h:aU v=true):0<=v.a/\0<=v.b/\0<=v.c:=by
 unfold aU at h;simp only[Bool.and_eq_true,decide_eq_true_eq] at h;omega
theorem verB_inj{v u:Ver}(hv:aU v=true)(hu:aU u=true)(e:fE v=fE u):v=u:=by
 obtain⟨v1,v2,v3⟩:=verOk_nn hv;obtain⟨u1,u2,u3⟩:=verOk_nn hu;unfold fE at e;simp only[List.append_assoc,List.singleton_append] at e;obtain⟨e1,e⟩:=sep_inj (no_dot v1) (no_dot u1) e;obtain⟨e2,e3⟩:=sep_inj (no_dot v2) (no_dot u2) e;have h1:=itoa_inj v1 u1 e1;have h2:=itoa_inj v2 u2 e2;have h3:=itoa_inj v3 u3 e3;cases v;cases u;simp at h1 h2 h3;rw[h1,h2,h3]
theorem index_ge(c:UInt8):∀l:List UInt8,-1<=Lib.index l [c]:=by
 intro l
 induction l with
 |nil=>simp[Lib.index]
 |cons b l ih=>
  unfold Lib.index;split
  ·omega
  split
  ·omega
  omega
theorem index_one(c:UInt8):∀(l:List UInt8)(i:Nat),Lib.index l [c]=(i:Int)->l.drop i=c::l.drop (i+1)
 |[],i,h=>by simp[Lib.index] at h
 |b::l,i,h=>by
  unfold Lib.index at h;by_cases hp:[c].isPrefixOf (b::l)=true
  ·rw[if_pos hp] at h;have hi:i=0:=FD;subst hi;simp[List.isPrefixOf] at hp;rw[hp];rfl
  rw[if_neg hp] at h;by_cases hm:Lib.index l [c]= -1
  ·rw[hm] at h;simp at h
  rw[if_neg (by simpa using hm)] at h
  cases i with
  |zero=>
   exfalso;have:=index_ge c l;omega
  |succ i=>
   have:=index_one c l i FD;simpa using this
theorem split_all(c:UInt8)(p:UInt8->Bool):∀(k:Nat)(l:List UInt8),(∀x∈Lib.splitK [c] 0 k l,x.all p=true)->∀b∈l,p b=true\/b=c
 |0,l,h,b,hb=>.inl (List.all_eq_true.1 (h l (by simp[Lib.splitK])) b hb)
 |k+1,l,h,b,hb=>by
  unfold Lib.splitK at h;by_cases hm:Lib.index l [c]= -1
  ·rw[if_pos (by simpa using hm)] at h;exact .inl (List.all_eq_true.1 (h l (by simp)) b hb)
  rw[if_neg (by simpa using hm)] at h;have h0:=index_ge c l;have hd:=index_one c l (Lib.index l [c]).toNat FD;rw[<-List.take_append_drop (Lib.index l [c]).toNat l,hd] at hb;rcases List.mem_append.1 hb with hb|hb
  ·exact .inl (List.all_eq_true.1 (h _ (by simp)) b hb)
  rcases List.mem_cons.1 hb with rfl|hb
  ·exact .inr rfl
  exact split_all c p k _ (fun x hx=>h x (by simp[hx])) b hb
theorem parts_all:∀(l:List bA)(first:Bool),fN first l=true->∀x∈l,x.data.toList.all dN=true
 |[],_,_,x,hx=>by cases hx
 |p::r,first,h,x,hx=>by
  unfold fN at h;simp only[Bool.and_eq_true] at h;rcases List.mem_cons.1 hx with rfl|hx
  ·have h1:=h.1;unfold partOk at h1;split at h1
   ·cases h1
   rename_i c r' e;simp only[Bool.and_eq_true] at h1;rw[e] at h1 ⊢;exact h1.2
  exact parts_all r false h.2 x hx
theorem nm_bytes{s:bA}(h:bT s=true):∀b∈s.data.toList,dN b=true\/b=45:=by
 unfold bT at h;simp only[Bool.and_eq_true] at h;have hp:=parts_all _ _ h.2;refine split_all 45 dN (Lib.countB s dash) s.data.toList fun x hx=>?_;have e:=Lib.splitB_data dash 0 (Lib.countB s dash) s;rw[show dash.data.toList=[(45:UInt8)] from rfl] at e;rw[<-e,List.mem_map] at hx;obtain⟨y,hy,rfl⟩:=hx;exact hp y hy
theorem nm_space{s:bA}(h:bT s=true):(32:UInt8)∉s.data.toList:=fun e=>by
 have:=nm_bytes h 32 e;revert this;decide
theorem fZ{s:bA}(h:bT s=true):s.size<=20:=by
 unfold bT at h;simp only[Bool.and_eq_true,decide_eq_true_eq] at h;exact h.1
def eN(f:Fc):Int:=if f.kind=0 then 0 else if f.kind=1\/f.kind=2 then 1 else if f.kind=3 then 2 else if f.kind=7 then 3 else 4
def dZ(f:Fc):bA:=if f.kind=0 then f.rel.name else if f.kind=3 then f.adv.name else f.name
def fJ(f:Fc):Ver:=if f.kind=0 then f.rel.ver else if f.kind=3 then dI else f.ver
def wordL(g:Int):List UInt8:=if g=0 then gS else if g=1 then kYank else if g=2 then kAdvise else if g=3 then kBuild else kKeys
def tailL(g:Int)(v:Ver):List UInt8:=if g=2\/g=4 then[] else 32::fE v
theorem grp_cases(f:Fc):eN f=0\/eN f=1\/eN f=2\/eN f=3\/eN f=4:=by
 unfold eN;split
 ·simp
 split
 ·simp
 split
 ·simp
 split<;>simp
theorem keyL_form(f:Fc):keyL f=wordL (eN f)++((dZ f).data.toList++tailL (eN f) (fJ f)):=by
 unfold keyL eN dZ fJ;by_cases h0:f.kind=0
 ·simp[h0,wordL,tailL]
 by_cases h1:f.kind=1\/f.kind=2
 ·have h3:¬f.kind=3:=FD;simp[h0,h1,h3,wordL,tailL]
 by_cases h3:f.kind=3
 ·simp[h3,wordL,tailL]
 by_cases h7:f.kind=7
 ·simp[h7,wordL,tailL]
 simp[h0,h1,h3,h7,wordL,tailL]
theorem bD{f:Fc}(h:aJ f=true):0<=f.time/\f.time<=1073741824/\cX f=true/\f=fW f:=by
 unfold aJ eqF at h;simp only[Bool.and_eq_true,decide_eq_true_eq] at h;exact⟨h.1.1.1,h.1.1.2,h.1.2,h.2⟩
theorem factOk_of{f:Fc}(h0:0<=f.time)(h1:f.time<=1073741824)(hb:cX f=true)(ho:f=fW f):aJ f=true:=by
 unfold aJ eqF;rw[hb,decide_eq_true h0,decide_eq_true h1,@decide_eq_true _ (Classical.propDecidable _) ho];rfl
theorem kind_of{f:Fc}(h:cX f=true):0<=f.kind/\f.kind<=7:=by
 unfold cX at h
 repeat' split at h
 all_goals first|omega|cases h
theorem eI{f:Fc}(h:aJ f=true):bT (dZ f)=true/\aU (fJ f)=true/\((eN f=2\/eN f=4)->fJ f=dI):=by
 obtain⟨-,-,hb,ho⟩:=bD h;obtain⟨k0,k7⟩:=kind_of hb;unfold cX at hb;unfold dZ fJ eN;by_cases h0:f.kind=0
 ·rw[if_pos h0] at hb;unfold dM at hb;simp only[Bool.and_eq_true] at hb;rw[if_pos h0,if_pos h0,if_pos h0];exact⟨hb.1.1.1.1.1.1.1.1,hb.1.1.1.1.1.1.1.2,FD⟩
 rw[if_neg h0] at hb;rw[if_neg h0,if_neg h0,if_neg h0];by_cases h1:f.kind=1\/f.kind=2
 ·rw[if_pos h1] at hb;simp only[Bool.and_eq_true] at hb;rw[if_pos h1,if_neg FD,if_neg FD];exact⟨hb.1,hb.2,FD⟩
 rw[if_neg h1] at hb;rw[if_neg h1];by_cases h3:f.kind=3
 ·rw[if_pos h3] at hb;unfold advOk at hb;simp only[Bool.and_eq_true] at hb;rw[if_pos h3,if_pos h3];exact⟨hb.1.1.1.2,by decide,fun _=>rfl⟩
 rw[if_neg h3] at hb;rw[if_neg h3,if_neg h3,if_neg h3];by_cases h4:f.kind=4\/f.kind=5\/f.kind=6
 ·rw[if_pos h4] at hb;simp only[Bool.and_eq_true] at hb
  have hv:f.ver=dI:=by
   rw[ho];unfold fW;rw[if_neg h0,if_neg h1,if_neg h3,if_pos h4];rfl
  rw[hv];exact⟨hb.1.1,by decide,fun _=>rfl⟩
 have h7:f.kind=7:=FD;rw[if_neg h4,if_pos h7] at hb;simp only[Bool.and_eq_true] at hb;rw[if_pos h7];exact⟨hb.1.1.1,hb.1.1.2,FD⟩
theorem keyL_inj{f g:Fc}(hf:aJ f=true)(hg:aJ g=true):keyL f=keyL g↔eN f=eN g/\dZ f=dZ g/\fJ f=fJ g:=by
 obtain⟨n1,v1,z1⟩:=eI hf;obtain⟨n2,v2,z2⟩:=eI hg;rw[keyL_form,keyL_form];constructor
 ·intro e
  have hgr:eN f=eN g:=by
   have hh:=congrArg (fun l:List UInt8=>l.head?) e
   rcases grp_cases f with a|a|a|a|a<;>rcases grp_cases g with b|b|b|b|b<;>rw[a,b] at hh ⊢ <;>
    simp[wordL,gS,kYank,kAdvise,kBuild,kKeys] at hh
  rw[hgr] at e;have e2:=List.append_cancel_left e;have hx:∀{a b:bA},a.data.toList=b.data.toList->a=b:=fun h=>ByteArray.ext (Array.toList_inj.1 h);by_cases ht:eN g=2\/eN g=4
  ·have e3:=e2;unfold tailL at e3;rw[if_pos ht,if_pos ht,List.append_nil,List.append_nil] at e3;exact⟨hgr,hx e3,by rw[z1 (by rw[hgr];exact ht),z2 ht]⟩
  unfold tailL at e2;rw[if_neg ht,if_neg ht] at e2;obtain⟨e3,e4⟩:=sep_inj (nm_space n1) (nm_space n2) e2;exact⟨hgr,hx e3,verB_inj v1 v2 e4⟩
 rintro⟨e1,e2,e3⟩;rw[e1,e2,e3]
theorem bs_inj'{a b:List UInt8}(h:bs a=bs b):a=b:=by
 have:=congrArg (fun s:bA=>s.data.toList) h;simpa[bs] using this
theorem key_law{f g:Fc}(hf:aJ f=true)(hg:aJ g=true):bM f=bM g↔eN f=eN g/\dZ f=dZ g/\fJ f=fJ g:=by
 unfold bM;rw[if_pos hf,if_pos hg,<-keyL_inj hf hg];exact⟨bs_inj',fun h=>by rw[h]⟩
theorem only_time(f:Fc)(t:Int):fW {f with time:=t}={fW f with time:=t}:=by
 unfold fW;dsimp only
 repeat' split
 all_goals rfl
theorem right_time{f:Fc}(h:aJ f=true)(t:Int):aJ {f with time:=t}=(decide (0<=t)&&decide (t<=1073741824)):=by
 obtain⟨-,-,hb,ho⟩:=bD h
 have sF:cX {f with time:=t}=true:=by
  rw[<-hb];rfl
 have vN:{f with time:=t}=fW {f with time:=t}:=by rw[only_time,<-ho]
 unfold aJ eqF;rw[sF,@decide_eq_true _ (Classical.propDecidable _) vN];simp
theorem key_time{f:Fc}(h:aJ f=true)(t:Int)(h2:aJ {f with time:=t}=true):bM {f with time:=t}=bM f:=by
 unfold bM;rw[if_pos h,if_pos h2];rfl
theorem DJ{p:Prop}(h:p:=by omega):p:=h
theorem DQ{p:Prop}(h:p:=by decide):p:=h
theorem FI{p:Prop}(h:p:=by simp at e;omega):p:=h
def xB:bA:=⟨#[120]⟩
def chgF(m:Int)(f:Fc):Fc:=
 if m=0 then {f with name:=f.name++xB} else if m=1 then {f with print:=f.print+1} else if m=2 then {f with til:=f.til+1} else if m=3 then {f with need:=f.need+1}
 else if m=4 then {f with rel:={f.rel with lic:=f.rel.lic++xB}} else if m=5 then {f with adv:={f.adv with id:=f.adv.id+1}} else {f with ver:={f.ver with c:=f.ver.c+1}}
def usedF(m k:Int):Bool:=
 if m=0 then !decide (k=0)&& !decide (k=3) else if m=1 then decide (k=7) else if m=2 then decide (k=6) else if m=3 then decide (k=4)||decide (k=5)||decide (k=6)
 else if m=4 then decide (k=0) else if m=5 then decide (k=3) else decide (k=1)||decide (k=2)||decide (k=7)
theorem app_ne(a:bA):a++xB≠a:=fun h=>by
 have:=congrArg ByteArray.size h;rw[ByteArray.size_append] at this;have e:xB.size=1:=rfl;omega
theorem chg_ne(m:Int)(f:Fc):f≠chgF m f:=by
 unfold chgF;intro h;split at h
 ·exact app_ne f.name (congrArg Fc.name h).symm
 split at h
 ·have:=congrArg Fc.print h;simp at this;omega
 split at h
 ·have:=congrArg Fc.til h;simp at this;omega
 split at h
 ·have:=congrArg Fc.need h;simp at this;omega
 split at h
 ·exact app_ne f.rel.lic (congrArg (fun z:Fc=>z.rel.lic) h).symm
 split at h
 ·have:=congrArg (fun z:Fc=>z.adv.id) h;simp at this;omega
 have:=congrArg (fun z:Fc=>z.ver.c) h;simp at this;omega
theorem app_no(a:bA):a++xB≠noB:=fun h=>by
 have:=congrArg ByteArray.size h;rw[ByteArray.size_append] at this;have e:xB.size=1:=rfl;have e2:noB.size=0:=rfl;omega
theorem only_parts{f:Fc}(h:aJ f=true):((f.kind=0\/f.kind=3)->f.name=noB)/\(f.kind≠7->f.print=0)/\(f.kind≠6->f.til=0)/\(¬(f.kind=4\/f.kind=5\/f.kind=6)->f.need=0)/\
  (f.kind≠0->f.rel.lic=noB)/\(f.kind≠3->f.adv.id=0)/\(¬(f.kind=1\/f.kind=2\/f.kind=7)->f.ver.c=0):=by
 obtain⟨-,-,hb,ho⟩:=bD h;obtain⟨k0,k7⟩:=kind_of hb;have key:f.kind=6\/f.kind≠6:=DJ;unfold cX at hb;unfold fW at ho;by_cases h0:f.kind=0
 ·rw[if_pos h0] at ho;rw[ho];exact⟨fun _=>rfl,fun _=>rfl,fun _=>rfl,fun _=>rfl,fun e=>absurd h0 e,fun _=>rfl,fun _=>rfl⟩
 rw[if_neg h0] at ho hb;by_cases h1:f.kind=1\/f.kind=2
 ·rw[if_pos h1] at ho;rw[ho];exact⟨fun e=>FI,fun _=>rfl,fun _=>rfl,fun _=>rfl,fun _=>rfl,fun _=>rfl,fun e=>FI⟩
 rw[if_neg h1] at ho hb;by_cases h3:f.kind=3
 ·rw[if_pos h3] at ho;rw[ho];exact⟨fun _=>rfl,fun _=>rfl,fun _=>rfl,fun _=>rfl,fun _=>rfl,fun e=>absurd h3 e,fun _=>rfl⟩
 rw[if_neg h3] at ho hb;by_cases h4:f.kind=4\/f.kind=5\/f.kind=6
 ·rw[if_pos h4] at ho hb;simp only[Bool.and_eq_true,Bool.or_eq_true,decide_eq_true_eq] at hb;rw[ho];exact⟨fun e=>FI,fun _=>rfl,fun e=>by simp at e ⊢;omega,fun e=>absurd h4 e,fun _=>rfl,fun _=>rfl,fun _=>rfl⟩
 have h7:f.kind=7:=DJ;rw[if_neg h4,if_pos h7] at ho;rw[ho];exact⟨fun e=>FI,fun e=>absurd h7 e,fun _=>rfl,fun _=>rfl,fun _=>rfl,fun _=>rfl,fun e=>FI⟩
theorem chg_right{m:Int}{f:Fc}(h:aJ f=true)(hu:usedF m f.kind=false):aJ (chgF m f)=false:=by
 obtain⟨p0,p1,p2,p3,p4,p5,p6⟩:=only_parts h
 cases hg:aJ (chgF m f) with
 |false=>rfl
 |true=>
  exfalso;obtain⟨q0,q1,q2,q3,q4,q5,q6⟩:=only_parts hg;unfold usedF at hu;unfold chgF at q0 q1 q2 q3 q4 q5 q6;by_cases m0:m=0
  ·simp only[if_pos m0] at hu q0;simp at hu
   have h03:f.kind=0\/f.kind=3:=by
    by_cases e:f.kind=0
    ·exact .inl e
    exact .inr (hu e)
   exact app_no _ (q0 h03)
  rw[if_neg m0] at hu;simp only[if_neg m0] at q0 q1 q2 q3 q4 q5 q6;by_cases m1:m=1
  ·simp only[if_pos m1] at hu q1;simp at hu;have:=p1 hu;have:=q1 hu;omega
  rw[if_neg m1] at hu;simp only[if_neg m1] at q0 q1 q2 q3 q4 q5 q6;by_cases m2:m=2
  ·simp only[if_pos m2] at hu q2;simp at hu;have:=p2 hu;have:=q2 hu;omega
  rw[if_neg m2] at hu;simp only[if_neg m2] at q0 q1 q2 q3 q4 q5 q6;by_cases m3:m=3
  ·simp only[if_pos m3] at hu q3;simp at hu;have:=p3 DJ;have:=q3 (by show ¬(f.kind=4\/f.kind=5\/f.kind=6);omega);omega
  rw[if_neg m3] at hu;simp only[if_neg m3] at q0 q1 q2 q3 q4 q5 q6;by_cases m4:m=4
  ·simp only[if_pos m4] at hu q4;simp at hu;exact app_no _ (q4 hu)
  rw[if_neg m4] at hu;simp only[if_neg m4] at q0 q1 q2 q3 q4 q5 q6;by_cases m5:m=5
  ·simp only[if_pos m5] at hu q5;simp at hu;have:=p5 hu;have:=q5 hu;omega
  rw[if_neg m5] at hu;simp only[if_neg m5] at q0 q1 q2 q3 q4 q5 q6;simp at hu;have:=p6 DJ;have:=q6 (by show ¬(f.kind=1\/f.kind=2\/f.kind=7);omega);omega
theorem adm_nm{s:bA}(h:bT s=true):s.size<=20:=by
 unfold bT at h;simp only[Bool.and_eq_true,decide_eq_true_eq] at h;exact h.1
theorem adm_lic{s:bA}(h:iE s=true):s.size<=1000:=by
 unfold iE eZ at h;by_cases hs:1000<s.size
 ·rw[if_pos hs] at h;cases h
 omega
theorem right_bounds{f:Fc}(h:aJ f=true):f.name.size<=20/\(0<=f.print/\f.print<=1073741824)/\(0<=f.til/\f.til<=1073741824)/\(0<=f.need/\f.need<=12)/\f.rel.lic.size<=1000/\(0<=f.adv.id/\f.adv.id<=1073741824)/\(0<=f.ver.c/\f.ver.c<=1073741824):=by
 obtain⟨p0,p1,p2,p3,p4,p5,p6⟩:=only_parts h;obtain⟨-,-,hb,ho⟩:=bD h;obtain⟨k0,k7⟩:=kind_of hb;unfold cX at hb;have e0:noB.size=0:=rfl;by_cases h0:f.kind=0
 ·rw[if_pos h0] at hb;unfold dM at hb;simp only[Bool.and_eq_true] at hb;have h9:=adm_lic hb.2;rw[p0 (.inl h0),p1 DJ,p2 DJ,p3 DJ,p5 DJ,p6 DJ];exact⟨DQ,DQ,DQ,DQ,h9,DQ,DQ⟩
 rw[if_neg h0] at hb;by_cases h1:f.kind=1\/f.kind=2
 ·rw[if_pos h1] at hb;simp only[Bool.and_eq_true,aU,decide_eq_true_eq] at hb;have h9:=adm_nm hb.1;rw[p1 DJ,p2 DJ,p3 DJ,p4 DJ,p5 DJ];exact⟨h9,DQ,DQ,DQ,DQ,DQ,DJ⟩
 rw[if_neg h1] at hb;by_cases h3:f.kind=3
 ·rw[if_pos h3] at hb;unfold advOk at hb;simp only[Bool.and_eq_true,decide_eq_true_eq] at hb;rw[p0 (.inr h3),p1 DJ,p2 DJ,p3 DJ,p4 DJ,p6 DJ];exact⟨DQ,DQ,DQ,DQ,DQ,DJ,DQ⟩
 rw[if_neg h3] at hb;by_cases h4:f.kind=4\/f.kind=5\/f.kind=6
 ·rw[if_pos h4] at hb;unfold bL at hb;simp only[Bool.and_eq_true,Bool.or_eq_true,decide_eq_true_eq] at hb;have h9:=adm_nm hb.1.1;rw[p1 DJ,p4 DJ,p5 DJ,p6 DJ];exact⟨h9,DQ,DJ,DJ,DQ,DQ,DQ⟩
 rw[if_neg h4] at hb;have h7:f.kind=7:=DJ;rw[if_pos h7] at hb;simp only[Bool.and_eq_true,aU,decide_eq_true_eq] at hb;have h9:=adm_nm hb.1.1.1;rw[p2 DJ,p3 DJ,p4 DJ,p5 DJ];exact⟨h9,DJ,DQ,DQ,DQ,DQ,DJ⟩
theorem right_keys{f:Fc}(h:aJ f=true)(hk:f.kind=4\/f.kind=5\/f.kind=6):bL f=true:=by
 obtain⟨-,-,hb,-⟩:=bD h;unfold cX at hb;rw[if_neg DJ,if_neg DJ,if_neg DJ,if_pos hk] at hb;simp only[Bool.and_eq_true] at hb;exact hb.1.2
theorem right_kind{f:Fc}(h:aJ f=true):0<=f.kind/\f.kind<=7:=kind_of (bD h).2.2.1
end Go.Proofs.YtmpopphjaggeoaaGreatDoor
