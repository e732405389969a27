/- Texts of this seat, joined. -/
import Derived.Test.YtiionicikdnnpaaGreatDoorPAB
import Derived.Test.YtiionicikdnnpaaGreatDoorPAA
set_option maxHeartbeats 16000000
set_option maxRecDepth 100000
set_option linter.unusedVariables false
set_option linter.unusedSimpArgs false
set_option linter.constructorNameAsVariable false
namespace Go.Proofs.YtiionicikdnnpaaGreatDoor
open Go.RowKit
mutual
def wX(N:Nat->Prop)(w:World):Xp->List Value->Prop
 | .mk op n s m names args,cs=>∃vn va,cs=[.int .i64 op,.int .i64 n,.string s,.string m,vn,va]/\s.size<=140737488355328/\m.size<=140737488355328/\aO 1 eT N w vn names/\
   ∃a c,va=.slice a args.length c/\args.length<=c/\c<=9223372036854775807/\(args≠[]->∃b o,a=some ⟨b,o,none⟩/\N b/\wXs N w b o args)
def wXs(N:Nat->Prop)(w:World)(b:Nat):Nat->List Xp->Prop
 |_,[]=>True
 |o,x::r=>(∃cs,wX N w x cs/\cs.length=6/\∀j u,cs[j]? =some u->w.cell? ⟨b,o+j,none⟩=some u)/\wXs N w b (o+6) r
end
mutual
def wT(N:Nat->Prop)(w:World):Ty->List Value->Prop
 | .mk kind fields,cs=>∃vf,cs=[.int .i64 kind,vf]/\∃a c,vf=.slice a fields.length c/\fields.length<=c/\c<=9223372036854775807/\(fields≠[]->∃b o,a=some ⟨b,o,none⟩/\N b/\wFs N w b o fields)
def wFs(N:Nat->Prop)(w:World)(b:Nat):Nat->List (bA×Ty)->Prop
 |_,[]=>True
 |o,(n,t)::r=>(w.cell? ⟨b,o,none⟩=some (.string n)/\n.size<=140737488355328/\∃cs,wT N w t cs/\∀j u,cs[j]? =some u->w.cell? ⟨b,o+1+j,none⟩=some u)/\wFs N w b (o+3) r
end
def wF(N:Nat->Prop)(w:World)(f:Fld)(cs:List Value):Prop:=∃ct,cs=.string f.1::ct/\f.1.size<=140737488355328/\wT N w f.2 ct
section
variable {N N':Nat->Prop} {w w':World}
theorem wXs_iff(b:Nat):∀(l:List Xp)(o:Nat),wXs N w b o l↔∀i x,l[i]? =some x->∃cs,wX N w x cs/\cs.length=6/\∀j u,cs[j]? =some u->w.cell? ⟨b,o+i*6+j,none⟩=some u
 |[],o=>by simp[wXs]
 |x::r,o=>by
  unfold wXs;rw[wXs_iff b r (o+6)];exact TB
theorem wX_iff(op n:Int)(s m:bA)(names:List bA)(args:List Xp)(cs:List Value):wX N w (.mk op n s m names args) cs↔
  ∃vn va,cs=[.int .i64 op,.int .i64 n,.string s,.string m,vn,va]/\s.size<=140737488355328/\m.size<=140737488355328/\aO 1 eT N w vn names/\aO 6 wX N w va args:=by
 unfold wX aO;simp only[wXs_iff]
mutual
theorem wX_moves(hm:aK N w N' w'):∀(x:Xp)(cs:List Value),wX N w x cs->wX N' w' x cs
 | .mk op n s m names args,cs,h=>by
  unfold wX at h ⊢;obtain⟨vn,va,hc,h1,h2,h3,a,c,h4,h5,h6,h7⟩:=h;refine⟨vn,va,hc,h1,h2,h3.moves aT hm VU,a,c,h4,h5,h6,fun pP=>?_⟩;obtain⟨b,o,ha,hb,hx⟩:=h7 pP
  have pS:b<w.heap.size:=by
   cases args with
   |nil=>exact absurd rfl pP
   |cons x r=>
    unfold wXs at hx;obtain⟨⟨cs,-,hl,hj⟩,-⟩:=hx;exact T8
  exact⟨b,o,ha,(hm b hb pS).1,wXs_moves hm b hb pS args o hx⟩
theorem wXs_moves(hm:aK N w N' w')(b:Nat)(hb:N b)(pS:b<w.heap.size):∀(l:List Xp)(o:Nat),wXs N w b o l->wXs N' w' b o l
 |[],_,_=>by unfold wXs;trivial
 |x::r,o,h=>by
  unfold wXs at h ⊢;obtain⟨⟨cs,h1,h2,h3⟩,h4⟩:=h;exact⟨⟨cs,wX_moves hm x cs h1,h2,fun j u hu=>(hm b hb pS).2 _ _ (h3 j u hu)⟩,wXs_moves hm b hb pS r (o+6) h4⟩
end
theorem oK:eF wX:=fun _ _ _ _ x cs hm h=>wX_moves hm x cs h
theorem wT_len:∀{t:Ty}{cs:List Value},wT N w t cs->cs.length=2
 | .mk _ _,_,h=>by unfold wT at h;obtain⟨vf,rfl,-⟩:=h;rfl
theorem wFs_iff(b:Nat):∀(l:List Fld)(o:Nat),wFs N w b o l↔∀i x,l[i]? =some x->∃cs,wF N w x cs/\cs.length=3/\∀j u,cs[j]? =some u->w.cell? ⟨b,o+i*3+j,none⟩=some u
 |[],o=>by simp[wFs]
 |(n,t)::r,o=>by
  unfold wFs;rw[wFs_iff b r (o+3)];constructor
  ·rintro⟨⟨h0,hn,ct,h1,h3⟩,h2⟩ i y hy
   cases i with
   |zero=>
    simp at hy;subst hy;refine⟨.string n::ct,⟨ct,rfl,hn,h1⟩,by simp[wT_len h1],fun j u hu=>?_⟩;exact UZ
   |succ i=>
    exact UV
  exact TK
theorem wT_iff(kind:Int)(fields:List Fld)(cs:List Value):wT N w (.mk kind fields) cs↔∃vf,cs=[.int .i64 kind,vf]/\aO 3 wF N w vf fields:=by
 unfold wT aO;simp only[wFs_iff]
mutual
theorem wT_moves(hm:aK N w N' w'):∀(t:Ty)(cs:List Value),wT N w t cs->wT N' w' t cs
 | .mk kind fields,cs,h=>by
  unfold wT at h ⊢;obtain⟨vf,hc,a,c,h4,h5,h6,h7⟩:=h;refine⟨vf,hc,a,c,h4,h5,h6,fun pP=>?_⟩;obtain⟨b,o,ha,hb,hx⟩:=h7 pP
  have pS:b<w.heap.size:=by
   cases fields with
   |nil=>exact absurd rfl pP
   |cons x r=>
    obtain⟨n,t⟩:=x;unfold wFs at hx;exact gZ hx.1.1
  exact⟨b,o,ha,(hm b hb pS).1,wFs_moves hm b hb pS fields o hx⟩
theorem wFs_moves(hm:aK N w N' w')(b:Nat)(hb:N b)(pS:b<w.heap.size):∀(l:List (bA×Ty))(o:Nat),wFs N w b o l->wFs N' w' b o l
 |[],_,_=>by unfold wFs;trivial
 |(n,t)::r,o,h=>by
  unfold wFs at h ⊢;obtain⟨⟨h0,hn,cs,h1,h3⟩,h4⟩:=h;exact⟨⟨(hm b hb pS).2 _ _ h0,hn,cs,wT_moves hm t cs h1,fun j u hu=>(hm b hb pS).2 _ _ (h3 j u hu)⟩,wFs_moves hm b hb pS r (o+3) h4⟩
end
theorem wT_ok:eF wT:=fun _ _ _ _ x cs hm h=>wT_moves hm x cs h
theorem wF_ok:eF wF:=fun _ _ _ _ x cs hm h=>by
 obtain⟨ct,h1,h2,h3⟩:=h;exact⟨ct,h1,h2,wT_moves hm _ _ h3⟩
end
def wFn(N:Nat->Prop)(w:World)(f:Fnc)(cs:List Value):Prop:=∃vp k vf op n s m vn va,cs=[.string f.name,.bool f.pub,vp,.int .i64 k,vf,.int .i64 f.effects,.int .i64 op,.int .i64 n,.string s,.string m,vn,va]/\f.name.size<=140737488355328/\ -9223372036854775808<=f.effects/\f.effects<=9223372036854775807/\
 aO 3 wF N w vp f.params/\wT N w f.result [.int .i64 k,vf]/\wX N w f.body [.int .i64 op,.int .i64 n,.string s,.string m,vn,va]
theorem wFn_ok:eF wFn:=fun _ _ _ _ f cs hm h=>by
 obtain⟨vp,k,vf,op,n,s,m,vn,va,h1,h2,h6,h7,h3,h4,h5⟩:=h;exact⟨vp,k,vf,op,n,s,m,vn,va,h1,h2,h6,h7,h3.moves wF_ok hm VU,wT_ok _ _ _ _ _ _ hm h4,oK _ _ _ _ _ _ hm h5⟩
def wM(N:Nat->Prop)(w:World)(m:Mdl)(cs:List Value):Prop:=∃vu vv vi vf vo vw vb,cs=[.string m.name,vu,vv,vi,vf,.bool m.moves,vo,vw,vb]/\m.name.size<=140737488355328/\
 aO 1 eT N w vu m.uses/\aO 3 wF N w vv m.vars/\aO 6 wX N w vi m.init/\aO 12 wFn N w vf m.funcs/\aO 3 wF N w vo m.old/\aO 6 wX N w vw m.forward/\aO 6 wX N w vb m.back
theorem wM_ok:eF wM:=fun _ _ _ _ f cs hm h=>by
 obtain⟨vu,vv,vi,vf,vo,vw,vb,h1,h2,h3,h4,h5,h6,h7,h8,h9⟩:=h;exact⟨vu,vv,vi,vf,vo,vw,vb,h1,h2,h3.moves aT hm VU,h4.moves wF_ok hm VU,h5.moves oK hm VU,h6.moves wFn_ok hm VU,h7.moves wF_ok hm VU,h8.moves oK hm VU,h9.moves oK hm VU⟩
theorem wX_form{N:Nat->Prop}{w:World}{x:Xp}{cs:List Value}(h:wX N w x cs):∃(op n:Int)(s m:bA)(a1:Option Addr)(n1 c1:Nat)(a2:Option Addr)(n2 c2:Nat),cs=[.int .i64 op,.int .i64 n,.string s,.string m,.slice a1 n1 c1,.slice a2 n2 c2]:=by
 cases x with
 |mk op n s m names args=>
  rw[wX_iff] at h;exact U4
theorem wT_form{N:Nat->Prop}{w:World}{t:Ty}{cs:List Value}(h:wT N w t cs):∃(k:Int)(a:Option Addr)(n c:Nat),cs=[.int .i64 k,.slice a n c]:=by
 cases t with
 |mk k fs=>
  rw[wT_iff] at h;obtain⟨vf,rfl,hr⟩:=h;obtain⟨a,c,rfl,-⟩:=hr.at;exact⟨k,a,_,c,rfl⟩
mutual
def shX:Xp->Prop
 | .mk _ _ s m _ args=>s.size<=30/\m.size<=30/\shXs args
def shXs:List Xp->Prop
 |[]=>True
 |x::r=>shX x/\shXs r
end
mutual
def shT:Ty->Prop
 | .mk _ fields=>shFs fields
def shFs:List (bA×Ty)->Prop
 |[]=>True
 |(n,t)::r=>n.size<=30/\shT t/\shFs r
end
theorem shXs_iff:∀l:List Xp,shXs l↔∀x∈l,shX x
 |[]=>by simp[shXs]
 |x::r=>by rw[shXs,shXs_iff r];simp
theorem shFs_iff:∀l:List Fld,shFs l↔∀x∈l,x.1.size<=30/\shT x.2
 |[]=>by simp[shFs]
 |(n,t)::r=>by rw[shFs,shFs_iff r];simp[and_assoc]
mutual
theorem wX_enc{N:Nat->Prop}{w:World}:∀(x:Xp)(cs:List Value),wX N w x cs->shX x->aU N w x cs
 | .mk op n s m names args,cs,h,hs=>by
  unfold wX at h;unfold shX at hs;unfold aU;obtain⟨vn,va,hc,h1,h2,h3,a,c,h4,h5,h6,h7⟩:=h
  exact⟨vn,va,hc,VS,VS,h3,a,c,h4,h5,h6,fun pP=>by
   obtain⟨b,o,ha,hb,hx⟩:=h7 pP
   exact⟨b,o,ha,hb,wXs_enc b args o hx hs.2.2⟩⟩
theorem wXs_enc{N:Nat->Prop}{w:World}(b:Nat):∀(l:List Xp)(o:Nat),wXs N w b o l->shXs l->pE N w b o l
 |[],_,_,_=>by unfold pE;trivial
 |x::r,o,h,hs=>by
  unfold wXs at h;unfold shXs at hs;unfold pE;obtain⟨⟨cs,h1,h2,h3⟩,h4⟩:=h;exact⟨⟨cs,wX_enc x cs h1 hs.1,h2,h3⟩,wXs_enc b r (o+6) h4 hs.2⟩
end
mutual
theorem wT_enc{N:Nat->Prop}{w:World}:∀(t:Ty)(cs:List Value),wT N w t cs->shT t->eX N w t cs
 | .mk kind fields,cs,h,hs=>by
  unfold wT at h;unfold shT at hs;unfold eX;obtain⟨vf,hc,a,c,h4,h5,h6,h7⟩:=h
  exact⟨vf,hc,a,c,h4,h5,h6,fun pP=>by
   obtain⟨b,o,ha,hb,hx⟩:=h7 pP
   exact⟨b,o,ha,hb,wFs_enc b fields o hx hs⟩⟩
theorem wFs_enc{N:Nat->Prop}{w:World}(b:Nat):∀(l:List (bA×Ty))(o:Nat),wFs N w b o l->shFs l->pG N w b o l
 |[],_,_,_=>by unfold pG;trivial
 |(n,t)::r,o,h,hs=>by
  unfold wFs at h;unfold shFs at hs;unfold pG;obtain⟨⟨h0,hn,cs,h1,h3⟩,h4⟩:=h;exact⟨⟨h0,VS,cs,wT_enc t cs h1 hs.2.1,h3⟩,wFs_enc b r (o+3) h4 hs.2.2⟩
end
theorem aO.same{α:Type}{k:Nat}{e1 e2:(Nat->Prop)->World->α->List Value->Prop}{N:Nat->Prop}{w:World}{v:Value}{l:List α}(h:aO k e1 N w v l)(he:∀x∈l,∀cs,e1 N w x cs->e2 N w x cs):aO k e2 N w v l:=by
 obtain⟨a,c,hv,h1,h2,h3⟩:=h;refine⟨a,c,hv,h1,h2,fun pP=>?_⟩;obtain⟨b,o,ha,hn,hc⟩:=h3 pP;refine⟨b,o,ha,hn,fun i x hx=>?_⟩;obtain⟨cs,e,hl,hj⟩:=hc i x hx;exact⟨cs,he x (List.mem_of_getElem? hx) cs e,hl,hj⟩
theorem wF_enc{N:Nat->Prop}{w:World}{x:Fld}{cs:List Value}(h:wF N w x cs)(hn:x.1.size<=30)(ht:shT x.2):eH N w x cs:=by
 obtain⟨ct,h1,-,h3⟩:=h;exact⟨ct,h1,VS,wT_enc _ _ h3 ht⟩
theorem wFs_row{N:Nat->Prop}{w:World}{v:Value}{l:List Fld}(h:aO 3 wF N w v l)(hs:∀x∈l,x.1.size<=30/\shT x.2):aO 3 eH N w v l:=h.same fun x hx cs e=>wF_enc e (hs x hx).1 (hs x hx).2
theorem wXs_row{N:Nat->Prop}{w:World}{v:Value}{l:List Xp}(h:aO 6 wX N w v l)(hs:∀x∈l,shX x):aO 6 aU N w v l:=h.same fun x hx cs e=>wX_enc x cs e (hs x hx)
def shFn(f:Fnc):Prop:=f.name.size<=30/\(∀x∈f.params,x.1.size<=30/\shT x.2)/\shT f.result/\shX f.body
theorem wFn_enc{N:Nat->Prop}{w:World}{f:Fnc}{cs:List Value}(h:wFn N w f cs)(hs:shFn f):hO N w f cs:=by
 obtain⟨vp,k,vf,op,n,s,m,vn,va,h1,h2,-,-,h3,h4,h5⟩:=h;obtain⟨s1,s2,s3,s4⟩:=hs;exact⟨vp,k,vf,op,n,s,m,vn,va,h1,VS,wFs_row h3 s2,wT_enc _ _ h4 s3,wX_enc _ _ h5 s4⟩
theorem wFn_eff{N:Nat->Prop}{w:World}{f:Fnc}{cs:List Value}(h:wFn N w f cs): -9223372036854775808<=f.effects/\f.effects<=9223372036854775807:=by
 obtain⟨vp,k,vf,op,n,s,m,vn,va,h1,h2,h3,h4,-⟩:=h;exact⟨h3,h4⟩
structure shM (m:Mdl):Prop where
 name:m.name.size<=30
 funcs:∀f∈m.funcs,shFn f
 vars:∀x∈m.vars,x.1.size<=30/\shT x.2
 init:∀x∈m.init,shX x
 old:∀x∈m.old,x.1.size<=30/\shT x.2
 forward:∀x∈m.forward,shX x
 back:∀x∈m.back,shX x
 lenO:m.old.length<=10
 lenF:m.forward.length<=10
 lenB:m.back.length<=10
theorem wM_enc{N:Nat->Prop}{w:World}{m:Mdl}{cs:List Value}(h:wM N w m cs)(hs:shM m):encM N w m cs:=by
 obtain⟨vu,vv,vi,vf,vo,vw,vb,h1,h2,h3,h4,h5,h6,h7,h8,h9⟩:=h;have hn:=hs.name;exact⟨vu,vv,vi,vf,vo,vw,vb,h1,VS,h3,wFs_row h4 hs.vars,wXs_row h5 hs.init,h6.same fun x hx cs e=>wFn_enc e (hs.funcs x hx),wFs_row h7 hs.old,wXs_row h8 hs.forward,wXs_row h9 hs.back⟩
theorem aO.mem{α:Type}{k:Nat}{e:(Nat->Prop)->World->α->List Value->Prop}{N:Nat->Prop}{w:World}{v:Value}{l:List α}(h:aO k e N w v l){x:α}(hx:x∈l):∃cs,e N w x cs:=by
 obtain⟨a,c,-,-,-,h3⟩:=h;obtain⟨b,o,-,-,hc⟩:=h3 (fun e=>by rw[e] at hx;cases hx);obtain⟨i,hi⟩:=List.mem_iff_getElem?.1 hx;obtain⟨cs,e,-⟩:=hc i x hi;exact⟨cs,e⟩
theorem wM_eff{N:Nat->Prop}{w:World}{m:Mdl}{cs:List Value}(h:wM N w m cs):∀f∈m.funcs,-9223372036854775808<=f.effects/\f.effects<=9223372036854775807:=by
 obtain⟨vu,vv,vi,vf,vo,vw,vb,h1,h2,h3,h4,h5,h6,-⟩:=h;intro f hf;obtain⟨cs,e⟩:=h6.mem hf;exact wFn_eff e
end Go.Proofs.YtiionicikdnnpaaGreatDoor
namespace Go.Proofs.YtiionicikdnnpaaGreatDoor
open Go.RowKit
theorem tk{P:Program}{ops:Array Oper}{Q:Exit->Act->World->Prop}{md:Region.Mode}{S:World->Prop}{oi:Oper}{fuel:Nat}{listed:Array Bool}{a:Act}{w:World}(i:Nat)(v:Value)
  (hi:ops[i]? =some oi:=by exact rfl) (hs:Region.noSelect ops=true:=by kernel_rfl) (hf:Region.free md ops listed i=true:=by kernel_rfl) (hr:(Region.ready md ops listed).contains i=true:=by kernel_rfl)
  (hQ:∀c a w,Q (.panic c) (a.put oi.dst v) w->Q (.panic c) a w:=by exact fun _ _ _ h=>h) (hw:Region.wanted oi (yielded ops a.tmps)=true:=by kernel_rfl)
  (y:∀w,S w->(execOp a.eval oi).run P w=.ok (.value v) w) (s:S w) (h:wpAnyH P md ops Q S fuel (listed.setIfInBounds i true) (a.put oi.dst v) w):wpAnyH P md ops Q S (fuel+1) listed a w:=
 wpAnyH_take hi hs hf hr hQ (Or.inl ⟨hw,y⟩) s h
structure OpA (wb:Nat) (v:Value) (x:Xp) (b o:Nat) (op n:Int) (s m:bA) (a1:Option Addr) (n1 c1:Nat) (a2:Option Addr) (n2 c2:Nat) (w:World):Prop where
 enc:aU (dM wb v) w x [.int .i64 op,.int .i64 n,.string s,.string m,.slice a1 n1 c1,.slice a2 n2 c2]
 off:dM wb v b
 p:w.cell? ⟨b,o,none⟩=some (.int .i64 op)/\w.cell? ⟨b,o+1,none⟩=some (.int .i64 n)/\w.cell? ⟨b,o+2,none⟩=some (.string s)/\w.cell? ⟨b,o+3,none⟩=some (.string m)/\w.cell? ⟨b,o+4,none⟩=some (.slice a1 n1 c1)/\w.cell? ⟨b,o+5,none⟩=some (.slice a2 n2 c2)
theorem OpA.ext{wb:Nat}{v v':Value}{x:Xp}{b o:Nat}{op n:Int}{s m:bA}{a1:Option Addr}{n1 c1:Nat}{a2:Option Addr}{n2 c2:Nat}{w w':World}(h:OpA wb v x b o op n s m a1 n1 c1 a2 n2 c2 w)(hx:Ext wb v w v' w'):OpA wb v' x b o op n s m a1 n1 c1 a2 n2 c2 w':=by
 obtain⟨h1,h2,p0,p1,p2,p3,p4,p5⟩:=h;have hn:¬inC wb v b:=fun e=>e.elim h2.1 h2.2;exact⟨lW h1 hx,(hx.moves b h2 (gZ p0)).1,hx.off.cell hn p0,hx.off.cell hn p1,hx.off.cell hn p2,hx.off.cell hn p3,hx.off.cell hn p4,hx.off.cell hn p5⟩
theorem op_of{wb:Nat}{v:Value}{args:List Xp}{a:Option Addr}{w:World}{i:Nat}{x:Xp}(tV:∀i x,args[i]? =some x->∃b o,a=some ⟨b,o,none⟩/\dM wb v b/\∃cs,aU (dM wb v) w x cs/\cs.length=6/\∀j u,cs[j]? =some u->w.cell? ⟨b,o+i*6+j,none⟩=some u)(hx:args[i]? =some x):
  ∃b o,a=some ⟨b,o,none⟩/\∃op n s m a1 n1 c1 a2 n2 c2,OpA wb v x b (o+i*6) op n s m a1 n1 c1 a2 n2 c2 w:=by
 obtain⟨b,o,ha,hb,cs,he,-,hj⟩:=tV i x hx
 cases x with
 |mk op n s m ns ys=>
  have rL:=he;rw[aN] at he;obtain⟨v1,v2,rfl,-,-,h1,h2⟩:=he;obtain⟨a1,c1,rfl,-⟩:=h1.at;obtain⟨a2,c2,rfl,-⟩:=h2.at;exact⟨b,o,ha,op,n,s,m,a1,_,c1,a2,_,c2,rL,hb,by simpa using hj 0 _ rfl,hj 1 _ rfl,hj 2 _ rfl,hj 3 _ rfl,hj 4 _ rfl,hj 5 _ rfl⟩
theorem op_of0{wb:Nat}{v:Value}{args:List Xp}{a:Option Addr}{w:World}{x:Xp}(tV:∀i x,args[i]? =some x->∃b o,a=some ⟨b,o,none⟩/\dM wb v b/\∃cs,aU (dM wb v) w x cs/\cs.length=6/\∀j u,cs[j]? =some u->w.cell? ⟨b,o+i*6+j,none⟩=some u)(hx:args[0]? =some x):
  ∃b o,a=some ⟨b,o,none⟩/\∃op n s m a1 n1 c1 a2 n2 c2,OpA wb v x b o op n s m a1 n1 c1 a2 n2 c2 w:=by
 have h:=op_of tV hx;simpa using h
theorem op_of1{wb:Nat}{v:Value}{args:List Xp}{a:Option Addr}{w:World}{x:Xp}(tV:∀i x,args[i]? =some x->∃b o,a=some ⟨b,o,none⟩/\dM wb v b/\∃cs,aU (dM wb v) w x cs/\cs.length=6/\∀j u,cs[j]? =some u->w.cell? ⟨b,o+i*6+j,none⟩=some u)(hx:args[1]? =some x):
  ∃b o,a=some ⟨b,o,none⟩/\∃op n s m a1 n1 c1 a2 n2 c2,OpA wb v x b (o+6) op n s m a1 n1 c1 a2 n2 c2 w:=by
 have h:=op_of tV hx;simpa using h
def pJ(d:Nat):Prop:=∀(x:Xp)(form:Nat)(fi:Int)(B wb:Nat)(st:WSt)(v:Value)(op n:Int)(s m:bA)(vn va:Value)(w:World),
 aJ d x=true->form<=8->fi=(form:Int)->WrS B wb st v w->dI st (bK x form)->aU (dM wb v) w x [.int .i64 op,.int .i64 n,.string s,.string m,vn,va]->
 Calls Tryz.prog 70 #[.pointer (some ⟨wb,0,none⟩),jA op n s m vn va,.int .i64 fi] w (WrP B wb v w (.tuple #[]) (st.put (bK x form)))
theorem fbool_in(b:Bool)(w:World):Calls Tryz.prog 230 #[.bool b] w fun e w'=>e=.returned (.string (if b then cQ else bU))/\w'=w:=by
 cases b
 all_goals
  go_enter Tryz.func230,Tryz.ntmps230;go_wp2_with fail;go_ret;exact⟨rfl,rfl⟩
theorem fbool_any(b:Bool)(w:World):Calls Tryz.prog 197 #[.bool b] w fun e w'=>e=.returned (.string (if b then cQ else bU))/\w'=w:=by
 have HB:=zh (fbool_in b w);generalize (if b then cQ else bU)=r at *;go_enter Tryz.func197,Tryz.ntmps197;go_wp2_with(go_at_call 230;refine HB.out.mono ?_;rintro e w2 ⟨rfl,rfl⟩);go_ret;exact⟨rfl,rfl⟩
theorem find_snoc{α:Type}{p:α->Bool}{l:List α}{k:Nat}{x:α}(hx:l[k]? =some x)(hn:(l.take k).find? p=none):(l.take (k+1)).find? p=if p x then some x else none:=by
 rw[List.take_add_one,hx,List.find?_append,hn];simp
theorem find_take{α:Type}{p:α->Bool}{l:List α}{k:Nat}{x:α}(hx:l[k]? =some x)(hn:(l.take k).find? p=none)(hp:p x=true):l.find? p=some x:=by
 have h:=find_snoc hx hn;rw[if_pos hp] at h;rw[<-List.take_append_drop (k+1) l,List.find?_append,h];rfl
def pD(op:Int):Nat:=if op=11\/op=12\/op=18 then 0 else if op=10 then 3 else if op=14 then 7 else 8
theorem formX_none{op:Int}(h:eP.find? (fun o=>decide (o.2.1=op))=none):dF op=(pD op,noB):=by unfold dF;rw[h];rfl
theorem formX_some{op:Int}{t:bA}{fm:Nat}(h:eP.find? (fun o=>decide (o.2.1=op))=some (t,op,fm)):dF op=(fm,t):=by unfold dF;rw[h]
theorem formOf_any(op n:Int)(s m:bA)(a1:Option Addr)(n1 c1:Nat)(a2:Option Addr)(n2 c2:Nat)(w:World):
  Calls Tryz.prog 151 #[bW op n s m a1 n1 c1 a2 n2 c2] w fun e w'=>e=.returned (.tuple #[.int .i64 ((dF op).1:Int),.string (dF op).2])/\Below w.heap.size w w':=by
 have qN:=zh (aC w (aH op n s m a1 n1 c1 a2 n2 c2));have LA:=zh (bY w (aH op n s m a1 n1 c1 a2 n2 c2));go_enter Tryz.func151,Tryz.ntmps151;go_wp2_with(go_at_call 135;refine(operators_any _).mono ?_;rintro e w1 ⟨rfl,rfl⟩);have pQ:=zh (aC (w.alloc (aH op n s m a1 n1 c1 a2 n2 c2)) (.cells kM.toArray 166));have G0:=bY (w.alloc (aH op n s m a1 n1 c1 a2 n2 c2)) (.cells kM.toArray 166);rw[show(w.alloc (aH op n s m a1 n1 c1 a2 n2 c2)).heap.size=w.heap.size+1 by simp] at G0;have HO:=zh G0;clear G0;go_loopw [8] (fun sl wr=>∃k:Nat,k<=7/\sl=.int .i64 (k:Int)/\Hid (Below w.heap.size w wr)/\Hid (wr.heap[w.heap.size]? =some (aH op n s m a1 n1 c1 a2 n2 c2))/\Hid (wr.heap[w.heap.size+1]? =some (.cells kM.toArray 166))/\Hid ((eP.take k).find? (fun o=>decide (o.2.1=op))=none)) (fun sl _=>7-(intOf sl).toNat)
 case atStart=>exact⟨0,VS,rfl,zh (aA qN.out pQ.out),zh (aD pQ.out LA.out),HO,zh rfl⟩
 case round=>
  obtain⟨k,hk7,rfl,HB,HX,HOp,HN⟩:=hrel;rename World=>wr
  obtain⟨⟨x0,x1,x2,x3,x4,x5⟩,-⟩:=bx6 HX.out;by_cases pS:k<7
  ·obtain⟨⟨t,rW,fm⟩,hk⟩:∃o,eP[k]? =some o:=⟨_,List.getElem?_eq_getElem (show k<eP.length from pS)⟩;obtain⟨hc0,EV,tJ⟩:=opers_at hk;have c0:=(bx HOp.out (k*3) (by simpa using hc0)).1;have c1:=(bx HOp.out (k*3+1) (by simpa using EV)).1;have c2:=(bx HOp.out (k*3+2) (by simpa using tJ)).1;clear hc0 EV tJ;have DT:=aC wr (oV t rW (fm:Int));have ND:=zh DT;have tT:w.heap.size<wr.heap.size:=(Array.getElem?_eq_some_iff.1 HX.out).1;by_cases vT:rW=op
   ·subst vT;have HR:=zh (formX_some (find_take (p:=fun o=>decide (o.2.1=rW)) hk HN.out VY));clear HN hk;go_wp2_with fail;(go_region);go_wp2_with fail;go_ret2;exact⟨ret_val WP,(aA HB.out ND.out).drew⟩
   (have hop':(rW==op)=false:=by rw[beq_eq_false_iff_ne];exact vT);have Q0:=zh (find_snoc (p:=fun o=>decide (o.2.1=op)) hk HN.out);clear HN hk;go_wp2_with fail;go_roundw;(case rel=>exact⟨k+1,VS,WH,zh (aA HB.out ND.out),zh (aD ND.out HX.out),zh (aD ND.out HOp.out),zh (by rw[Q0.out];simp[vT])⟩);case measure=>simp[intOf];omega
  have hk:k=7:=VS;subst hk;have HR:=zh (formX_none (op:=op) HN.out);clear HN HOp;by_cases h0:op=11\/op=12\/op=18
  ·have HF:Hid (pD op=0):=zh (by unfold pD;rw[if_pos h0]);rcases h0 with rfl|rfl|rfl
   all_goals
    go_wp2_with fail;go_ret2;exact⟨ret_val (by rw[HR.out,HF.out];rfl),HB.out⟩
  have h11:(op==11)=false:=by rw[beq_eq_false_iff_ne];intro e;exact h0 (.inl e)
  have EX:(op==12)=false:=by rw[beq_eq_false_iff_ne];intro e;exact h0 (.inr (.inl e))
  have h18:(op==18)=false:=by rw[beq_eq_false_iff_ne];intro e;exact h0 (.inr (.inr e))
  have C9:Hid (pD op=if op=10 then 3 else if op=14 then 7 else 8):=zh (by unfold pD;rw[if_neg h0]);clear h0;by_cases xM:op=10
  ·subst xM;go_wp2_with fail;go_ret2;exact⟨ret_val (by rw[HR.out,C9.out];rfl),HB.out⟩
  have h10':(op==10)=false:=by rw[beq_eq_false_iff_ne];exact xM
  by_cases N5:op=14
  ·subst N5;go_wp2_with fail;go_ret2;exact⟨ret_val (by rw[HR.out,C9.out];rfl),HB.out⟩
  have h14':(op==14)=false:=by rw[beq_eq_false_iff_ne];exact N5
  have HF:Hid (pD op=8):=zh (by rw[C9.out,if_neg xM,if_neg N5]);clear C9 xM N5;go_wp2_with fail;go_ret2;exact⟨ret_val (by rw[HR.out,HF.out];rfl),HB.out⟩
theorem UA{p:Prop}(h:p:=by
 go_roundw;case rel=>exact⟨q+1,v2,VS,WH,zh h2,zh (sW.out.trans qD)⟩
 case measure=>simp[intOf];omega):p:=h
theorem comma_snoc:∀(l:List (List bA))(x:List bA),aR (l++[x])=aR l++((if l=[] then[] else[bE])++x)
 |[],x=>by simp[aR]
 |[y],x=>by simp[aR]
 |y::z::r,x=>by
  have h:=comma_snoc (z::r) x;rw[List.cons_append,List.cons_append,aR,<-List.cons_append,h,aR];simp
theorem comma_app:∀(r l:List (List bA)),∃z,aR (l++r)=aR l++z
 |[],l=>⟨[],VY⟩
 |x::r,l=>by
  obtain⟨z,hz⟩:=comma_app r (l++[x]);rw[List.append_assoc,List.singleton_append,comma_snoc,List.append_assoc] at hz;exact⟨_,hz⟩
def sepT(q:Nat):List bA:=if q=0 then[] else[bE]
theorem comma_take{L:List (List bA)}{q:Nat}{x:List bA}(hx:L[q]? =some x):aR (L.take (q+1))=aR (L.take q)++(sepT q++x):=by
 have hq:=(Yb.1 hx).1;rw[List.take_add_one,hx,Option.toList_some,comma_snoc];unfold sepT;by_cases h0:q=0
 ·subst h0;rfl
 have:L.take q≠[]:=fun e=>by have h9:=congrArg List.length e;rw[List.length_take,List.length_nil] at h9;omega
 rw[if_neg this,if_neg h0]
theorem comma_put{st:WSt}{L:List (List bA)}{q:Nat}{x:List bA}(hx:L[q]? =some x):st.put (aR (L.take (q+1)))=((st.put (aR (L.take q))).put (sepT q)).put x:=by
 rw[bV,bV,comma_take hx]
theorem dI.comma{st:WSt}{L:List (List bA)}{q:Nat}{x:List bA}(hf:dI st (aR L))(hx:L[q]? =some x):dI (st.put (aR (L.take q))) (sepT q++x):=by
 obtain⟨z,hz⟩:=comma_app (L.drop (q+1)) (L.take (q+1));rw[List.take_append_drop] at hz;rw[hz,comma_take hx] at hf;exact hf.app.1.app.2
theorem map_take_at{l:List Xp}{q:Nat}{x:Xp}(hx:l[q]? =some x):(l.map aI)[q]? =some (aI x):=by rw[List.getElem?_map,hx];rfl
theorem exps_any{d:Nat}(HX:pJ d)(l:List Xp){B wb:Nat}{st:WSt}{v va:Value}{w:World}(hr:∀x∈l,aJ d x=true)(h:WrS B wb st v w)(hf:dI st (aR (l.map aI)))(hl:aO 6 aU (dM wb v) w va l):
  Calls Tryz.prog 73 #[.pointer (some ⟨wb,0,none⟩),va] w (WrP B wb v w (.tuple #[]) (st.put (aR (l.map aI)))):=by
 have pV:=zh HX;have HR:=zh hr;obtain⟨a,cl,rfl,xV,yF,AA⟩:=hl.at;have HA:=zh AA;have HH:=zh h;have HF:=zh hf;clear AA hl h HX hr hf;go_enter Tryz.func73,Tryz.ntmps73;go_wp2_with fail;go_loopw [8] (fun iv wr=>∃(q:Nat)(v':Value),q<=l.length/\iv=.int .i64 (q:Int)/\Hid (WrS B wb (st.put (aR ((l.map aI).take q))) v' wr)/\Hid (Ext wb v w v' wr)) (fun iv _=>l.length-(intOf iv).toNat)
 case atStart=>exact⟨0,v,Nat.zero_le _,rfl,zh Y8,zh (Ext.refl _ _ _)⟩
 case round=>
  obtain⟨q,v1,hq,rfl,HC,HE⟩:=hrel;rename World=>wr
  by_cases pS:q<l.length
  ·obtain⟨x,hx,uE⟩:=getElem?_of_lt pS;obtain⟨b,o,rfl,op,n,s,m,i1,j1,k1,i2,j2,k2,ho⟩:=op_of HA.out hx;have hblt:=gZ ho.p.1;have qI:=ho.ext HE.out;obtain⟨p0,p1,p2,p3,p4,p5⟩:=qI.p;have pN:=aC wr (aH op n s m i1 j1 k1 i2 j2 k2);have xE:=Ext.below wb v1 pN;have tK:=zh (HE.out.trans xE);have OP:=zh (HC.out.later pN);have BM:=zh (lW qI.enc xE);have tC:Hid ((wr.alloc (aH op n s m i1 j1 k1 i2 j2 k2)).heap[wr.heap.size]? =some (aH op n s m i1 j1 k1 i2 j2 k2)/\dM wb v1 wr.heap.size):=zh ⟨bY wr _,HC.out.new (Nat.le_refl _)⟩;have rJ:=HF.out.comma (map_take_at hx);have HT:=zh (comma_put (st:=st) (map_take_at hx));have xY:=zh (HR.out x uE);generalize st.put (aR ((l.map aI).take q))=s1 at *;clear HA hx uE ho qI pN xE HC HE hblt;by_cases sL:q=0
   ·(have hs:sepT q=[]:=by unfold sepT;rw[if_pos sL]);rw[hs] at rJ HT;rw[iQ] at HT;have K9:Hid (dI s1 (bK x 0)):=zh (by rw[lQ];exact rJ);have yT:¬0<q:=VS;have zX:¬(0:Int)<(q:Int):=VS;clear sL hs rJ;go_wp2_with(go_at_call 70;refine(pV.out x 0 0 B wb s1 v1 _ _ _ _ _ _ _ xY.out VS rfl OP.out K9.out BM.out).mono ?_;rintro e w2 ⟨v2,rfl,h2,qD⟩);rw[lQ,<-HT.out] at h2;go_roundw;(case rel=>exact⟨q+1,v2,VS,WH,zh h2,zh (tK.out.trans qD)⟩);case measure=>simp[intOf];omega
   (have hs:sepT q=[bE]:=by unfold sepT;rw[if_neg sL]);rw[hs] at rJ HT;have GM:=zh rJ.app.1;have K9:Hid (dI (s1.put [bE]) (bK x 0)):=zh (by rw[lQ];exact rJ.app.2);have yT:0<q:=VS;have zX:(0:Int)<(q:Int):=VS;clear sL hs rJ;go_wp2_with(go_at_call 67;refine(eW bE OP.out GM.out).mono ?_;rintro e w3 ⟨v3,rfl,h3,qJ⟩;have vM:=zh h3;have sW:=zh (tK.out.trans qJ);have qG:=zh (qJ.blk tC.out.2 tC.out.1);have EL:=zh (lW BM.out qJ);obtain⟨⟨r0,r1,r2,r3,r4,r5⟩,-⟩:=bx6 qG.out.1;clear h3 qJ);go_wp2_with(go_at_call 70;refine(pV.out x 0 0 B wb (s1.put [bE]) v3 _ _ _ _ _ _ _ xY.out VS rfl vM.out K9.out EL.out).mono ?_;rintro e w2 ⟨v2,rfl,h2,qD⟩);rw[lQ,<-HT.out] at h2;exact UA
  have uM:q=l.length:=VS;have HT:Hid ((l.map aI).take q=l.map aI):=zh (by rw[List.take_of_length_le (by rw[List.length_map];omega)]);exact UP
def TyPr(d:Nat):Prop:=∀(t:Ty)(B wb:Nat)(st:WSt)(v:Value)(k:Int)(vf:Value)(w:World),aQ d t=true->WrS B wb st v w->dI st (eI t)->eX (dM wb v) w t [.int .i64 k,vf]->
 Calls Tryz.prog 69 #[.pointer (some ⟨wb,0,none⟩),.agg #[.int .i64 k,vf]] w (WrP B wb v w (.tuple #[]) (st.put (eI t)))
theorem fldsT_at:∀(l:List Fld)(q:Nat)(x:Fld),l[q]? =some x->(dR l)[q]? =some (x.1::eI x.2)
 |[],q,x,h=>XR
 |(s,t)::r,0,x,h=>by simp at h;subst h;rw[dR];rfl
 |(s,t)::r,q+1,x,h=>by rw[dR];simpa using fldsT_at r q x XE
theorem nK{wb:Nat}{v v':Value}{w w':World}{t:Ty}{cs:List Value}(h:eX (dM wb v) w t cs)(hx:Ext wb v w v' w'):eX (dM wb v') w' t cs:=cB _ _ _ _ _ _ hx.moves h
theorem cI{N:Nat->Prop}{w:World}{t:Ty}{cs:List Value}(h:eX N w t cs):∃(k:Int)(a:Option Addr)(n c:Nat),cs=[.int .i64 k,.slice a n c]:=by
 cases t with
 |mk k fs=>
  rw[dY] at h;obtain⟨vf,rfl,hr⟩:=h;obtain⟨a,c,rfl,-⟩:=hr.at;exact⟨k,a,_,c,rfl⟩
theorem wfields_any{d:Nat}(HX:TyPr d)(l:List Fld){B wb:Nat}{st:WSt}{v va:Value}{w:World}(hr:∀x∈l,aQ d x.2=true)(h:WrS B wb st v w)(hf:dI st (aR (dR l)))(hl:aO 3 eH (dM wb v) w va l):
  Calls Tryz.prog 72 #[.pointer (some ⟨wb,0,none⟩),va] w (WrP B wb v w (.tuple #[]) (st.put (aR (dR l)))):=by
 have pV:=zh HX;have HR:=zh hr;obtain⟨a,cl,rfl,xV,yF,AA⟩:=hl.at;have HA:=zh AA;have HH:=zh h;have HF:=zh hf;clear AA hl h HX hr hf;go_enter Tryz.func72,Tryz.ntmps72;go_wp2_with fail;go_loopw [8] (fun iv wr=>∃(q:Nat)(v':Value),q<=l.length/\iv=.int .i64 (q:Int)/\Hid (WrS B wb (st.put (aR ((dR l).take q))) v' wr)/\Hid (Ext wb v w v' wr)) (fun iv _=>l.length-(intOf iv).toNat)
 case atStart=>exact⟨0,v,Nat.zero_le _,rfl,zh Y8,zh (Ext.refl _ _ _)⟩
 case round=>
  obtain⟨q,v1,hq,rfl,HC,HE⟩:=hrel;rename World=>wr
  by_cases pS:q<l.length
  ·obtain⟨x,hx,uE⟩:=getElem?_of_lt pS;obtain⟨b,o,rfl,A0,cs,⟨ct,rfl,KR,tI⟩,-,hj⟩:=HA.out q x hx;obtain⟨k,i1,j1,k1,rfl⟩:=cI tI;have KU:¬inC wb v b:=fun e=>e.elim A0.1 A0.2;(have p0:wr.cell? ⟨b,o+q*3,none⟩=some (.string x.1):=by have h:=HE.out.off.cell KU (hj 0 _ rfl);simpa using h);have p1:wr.cell? ⟨b,o+q*3+1,none⟩=some (.int .i64 k):=HE.out.off.cell KU (hj 1 _ rfl);have p2:wr.cell? ⟨b,o+q*3+2,none⟩=some (.slice i1 j1 k1):=HE.out.off.cell KU (hj 2 _ rfl);have pN:=aC wr (bZ x.1 k i1 j1 k1);have xE:=Ext.below wb v1 pN;have tK:=zh (HE.out.trans xE);have OP:=zh (HC.out.later pN);have BM:=zh (nK (nK tI HE.out) xE);have tC:Hid ((wr.alloc (bZ x.1 k i1 j1 k1)).heap[wr.heap.size]? =some (bZ x.1 k i1 j1 k1)/\dM wb v1 wr.heap.size):=zh ⟨bY wr _,HC.out.new (Nat.le_refl _)⟩;obtain⟨⟨r0,r1,r2⟩,-⟩:=bx3 tC.out.1;have rJ:=HF.out.comma (fldsT_at l q x hx);have HT:=zh (comma_put (st:=st) (fldsT_at l q x hx));have xY:=zh (HR.out x uE);generalize st.put (aR ((dR l).take q))=s1 at *;obtain⟨nm,ty⟩:=x;simp only at *;clear HA hx uE tI A0 KU hj pN xE HC HE KR;by_cases sL:q=0
   ·(have hs:sepT q=[]:=by unfold sepT;rw[if_pos sL]);rw[hs] at rJ HT;rw[iQ] at HT;have GM:=zh (dI.cons (b:=eI ty) rJ);have uF:Hid ((s1.put [nm]).put (eI ty)=st.put (aR ((dR l).take (q+1)))):=zh (by rw[HT.out,bV];rfl);have yT:¬0<q:=VS;have zX:¬(0:Int)<(q:Int):=VS;clear sL hs rJ HT;go_wp2_with(go_at_call 67;refine(eW nm OP.out GM.out.1).mono ?_;rintro e w3 ⟨v3,rfl,h3,qJ⟩;have vM:=zh h3;have sW:=zh (tK.out.trans qJ);have qG:=zh (qJ.blk tC.out.2 tC.out.1);have EL:=zh (nK BM.out qJ);obtain⟨⟨t0,t1,t2⟩,-⟩:=bx3 qG.out.1;clear h3 qJ);go_wp2_with(go_at_call 69;refine(pV.out ty B wb (s1.put [nm]) v3 _ _ _ xY.out vM.out GM.out.2 EL.out).mono ?_;rintro e w2 ⟨v2,rfl,h2,qD⟩);rw[uF.out] at h2;exact UA
   (have hs:sepT q=[bE]:=by unfold sepT;rw[if_neg sL]);rw[hs] at rJ HT;have C9:=zh rJ.app.1;have GM:=zh (dI.cons (b:=eI ty) rJ.app.2);have uF:Hid (((s1.put [bE]).put [nm]).put (eI ty)=st.put (aR ((dR l).take (q+1)))):=zh (by rw[HT.out,bV (s1.put [bE])];rfl);have yT:0<q:=VS;have zX:(0:Int)<(q:Int):=VS;clear sL hs rJ HT r0 r1 r2;go_wp2_with fail;go_at_call 67;refine(eW bE OP.out C9.out).mono ?_;rintro e w4 ⟨v4,rfl,h4,rC⟩;have E9:=zh h4;have tF:=zh (tK.out.trans rC);have rB:=zh (rC.blk tC.out.2 tC.out.1);have M9:=zh (nK BM.out rC);obtain⟨⟨r0,r1,r2⟩,-⟩:=bx3 rB.out.1;clear h4 rC;go_wp2_with fail;go_wp2_with(go_at_call 67;refine(eW nm E9.out GM.out.1).mono ?_;rintro e w3 ⟨v3,rfl,h3,qJ⟩;have vM:=zh h3;have sW:=zh (tF.out.trans qJ);have qG:=zh (qJ.blk rB.out.2 rB.out.1);have EL:=zh (nK M9.out qJ);obtain⟨⟨t0,t1,t2⟩,-⟩:=bx3 qG.out.1;clear h3 qJ);go_wp2_with(go_at_call 69;refine(pV.out ty B wb ((s1.put [bE]).put [nm]) v3 _ _ _ xY.out vM.out GM.out.2 EL.out).mono ?_;rintro e w2 ⟨v2,rfl,h2,qD⟩);rw[uF.out] at h2;exact UA
  have uM:q=l.length:=VS;have HT:Hid ((dR l).take q=dR l):=zh (by rw[List.take_of_length_le (by rw[kQ];omega)]);exact UP
theorem typed_0:TyPr 0:=fun t B wb st v k vf w h=>by cases t;simp[aQ] at h
theorem typed_step(d:Nat)(HX:TyPr d):TyPr (d+1):=by
 intro t B wb st v k vf w hr h hf he;obtain⟨k',fs⟩:=t;obtain⟨hk,h8,pP,DK⟩:=ty_parts hr;have hW:Hid (eI (.mk k' fs)=if k'=0 then[kIntW] else if k'=1 then[kBool] else bJ::(aR (dR fs)++[dO])):=zh (by rw[eI]);rw[dY] at he;obtain⟨vf',e,sN⟩:=he;cases e;obtain⟨a1,c1,rfl,-⟩:=sN.at;have hb:=aC w (dT k a1 fs.length c1);have rQ:=zh (Ext.below wb v hb);have HC:=zh (h.later hb);have HB:Hid ((w.alloc (dT k a1 fs.length c1)).heap[w.heap.size]? =some (dT k a1 fs.length c1)/\dM wb v w.heap.size):=zh ⟨bY w _,h.new (Nat.le_refl _)⟩;have tY:=zh (fZ aS VU sN rQ.out);have HRt:Hid (∀x∈fs,aQ d x.2=true):=zh fun x hx=>(gU DK x hx).2;have pV:=zh HX;rw[hW.out] at hf;generalize eI (.mk k fs)=tk at hW ⊢;obtain⟨⟨r0,r1⟩,-⟩:=bx2 HB.out.1;clear h sN DK pP hb HX hr h8;rcases hk with rfl|rfl|rfl
 ·rw[if_pos rfl] at hf hW;have F1:=zh hf;clear hf;go_enter Tryz.func69,Tryz.ntmps69;go_wp2_with(go_at_call 67;refine(eW kIntW HC.out F1.out).mono ?_;rintro e w2 ⟨v2,rfl,h2,qD⟩);go_end0;exact⟨_,rfl,by rw[hW.out];exact h2,rQ.out.trans qD⟩
 ·rw[if_neg VU,if_pos rfl] at hf hW;have F1:=zh hf;clear hf;go_enter Tryz.func69,Tryz.ntmps69;go_wp2_with(go_at_call 67;refine(eW kBool HC.out F1.out).mono ?_;rintro e w2 ⟨v2,rfl,h2,qD⟩);go_end0;exact⟨_,rfl,by rw[hW.out];exact h2,rQ.out.trans qD⟩
 rw[if_neg VU,if_neg VU] at hf hW;obtain⟨f1,N6⟩:=hf.cons;obtain⟨f2,f3⟩:=N6.app;have F1:=zh f1;have F2:=zh f2;have F3:=zh f3;have HE:Hid (((st.put [bJ]).put (aR (dR fs))).put [dO]=st.put tk):=zh (by rw[hW.out,bV,bV];rfl);clear hf f1 N6 f2 f3 hW;go_enter Tryz.func69,Tryz.ntmps69;go_wp2_with(go_at_call 67;refine(eW bJ HC.out F1.out).mono ?_;rintro e w2 ⟨v2,rfl,h2,qD⟩;have uY:=zh h2;have qX:=zh (rQ.out.trans qD);have pQ:=zh (qD.blk HB.out.2 HB.out.1);have CO:=zh (fZ aS VU tY.out qD);obtain⟨⟨t0,t1⟩,-⟩:=bx2 pQ.out.1;clear h2 qD r0 r1);go_wp2_with(go_at_call 72;refine(wfields_any pV.out fs HRt.out uY.out F2.out CO.out).mono ?_;rintro e w3 ⟨v3,rfl,h3,qJ⟩;have vM:=zh h3;have sW:=zh (qX.out.trans qJ);clear h3 qJ);go_wp2_with(go_at_call 67;refine(eW dO vM.out F3.out).mono ?_;rintro e w4 ⟨v4,rfl,h4,rC⟩);go_end0;exact⟨_,rfl,by rw[<-HE.out];exact h4,sW.out.trans rC⟩
theorem kI:∀d,TyPr d
 |0=>typed_0
 |d+1=>typed_step d (kI d)
theorem lC(a b:List Fld):eqL a b=eO a b:=by
 by_cases h:a=b
 ·rw[gQ h,(kW a b).2 h]
 rw[dH h];cases hq:eO a b with
 |false=>rfl
 |true=>exact absurd ((kW a b).1 hq) h
theorem eqL_sameXs(a b:List Xp):eqL a b=eG a b:=by
 by_cases h:a=b
 ·rw[gQ h,(iD a b).2 h]
 rw[dH h];cases hq:eG a b with
 |false=>rfl
 |true=>exact absurd ((iD a b).1 hq) h
theorem eqL_sameFns(a b:List Fnc):eqL a b=gY a b:=by
 by_cases h:a=b
 ·rw[gQ h,(iX a b).2 h]
 rw[dH h];cases hq:gY a b with
 |false=>rfl
 |true=>exact absurd ((iX a b).1 hq) h
theorem eqL_decide{α:Type}[DecidableEq α](a b:List α):eqL a b=decide (a=b):=by
 by_cases h:a=b
 ·rw[gQ h,decide_eq_true h]
 rw[dH h,decide_eq_false h]
def RsT(d:Nat):Prop:=∀(x y:Ty)(N N':Nat->Prop)(cx cy:List Value)(w:World),bL x<=d->eX N w x cx->eX N' w y cy->
 Calls Tryz.prog 33 #[.agg cx.toArray,.agg cy.toArray] w fun e w'=>e=.returned (.bool (iP x y))/\Below w.heap.size w w'
theorem rfields_of(a b:List Fld){d:Nat}(hD:RsT d)(hp:∀x∈a,bL x.2<=d){N N':Nat->Prop}{va vb:Value}{w:World}(ha:aO 3 eH N w va a)(hb:aO 3 eH N' w vb b):
  Calls Tryz.prog 56 #[va,vb] w fun e w'=>e=.returned (.bool (eqL a b))/\Below w.heap.size w w':=by
 obtain⟨aa,ca,rfl,vD,vC,qB⟩:=ha.at;obtain⟨ab,cb,rfl,AV,FA,pK⟩:=hb.at;have HA:=zh qB;have HB:=zh pK;have HD:=zh hD;have BD:=zh hp;clear hD hp;clear qB pK ha hb;by_cases hl:a.length=b.length
 ·have HL:=zh hl;rw[<-hl] at AV ⊢;clear hl;go_enter Tryz.func56,Tryz.ntmps56;go_wp2_with fail;go_loopw [5] (fun iv wr=>∃q:Nat,q<=a.length/\iv=.int .i64 (q:Int)/\Hid (Below w.heap.size w wr)/\Hid (a.take q=b.take q)) (fun iv _=>a.length-(intOf iv).toNat)
  case atStart=>exact⟨0,Nat.zero_le _,rfl,zh (Below.refl _ _),zh rfl⟩
  case round=>
   obtain⟨q,hq,rfl,HW,HT⟩:=hrel;(rename World=>wr);by_cases pS:q<a.length
   ·obtain⟨x,hx,-⟩:=getElem?_of_lt pS;obtain⟨y,hy,-⟩:=getElem?_of_lt (show q<b.length by rw[<-HL.out];exact pS);have sL:(0:Int)<=(q:Int)/\(q:Int)<(a.length:Int):=VS;have HX:=zh hx;have HY:=zh hy;obtain⟨n1,x⟩:=x;obtain⟨n2,y⟩:=y;obtain⟨b1,o1,rfl,-,uG,⟨K0,rfl,-,qF⟩,-,pO⟩:=HA.out q (n1,x) hx;obtain⟨b2,o2,rfl,-,zA,⟨ct2,rfl,-,rL⟩,-,qL⟩:=HB.out q (n2,y) hy;obtain⟨k1,i1,j1,z1,rfl⟩:=cI qF;obtain⟨k2,i2,j2,z2,rfl⟩:=cI rL;have rG:wr.cell? ⟨b1,o1+q*3,none⟩=some (.string n1):=aB HW.out (pO 0 _ rfl);have rF:wr.cell? ⟨b1,o1+q*3+1,none⟩=some (.int .i64 k1):=aB HW.out (pO 1 _ rfl);have rI:wr.cell? ⟨b1,o1+q*3+1+1,none⟩=some (.slice i1 j1 z1):=aB HW.out (pO 2 _ rfl);have vS:wr.cell? ⟨b2,o2+q*3,none⟩=some (.string n2):=aB HW.out (qL 0 _ rfl);have vZ:wr.cell? ⟨b2,o2+q*3+1,none⟩=some (.int .i64 k2):=aB HW.out (qL 1 _ rfl);have vY:wr.cell? ⟨b2,o2+q*3+1+1,none⟩=some (.slice i2 j2 z2):=aB HW.out (qL 2 _ rfl);have vE:=zh (fun W(hb:Below wr.heap.size wr W)=>HD.out x y N N' _ _ W (BD.out (n1,x) (List.mem_of_getElem? hx)) (cB _ _ _ _ _ _ (aK.later (aA HW.out hb)) qF) (cB _ _ _ _ _ _ (aK.later (aA HW.out hb)) rL));have zQ:=zh (oQ x y);clear pO qL hx hy qF rL;by_cases he:n1=n2
    ·subst he;go_wp2_with fail;refine wp_region_held_drew (S:=fun W=>Below wr.heap.size wr W) VT (aE wr) fun hS=>?_;refine zq 0 (.slice (some ⟨b1,o1,none⟩) a.length ca) rfl ?_;refine zq 1 (.int .i64 (q:Int)) rfl ?_;refine zq 2 (.pointer (some ⟨b1,o1+q*3,none⟩)) rfl ?_;refine zq 3 (.pointer (some ⟨b1,o1+q*3,none⟩)) rfl ?_;refine zt 4 (.string n1) rfl (fun W hW=>YQ) ?_;refine zq 5 (.slice (some ⟨b2,o2,none⟩) a.length cb) rfl ?_;refine zq 6 (.int .i64 (q:Int)) rfl ?_;refine zq 7 (.pointer (some ⟨b2,o2+q*3,none⟩)) rfl ?_;refine zq 8 (.pointer (some ⟨b2,o2+q*3,none⟩)) rfl ?_;refine zt 9 (.string n1) rfl (fun W hW=>by have q0:=aB hW vS;go_simp) ?_;refine zq 10 (.bool false) rfl ?_;refine zq 11 (.bool false) rfl ?_;refine zq 12 (.slice (some ⟨b1,o1,none⟩) a.length ca) rfl ?_;refine zq 13 (.int .i64 (q:Int)) rfl ?_;refine zq 14 (.pointer (some ⟨b1,o1+q*3,none⟩)) rfl ?_;refine zq 15 (.pointer (some ⟨b1,o1+q*3+1,none⟩)) rfl ?_;refine zt 16 (.agg #[.int .i64 k1,.slice i1 j1 z1]) rfl (fun W hW=>YK) ?_;refine zq 17 (.slice (some ⟨b2,o2,none⟩) a.length cb) rfl ?_;refine zq 18 (.int .i64 (q:Int)) rfl ?_;refine zq 19 (.pointer (some ⟨b2,o2+q*3,none⟩)) rfl ?_;refine zq 20 (.pointer (some ⟨b2,o2+q*3+1,none⟩)) rfl ?_;refine zt 21 (.agg #[.int .i64 k2,.slice i2 j2 z2]) rfl (fun W hW=>by have q0:=aB hW vZ;have q1:=aB hW vY;go_simp) ?_;(try simp only[zn]);refine zr 22 rfl (fun K hK=>?_);(try simp only[z1,z2,z3]);go_simp;refine(vE.out _ (aE wr)).mono ?_;rintro e w8 ⟨rfl,rU⟩;have qM:=aA (aE wr) rU;refine hK.out _ _ qM (fun hS=>?_);clear hK K;(try simp only[zn]);generalize iP x y=sr at *;refine zq 23 (.bool (!sr)) rfl ?_;refine zq 24 (.bool (!sr)) rfl ?_;(try simp only[zn]);refine wpAnyH_done VT ?_ _;have rR:=zh (aA HW.out qM);clear hS qM rU vE rG rF rI vS vZ vY
     cases sr with
     |true=>
      have uF:=zh (jF HX.out HY.out HT.out (by rw[zQ.out.1 rfl]));exact SH
     |false=>
      have HE:Hid (eqL a b=false):=zh (dH (nQ HX.out HY.out (fun e=>by cases e;have:=zQ.out.2 rfl;cases this)));go_wp2_with fail;go_ret;exact⟨aF X8,rR.out⟩
    have pP:(n1.toList==n2.toList)=false:=iS he;(have hne2:(n1.toList != n2.toList)=true:=by rw[bne,pP];rfl);have HE:Hid (eqL a b=false):=zh (dH (nQ HX.out HY.out (fun e=>he (by cases e;rfl))));clear he;go_wp2_with fail;refine wp_region_held_drew (S:=fun W=>Below wr.heap.size wr W) VT (aE wr) fun hS=>?_;refine zq 0 (.slice (some ⟨b1,o1,none⟩) a.length ca) rfl ?_;refine zq 1 (.int .i64 (q:Int)) rfl ?_;refine zq 2 (.pointer (some ⟨b1,o1+q*3,none⟩)) rfl ?_;refine zq 3 (.pointer (some ⟨b1,o1+q*3,none⟩)) rfl ?_;refine zt 4 (.string n1) rfl (fun W hW=>YQ) ?_;refine zq 5 (.slice (some ⟨b2,o2,none⟩) a.length cb) rfl ?_;refine zq 6 (.int .i64 (q:Int)) rfl ?_;refine zq 7 (.pointer (some ⟨b2,o2+q*3,none⟩)) rfl ?_;refine zq 8 (.pointer (some ⟨b2,o2+q*3,none⟩)) rfl ?_;refine zt 9 (.string n2) rfl (fun W hW=>by have q0:=aB hW vS;go_simp) ?_;refine zq 10 (.bool true) rfl ?_;refine zq 11 (.bool true) rfl ?_;refine zu 12 rfl ?_;refine zu 13 rfl ?_;refine zu 14 rfl ?_;refine zu 15 rfl ?_;refine zu 16 rfl ?_;refine zu 17 rfl ?_;refine zu 18 rfl ?_;refine zu 19 rfl ?_;refine zu 20 rfl ?_;refine zu 21 rfl ?_;refine zu 22 rfl ?_;refine zu 23 rfl ?_;refine zq 24 (.bool true) rfl ?_;(try simp only[zn]);refine wpAnyH_done VT ?_ _;go_wp2_with fail;go_ret;exact⟨aF X8,HW.out.drew⟩
   exact SP
 have HE:Hid (eqL a b=false):=zh (dH (fun e=>hl (by rw[e])));have yF:((a.length:Int)==(b.length:Int))=false:=V7;go_enter Tryz.func56,Tryz.ntmps56;exact TQ
theorem rtype_step(d:Nat)(hD:RsT d):RsT (d+1):=by
 rintro⟨k,fs⟩ ⟨k',fs'⟩ N N' cx cy w hd hx hy;have hR:iP (.mk k fs) (.mk k' fs')=(decide (k=k')&&eO fs fs'):=by rw[iP]
 rw[dY] at hx hy;obtain⟨v1,rfl,hn⟩:=hx;obtain⟨v2,rfl,zY⟩:=hy;obtain⟨a1,c1,rfl,-⟩:=id hn;obtain⟨zB,xC,rfl,-⟩:=id zY;have wJ:=aA (aC w (dT k a1 fs.length c1)) (aC (w.alloc (dT k a1 fs.length c1)) (dT k' zB fs'.length xC));have pK:=zh wJ;have tK:=aD (aC (w.alloc (dT k a1 fs.length c1)) (dT k' zB fs'.length xC)) (bY w (dT k a1 fs.length c1));have qX:=bY (w.alloc (dT k a1 fs.length c1)) (dT k' zB fs'.length xC);rw[show(w.alloc (dT k a1 fs.length c1)).heap.size=w.heap.size+1 by simp] at qX;obtain⟨⟨x0,x1⟩,-⟩:=bx2 tK;obtain⟨⟨y0,y1⟩,-⟩:=bx2 qX
 have HE:=zh (fun W(hb:Below w.heap.size w W)=>rfields_of fs fs' hD (fun x hx=>by
  have h1:=gO fs x hx;rw[bL] at hd
  omega) (w:=W) (hn.moves aS (aK.later hb) VU) (zY.moves aS (aK.later hb) VU))
 have JY:Hid (eqL fs fs'=eO fs fs'):=zh (lC fs fs');clear hn zY hD hd wJ tK qX;have HR:=zh hR;clear hR;generalize iP (.mk k fs) (.mk k' fs')=rr at *;rw[JY.out] at HE;clear JY;generalize eO fs fs'=q5 at *;generalize fs.length=l1 at *;generalize fs'.length=l2 at *;by_cases h1:k=k'
 ·subst h1;have sS:Hid (rr=q5):=zh WC;clear HR;go_enter Tryz.func33,Tryz.ntmps33;go_wp2_with(go_at_call 56;refine(HE.out _ pK.out).mono ?_;rintro e w3 ⟨rfl,pR⟩);go_ret;exact⟨aF (by rw[sS.out]),aA pK.out pR⟩
 have g:(k==k')=false:=beq_eq_false_iff_ne.2 h1;go_enter Tryz.func33,Tryz.ntmps33;exact TL
theorem levels_pos(x:Ty):0<bL x:=by cases x;rw[bL];omega
theorem rsT_all:∀d,RsT d
 |0=>fun x y N N' cx cy w h=>YX
 |d+1=>rtype_step d (rsT_all d)
theorem rtype_any(x y:Ty){N N':Nat->Prop}{cx cy:List Value}{w:World}(hx:eX N w x cx)(hy:eX N' w y cy):
  Calls Tryz.prog 33 #[.agg cx.toArray,.agg cy.toArray] w fun e w'=>e=.returned (.bool (iP x y))/\Below w.heap.size w w':=rsT_all _ x y N N' cx cy w (Nat.le_refl _) hx hy
theorem rfields_any(a b:List Fld){N N':Nat->Prop}{va vb:Value}{w:World}(ha:aO 3 eH N w va a)(hb:aO 3 eH N' w vb b):
  Calls Tryz.prog 56 #[va,vb] w fun e w'=>e=.returned (.bool (eqL a b))/\Below w.heap.size w w':=rfields_of a b (rsT_all _) (fun x hx=>gO a x hx) ha hb
theorem R2{p:Prop}(h:p:=by
 go_loopw [4] (fun iv wr=>∃q:Nat,q<=xs.length/\iv=.int .i64 (q:Int)/\Hid (Below (w.alloc (aH op n s m a1 ns.length c1 a2 xs.length c2)).heap.size (w.alloc (aH op n s m a1 ns.length c1 a2 xs.length c2)) wr)/\Hid (∀y∈xs.take q,shX y)) (fun iv _=>xs.length-(intOf iv).toNat)
 case atStart=>exact⟨0,Nat.zero_le _,rfl,HW,zh VY⟩
 case round=>
  clear HW hq;obtain⟨q,hq,rfl,HW,HT⟩:=hrel;rename World=>wr
  have pW:=aD HW.out HX.out;clear x0 x1 x2 x3 x4 x5;obtain⟨⟨x0,x1,x2,x3,x4,x5⟩,-⟩:=bx6 pW;clear pW;by_cases pS:q<xs.length
  ·obtain⟨x,hx,-⟩:=getElem?_of_lt pS;have sL:(0:Int)<=(q:Int)/\(q:Int)<(xs.length:Int):=VS;have uT:=zh hx;obtain⟨b1,o1,rfl,-,uG,qF,-,pO⟩:=HA.out q x hx;obtain⟨rW,n1,s1,m1,i1,j1,k1,u1,z1,t1,rfl⟩:=wX_form qF;have rG:wr.cell? ⟨b1,o1+q*6,none⟩=some (.int .i64 rW):=aB (aA pK.out HW.out) (pO 0 _ rfl);have rF:=aB (aA pK.out HW.out) (pO 1 _ rfl);have rI:=aB (aA pK.out HW.out) (pO 2 _ rfl);have sG:=aB (aA pK.out HW.out) (pO 3 _ rfl);have sF:=aB (aA pK.out HW.out) (pO 4 _ rfl);have sD:=aB (aA pK.out HW.out) (pO 5 _ rfl);have vE:=zh (fun W(hb:Below wr.heap.size wr W)=>HD.out x N _ W (BD.out x (List.mem_of_getElem? hx)) (oK _ _ _ _ _ _ (aK.later (aA (aA pK.out HW.out) hb)) qF));clear pO hx qF;go_wp2_with fail;refine(vE.out _ (Below.refl _ _)).mono ?_;rintro e w8 ⟨⟨sr,rfl,ES⟩,qM⟩;have rR:=zh (aA HW.out qM);clear qM vE rG rF rI sG sF sD x0 x1 x2 x3 x4 x5
   cases sr with
   |true=>
    have uF:=zh (iK uT.out HT.out (ES rfl));clear ES;go_wp2_with fail;go_roundw;(case rel=>exact⟨q+1,VS,WH,rR,uF⟩);case measure=>simp[intOf];omega
   |false=>
    go_wp2_with fail;go_ret;exact⟨⟨false,rfl,fun h=>WV⟩,aA pK.out rR.out⟩
  have HF:=zh (lZ HT.out VS);by_cases g1:s.size<=30
  ·have g1':(s.size:Int)<=30:=VS;by_cases g2:m.size<=30
   ·have g2':(m.size:Int)<=30:=VS;have HR:Hid (shX (.mk op n s m ns xs)):=zh (by unfold shX;exact⟨g1,g2,(shXs_iff xs).2 HF.out⟩);clear g1 g2;by_cases g3:(ns.length:Int)<=12
    ·go_wp2_with fail;go_ret;exact⟨⟨true,rfl,fun _=>HR.out⟩,aA pK.out HW.out⟩
    go_wp2_with fail;go_ret;exact⟨⟨false,rfl,fun h=>WV⟩,aA pK.out HW.out⟩
   have g2':¬(m.size:Int)<=30:=VS;clear g1 g2;go_wp2_with fail;go_ret;exact⟨⟨false,rfl,fun h=>WV⟩,aA pK.out HW.out⟩
  have g1':¬(s.size:Int)<=30:=VS;clear g1;go_wp2_with fail;go_ret
  exact⟨⟨false,rfl,fun h=>WV⟩,aA pK.out HW.out⟩):p:=h
theorem SM{p:Prop}(h:p:=by
 go_wp2_with fail;go_ret
 exact⟨⟨false,rfl,fun h=>WV⟩,aA pK.out HW.out⟩):p:=h
theorem UK{p:Prop}(h:p:=by
 go_wp2_with fail;go_ret
 exact⟨⟨k,rfl,LP,GV⟩,aA pK.out HW.out⟩):p:=h
theorem U5{p:Prop}(h:p:=by
 go_wp2_with fail;go_roundw;case rel=>exact⟨q+1,k+r,VS,WH,rfl,VS,VS,rR⟩
 case measure=>simp[intOf];omega):p:=h
theorem VA{p:Prop}(h:p:=by
 rintro e w3 ⟨⟨b,rfl,hb⟩,pR⟩;have HB:=zh hb;clear hb;go_wp2_with fail;go_ret
 exact⟨⟨b,rfl,HB.out⟩,aA pQ.out pR⟩):p:=h
theorem VP{p:Prop}(h:p:=by
 go_wp2_with fail;go_roundw;case rel=>exact⟨q+1,VS,WH,HW⟩
 case measure=>simp[intOf];omega):p:=h
structure SaysB (P:Prop) (e:Ending):Prop where
 out:∃b:Bool,e=.returned (.bool b)/\(b=true->P)
theorem dK{x:Int}(h1: -9223372036854775808<=x)(h2:x<=9223372036854775807):IntKind.i64.wrap x=x:=by
 simp only[IntKind.wrap_i64];omega
theorem iK{α:Type}{P:α->Prop}{l:List α}{q:Nat}{x:α}(hx:l[q]? =some x)(ht:∀y∈l.take q,P y)(hp:P x):∀y∈l.take (q+1),P y:=by
 rw[List.take_add_one,hx];intro y hy;rcases List.mem_append.1 hy with h|h
 ·exact ht y h
 have h':y=x:=XE;rw[h'];exact hp
theorem lZ{α:Type}{P:α->Prop}{l:List α}{q:Nat}(ht:∀y∈l.take q,P y)(hq:l.length<=q):∀y∈l,P y:=by
 rw[List.take_of_length_le hq] at ht;exact ht
def NoX(d:Nat):Prop:=∀(x:Xp)(N:Nat->Prop)(cx:List Value)(w:World)(most:Int),0<=most->most<=1000->bI x<=d->wX N w x cx->
 Calls Tryz.prog 96 #[.agg cx.toArray,.int .i64 most] w fun e w'=>(∃r:Int,e=.returned (.int .i64 r)/\1<=r/\r<=most+1)/\Below w.heap.size w w'
theorem nodes_step(d:Nat)(hD:NoX d):NoX (d+1):=by
 rintro⟨op,n,s,m,ns,xs⟩ N cx w most zZ AN hd hx;rw[wX_iff] at hx;obtain⟨v1,v2,rfl,rX,uW,hn,ha⟩:=hx;obtain⟨a1,c1,rfl,AV,FA,OL⟩:=hn.at;obtain⟨a2,c2,rfl,vD,vC,qB⟩:=ha.at;have HA:=zh qB;have HN:=zh OL;have HD:=zh hD
 have BD:Hid (∀x∈xs,bI x<=d):=zh (fun x hx=>by
  have h1:=iA xs x hx;rw[bI] at hd
  omega)
 have pK:=zh (aC w (aH op n s m a1 ns.length c1 a2 xs.length c2));have HX:=zh (bY w (aH op n s m a1 ns.length c1 a2 xs.length c2));have hX:=HX.out;obtain⟨⟨x0,x1,x2,x3,x4,x5⟩,-⟩:=bx6 hX;clear hX qB OL ha hn hD hd;go_enter Tryz.func96,Tryz.ntmps96;go_wp2_with fail;go_loopw [5,6] (fun nv iv wr=>∃(q:Nat)(k:Int),q<=xs.length/\iv=.int .i64 (q:Int)/\nv=.int .i64 k/\1<=k/\k<=most+1/\Hid (Below (w.alloc (aH op n s m a1 ns.length c1 a2 xs.length c2)).heap.size (w.alloc (aH op n s m a1 ns.length c1 a2 xs.length c2)) wr)) (fun _ iv _=>xs.length-(intOf iv).toNat)
 case atStart=>exact⟨0,1,Nat.zero_le _,rfl,rfl,VS,VS,zh (Below.refl _ _)⟩
 case round=>
  obtain⟨q,k,hq,rfl,rfl,LP,GV,HW⟩:=hrel;rename World=>wr
  have pW:=aD HW.out HX.out;clear x0 x1 x2 x3 x4 x5;obtain⟨⟨x0,x1,x2,x3,x4,x5⟩,-⟩:=bx6 pW;clear pW;by_cases pS:q<xs.length
  ·by_cases hk:k<=most
   ·obtain⟨x,hx,-⟩:=getElem?_of_lt pS;have sL:(0:Int)<=(q:Int)/\(q:Int)<(xs.length:Int):=VS;have uT:=zh hx;obtain⟨b1,o1,rfl,-,uG,qF,-,pO⟩:=HA.out q x hx;obtain⟨rW,n1,s1,m1,i1,j1,k1,u1,z1,t1,rfl⟩:=wX_form qF;have rG:wr.cell? ⟨b1,o1+q*6,none⟩=some (.int .i64 rW):=aB (aA pK.out HW.out) (pO 0 _ rfl);have rF:=aB (aA pK.out HW.out) (pO 1 _ rfl);have rI:=aB (aA pK.out HW.out) (pO 2 _ rfl);have sG:=aB (aA pK.out HW.out) (pO 3 _ rfl);have sF:=aB (aA pK.out HW.out) (pO 4 _ rfl);have sD:=aB (aA pK.out HW.out) (pO 5 _ rfl);have gw1:IntKind.i64.wrap (most-k)=most-k:=dK VS VS;have vE:=zh (fun W(hb:Below wr.heap.size wr W)=>HD.out x N _ W (most-k) VS VS (BD.out x (List.mem_of_getElem? hx)) (oK _ _ _ _ _ _ (aK.later (aA (aA pK.out HW.out) hb)) qF));clear pO hx qF;go_wp2_with fail;refine(vE.out _ (Below.refl _ _)).mono ?_;rintro e w8 ⟨⟨r,rfl,FC,zK⟩,qM⟩;have gw2:IntKind.i64.wrap (k+r)=k+r:=dK VS VS;have rR:=zh (aA HW.out qM);clear qM vE rG rF rI sG sF sD x0 x1 x2 x3 x4 x5;exact U5
   exact UK
  exact UK
theorem noX_all:∀d,NoX d
 |0=>fun x N cx w most _ _ h=>Y3
 |d+1=>nodes_step d (noX_all d)
def ShX(d:Nat):Prop:=∀(x:Xp)(N:Nat->Prop)(cx:List Value)(w:World),bI x<=d->wX N w x cx->
 Calls Tryz.prog 97 #[.agg cx.toArray] w fun e w'=>SaysB (shX x) e/\Below w.heap.size w w'
theorem short_step(d:Nat)(hD:ShX d):ShX (d+1):=by
 rintro⟨op,n,s,m,ns,xs⟩ N cx w hd hx;rw[wX_iff] at hx;obtain⟨v1,v2,rfl,rX,uW,hn,ha⟩:=hx;obtain⟨a1,c1,rfl,AV,FA,OL⟩:=hn.at;obtain⟨a2,c2,rfl,vD,vC,qB⟩:=ha.at;have HA:=zh qB;have HN:=zh OL;have HD:=zh hD
 have BD:Hid (∀x∈xs,bI x<=d):=zh (fun x hx=>by
  have h1:=iA xs x hx;rw[bI] at hd
  omega)
 have pK:=zh (aC w (aH op n s m a1 ns.length c1 a2 xs.length c2));have HX:=zh (bY w (aH op n s m a1 ns.length c1 a2 xs.length c2));have hX:=HX.out;obtain⟨⟨x0,x1,x2,x3,x4,x5⟩,-⟩:=bx6 hX;clear hX qB OL ha hn hD hd;go_enter Tryz.func97,Tryz.ntmps97;go_wp2_with fail;go_loopw [3] (fun iv wr=>∃q:Nat,q<=ns.length/\iv=.int .i64 (q:Int)/\Hid (Below (w.alloc (aH op n s m a1 ns.length c1 a2 xs.length c2)).heap.size (w.alloc (aH op n s m a1 ns.length c1 a2 xs.length c2)) wr)) (fun iv _=>ns.length-(intOf iv).toNat)
 case atStart=>exact⟨0,Nat.zero_le _,rfl,zh (Below.refl _ _)⟩
 case round=>
  obtain⟨q,hq,rfl,HW⟩:=hrel;rename World=>wr
  have pW:=aD HW.out HX.out;clear x0 x1 x2 x3 x4 x5;obtain⟨⟨x0,x1,x2,x3,x4,x5⟩,-⟩:=bx6 pW;clear pW;by_cases pS:q<ns.length
  ·by_cases hk:(q:Int)<=12
   ·obtain⟨x,hx,-⟩:=getElem?_of_lt pS;have sL:(0:Int)<=(q:Int)/\(q:Int)<(ns.length:Int):=VS;obtain⟨b1,o1,rfl,-,uG,⟨rfl,-⟩,-,pO⟩:=HN.out q x hx;(have p0:wr.cell? ⟨b1,o1+q,none⟩=some (.string x):=by have h:=aB (aA pK.out HW.out) (pO 0 _ rfl);simpa using h);clear pO hx;by_cases hz:(30:Int)<(x.size:Int)
    ·exact SM
    exact VP
   go_wp2_with fail;clear pS hk;exact R2
  go_wp2_with fail;exact R2
theorem shX_all:∀d,ShX d
 |0=>fun x N cx w h=>Y3
 |d+1=>short_step d (shX_all d)
theorem nodes_any(x:Xp){N:Nat->Prop}{cx:List Value}{w:World}(most:Int)(h0:0<=most)(h1:most<=1000)(hx:wX N w x cx):
  Calls Tryz.prog 96 #[.agg cx.toArray,.int .i64 most] w fun e w'=>(∃r:Int,e=.returned (.int .i64 r)/\1<=r/\r<=most+1)/\Below w.heap.size w w':=noX_all _ x N cx w most h0 h1 (Nat.le_refl _) hx
theorem short_any(x:Xp){N:Nat->Prop}{cx:List Value}{w:World}(hx:wX N w x cx):
  Calls Tryz.prog 97 #[.agg cx.toArray] w fun e w'=>SaysB (shX x) e/\Below w.heap.size w w':=shX_all _ x N cx w (Nat.le_refl _) hx
theorem fewExp_any(x:Xp){N:Nat->Prop}{cx:List Value}{w:World}(hx:wX N w x cx):
  Calls Tryz.prog 35 #[.agg cx.toArray] w fun e w'=>SaysB (shX x) e/\Below w.heap.size w w':=by
 obtain⟨op,n,s,m,i1,j1,k1,u1,z1,t1,rfl⟩:=wX_form hx;have pK:=zh (aC w (aH op n s m i1 j1 k1 u1 z1 t1));have HX:=zh (bY w (aH op n s m i1 j1 k1 u1 z1 t1));have hX:=HX.out;obtain⟨⟨x0,x1,x2,x3,x4,x5⟩,-⟩:=bx6 hX;have HE:=zh (fun W(hb:Below w.heap.size w W)=>oK _ _ _ _ _ _ (aK.later hb) hx);clear hX hx;go_enter Tryz.func35,Tryz.ntmps35;go_wp2_with fail;refine(nodes_any x 120 VU VU (HE.out _ pK.out)).mono ?_;rintro e w2 ⟨⟨r,rfl,FC,zK⟩,pM⟩;have pW:=aD pM HX.out;clear x0 x1 x2 x3 x4 x5;obtain⟨⟨x0,x1,x2,x3,x4,x5⟩,-⟩:=bx6 pW;have pQ:=zh (aA pK.out pM);clear pW pM;by_cases hr:r<=120
 ·go_wp2_with fail;refine(short_any x (HE.out _ pQ.out)).mono ?_;exact VA
 go_wp2_with fail;go_ret;exact⟨⟨false,rfl,fun h=>WV⟩,pQ.out⟩
def PaT(d:Nat):Prop:=∀(x:Ty)(N:Nat->Prop)(cx:List Value)(w:World)(most:Int),0<=most->most<=1000->bL x<=d->wT N w x cx->
 Calls Tryz.prog 147 #[.agg cx.toArray,.int .i64 most] w fun e w'=>(∃r:Int,e=.returned (.int .i64 r)/\1<=r/\r<=most+1)/\Below w.heap.size w w'
theorem parts_step(d:Nat)(hD:PaT d):PaT (d+1):=by
 rintro⟨kd,fs⟩ N cx w most zZ AN hd hx;rw[wT_iff] at hx;obtain⟨v1,rfl,hn⟩:=hx;obtain⟨a1,c1,rfl,vD,vC,qB⟩:=hn.at;have HA:=zh qB;have HD:=zh hD
 have BD:Hid (∀x∈fs,bL x.2<=d):=zh (fun x hx=>by
  have h1:=gO fs x hx;rw[bL] at hd
  omega)
 have pK:=zh (aC w (dT kd a1 fs.length c1));have HX:=zh (bY w (dT kd a1 fs.length c1));have hX:=HX.out;obtain⟨⟨x0,x1⟩,-⟩:=bx2 hX;clear hX qB hn hD hd;go_enter Tryz.func147,Tryz.ntmps147;go_wp2_with fail;go_loopw [5,6] (fun nv iv wr=>∃(q:Nat)(k:Int),q<=fs.length/\iv=.int .i64 (q:Int)/\nv=.int .i64 k/\1<=k/\k<=most+1/\Hid (Below (w.alloc (dT kd a1 fs.length c1)).heap.size (w.alloc (dT kd a1 fs.length c1)) wr)) (fun _ iv _=>fs.length-(intOf iv).toNat)
 case atStart=>exact⟨0,1,Nat.zero_le _,rfl,rfl,VS,VS,zh (Below.refl _ _)⟩
 case round=>
  obtain⟨q,k,hq,rfl,rfl,LP,GV,HW⟩:=hrel;rename World=>wr
  have pW:=aD HW.out HX.out;clear x0 x1;obtain⟨⟨x0,x1⟩,-⟩:=bx2 pW;clear pW;by_cases pS:q<fs.length
  ·by_cases hk:k<=most
   ·obtain⟨x,hx,-⟩:=getElem?_of_lt pS;have sL:(0:Int)<=(q:Int)/\(q:Int)<(fs.length:Int):=VS;have uT:=zh hx;obtain⟨nm,x⟩:=x;obtain⟨b1,o1,rfl,-,uG,⟨K0,rfl,FI,qF⟩,-,pO⟩:=HA.out q (nm,x) hx;obtain⟨k1,i1,j1,z1,rfl⟩:=wT_form qF;have rG:wr.cell? ⟨b1,o1+q*3,none⟩=some (.string nm):=aB (aA pK.out HW.out) (pO 0 _ rfl);have rF:wr.cell? ⟨b1,o1+q*3+1,none⟩=some (.int .i64 k1):=aB (aA pK.out HW.out) (pO 1 _ rfl);have rI:wr.cell? ⟨b1,o1+q*3+1+1,none⟩=some (.slice i1 j1 z1):=aB (aA pK.out HW.out) (pO 2 _ rfl);have gw1:IntKind.i64.wrap (most-k)=most-k:=dK VS VS;have vE:=zh (fun W(hb:Below wr.heap.size wr W)=>HD.out x N _ W (most-k) VS VS (BD.out (nm,x) (List.mem_of_getElem? hx)) (wT_ok _ _ _ _ _ _ (aK.later (aA (aA pK.out HW.out) hb)) qF));clear pO hx qF;go_wp2_with fail;refine(vE.out _ (Below.refl _ _)).mono ?_;rintro e w8 ⟨⟨r,rfl,FC,zK⟩,qM⟩;have gw2:IntKind.i64.wrap (k+r)=k+r:=dK VS VS;have rR:=zh (aA HW.out qM);clear qM vE rG rF rI x0 x1;exact U5
   exact UK
  exact UK
theorem paT_all:∀d,PaT d
 |0=>fun x N cx w most _ _ h=>YX
 |d+1=>parts_step d (paT_all d)
end Go.Proofs.YtiionicikdnnpaaGreatDoor
