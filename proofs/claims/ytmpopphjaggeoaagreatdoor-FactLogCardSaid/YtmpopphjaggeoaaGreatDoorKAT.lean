/- Texts of this seat, joined. -/
import Derived.Test.YtmpopphjaggeoaaGreatDoorKAL
import Derived.Stop.LaidErr
import Derived.Test.YtmpopphjaggeoaaGreatDoorCardG
set_option maxHeartbeats 4000000
set_option maxRecDepth 100000
set_option linter.unusedVariables false
set_option linter.unusedSimpArgs false
set_option linter.constructorNameAsVariable false
namespace Go.Proofs.YtmpopphjaggeoaaGreatDoor
open Go.ChangeShapes Go.WideShapes Go.ChangeAt Go.RowKit
theorem err_star: "*" ++ "errors.errorString" = "*errors.errorString" :=CX
theorem err_row(u:TypeId)(h:Tryz.prog.typeName? 3 u=some "*errors.errorString"):u=366:=
 typeName_ptr_named (nm:= "errors.errorString") (by rw[err_star];kernel_rfl) CQ CX u (by rw[err_star];exact h)
theorem err_of{W:World}(hL:laidMetH Tryz.prog dV W):ErrV W:=by
 rw[seat_plain] at hL;have h4:=laidMet.tail (laidMet.tail (laidMet.tail (laidMet.tail hL)));obtain⟨a,s,h1,-⟩:=laid_sentinel h4 (g:=5) (ti:=133) CQ CQ Tryz.underlying133 err_row Tryz.underlying366 Tryz.underlying368 rfl rfl Tryz.underlying9 CQ CQ;obtain⟨b,u,h2,-⟩:=laid_sentinel (laidMet.tail h4) (g:=4) (ti:=133) CQ CQ Tryz.underlying133 err_row Tryz.underlying366 Tryz.underlying368 rfl rfl Tryz.underlying9 CQ CQ;exact⟨⟨_,_,h2⟩,_,_,h1⟩
end Go.Proofs.YtmpopphjaggeoaaGreatDoor
namespace Go.Proofs.YtmpopphjaggeoaaGreatDoor
open Go.ChangeShapes Go.WideShapes Go.ChangeAt Go.RowKit Go.Deep Go.Joins
section
variable {H:Type} {enc:TypeId×Value->H} {W:World} {n:Nat}
theorem fld_ver{a b c:Value}{y:DataW H×List MemPlace}(h:DataW.trod enc Tryz.prog W 0 (fun _=>true) true n 23 [a,b,c]=some y)(hz:(y.1.weights Tryz.prog 23).all (· <=reachBytes)=true):∃v:Ver,[a,b,c]=verC v:=by
 obtain⟨m,hm,-,hf⟩:=dP Tryz.underlying23 h hz;obtain⟨z0,t0,w0⟩:=hf 0 _ rfl;obtain⟨z1,t1,w1⟩:=hf 1 _ rfl;obtain⟨z2,t2,w2⟩:=hf 2 _ rfl;obtain⟨x0,rfl,-⟩:=eH (v:=a) CQ t0;obtain⟨x1,rfl,-⟩:=eH (v:=b) CQ t1;obtain⟨x2,rfl,-⟩:=eH (v:=c) CQ t2;exact⟨⟨x0,x1,x2⟩,rfl⟩
theorem fld_ranges{v:Value}{y:DataW H×List MemPlace}(h:DataW.trod enc Tryz.prog W 0 (fun _=>true) true n 29 [v]=some y)(hz:(y.1.weights Tryz.prog 29).all (· <=reachBytes)=true):
  ∃l:List Rng,aK 6 aW (fun _=>True) W v l:=
 fI aW 6 Tryz.underlying29 CQ CX h hz fun m _ cs y hl ht hw=>by
  obtain⟨m',hm',-,hf⟩:=dP Tryz.underlying115 ht hw
  match cs,hl with
  |[a,b,c,d,e,f],_=>
   obtain⟨z0,t0,w0⟩:=hf 0 _ rfl;obtain⟨z1,t1,w1⟩:=hf 1 _ rfl;obtain⟨lo,e0⟩:=fld_ver (a:=a) (b:=b) (c:=c) t0 w0;obtain⟨hi,e1⟩:=fld_ver (a:=d) (b:=e) (c:=f) t1 w1;exact⟨⟨lo,hi⟩,by show _=verC lo++verC hi;rw[<-e0,<-e1];rfl⟩
theorem fld_keys{v:Value}{y:DataW H×List MemPlace}(h:DataW.trod enc Tryz.prog W 0 (fun _=>true) true n 35 [v]=some y)(hz:(y.1.weights Tryz.prog 35).all (· <=reachBytes)=true):
  ∃l:List Int,aK 1 cQ (fun _=>True) W v l:=
 fI cQ 1 Tryz.underlying35 CQ CX h hz fun m _ cs y hl ht hw=>by
  match cs,hl with
  |[u],_=>
   obtain⟨x,rfl,-⟩:=eH CQ ht;exact⟨x,rfl⟩
theorem fld_needs{v:Value}{y:DataW H×List MemPlace}(h:DataW.trod enc Tryz.prog W 0 (fun _=>true) true n 24 [v]=some y)(hz:(y.1.weights Tryz.prog 24).all (· <=reachBytes)=true):
  ∃l:List Nd,aK 5 cI (fun _=>True) W v l:=
 fI cI 5 Tryz.underlying24 CQ CX h hz fun m _ cs y hl ht hw=>by
  obtain⟨m',hm',-,hf⟩:=dP Tryz.underlying71 ht hw
  match cs,hl with
  |[c0,c1,c2,c3,c4],_=>
   obtain⟨z0,t0,w0⟩:=hf 0 _ rfl;obtain⟨z1,t1,w1⟩:=hf 1 _ rfl;obtain⟨z2,t2,w2⟩:=hf 2 _ rfl;obtain⟨z3,t3,w3⟩:=hf 3 _ rfl;obtain⟨z4,t4,w4⟩:=hf 4 _ rfl;obtain⟨s,rfl,hs⟩:=cK (v:=c0) CQ t0 w0;obtain⟨rs,hrs⟩:=fld_ranges (v:=c1) t1 w1;obtain⟨k,rfl,-⟩:=eH (v:=c2) CQ t2;obtain⟨q,rfl,hq⟩:=cK (v:=c3) CQ t3 w3;obtain⟨fs,hfs⟩:=fld_names (v:=c4) t4 w4;exact⟨{name:=s,ranges:=rs,kind:=k,whn:=q,feats:=fs},_,_,rfl,hs,hq,hrs,hfs⟩
theorem fld_feats{v:Value}{y:DataW H×List MemPlace}(h:DataW.trod enc Tryz.prog W 0 (fun _=>true) true n 25 [v]=some y)(hz:(y.1.weights Tryz.prog 25).all (· <=reachBytes)=true):
  ∃l:List Ft,aK 2 dO (fun _=>True) W v l:=
 fI dO 2 Tryz.underlying25 CQ CX h hz fun m _ cs y hl ht hw=>by
  obtain⟨m',hm',-,hf⟩:=dP Tryz.underlying73 ht hw
  match cs,hl with
  |[c0,c1],_=>
   obtain⟨z0,t0,w0⟩:=hf 0 _ rfl;obtain⟨z1,t1,w1⟩:=hf 1 _ rfl;obtain⟨s,rfl,hs⟩:=cK (v:=c0) CQ t0 w0;obtain⟨fs,hfs⟩:=fld_names (v:=c1) t1 w1;exact⟨{name:=s,implies:=fs},_,rfl,hs,hfs⟩
theorem fld_rel{c0 c1 c2 c3 c4 c5 c6 c7 c8:Value}{y:DataW H×List MemPlace}(h:DataW.trod enc Tryz.prog W 0 (fun _=>true) true n 28 [c0,c1,c2,c3,c4,c5,c6,c7,c8]=some y)(hz:(y.1.weights Tryz.prog 28).all (· <=reachBytes)=true):
  ∃r:Rl,[c0,c1,c2,c3,c4,c5,c6,c7,c8]=rlC r c5 c6 c7/\RlV (fun _=>True) W r c5 c6 c7:=by
 obtain⟨m,hm,-,hf⟩:=dP Tryz.underlying28 h hz;obtain⟨z0,t0,w0⟩:=hf 0 _ rfl;obtain⟨z1,t1,w1⟩:=hf 1 _ rfl;obtain⟨z2,t2,w2⟩:=hf 2 _ rfl;obtain⟨z3,t3,w3⟩:=hf 3 _ rfl;obtain⟨z4,t4,w4⟩:=hf 4 _ rfl;obtain⟨z5,t5,w5⟩:=hf 5 _ rfl;obtain⟨z6,t6,w6⟩:=hf 6 _ rfl;obtain⟨s,rfl,hs⟩:=cK (v:=c0) CQ t0 w0;obtain⟨v,ev⟩:=fld_ver (a:=c1) (b:=c2) (c:=c3) t1 w1;obtain⟨src,rfl,hsrc⟩:=cK (v:=c4) CQ t2 w2;obtain⟨ns,hns⟩:=fld_needs (v:=c5) t3 w3;obtain⟨fs,hfs⟩:=fld_feats (v:=c6) t4 w4;obtain⟨ps,hps⟩:=fld_names (v:=c7) t5 w5;obtain⟨lic,rfl,hlic⟩:=cK (v:=c8) CQ t6 w6;injection ev with e1 ev
 injection ev with e2 ev
 injection ev with e3 ev
 subst e1 e2 e3;exact⟨{name:=s,ver:=v,source:=src,needs:=ns,feats:=fs,plats:=ps,lic:=lic},rfl,hs,hsrc,hlic,hns,hfs,hps⟩
theorem fld_adv{c0 c1 c2 c3 c4 c5 c6 c7 c8 c9:Value}{y:DataW H×List MemPlace}(h:DataW.trod enc Tryz.prog W 0 (fun _=>true) true n 34 [c0,c1,c2,c3,c4,c5,c6,c7,c8,c9]=some y)(hz:(y.1.weights Tryz.prog 34).all (· <=reachBytes)=true):
  ∃(a:Ad)(op k:Int)(s q:bA),[c0,c1,c2,c3,c4,c5,c6,c7,c8,c9]=adC a c2 op k s q c8 c9/\AdV (fun _=>True) W a c2 op k s q c8 c9:=by
 obtain⟨m,hm,-,hf⟩:=dP Tryz.underlying34 h hz;obtain⟨z0,t0,w0⟩:=hf 0 _ rfl;obtain⟨z1,t1,w1⟩:=hf 1 _ rfl;obtain⟨z2,t2,w2⟩:=hf 2 _ rfl;obtain⟨z3,t3,w3⟩:=hf 3 _ rfl;obtain⟨z4,t4,w4⟩:=hf 4 _ rfl;obtain⟨i,rfl,-⟩:=eH (v:=c0) CQ t0;obtain⟨nm,rfl,mS⟩:=cK (v:=c1) CQ t1 w1;obtain⟨rs,hrs⟩:=fld_ranges (v:=c2) t2 w2;obtain⟨fn,rfl,hfn⟩:=cK (v:=c3) CQ t3 w3;obtain⟨x,hx⟩:=read_xp m [c4,c5,c6,c7,c8,c9] _ t4 w4;obtain⟨op,k,s,q,a1,n1,d1,a2,n2,d2,ex⟩:=bI hx;cases ex;exact⟨{id:=i,name:=nm,ranges:=rs,fn:=fn,cond:=x},op,k,s,q,rfl,mS,hfn,hrs,hx⟩
theorem read_fc(cs:List Value)(y:DataW H×List MemPlace)(h:DataW.trod enc Tryz.prog W 0 (fun _=>true) true n 37 cs=some y)(hz:(y.1.weights Tryz.prog 37).all (· <=reachBytes)=true):∃(f:Fc)(p:FcP),cs=fcC f p/\FcV (fun _=>True) W f p:=by
 obtain⟨m,hm,hl,hf⟩:=dP Tryz.underlying37 h hz;rw[show Tryz.prog.cellsOf 37=29 by kernel_rfl] at hl
 match cs,hl with
 |[c0,c1,c2,c3,c4,c5,c6,c7,c8,c9,c10,c11,c12,c13,c14,c15,c16,c17,c18,c19,c20,c21,c22,c23,c24,c25,c26,c27,c28],_=>
  obtain⟨z0,t0,w0⟩:=hf 0 _ rfl;obtain⟨z1,t1,w1⟩:=hf 1 _ rfl;obtain⟨z2,t2,w2⟩:=hf 2 _ rfl;obtain⟨z3,t3,w3⟩:=hf 3 _ rfl;obtain⟨z4,t4,w4⟩:=hf 4 _ rfl;obtain⟨z5,t5,w5⟩:=hf 5 _ rfl;obtain⟨z6,t6,w6⟩:=hf 6 _ rfl;obtain⟨z7,t7,w7⟩:=hf 7 _ rfl;obtain⟨z8,t8,w8⟩:=hf 8 _ rfl;obtain⟨z9,t9,w9⟩:=hf 9 _ rfl;clear hf h hz;obtain⟨k,e0,-⟩:=eH (v:=c0) CQ t0;obtain⟨nm,e1,mS⟩:=cK (v:=c1) CQ t1 w1;obtain⟨v,ev⟩:=fld_ver (a:=c2) (b:=c3) (c:=c4) t2 w2;obtain⟨r,er,hr⟩:=fld_rel (c0:=c5) (c1:=c6) (c2:=c7) (c3:=c8) (c4:=c9) (c5:=c10) (c6:=c11) (c7:=c12) (c8:=c13) t3 w3;obtain⟨a,op,j,s,q,ea,ha⟩:=fld_adv (c0:=c14) (c1:=c15) (c2:=c16) (c3:=c17) (c4:=c18) (c5:=c19) (c6:=c20) (c7:=c21) (c8:=c22) (c9:=c23) t4 w4;obtain⟨ks,vP⟩:=fld_keys (v:=c24) t5 w5;obtain⟨nd,e6,-⟩:=eH (v:=c25) CQ t6;obtain⟨tl,e7,-⟩:=eH (v:=c26) CQ t7;obtain⟨pr,e8,-⟩:=eH (v:=c27) CQ t8;obtain⟨tm,e9,-⟩:=eH (v:=c28) CQ t9;clear t0 t1 t2 t3 t4 t5 t6 t7 t8 t9 w0 w1 w2 w3 w4 w5 w6 w7 w8 w9;refine⟨{kind:=k,name:=nm,ver:=v,rel:=r,adv:=a,keys:=ks,need:=nd,til:=tl,print:=pr,time:=tm},{vn:=c10,vf:=c11,vp:=c12,vr:=c16,op:=op,n:=j,s:=s,m:=q,vs:=c22,va:=c23,vk:=c24},?_,mS,hr,ha,vP⟩
  have h3:[c0,c1]++([c2,c3,c4]++([c5,c6,c7,c8,c9,c10,c11,c12,c13]++([c14,c15,c16,c17,c18,c19,c20,c21,c22,c23]++[c24,c25,c26,c27,c28])))=[.int .i64 k,.string nm]++(verC v++(rlC r c10 c11 c12++(adC a c16 op j s q c22 c23++[c24,.int .i64 nd,.int .i64 tl,.int .i64 pr,.int .i64 tm]))):=by
   rw[ev,er,ea,e0,e1,e6,e7,e8,e9]
  exact h3
theorem read_fact{base:Nat}{v:Value}{d:DataW H}{p:List MemPlace}(kO:Value.okWide Tryz.prog W .any base 37 v)(h:DataW.Trod enc Tryz.prog W 0 (fun _=>true) true 37 v d p)
  (hz:(d.weights Tryz.prog 37).all (· <=reachBytes)=true):∃(f:Fc)(q:FcP),v=.agg (fcC f q).toArray/\FcV (fun _=>True) W f q:=by
 obtain⟨cs,rfl,mO⟩:=okWide_struct Tryz.underlying37 kO;obtain⟨fuel,hf⟩:=h;obtain⟨f,q,e,hv⟩:=read_fc cs.toList (d,p) hf hz;exact⟨f,q,by rw[<-e],hv⟩
theorem read_version{base:Nat}{v:Value}{d:DataW H}{p:List MemPlace}(kO:Value.okWide Tryz.prog W .any base 23 v)(h:DataW.Trod enc Tryz.prog W 0 (fun _=>true) true 23 v d p)
  (hz:(d.weights Tryz.prog 23).all (· <=reachBytes)=true):∃x:Ver,v=.agg #[.int .i64 x.a,.int .i64 x.b,.int .i64 x.c]:=by
 obtain⟨cs,rfl,mO⟩:=okWide_struct Tryz.underlying23 kO;obtain⟨fuel,hf⟩:=h;obtain⟨m,hm,hl,-⟩:=dP Tryz.underlying23 hf hz;rw[show Tryz.prog.cellsOf 23=3 by kernel_rfl] at hl;obtain⟨l⟩:=cs
 match l,hl,hf with
 |[a,b,c],_,hf=>
  obtain⟨x,hx⟩:=fld_ver (a:=a) (b:=b) (c:=c) hf hz;exact⟨x,by rw[hx];rfl⟩
theorem read_facts{base:Nat}{v:Value}{d:DataW H}{p:List MemPlace}(kO:Value.okWide Tryz.prog W .any base 53 v)(h:DataW.Trod enc Tryz.prog W 0 (fun _=>true) true 53 v d p)
  (hz:(d.weights Tryz.prog 53).all (· <=reachBytes)=true):∃l:List Fc,aK 29 encFc (fun _=>True) W v l:=by
 obtain⟨fuel,hf⟩:=h
 exact fI encFc 29 Tryz.underlying53 CQ CX (fuel:=fuel) (x:=(d,p)) (by
  have hc:v.cells.toList=[v]:=by
   obtain⟨a,n,c,rfl⟩:=okWide_slice Tryz.underlying53 kO;rfl
  rw[<-hc];exact hf) hz fun m _ cs y hl ht hw=>by
   obtain⟨f,q,e,hv⟩:=read_fc cs y ht hw;exact⟨f,q,e,hv⟩
end
theorem bounds_b8{x:Int}(hw:(Lit.int .u8 x).wf=true):0<=x/\x<=255:=by
 have h1:(decide (IntKind.u8.min<=x)&&decide (x<=IntKind.u8.max))=true:=hw;rw[Bool.and_eq_true,decide_eq_true_eq,decide_eq_true_eq] at h1;have h2:IntKind.u8.min=0:=CX;have h3:IntKind.u8.max=255:=CX;omega
end Go.Proofs.YtmpopphjaggeoaaGreatDoor
