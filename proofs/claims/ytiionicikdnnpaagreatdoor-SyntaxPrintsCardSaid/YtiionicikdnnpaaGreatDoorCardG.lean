/- Texts of this seat, joined. -/
import Derived.Test.YtiionicikdnnpaaGreatDoorCardC
import Derived.Test.YtiionicikdnnpaaGreatDoorPAC
set_option maxRecDepth 100000
set_option linter.unusedVariables false
set_option linter.unusedSimpArgs false
set_option linter.constructorNameAsVariable false
namespace Go.Proofs.YtiionicikdnnpaaGreatDoor
open Go.ChangeShapes Go.WideShapes Go.ChangeAt Go.RowKit Go.Deep Go.Joins
section
variable {H:Type} {enc:TypeId×Value->H} {P:Program} {w:World}
theorem mR{α:Type}(ec:(Nat->Prop)->World->α->List Value->Prop)(C:Nat){t e:TypeId}{fuel:Nat}{v:Value}{x:DataW H×List MemPlace}(ht:P.underlying t=some (.slice e))(hC:P.cellsOf e=C)(uQ:0<C)
  (h:DataW.trod enc P w 0 (fun _=>true) true fuel t [v]=some x) (hz:(x.1.weights P t).all (· <=reachBytes)=true)
  (hE:∀n,n<fuel->∀(cs:List Value)(y:DataW H×List MemPlace),cs.length=C->DataW.trod enc P w 0 (fun _=>true) true n e cs=some y->(y.1.weights P e).all (· <=reachBytes)=true->∃z:α,ec (fun _=>True) w z cs):
  ∃l:List α,aO C ec (fun _=>True) w v l:=by
 rcases DataW.trod_slice ht h with⟨AB,-⟩|⟨a,len,cap,elems,rest,n,hn,AB,hx,hb,hl,hm,rD,hel,-,-⟩
 ·obtain rfl:v=.slice none 0 0:=by injection AB
  exact⟨[],aO.nil _ _ _ _⟩
 obtain rfl:v=.slice (some a) len cap:=by injection AB
 have hm':cap<=9223372036854775807:=by unfold maxLen at hm;omega
 rcases Nat.eq_zero_or_pos len with h0|hp
 ·subst h0;exact⟨[],some a,cap,rfl,VY,hm',fun h=>absurd rfl h⟩
 subst hx;rw[DataW.weights,ht] at hz;simp only[List.all_cons,List.all_append,Bool.and_eq_true] at hz;have rY:=hz.2.1;rw[hC] at hel
 have each:∀i,i<len->∃(z:α)(cs:List Value),cs.length=C/\ec (fun _=>True) w z cs/\∀j,j<C->w.cell? ((a.add (i*C)).add j)=cs[j]? :=fun i hi=>by
  have he:elems[i]? =some (elems[i]' VS):=List.getElem?_eq_getElem VS;have h1:=hel i hi;rw[he] at h1;obtain⟨cs,hc,htr⟩:=Option.bind_eq_some_iff.1 h1;obtain⟨_,hcl,qW⟩:=World.cells?_some hc;obtain⟨z,LF⟩:=hE n VS cs _ hcl htr (weightsAll_each rY (List.mem_map.2 ⟨_,List.getElem_mem _,rfl⟩));exact⟨z,cs,hcl,LF,qW⟩
 have hplain:a.spot=none:=by
  obtain⟨z,cs,hcl,-,qW⟩:=each 0 hp;have hc:=qW 0 uQ;have hcs0:cs[0]? =some (cs[0]' VS):=List.getElem?_eq_getElem VS;rw[hcs0] at hc
  cases hs:a.spot with
  |none=>rfl
  |some y=>simp[World.cell?,Addr.add,hs] at hc;split at hc<;>simp at hc
 obtain⟨b,o,s⟩:=a;obtain rfl:s=none:=hplain;obtain⟨z0,-⟩:=each 0 hp
 have:∃g:Nat->α,∀i,i<len->∃cs:List Value,cs.length=C/\ec (fun _=>True) w (g i) cs/\∀j,j<C->w.cell? (((⟨b,o,none⟩:Addr).add (i*C)).add j)=cs[j]? :=by
  refine⟨fun i=>if h:i<len then Classical.choose (each i h) else z0,fun i hi=>?_⟩;simp only[hi,dif_pos];exact Classical.choose_spec (each i hi)
 obtain⟨g,hg⟩:=this;refine⟨(List.range len).map g,some ⟨b,o,none⟩,cap,VY,by simpa using hl,hm',fun _=>⟨b,o,rfl,trivial,fun i y hy=>?_⟩⟩;rw[List.getElem?_map] at hy;obtain⟨j,hj,rfl⟩:=Option.map_eq_some_iff.1 hy;obtain⟨hi,DP⟩:=Yb.1 hj;simp at hi DP;subst DP;obtain⟨cs,hcl,DR,qW⟩:=hg i hi;refine⟨cs,DR,hcl,fun j u hu=>?_⟩;have KW:j<C:=by rw[<-hcl];exact(Yb.1 hu).1
 have:=qW j KW;rw[Addr.add_lit,Addr.add_lit] at this;rw[this,hu]
end
theorem bounds_lit{x:Int}(hw:(Lit.int .i64 x).wf=true): -9223372036854775808<=x/\x<=9223372036854775807:=by
 have h1:(decide (IntKind.i64.min<=x)&&decide (x<=IntKind.i64.max))=true:=hw;rw[Bool.and_eq_true,decide_eq_true_eq,decide_eq_true_eq] at h1;have h2:IntKind.i64.min= -9223372036854775808:=VU;have h3:IntKind.i64.max=9223372036854775807:=VU;omega
section
variable {H:Type} {enc:TypeId×Value->H} {W:World} {n:Nat}
theorem kB{t:TypeId}{v:Value}{y:DataW H×List MemPlace}(ht:Tryz.prog.underlying t=some .string)(h:DataW.trod enc Tryz.prog W 0 (fun _=>true) true n t [v]=some y)(hz:(y.1.weights Tryz.prog t).all (· <=reachBytes)=true):
  ∃s:bA,v=.string s/\s.size<=140737488355328:=by
 obtain⟨s,AB,hy,hm⟩:=DataW.trod_string ht h;obtain rfl:v=.string s:=by injection AB
 subst hy;have hr:reachBytes<=140737488355328:=VU;simp[DataW.weights] at hz;exact⟨s,rfl,VS⟩
theorem fld_int{t:TypeId}{v:Value}{y:DataW H×List MemPlace}(ht:Tryz.prog.underlying t=some (.int .i64))(h:DataW.trod enc Tryz.prog W 0 (fun _=>true) true n t [v]=some y):∃x:Int,v=.int .i64 x/\ -9223372036854775808<=x/\x<=9223372036854775807:=by
 obtain⟨x,AB,-,hw⟩:=DataW.trod_int ht h
 have hw': -9223372036854775808<=x/\x<=9223372036854775807:=by
  exact bounds_lit hw
 exact⟨x,by injection AB,hw'.1,hw'.2⟩
theorem fld_bool{t:TypeId}{v:Value}{y:DataW H×List MemPlace}(ht:Tryz.prog.underlying t=some .bool)(h:DataW.trod enc Tryz.prog W 0 (fun _=>true) true n t [v]=some y):∃x:Bool,v=.bool x:=by
 obtain⟨x,AB,-⟩:=DataW.trod_bool ht h;exact⟨x,by injection AB⟩
theorem fld_names{v:Value}{y:DataW H×List MemPlace}(h:DataW.trod enc Tryz.prog W 0 (fun _=>true) true n 23 [v]=some y)(hz:(y.1.weights Tryz.prog 23).all (· <=reachBytes)=true):
  ∃l:List bA,aO 1 eT (fun _=>True) W v l:=
 mR eT 1 Tryz.underlying23 VT VU h hz fun m _ cs y hl ht hw=>by
  match cs,hl with
  |[u],_=>
   obtain⟨s,rfl,hs⟩:=kB VT ht hw;exact⟨s,rfl,hs⟩
theorem kA{t:TypeId}{fs:Array Field}{cs:List Value}{y:DataW H×List MemPlace}(ht:Tryz.prog.underlying t=some (.struct fs))(h:DataW.trod enc Tryz.prog W 0 (fun _=>true) true n t cs=some y)(hz:(y.1.weights Tryz.prog t).all (· <=reachBytes)=true):
  ∃m,m<n/\cs.length=Tryz.prog.cellsOf t/\∀(i:Nat)(f:Field),fs[i]? =some f->∃z,DataW.trod enc Tryz.prog W 0 (fun _=>true) true m f.type ((cs.drop f.offset).take (Tryz.prog.cellsOf f.type))=some z/\(z.1.weights Tryz.prog f.type).all (· <=reachBytes)=true:=by
 obtain⟨xs,m,hn,hx,hl,hxl,hf⟩:=DataW.trod_struct ht h;refine⟨m,VS,hl,fun i f hi=>?_⟩;have pS:=(Array.getElem?_eq_some_iff.1 hi).1;have hxi:xs[i]? =some (xs[i]' VS):=List.getElem?_eq_getElem VS;refine⟨_,(hf i f hi).trans hxi,?_⟩;subst hx;exact weights_agg ht hz hi hxi
theorem read_xp:∀(n:Nat)(cs:List Value)(y:DataW H×List MemPlace),DataW.trod enc Tryz.prog W 0 (fun _=>true) true n 35 cs=some y->(y.1.weights Tryz.prog 35).all (· <=reachBytes)=true->∃x:Xp,wX (fun _=>True) W x cs:=by
 intro n
 induction n using Nat.strongRecOn with
 |_ n ih=>
  intro cs y h hz;obtain⟨m,hm,hl,hf⟩:=kA Tryz.underlying35 h hz;rw[show Tryz.prog.cellsOf 35=6 by kernel_rfl] at hl
  match cs,hl with
  |[c0,c1,c2,c3,c4,c5],_=>
   obtain⟨z0,t0,w0⟩:=hf 0 _ rfl;obtain⟨z1,t1,w1⟩:=hf 1 _ rfl;obtain⟨z2,t2,w2⟩:=hf 2 _ rfl;obtain⟨z3,t3,w3⟩:=hf 3 _ rfl;obtain⟨z4,t4,w4⟩:=hf 4 _ rfl;obtain⟨z5,t5,w5⟩:=hf 5 _ rfl;obtain⟨op,rfl,-⟩:=fld_int (v:=c0) VT t0;obtain⟨k,rfl,-⟩:=fld_int (v:=c1) VT t1;obtain⟨s,rfl,hs⟩:=kB (v:=c2) VT t2 w2;obtain⟨q,rfl,hq⟩:=kB (v:=c3) VT t3 w3;obtain⟨ns,hns⟩:=fld_names (v:=c4) t4 w4;obtain⟨l,hlx⟩:=mR wX 6 (v:=c5) Tryz.underlying25 VT VU t5 w5 (fun i hi cs y _ ht hw=>ih i VS cs y ht hw);exact⟨.mk op k s q ns l,(wX_iff _ _ _ _ _ _ _).2 ⟨_,_,rfl,hs,hq,hns,hlx⟩⟩
theorem read_ty:∀(n:Nat)(cs:List Value)(y:DataW H×List MemPlace),DataW.trod enc Tryz.prog W 0 (fun _=>true) true n 45 cs=some y->(y.1.weights Tryz.prog 45).all (· <=reachBytes)=true->∃x:Ty,wT (fun _=>True) W x cs:=by
 intro n
 induction n using Nat.strongRecOn with
 |_ n ih=>
  intro cs y h hz;obtain⟨m,hm,hl,hf⟩:=kA Tryz.underlying45 h hz;rw[show Tryz.prog.cellsOf 45=2 by kernel_rfl] at hl
  match cs,hl with
  |[c0,c1],_=>
   obtain⟨z0,t0,w0⟩:=hf 0 _ rfl;obtain⟨z1,t1,w1⟩:=hf 1 _ rfl;obtain⟨op,rfl,-⟩:=fld_int (v:=c0) VT t0
   obtain⟨l,hlx⟩:=mR wF 3 (v:=c1) Tryz.underlying24 VT VU t1 w1 (fun i hi cs y hl ht hw=>by
    obtain⟨m',hm',-,LV⟩:=kA Tryz.underlying105 ht hw
    match cs,hl with
    |[d0,d1,d2],_=>
     obtain⟨y0,u0,v0⟩:=LV 0 _ rfl;obtain⟨y1,u1,v1⟩:=LV 1 _ rfl;obtain⟨s,rfl,hs⟩:=kB (v:=d0) VT u0 v0;obtain⟨t,ht⟩:=ih m' VS [d1,d2] _ u1 v1
     exact⟨(s,t),[d1,d2],rfl,hs,ht⟩)
   exact⟨.mk op l,(wT_iff _ _ _).2 ⟨_,rfl,hlx⟩⟩
theorem fld_fields{v:Value}{y:DataW H×List MemPlace}(h:DataW.trod enc Tryz.prog W 0 (fun _=>true) true n 24 [v]=some y)(hz:(y.1.weights Tryz.prog 24).all (· <=reachBytes)=true):
  ∃l:List Fld,aO 3 wF (fun _=>True) W v l:=
 mR wF 3 Tryz.underlying24 VT VU h hz fun i hi cs y hl ht hw=>by
  obtain⟨m',hm',-,LV⟩:=kA Tryz.underlying105 ht hw
  match cs,hl with
  |[d0,d1,d2],_=>
   obtain⟨y0,u0,v0⟩:=LV 0 _ rfl;obtain⟨y1,u1,v1⟩:=LV 1 _ rfl;obtain⟨s,rfl,hs⟩:=kB (v:=d0) VT u0 v0;obtain⟨t,ht⟩:=read_ty m' [d1,d2] _ u1 v1;exact⟨(s,t),[d1,d2],rfl,hs,ht⟩
theorem fld_exps{v:Value}{y:DataW H×List MemPlace}(h:DataW.trod enc Tryz.prog W 0 (fun _=>true) true n 25 [v]=some y)(hz:(y.1.weights Tryz.prog 25).all (· <=reachBytes)=true):
  ∃l:List Xp,aO 6 wX (fun _=>True) W v l:=
 mR wX 6 Tryz.underlying25 VT VU h hz fun i hi cs y hl ht hw=>read_xp i cs y ht hw
theorem fld_funcs{v:Value}{y:DataW H×List MemPlace}(h:DataW.trod enc Tryz.prog W 0 (fun _=>true) true n 26 [v]=some y)(hz:(y.1.weights Tryz.prog 26).all (· <=reachBytes)=true):
  ∃l:List Fnc,aO 12 wFn (fun _=>True) W v l:=
 mR wFn 12 Tryz.underlying26 VT VU h hz fun i hi cs y hl ht hw=>by
  obtain⟨m,hm,-,hf⟩:=kA Tryz.underlying47 ht hw
  match cs,hl with
  |[c0,c1,c2,c3,c4,c5,c6,c7,c8,c9,zP,zO],_=>
   obtain⟨z0,t0,w0⟩:=hf 0 _ rfl;obtain⟨z1,t1,w1⟩:=hf 1 _ rfl;obtain⟨z2,t2,w2⟩:=hf 2 _ rfl;obtain⟨z3,t3,w3⟩:=hf 3 _ rfl;obtain⟨z4,t4,w4⟩:=hf 4 _ rfl;obtain⟨z5,t5,w5⟩:=hf 5 _ rfl;obtain⟨s,rfl,hs⟩:=kB (v:=c0) VT t0 w0;obtain⟨q,rfl⟩:=fld_bool (v:=c1) VT t1;obtain⟨ps,hps⟩:=fld_fields (v:=c2) t2 w2;obtain⟨r,hr⟩:=read_ty m [c3,c4] _ t3 w3;obtain⟨ef,rfl,qF,rL⟩:=fld_int (v:=c5) VT t4;obtain⟨b,hb⟩:=read_xp m [c6,c7,c8,c9,zP,zO] _ t5 w5;obtain⟨kk,a,nn,cc,er⟩:=wT_form hr;obtain⟨o1,n1,s1,m1,a1,l1,d1,a2,l2,d2,eb⟩:=wX_form hb;cases er;cases eb;exact⟨⟨s,q,ps,r,ef,b⟩,_,_,_,_,_,_,_,_,_,rfl,hs,qF,rL,hps,hr,hb⟩
set_option linter.constructorNameAsVariable false in
theorem read_mdl(cs:List Value)(y:DataW H×List MemPlace)(h:DataW.trod enc Tryz.prog W 0 (fun _=>true) true n 30 cs=some y)(hz:(y.1.weights Tryz.prog 30).all (· <=reachBytes)=true):∃m:Mdl,wM (fun _=>True) W m cs:=by
 obtain⟨m,hm,hl,hf⟩:=kA Tryz.underlying30 h hz;rw[show Tryz.prog.cellsOf 30=9 by kernel_rfl] at hl
 match cs,hl with
 |[c0,c1,c2,c3,c4,c5,c6,c7,c8],_=>
  obtain⟨z0,t0,w0⟩:=hf 0 _ rfl;obtain⟨z1,t1,w1⟩:=hf 1 _ rfl;obtain⟨z2,t2,w2⟩:=hf 2 _ rfl;obtain⟨z3,t3,w3⟩:=hf 3 _ rfl;obtain⟨z4,t4,w4⟩:=hf 4 _ rfl;obtain⟨z5,t5,w5⟩:=hf 5 _ rfl;obtain⟨z6,t6,w6⟩:=hf 6 _ rfl;obtain⟨m2,zL,-,BI⟩:=kA (cs:=[c6,c7,c8]) Tryz.underlying28 t6 w6;obtain⟨y0,u0,v0⟩:=BI 0 _ rfl;obtain⟨y1,u1,v1⟩:=BI 1 _ rfl;obtain⟨y2,u2,v2⟩:=BI 2 _ rfl;obtain⟨s,rfl,hs⟩:=kB (v:=c0) VT t0 w0;obtain⟨us,hus⟩:=fld_names (v:=c1) t1 w1;obtain⟨vs,hvs⟩:=fld_fields (v:=c2) t2 w2;obtain⟨is,his⟩:=fld_exps (v:=c3) t3 w3;obtain⟨fs,hfs⟩:=fld_funcs (v:=c4) t4 w4;obtain⟨q,rfl⟩:=fld_bool (v:=c5) VT t5;obtain⟨os,hos⟩:=fld_fields (v:=c6) u0 v0;obtain⟨ws,hws⟩:=fld_exps (v:=c7) u1 v1;obtain⟨bs,hbs⟩:=fld_exps (v:=c8) u2 v2;exact⟨⟨s,us,vs,is,fs,q,os,ws,bs⟩,_,_,_,_,_,_,_,rfl,hs,hus,hvs,his,hfs,hos,hws,hbs⟩
theorem read_module{base:Nat}{v:Value}{d:DataW H}{p:List MemPlace}(DK:Value.okWide Tryz.prog W .any base 30 v)(h:DataW.Trod enc Tryz.prog W 0 (fun _=>true) true 30 v d p)
  (hz:(d.weights Tryz.prog 30).all (· <=reachBytes)=true):∃(m:Mdl)(cs:List Value),v=.agg cs.toArray/\wM (fun _=>True) W m cs:=by
 obtain⟨cs,rfl,tT⟩:=okWide_struct Tryz.underlying30 DK;obtain⟨fuel,hf⟩:=h;obtain⟨m,hm⟩:=read_mdl cs.toList (d,p) hf hz;exact⟨m,cs.toList,VY,hm⟩
end
end Go.Proofs.YtiionicikdnnpaaGreatDoor
