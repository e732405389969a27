/- Texts of this seat, joined. -/
import Derived.Test.YtmpopphjaggeoaaGreatDoorCardC
import Derived.Test.YtmpopphjaggeoaaGreatDoorKU
set_option maxRecDepth 100000
set_option linter.unusedVariables false
set_option linter.unusedSimpArgs false
set_option linter.constructorNameAsVariable false
namespace Go.Proofs.YtmpopphjaggeoaaGreatDoor
open Go.ChangeShapes Go.WideShapes Go.ChangeAt Go.RowKit Go.Deep Go.Joins
section
variable {H:Type} {enc:TypeId×Value->H} {P:Program} {w:World}
theorem fI{α:Type}(ec:(Nat->Prop)->World->α->List Value->Prop)(C:Nat){t e:TypeId}{fuel:Nat}{v:Value}{x:DataW H×List MemPlace}(ht:P.underlying t=some (.slice e))(hC:P.cellsOf e=C)(nZ:0<C)
  (h:DataW.trod enc P w 0 (fun _=>true) true fuel t [v]=some x) (hz:(x.1.weights P t).all (· <=reachBytes)=true)
  (hE:∀n,n<fuel->∀(cs:List Value)(y:DataW H×List MemPlace),cs.length=C->DataW.trod enc P w 0 (fun _=>true) true n e cs=some y->(y.1.weights P e).all (· <=reachBytes)=true->∃z:α,ec (fun _=>True) w z cs):
  ∃l:List α,aK C ec (fun _=>True) w v l:=by
 rcases DataW.trod_slice ht h with⟨oX,-⟩|⟨a,len,cap,elems,rest,n,hn,oX,hx,hb,hl,hm,kU,hel,-,-⟩
 ·obtain rfl:v=.slice none 0 0:=by injection oX
  exact⟨[],aK.nil _ _ _ _⟩
 obtain rfl:v=.slice (some a) len cap:=by injection oX
 have hm':cap<=9223372036854775807:=by unfold maxLen at hm;omega
 rcases Nat.eq_zero_or_pos len with h0|hp
 ·subst h0;exact⟨[],some a,cap,rfl,C0,hm',fun h=>absurd rfl h⟩
 subst hx;rw[DataW.weights,ht] at hz;simp only[List.all_cons,List.all_append,Bool.and_eq_true] at hz;have nO:=hz.2.1;rw[hC] at hel
 have each:∀i,i<len->∃(z:α)(cs:List Value),cs.length=C/\ec (fun _=>True) w z cs/\∀j,j<C->w.cell? ((a.add (i*C)).add j)=cs[j]? :=fun i hi=>by
  have he:elems[i]? =some (elems[i]' CR):=List.getElem?_eq_getElem CR;have h1:=hel i hi;rw[he] at h1;obtain⟨cs,hc,htr⟩:=Option.bind_eq_some_iff.1 h1;obtain⟨_,rN,mM⟩:=World.cells?_some hc;obtain⟨z,hzz⟩:=hE n CR cs _ rN htr (weightsAll_each nO (List.mem_map.2 ⟨_,List.getElem_mem _,rfl⟩));exact⟨z,cs,rN,hzz,mM⟩
 have hplain:a.spot=none:=by
  obtain⟨z,cs,rN,-,mM⟩:=each 0 hp;have hc:=mM 0 nZ;have hcs0:cs[0]? =some (cs[0]' CR):=List.getElem?_eq_getElem CR;rw[hcs0] at hc
  cases hs:a.spot with
  |none=>rfl
  |some y=>simp[World.cell?,Addr.add,hs] at hc;split at hc<;>simp at hc
 obtain⟨b,o,s⟩:=a;obtain rfl:s=none:=hplain;obtain⟨z0,-⟩:=each 0 hp
 have:∃g:Nat->α,∀i,i<len->∃cs:List Value,cs.length=C/\ec (fun _=>True) w (g i) cs/\∀j,j<C->w.cell? (((⟨b,o,none⟩:Addr).add (i*C)).add j)=cs[j]? :=by
  refine⟨fun i=>if h:i<len then Classical.choose (each i h) else z0,fun i hi=>?_⟩;simp only[hi,dif_pos];exact Classical.choose_spec (each i hi)
 obtain⟨g,hg⟩:=this;refine⟨(List.range len).map g,some ⟨b,o,none⟩,cap,C0,by simpa using hl,hm',fun _=>⟨b,o,rfl,trivial,fun i y hy=>?_⟩⟩;rw[List.getElem?_map] at hy;obtain⟨j,hj,rfl⟩:=Option.map_eq_some_iff.1 hy;obtain⟨hi,vQ⟩:=Yb.1 hj;simp at hi vQ;subst vQ;obtain⟨cs,rN,hec,mM⟩:=hg i hi;refine⟨cs,hec,rN,fun j u hu=>?_⟩;have hj':j<C:=by rw[<-rN];exact(Yb.1 hu).1
 have:=mM j hj';rw[Addr.add_lit,Addr.add_lit] at this;rw[this,hu]
end
theorem bounds_lit{x:Int}(hw:(Lit.int .i64 x).wf=true): -9223372036854775808<=x/\x<=9223372036854775807:=by
 have h1:(decide (IntKind.i64.min<=x)&&decide (x<=IntKind.i64.max))=true:=hw;rw[Bool.and_eq_true,decide_eq_true_eq,decide_eq_true_eq] at h1;have h2:IntKind.i64.min= -9223372036854775808:=CX;have h3:IntKind.i64.max=9223372036854775807:=CX;omega
section
variable {H:Type} {enc:TypeId×Value->H} {W:World} {n:Nat}
theorem cK{t:TypeId}{v:Value}{y:DataW H×List MemPlace}(ht:Tryz.prog.underlying t=some .string)(h:DataW.trod enc Tryz.prog W 0 (fun _=>true) true n t [v]=some y)(hz:(y.1.weights Tryz.prog t).all (· <=reachBytes)=true):
  ∃s:bA,v=.string s/\s.size<=140737488355328:=by
 obtain⟨s,oX,hy,hm⟩:=DataW.trod_string ht h;obtain rfl:v=.string s:=by injection oX
 subst hy;have hr:reachBytes<=140737488355328:=CX;simp[DataW.weights] at hz;exact⟨s,rfl,CR⟩
theorem eH{t:TypeId}{v:Value}{y:DataW H×List MemPlace}(ht:Tryz.prog.underlying t=some (.int .i64))(h:DataW.trod enc Tryz.prog W 0 (fun _=>true) true n t [v]=some y):∃x:Int,v=.int .i64 x/\ -9223372036854775808<=x/\x<=9223372036854775807:=by
 obtain⟨x,oX,-,hw⟩:=DataW.trod_int ht h
 have hw': -9223372036854775808<=x/\x<=9223372036854775807:=by
  exact bounds_lit hw
 exact⟨x,by injection oX,hw'.1,hw'.2⟩
theorem fld_names{v:Value}{y:DataW H×List MemPlace}(h:DataW.trod enc Tryz.prog W 0 (fun _=>true) true n 26 [v]=some y)(hz:(y.1.weights Tryz.prog 26).all (· <=reachBytes)=true):
  ∃l:List bA,aK 1 cD (fun _=>True) W v l:=
 fI cD 1 Tryz.underlying26 CQ CX h hz fun m _ cs y hl ht hw=>by
  match cs,hl with
  |[u],_=>
   obtain⟨s,rfl,hs⟩:=cK CQ ht hw;exact⟨s,rfl,hs⟩
theorem dP{t:TypeId}{fs:Array Field}{cs:List Value}{y:DataW H×List MemPlace}(ht:Tryz.prog.underlying t=some (.struct fs))(h:DataW.trod enc Tryz.prog W 0 (fun _=>true) true n t cs=some y)(hz:(y.1.weights Tryz.prog t).all (· <=reachBytes)=true):
  ∃m,m<n/\cs.length=Tryz.prog.cellsOf t/\∀(i:Nat)(f:Field),fs[i]? =some f->∃z,DataW.trod enc Tryz.prog W 0 (fun _=>true) true m f.type ((cs.drop f.offset).take (Tryz.prog.cellsOf f.type))=some z/\(z.1.weights Tryz.prog f.type).all (· <=reachBytes)=true:=by
 obtain⟨xs,m,hn,hx,hl,hxl,hf⟩:=DataW.trod_struct ht h;refine⟨m,CR,hl,fun i f hi=>?_⟩;have jM:=(Array.getElem?_eq_some_iff.1 hi).1;have hxi:xs[i]? =some (xs[i]' CR):=List.getElem?_eq_getElem CR;refine⟨_,(hf i f hi).trans hxi,?_⟩;subst hx;exact weights_agg ht hz hi hxi
theorem read_xp:∀(n:Nat)(cs:List Value)(y:DataW H×List MemPlace),DataW.trod enc Tryz.prog W 0 (fun _=>true) true n 32 cs=some y->(y.1.weights Tryz.prog 32).all (· <=reachBytes)=true->∃x:Xp,wX (fun _=>True) W x cs:=by
 intro n
 induction n using Nat.strongRecOn with
 |_ n ih=>
  intro cs y h hz;obtain⟨m,hm,hl,hf⟩:=dP Tryz.underlying32 h hz;rw[show Tryz.prog.cellsOf 32=6 by kernel_rfl] at hl
  match cs,hl with
  |[c0,c1,c2,c3,c4,c5],_=>
   obtain⟨z0,t0,w0⟩:=hf 0 _ rfl;obtain⟨z1,t1,w1⟩:=hf 1 _ rfl;obtain⟨z2,t2,w2⟩:=hf 2 _ rfl;obtain⟨z3,t3,w3⟩:=hf 3 _ rfl;obtain⟨z4,t4,w4⟩:=hf 4 _ rfl;obtain⟨z5,t5,w5⟩:=hf 5 _ rfl;obtain⟨op,rfl,-⟩:=eH (v:=c0) CQ t0;obtain⟨k,rfl,-⟩:=eH (v:=c1) CQ t1;obtain⟨s,rfl,hs⟩:=cK (v:=c2) CQ t2 w2;obtain⟨q,rfl,hq⟩:=cK (v:=c3) CQ t3 w3;obtain⟨ns,hns⟩:=fld_names (v:=c4) t4 w4;obtain⟨l,hlx⟩:=fI wX 6 (v:=c5) Tryz.underlying30 CQ CX t5 w5 (fun i hi cs y _ ht hw=>ih i CR cs y ht hw);exact⟨.mk op k s q ns l,(wX_iff _ _ _ _ _ _ _).2 ⟨_,_,rfl,hs,hq,hns,hlx⟩⟩
end
end Go.Proofs.YtmpopphjaggeoaaGreatDoor
