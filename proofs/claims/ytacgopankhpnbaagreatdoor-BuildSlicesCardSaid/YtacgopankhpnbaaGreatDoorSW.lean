/- Texts of this seat, joined. -/
import Derived.Test.YtacgopankhpnbaaGreatDoorST
import Derived.Test.YtacgopankhpnbaaGreatDoorSV
set_option maxHeartbeats 8000000
set_option maxRecDepth 100000
set_option linter.unusedVariables false
set_option linter.unusedSimpArgs false
namespace Go.Proofs.YtacgopankhpnbaaGreatDoor
open Go.RowKit
def nH(steps:List Stp)(i:Nat):Bool:=match steps[i]? with
 |some s=> !cX s
 |none=>true
theorem pure1_any(r:Rcp)(L:List (Value×Stp))(vi vs:Value)(pr i:Nat)(w:World)(h:eL r L vi vs w)(hb:w.heap[pr]? =some (bK vi vs r.output))(hi:i<L.length):
  Calls Tryz.prog 62 #[.int .i64 i,.pointer (some ⟨pr,0,none⟩)] w fun e w'=>e=.returned (.bool (nH r.steps i))/\Below w.heap.size w w':=by
 obtain⟨y,hy,-⟩:=getElem?_of_lt hi;have hs:r.steps[i]? =some y.2:=by rw[<-h.map,List.getElem?_map,hy];rfl
 have HP:=zh (show nH r.steps i= !cX y.2 by unfold nH;rw[hs]);rw[HP.out];obtain⟨r0,r1,r2⟩:=fF hb;rcases h.stp.cases with⟨e,-⟩|⟨b,o,c,rfl,-,GR,rB,-,hc⟩
 ·subst e;simp at hi
 obtain⟨s0,s1,s2,s3,hsrc,PG⟩:=hc i y hy;have HC:=zh (stepPure_any y.2 y.1 w hsrc PG);generalize cX y.2=q at HC ⊢;obtain⟨a,cc,hv⟩:=gI hsrc;obtain⟨yv,kind,src,out,sorted⟩:=y;simp only at s0 s1 s2 s3 HC hv;subst hv;clear h hb hy hs HP hc hsrc PG;go_enter Tryz.func62,Tryz.ntmps62;go_wp2_with fail;refine HC.out.mono ?_;rintro e w1 ⟨rfl,hb⟩;have HB:=zh hb;clear hb;go_wp2_with fail;go_ret;exact⟨rfl,HB.out⟩
theorem enters_pure1:∀args w,(callFunc 62 args).run Tryz.prog w=.ok (.enter 62 args) w:=enters_of Tryz.func62 VH rfl
theorem sliceL_lt{r:Rcp}{i:Nat}(h:i∈bW r):i<r.steps.length:=by
 unfold bW at h;split at h
 ·cases h
 ·unfold mZ at h;exact List.mem_range.1 (List.mem_filter.1 h).1
theorem pure_any(r:Rcp)(L:List (Value×Stp))(vi vs:Value)(w:World)(h:eL r L vi vs w):
  Calls Tryz.prog 28 #[lY vi vs r.output] w fun e w'=>e=.returned (.bool (pureL r))/\Below w.heap.size w w':=by
 by_cases he:¬aU r=0
 ·refine(pure_bad r L vi vs w h he).mono ?_;rw[show pureL r=false by unfold pureL;rw[decide_eq_false he];rfl];exact fun _ _ h=>h
 replace he:=Classical.not_not.1 he
 have HR:=zh (right_any r L vi vs _ (h.later (aA w (bK vi vs r.output))));have HP:=zh (show pureL r= !(bW r).any (nH r.steps) by unfold pureL;rw[decide_eq_true he];rfl);rw[HP.out];have uQ:=zh h;have AQ:Hid (∀W,Below w.heap.size w W->Calls Tryz.prog 30 #[lY vi vs r.output] W (fK (bW r) W)):=zh fun W hb=>slice_any r L vi vs W (uQ.out.later hb)
 have HCf:Hid (∀v W,Below w.heap.size w W->W.heap[w.heap.size]? =some (bK vi vs r.output)->gN W v (bE (bW r))->Calls Tryz.prog 61 #[v,.func (.func 62) #[] #[.pointer (some ⟨w.heap.size,0,none⟩)]] W fun e w'=>e=.returned (.bool ((bW r).any (nH r.steps)))/\Below W.heap.size W w'):=
  zh fun v W hb IW hI=>nK 62 #[.pointer (some ⟨w.heap.size,0,none⟩)] (nH r.steps) (bW r) v W hI enters_pure1 (fun x hx W' qU=>
   pure1_any r L vi vs w.heap.size x W' (uQ.out.later (aB hb qU)) (aF qU IW) (by rw[<-uQ.out.len];exact sliceL_lt hx))
 have sG:=zh (aA w (bK vi vs r.output));have DN:=zh (aN w (bK vi vs r.output));obtain⟨ai,ci,av,cv,rfl,rfl⟩:=h.slices;rw[he] at HR;generalize (bW r).any (nH r.steps)=q at HCf ⊢;clear h he HP;go_enter Tryz.func28,Tryz.ntmps28;go_wp2_with fail;refine HR.out.mono ?_;rintro e w2 ⟨rfl,hb⟩;obtain⟨r0,r1,r2⟩:=fF (aF hb DN.out);have qM:=zh (aB sG.out hb);have HBx2:=zh (aF hb DN.out);clear hb HR;go_wp2_with fail;refine(AQ.out _ qM.out).mono ?_;rintro e w3 ⟨v,rfl,hI,-,hb⟩;have HC:=zh (HCf.out v w3 (aB qM.out hb) (aF hb HBx2.out) hI);have vJ:=zh (aB qM.out hb);clear hI hb r0 r1 r2;go_wp2_with fail;refine HC.out.mono ?_;rintro e w4 ⟨rfl,hb⟩;have vI:=zh (aB vJ.out hb);clear hb;go_wp2_with fail;go_ret;exact⟨rfl,vI.out⟩
theorem small_sz(l:List ByteArray)(h:l.all (fun x=>decide (x.size<=100))=true):∀x,x∈l->x.size<=140737488355328:=by
 intro x hx;have:=List.all_eq_true.1 h x hx;simp at this;omega
theorem flatMap_at{α:Type}{k:Nat}(f:α->List Value):∀(l:List α)(i:Nat)(x:α)(j:Nat),(∀y,y∈l->(f y).length=k)->l[i]? =some x->j<k->(l.flatMap f)[i*k+j]? =(f x)[j]?
 |[],i,x,j,_,h,_=>W9
 |a::l,0,x,j,hf,h,hj=>by
  simp at h;subst h;rw[List.flatMap_cons,List.getElem?_append_left (by rw[hf a VL];omega)];simp
 |a::l,i+1,x,j,hf,h,hj=>by
  have ha:=hf a VL;rw[List.flatMap_cons,List.getElem?_append_right (by rw[ha,Nat.add_mul];omega),ha,show(i+1)*k+j-k=i*k+j by rw[Nat.add_mul];omega];exact flatMap_at f l i x j (fun y hy=>hf y (by simp[hy])) WI hj
theorem row_made{α:Type}{k:Nat}{enc:World->α->List Value->Prop}{w:World}{g:Nat}{cs:Array Value}{t:TypeId}{fr:Nat×Nat}(l:List α)(f:α->List Value)(h:w.heap[g]? =some (.cells cs t fr))(tJ:cs.toList=l.flatMap f)
  (hl:l.length<=140737488355328) (hf:∀x,x∈l->(f x).length=k/\enc w x (f x)):Row k enc w (.slice (some ⟨g,0,none⟩) l.length l.length) l:=by
 refine⟨_,l.length,rfl,Nat.le_refl _,VG,fun _=>⟨g,0,rfl,fun i x hx=>⟨f x,(hf x (List.mem_of_getElem? hx)).2,(hf x (List.mem_of_getElem? hx)).1,fun j u hu=>?_⟩⟩⟩;have hk:=(hf x (List.mem_of_getElem? hx)).1;have hj:j<k:=by rw[<-hk];exact(List.getElem?_eq_some_iff.1 hu).1
 have h1:=flatMap_at f l i x j (fun y hy=>(hf y hy).1) hx hj;rw[hu,<-tJ] at h1;simp only[World.cell?,h];simpa using h1
abbrev fN(y:Value×Stp):List Value:=[.int .i64 y.2.kind,y.1,.string y.2.out,.bool y.2.sorted]
abbrev exL(h:Nat):List (Value×Stp):=[(.slice (some ⟨h+1+1,0,none⟩) 2 2,⟨1,[⟨#[98]⟩,⟨#[97]⟩],⟨#[99]⟩,false⟩),(.slice (some ⟨h+1+1+1,0,none⟩) 1 1,⟨4,[⟨#[99]⟩],⟨#[100]⟩,false⟩),(.slice (some ⟨h+1+1+1+1,0,none⟩) 1 1,⟨0,[⟨#[97]⟩],⟨#[101]⟩,false⟩)]
def RcpPost(r:Rcp)(w:World)(e:Ending)(w':World):Prop:=∃vi vs L,e=.returned (lY vi vs r.output)/\eL r L vi vs w'/\Below w.heap.size w w'
theorem lay6(w:World)(o0 o1 o2 o3 o4 o5:Obj):((((((w.alloc o0).alloc o1).alloc o2).alloc o3).alloc o4).alloc o5).heap[w.heap.size+1]? =some o1/\((((((w.alloc o0).alloc o1).alloc o2).alloc o3).alloc o4).alloc o5).heap[w.heap.size+1+1]? =some o2/\
  ((((((w.alloc o0).alloc o1).alloc o2).alloc o3).alloc o4).alloc o5).heap[w.heap.size+1+1+1]? =some o3/\((((((w.alloc o0).alloc o1).alloc o2).alloc o3).alloc o4).alloc o5).heap[w.heap.size+1+1+1+1]? =some o4/\
  ((((((w.alloc o0).alloc o1).alloc o2).alloc o3).alloc o4).alloc o5).heap[w.heap.size+1+1+1+1+1]? =some o5:=by
 have up:∀{a:World}{o:Obj}{k:Nat}{x:Obj},a.heap[k]? =some x->(a.alloc o).heap[k]? =some x:=fun h=>aF (aA _ _) h;have e1:=aN (w.alloc o0) o1;have e2:=aN ((w.alloc o0).alloc o1) o2;have e3:=aN (((w.alloc o0).alloc o1).alloc o2) o3;have e4:=aN ((((w.alloc o0).alloc o1).alloc o2).alloc o3) o4;have e5:=aN (((((w.alloc o0).alloc o1).alloc o2).alloc o3).alloc o4) o5;simp only[World.size_alloc] at e1 e2 e3 e4 e5;exact⟨up (up (up (up e1))),up (up (up e2)),up (up e3),up e4,e5⟩
theorem exIn{w:World}{h:Nat}{output:ByteArray}{fr:Nat×Nat}{t1 t2 t3 t4 t5:TypeId}(hz:output.size<=140737488355328)(h1:w.heap[h+1]? =some (.cells #[.string ⟨#[97]⟩,.string ⟨#[120]⟩,.string ⟨#[98]⟩,.string ⟨#[121]⟩] t1 fr))(h2:w.heap[h+1+1]? =some (.cells #[.string ⟨#[98]⟩,.string ⟨#[97]⟩] t2 fr))
  (h3:w.heap[h+1+1+1]? =some (.cells #[.string ⟨#[99]⟩] t3 fr)) (h4:w.heap[h+1+1+1+1]? =some (.cells #[.string ⟨#[97]⟩] t4 fr))
  (h5:w.heap[h+1+1+1+1+1]? =some (.cells #[.int .i64 1,.slice (some ⟨h+1+1,0,none⟩) 2 2,.string ⟨#[99]⟩,.bool false,.int .i64 4,.slice (some ⟨h+1+1+1,0,none⟩) 1 1,.string ⟨#[100]⟩,.bool false,.int .i64 0,.slice (some ⟨h+1+1+1+1,0,none⟩) 1 1,.string ⟨#[101]⟩,.bool false] t5 fr)):
  eL (exR output) (exL h) (.slice (some ⟨h+1,0,none⟩) 2 2) (.slice (some ⟨h+1+1+1+1+1,0,none⟩) 3 3) w:=by
 refine⟨fils_made exInputs h1 rfl VI (fun f hf=>by simp[exInputs] at hf;rcases hf with rfl|rfl<;>decide),?_,rfl,hz⟩;refine row_made (exL h) fN h5 rfl (by show(3:Nat)<=_;decide) (fun y hy=>⟨rfl,rfl,?_⟩);simp only[List.mem_cons,List.not_mem_nil,or_false] at hy;rcases hy with rfl|rfl|rfl
 ·exact⟨strs_made [⟨#[98]⟩,⟨#[97]⟩] h2 rfl VI (small_sz _ VI),by show(⟨#[99]⟩:ByteArray).size<=_;decide⟩
 ·exact⟨strs_made [⟨#[99]⟩] h3 rfl VI (small_sz _ VI),by show(⟨#[100]⟩:ByteArray).size<=_;decide⟩
 ·exact⟨strs_made [⟨#[97]⟩] h4 rfl VI (small_sz _ VI),by show(⟨#[101]⟩:ByteArray).size<=_;decide⟩
theorem kO(output:ByteArray)(w:World)(hz:output.size<=140737488355328):
  Calls Tryz.prog 59 #[.string output] w (RcpPost (exR output) w):=by
 go_enter Tryz.func59,Tryz.ntmps59;go_wp2_with fail;refine bodyPost_ret (v:=lY (.slice (some ⟨w.heap.size+1,0,none⟩) 2 2) (.slice (some ⟨w.heap.size+1+1+1+1+1,0,none⟩) 3 3) output) (by simp[results,Tryz.results59,go_sem]) rfl ?_
 obtain⟨h1,h2,h3,h4,h5⟩:=lay6 w (.cells #[.slice (some ⟨w.heap.size+1,0,none⟩) 2 2,.slice (some ⟨w.heap.size+1+1+1+1+1,0,none⟩) 3 3,.string output] 51) (.cells #[.string ⟨#[97]⟩,.string ⟨#[120]⟩,.string ⟨#[98]⟩,.string ⟨#[121]⟩] 40) (.cells #[.string ⟨#[98]⟩,.string ⟨#[97]⟩] 9) (.cells #[.string ⟨#[99]⟩] 9) (.cells #[.string ⟨#[97]⟩] 9)
  (.cells #[.int .i64 1,.slice (some ⟨w.heap.size+1+1,0,none⟩) 2 2,.string ⟨#[99]⟩,.bool false,.int .i64 4,.slice (some ⟨w.heap.size+1+1+1,0,none⟩) 1 1,.string ⟨#[100]⟩,.bool false,.int .i64 0,.slice (some ⟨w.heap.size+1+1+1+1,0,none⟩) 1 1,.string ⟨#[101]⟩,.bool false] 24)
 exact⟨_,_,exL w.heap.size,rfl,exIn hz h1 h2 h3 h4 h5,aB (aB (aB (aB (aB (aA _ _) (aA _ _)) (aA _ _)) (aA _ _)) (aA _ _)) (aA _ _)⟩
theorem UK{p:Prop}(h:p:=by
 go_enter Tryz.func27,Tryz.ntmps27;go_wp2_with fail;go_ret
 exact⟨_,rfl,aA _ _⟩):p:=h
theorem ints33_any(a b:List Int)(va vb:Value)(w:World)(ha:gN w va a)(hb:gN w vb b):
  Calls Tryz.prog 60 #[va,vb] w fun e w'=>e=.returned (.bool (decide (a=b)))/\Below w.heap.size w w':=by
 obtain⟨aa,ca,hva,qD,qL,-⟩:=id ha;obtain⟨ab,cb,hvb,pS,pR,-⟩:=id hb;subst hva hvb;have HA:=zh ha;have HB:=zh hb;clear ha hb;by_cases hl:a.length=b.length
 ·have HL:=zh hl;rw[<-hl] at pS HB ⊢;clear hl;go_enter Tryz.func60,Tryz.ntmps60;go_wp2_with fail;go_loopw [5] (fun i wr=>∃k:Nat,k<=a.length/\i=.int .i64 k/\Hid (a.take k=b.take k)/\Hid (Below w.heap.size w wr)) (fun i _=>a.length-(intOf i).toNat)
  case atStart=>exact⟨0,Nat.zero_le _,rfl,zh rfl,zh (Below.refl _ _)⟩
  case round=>
   obtain⟨k,hk,rfl,HT,HW⟩:=hrel;(rename World=>wr);by_cases pT:k<a.length
   ·obtain⟨x,hx,-⟩:=getElem?_of_lt pT;obtain⟨y,hy,-⟩:=getElem?_of_lt (show k<b.length by rw[<-HL.out];exact pT);rcases(HA.out.later HW.out).cases with⟨e,-⟩|⟨b1,o1,c1,e,-,-,-,-,hc⟩
    ·subst e;simp at pT
    obtain⟨rfl,rfl⟩:aa=some ⟨b1,o1,none⟩/\ca=c1:=WJ;have hB:=HB.out.later HW.out
    obtain⟨b2,o2,c2,e2,cy⟩:∃b2 o2 c2,Value.slice ab a.length cb=.slice (some ⟨b2,o2,none⟩) b.length c2/\wr.cell? ⟨b2,o2+k,none⟩=some (.int .i64 y):=by
     rcases hB.cases with⟨e,-⟩|⟨b2,o2,c2,e,-,-,-,-,rB⟩
     ·rw[e] at hy;simp at hy
     ·exact⟨b2,o2,c2,e,rB k y hy⟩
    (obtain rfl:ab=some ⟨b2,o2,none⟩:=by injection e2);have cx:wr.cell? ⟨b1,o1+k,none⟩=some (.int .i64 x):=hc k x hx;have HX:=zh hx;have HY:=zh hy;clear hc hB e e2 hx hy;by_cases he:x=y
    ·subst he;go_wp2_with fail;(go_region);go_wp2_with fail;go_roundw;(case rel=>exact⟨k+1,VG,VT,zh (by rw[List.take_add_one,List.take_add_one,HT.out,HX.out,HY.out]),zh HW.out.drew⟩);case measure=>simp[intOf];omega
    ·have pQ:(x==y)=false:=beq_eq_false_iff_ne.2 he;have hne2:(x != y)=true:=YE;have HNe:=zh he;clear he;go_wp2_with fail;(go_region);go_wp2_with fail;go_ret;refine⟨aD ?_,HW.out.drew⟩;rw[eq_comm,decide_eq_false_iff_not];intro h;have h1:=HX.out;have h2:=HY.out;rw[h,h2] at h1;exact HNe.out (Option.some.inj h1).symm
   ·go_wp2_with fail;go_ret;refine⟨aD ?_,HW.out⟩;rw[eq_comm,decide_eq_true_iff];have h:=HT.out
    rwa [List.take_of_length_le VG,List.take_of_length_le (by rw[<-HL.out];omega)] at h
 ·have HL:=zh hl;have xW:¬(a.length:Int)=(b.length:Int):=VG;have IM:((a.length:Int) != (b.length:Int))=true:=by rw[bne_iff_ne];exact xW
  clear hl xW;go_enter Tryz.func60,Tryz.ntmps60;go_wp2_with fail
  all_goals
   go_ret;refine⟨aD ?_,Below.refl _ _⟩;rw[eq_comm,decide_eq_false_iff_not];intro h;exact HL.out (by rw[h])
def AnyBool(w:World)(e:Ending)(w':World):Prop:=∃q,e=.returned (.bool q)/\Below w.heap.size w w'
theorem light_any(a1 a2 a3:Option Addr)(n1 n2 n3 c1 c2 c3:Nat)(w:World):
  Calls Tryz.prog 27 #[.agg #[.slice a1 n1 c1,.slice a2 n2 c2,.slice a3 n3 c3]] w (AnyBool w):=by
 by_cases h1:(n1:Int)<=40
 ·by_cases h2:(n2:Int)<=40
  ·exact UK
  ·exact UK
 ·exact UK
theorem SK{p:Prop}(h:p:=by
 clear pT;go_wp2_with fail;go_loop [4] (fun i=>∃k:Nat,k<=L.length/\i=.int .i64 k) (fun i=>L.length-(intOf i).toNat)
 case atStart=>exact⟨0,Nat.zero_le _,rfl⟩
 case round=>
  obtain⟨k2,zN,rfl⟩:=hrel;by_cases uE:k2<L.length/\k2<9
  ·obtain⟨uE,h9⟩:=uE;obtain⟨y,hy,-⟩:=getElem?_of_lt uE;rcases uQ.out.stp.cases with⟨e,-⟩|⟨b,o,c,e,-,-,-,-,hc⟩
   ·rw[e] at uE;simp at uE
   obtain⟨rfl,rfl⟩:av=some ⟨b,o,none⟩/\cv=c:=WJ;obtain⟨s0,s1,s2,s3,hsrc,-⟩:=hc k2 y hy;obtain⟨sa,sc,AE⟩:=gI hsrc;obtain⟨yv,kind,src,yo,sorted⟩:=y;simp only at s0 s1 s2 s3 AE;subst AE;clear hc e hy hsrc;by_cases ht:(4:Int)<src.length
   ·first
     |(exfalso;omega)
     |(go_wp2_with fail;go_ret;exact⟨_,rfl,(fun h=>XR),HB.out⟩)
   ·by_cases hn:(60:Int)<yo.size
    ·first
      |(exfalso;omega)
      |(go_wp2_with fail;go_ret;exact⟨_,rfl,(fun h=>XR),HB.out⟩)
    ·go_wp2_with fail
     go_round
     (case rel=>exact⟨k2+1,VG,VT⟩);case measure=>simp[intOf];omega
  ·by_cases CS:k2<L.length
   ·have h11:¬k2<9:=fun h=>uE ⟨CS,h⟩;clear uE;by_cases h5:(r.inputs.length:Int)<=5
    ·by_cases h8:(L.length:Int)<=8
     ·by_cases AL:(r.output.size:Int)<=60
      ·first
        |(exfalso;omega)
        |(go_wp2_with fail;go_ret;exact⟨_,rfl,(fun _=>⟨VG,by rw[sD.out];omega⟩),HB.out⟩)
      ·first
        |(exfalso;omega)
        |(go_wp2_with fail;go_ret;exact⟨_,rfl,(fun h=>XR),HB.out⟩)
     ·first
       |(exfalso;omega)
       |(go_wp2_with fail;go_ret;exact⟨_,rfl,(fun h=>XR),HB.out⟩)
    ·first
      |(exfalso;omega)
      |(go_wp2_with fail;go_ret;exact⟨_,rfl,(fun h=>XR),HB.out⟩)
   ·clear uE;by_cases h5:(r.inputs.length:Int)<=5
    ·by_cases h8:(L.length:Int)<=8
     ·by_cases AL:(r.output.size:Int)<=60
      ·first
        |(exfalso;omega)
        |(go_wp2_with fail;go_ret;exact⟨_,rfl,(fun _=>⟨VG,by rw[sD.out];omega⟩),HB.out⟩)
      ·first
        |(exfalso;omega)
        |(go_wp2_with fail;go_ret;exact⟨_,rfl,(fun h=>XR),HB.out⟩)
     ·first
       |(exfalso;omega)
       |(go_wp2_with fail;go_ret;exact⟨_,rfl,(fun h=>XR),HB.out⟩)
    ·first
      |(exfalso;omega)
      |(go_wp2_with fail;go_ret;exact⟨_,rfl,(fun h=>XR),HB.out⟩)):p:=h
def FewPost(r:Rcp)(w:World)(e:Ending)(w':World):Prop:=∃q:Bool,e=.returned (.bool q)/\(q=true->r.inputs.length<=5/\r.steps.length<=8)/\Below w.heap.size w w'
theorem few_any(r:Rcp)(L:List (Value×Stp))(vi vs:Value)(w:World)(h:eL r L vi vs w):
  Calls Tryz.prog 26 #[lY vi vs r.output] w (FewPost r w):=by
 have HB:=zh (aA w (bK vi vs r.output));have uQ:=zh (h.later HB.out);obtain⟨r0,r1,r2⟩:=fF (aN w (bK vi vs r.output));obtain⟨ai,ci,av,cv,rfl,rfl⟩:=h.slices;have hlen:=h.len;have xC:r.inputs.length<=9223372036854775807:=by obtain⟨a,c,hv,h1,h2,-⟩:=h.inp;omega
 have vE:L.length<=9223372036854775807:=by obtain⟨a,c,hv,h1,h2,-⟩:=h.stp;omega
 have sD:=zh hlen;clear h hlen;go_enter Tryz.func26,Tryz.ntmps26;go_wp2_with fail;generalize w.alloc (bK (.slice ai r.inputs.length ci) (.slice av L.length cv) r.output)=W at HB uQ r0 r1 r2 ⊢;go_loop [3] (fun i=>∃k:Nat,k<=r.inputs.length/\i=.int .i64 k) (fun i=>r.inputs.length-(intOf i).toNat)
 case atStart=>exact⟨0,Nat.zero_le _,rfl⟩
 case round=>
  obtain⟨k,hk,rfl⟩:=hrel;by_cases pT:k<r.inputs.length/\k<6
  ·obtain⟨pT,h6⟩:=pT;obtain⟨f,hf,-⟩:=getElem?_of_lt pT;rcases uQ.out.inp.cases with⟨e,-⟩|⟨b,o,c,e,-,-,-,-,hc⟩
   ·rw[e] at pT;simp at pT
   obtain⟨rfl,rfl⟩:ai=some ⟨b,o,none⟩/\ci=c:=WJ;obtain⟨f0,f1,-,-⟩:=hc k f hf;clear hc e hf;by_cases ht:(300:Int)<f.text.size
   ·first
     |(exfalso;omega)
     |(go_wp2_with fail;go_ret;exact⟨_,rfl,(fun h=>XR),HB.out⟩)
   ·by_cases hn:(60:Int)<f.name.size
    ·first
      |(exfalso;omega)
      |(go_wp2_with fail;go_ret;exact⟨_,rfl,(fun h=>XR),HB.out⟩)
    ·go_wp2_with fail
     go_round
     (case rel=>exact⟨k+1,VG,VT⟩);case measure=>simp[intOf];omega
  ·by_cases h6:k<r.inputs.length
   ·have h7:¬k<6:=fun h=>pT ⟨h6,h⟩;exact SK
   ·exact SK
theorem exRight(o:ByteArray)(h:o=⟨#[100]⟩\/o=⟨#[99]⟩):aU (exR o)=0:=by
 rcases h with rfl|rfl<;>kernel_rfl
theorem exDo(o:ByteArray):∀s,s∈(exR o).steps->DoAll C0 s:=by
 intro s hs;have:s∈exSteps:=hs;simp only[exSteps,List.mem_cons,List.not_mem_nil,or_false] at this;rcases this with rfl|rfl|rfl<;>exact doAll_plain VI
def ExRunPost(w:World)(e:Ending)(w':World):Prop:=∃b o c,e=.returned (.tuple #[.slice (some ⟨b,o,none⟩) 3 c,.string ⟨#[121,120,55,59,10]⟩,.int .i64 0])/\w'.cell? ⟨b,o,none⟩=some (.int .i64 2)/\w'.cell? ⟨b,o+3,none⟩=some (.int .i64 0)/\w'.cell? ⟨b,o+6,none⟩=some (.int .i64 1)/\3<=c/\Below w.heap.size w w'
theorem exRun_any(L:List (Value×Stp))(vi vs vc vo vn:Value)(w:World)(h:eL (exR ⟨#[100]⟩) L vi vs w)(hw:WldIn [7] [] [1] vc vo vn w)(hG:dH w):
  Calls Tryz.prog 29 #[lY vi vs ⟨#[100]⟩,.agg #[vc,vo,vn]] w (ExRunPost w):=by
 refine(run_good C0 (exR ⟨#[100]⟩) L vi vs vc vo vn [7] [] [1] w h hw hG (exDo _) (exRight _ (.inl rfl))).mono ?_;rw[exRun];rintro e w' ⟨hb,v,M,rfl,hD,hM⟩;have hl:M.length=3:=by have:=congrArg List.length hM;simpa using this
 rcases hD.cases with⟨e,-⟩|⟨b,o,c,rfl,-,GR,-,-,hc⟩
 ·rw[e] at hl;cases hl
 rw[hl] at GR ⊢
 have at_:∀i s,((M.map (·.2))[i]?).map (·.step)=some s->w'.cell? ⟨b,o+i*3,none⟩=some (.int .i64 s):=fun i s hs=>by
  rw[List.getElem?_map] at hs
  cases hy:M[i]? with
  |none=>rw[hy] at hs;cases hs
  |some y=>
   rw[hy] at hs;have:=(hc i y hy).1;rw[this];simp at hs;rw[hs]
 rw[hM] at at_;exact⟨b,o,c,rfl,at_ 0 2 rfl,at_ 1 0 rfl,at_ 2 1 rfl,GR,hb⟩
theorem small33_any(w:World)(hG:dH w):
  Calls Tryz.prog 25 #[] w fun e w'=>e=.returned (.bool true)/\Below w.heap.size w w':=by
 have HG:=zh hG;clear hG;go_enter Tryz.func25,Tryz.ntmps25;go_wp2_with fail;refine(kO ⟨#[100]⟩ _ VI).mono ?_;rintro e w1 ⟨vi,vs,L,rfl,hr,hb⟩;obtain⟨ai,ci,av,cv,rfl,rfl⟩:=hr.slices;have qQ:=zh hb;have C3:=zh hr;clear hb hr;go_wp2_with fail;refine(exRun_any L _ _ _ _ _ _ (C3.out.later (aB (aA w1 (.cells #[.int .i64 7] 3)) (aA _ (.cells #[.int .i64 1] 3)))) ⟨(pE [7] (aN w1 _) rfl VI).later (aA _ _),ints_nil _,?_,?_,?_,?_⟩ ?_).mono ?_
 ·have:=pE (w:=(w1.alloc (.cells #[.int .i64 7] 3)).alloc (.cells #[.int .i64 1] 3)) (g:=w1.heap.size+1) (cs:=#[.int .i64 1]) (t:=3) (fr:=(0,0)) [1] (by have:=aN (w1.alloc (.cells #[.int .i64 7] 3)) (.cells #[.int .i64 1] 3);simpa only[World.size_alloc] using this) rfl VI;exact this
 ·intro x hx;simp at hx;subst hx;decide
 ·intro x hx;cases hx
 ·intro x hx;simp at hx;subst hx;decide
 ·exact HG.out.later (aB qQ.out (aB (aA _ _) (aA _ _)))
 rintro e w2 ⟨b,o,c,rfl,c0,c1,c2,BC,hb⟩;have qM:=zh (aB qQ.out (aB (aB (aA _ _) (aA _ _)) hb));have hx:((⟨#[121,120,55,59,10]⟩:ByteArray).extract 0 2).toList=[121,120]:=by rw[toList_eq];kernel_rfl
 clear hb C3;go_wp2_with fail;refine(kO ⟨#[100]⟩ _ VI).mono ?_;rintro e w3 ⟨vi3,vs3,L3,rfl,hr,hb⟩;have DL:=zh (order_any _ _ _ _ _ hr);have vJ:=zh (aB qM.out hb);obtain⟨ai3,ci3,av3,cv3,rfl,rfl⟩:=hr.slices;rw[exOrder] at DL;clear hb hr;go_wp2_with fail;refine DL.out.mono ?_;rintro e w4 ⟨v4,rfl,hI,-,hb⟩;have vI:=zh (aB vJ.out hb);have KU:=zh (ints33_any _ _ _ _ _ (hI.later (aA w4 (.cells #[.int .i64 0,.int .i64 1,.int .i64 2] 3))) (pE [0,1,2] (aN w4 _) rfl VI));rw[decide_eq_true (show bE [0,1,2]=[0,1,2] from rfl)] at KU;clear hI hb DL;go_wp2_with fail;refine KU.out.mono ?_;rintro e w5 ⟨rfl,hb⟩;have OX:=zh (aB (aB vI.out (aA _ _)) hb);clear hb KU;go_wp2_with fail;refine(kO ⟨#[100]⟩ _ VI).mono ?_;rintro e w6 ⟨vi6,vs6,L6,rfl,hr,hb⟩;have yS:=zh (slice_any _ _ _ _ _ hr);have A3:=zh (aB OX.out hb);obtain⟨ai6,ci6,av6,cv6,rfl,rfl⟩:=hr.slices;rw[exSliceD] at yS;clear hb hr;go_wp2_with fail;refine yS.out.mono ?_;rintro e w7 ⟨v7,rfl,hI,-,hb⟩;have xO:=zh (aB A3.out hb);have HI7:=zh (ints33_any _ _ _ _ _ (hI.later (aA w7 (.cells #[.int .i64 0,.int .i64 1] 3))) (pE [0,1] (aN w7 _) rfl VI));rw[decide_eq_true (show bE [0,1]=[0,1] from rfl)] at HI7;clear hI hb yS;go_wp2_with fail;refine HI7.out.mono ?_;rintro e w8 ⟨rfl,hb⟩;have zH:=zh (aB (aB xO.out (aA _ _)) hb);clear hb HI7;go_wp2_with fail;refine(kO ⟨#[99]⟩ _ VI).mono ?_;rintro e w9 ⟨vi9,vs9,L9,rfl,hr,hb⟩;have JU:=zh (slice_any _ _ _ _ _ hr);have E9:=zh (aB zH.out hb);obtain⟨ai9,ci9,av9,cv9,rfl,rfl⟩:=hr.slices;rw[exSliceC] at JU;clear hb hr;go_wp2_with fail;refine JU.out.mono ?_;rintro e qJ ⟨v10,rfl,hI,-,hb⟩;have GH:=zh (aB E9.out hb);have J3:=zh (ints33_any _ _ _ _ _ (hI.later (aA qJ (.cells #[.int .i64 0] 3))) (pE [0] (aN qJ _) rfl VI));rw[decide_eq_true (show bE [0]=[0] from rfl)] at J3;clear hI hb JU;go_wp2_with fail;refine J3.out.mono ?_;rintro e vK ⟨rfl,hb⟩;have sS:=zh (aB (aB GH.out (aA _ _)) hb);clear hb J3;go_wp2_with fail;refine(kO ⟨#[100]⟩ _ VI).mono ?_;rintro e qS ⟨vi12,vs12,L12,rfl,hr,hb⟩;have RX:=zh (pure_any _ _ _ _ _ hr);have HB12:=zh (aB sS.out hb);obtain⟨ai12,ci12,av12,cv12,rfl,rfl⟩:=hr.slices;rw[exPureD] at RX;clear hb hr;go_wp2_with fail;refine RX.out.mono ?_;rintro e tE ⟨rfl,hb⟩;have HB13:=zh (aB HB12.out hb);clear hb RX;go_wp2_with fail;refine(kO ⟨#[99]⟩ _ VI).mono ?_;rintro e zI ⟨vi14,vs14,L14,rfl,hr,hb⟩;have RW:=zh (pure_any _ _ _ _ _ hr);have HB14:=zh (aB HB13.out hb);obtain⟨ai14,ci14,av14,cv14,rfl,rfl⟩:=hr.slices;rw[exPureC] at RW;clear hb hr;go_wp2_with fail;refine RW.out.mono ?_;rintro e GZ ⟨rfl,hb⟩;have HB15:=zh (aB HB14.out hb);clear hb RW;go_wp2_with fail;go_ret;exact⟨rfl,HB15.out⟩
theorem stpInfo:(Tryz.prog.info? 24).map (fun i=>(i.zero,i.size,i.bytes))=some (some (.agg #[.int .i64 0,.slice none 0 0,.string ByteArray.empty,.bool false]),4,56):=VH
theorem stpCells_len(L:List (Value×Stp)):(L.flatMap fN).length=L.length*4:=by
 induction L with
 |nil=>rfl
 |cons a l ih=>rw[List.flatMap_cons,List.length_append,ih];simp;omega
theorem stpCells_one{w:World}{v:Value}{L:List (Value×Stp)}(h:lD w v L):∀u,u∈L.flatMap fN->u.oneCell'=true:=by
 intro u hu;obtain⟨y,hy,hu⟩:=List.mem_flatMap.1 hu;obtain⟨a,c,hv⟩:=gI (h.src hy).1;simp only[fN,List.mem_cons,List.not_mem_nil,or_false] at hu;rcases hu with rfl|rfl|rfl|rfl
 ·rfl
 ·rw[hv];rfl
 ·rfl
 ·rfl
theorem grown_new{w before x:World}{g:Nat}(hb:Below w.heap.size w before)(hg:before.grownBy x (some g))(hw:w.heap.size<=g):Below w.heap.size w x:=
 ⟨hg.os.trans hb.os,hg.tape.trans hb.tape,hg.output.trans hb.output,by have:=hg.size;have:=hb.size;omega,fun j hj=>(hg.block j (by have:=hb.size;omega) (fun e=>by cases e;omega)).trans (hb.block j hj)⟩
theorem stps_of_owns{w:World}{base:Nat}{e:TypeId}{v:Value}{l:List (Value×Stp)}(h:w.ownsRow base e 4 v l.length (l.flatMap fN))(hz:∀y,y∈l->Strs w y.1 y.2.src/\y.2.out.size<=140737488355328):lD w v l:=by
 rcases h.2 with⟨rfl,h0⟩|⟨g,cap,cur,rfl,hg,yO,r1,r2,r3,r4⟩
 ·exact TO
 ·refine⟨_,cap,rfl,r1,r2,fun _=>⟨g,0,rfl,fun i y hy=>⟨_,⟨rfl,hz y (List.mem_of_getElem? hy)⟩,rfl,fun j u hu=>?_⟩⟩⟩;have hi:=(List.getElem?_eq_some_iff.1 hy).1;have hj:j<4:=(List.getElem?_eq_some_iff.1 hu).1;have h1:=flatMap_at fN l i y j (fun y _=>rfl) hy hj;rw[show(fN y)[j]? =some u from hu] at h1;have:=congrArg (fun t:List Value=>t[i*4+j]?) r4;rw[List.getElem?_take,if_pos VG,h1] at this;have h2:cur[i*4+j]? =some u:=YK;simp[World.cell?,yO,h2]
end Go.Proofs.YtacgopankhpnbaaGreatDoor
