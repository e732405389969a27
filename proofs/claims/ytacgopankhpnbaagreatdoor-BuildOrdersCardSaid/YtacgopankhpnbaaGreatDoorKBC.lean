/- Texts of this seat, joined. -/
import Derived.Test.YtacgopankhpnbaaGreatDoorPureB
import Derived.Test.YtacgopankhpnbaaGreatDoorKBB
namespace Go.Proofs.YtacgopankhpnbaaGreatDoor
set_option maxRecDepth 100000
open Go.RowKit
theorem small_sz(l:List ByteArray)(h:l.all (fun x=>decide (x.size<=100))=true):∀x,x∈l->x.size<=140737488355328:=by
 intro x hx;have:=List.all_eq_true.1 h x hx;simp at this;omega
theorem flatMap_at{α:Type}{k:Nat}(f:α->List Value):∀(l:List α)(i:Nat)(x:α)(j:Nat),(∀y,y∈l->(f y).length=k)->l[i]? =some x->j<k->(l.flatMap f)[i*k+j]? =(f x)[j]?
 |[],i,x,j,_,h,_=>yL
 |a::l,0,x,j,hf,h,hj=>by
  simp at h;subst h;rw[List.flatMap_cons,List.getElem?_append_left (by rw[hf a vZ];omega)];simp
 |a::l,i+1,x,j,hf,h,hj=>by
  have ha:=hf a vZ;rw[List.flatMap_cons,List.getElem?_append_right (by rw[ha,Nat.add_mul];omega),ha,show(i+1)*k+j-k=i*k+j by rw[Nat.add_mul];omega];exact flatMap_at f l i x j (fun y hy=>hf y (by simp[hy])) xL hj
theorem row_made{α:Type}{k:Nat}{enc:World->α->List Value->Prop}{w:World}{g:Nat}{cs:Array Value}{t:TypeId}{fr:Nat×Nat}(l:List α)(f:α->List Value)(h:w.heap[g]? =some (.cells cs t fr))(hcs:cs.toList=l.flatMap f)
  (hl:l.length<=140737488355328) (hf:∀x,x∈l->(f x).length=k/\enc w x (f x)):Row k enc w (.slice (some ⟨g,0,none⟩) l.length l.length) l:=by
 refine⟨_,l.length,rfl,Nat.le_refl _,vT,fun _=>⟨g,0,rfl,fun i x hx=>⟨f x,(hf x (List.mem_of_getElem? hx)).2,(hf x (List.mem_of_getElem? hx)).1,fun j u hu=>?_⟩⟩⟩;have hk:=(hf x (List.mem_of_getElem? hx)).1;have hj:j<k:=by rw[<-hk];exact(List.getElem?_eq_some_iff.1 hu).1
 have h1:=flatMap_at f l i x j (fun y hy=>(hf y hy).1) hx hj;rw[hu,<-hcs] at h1;simp only[World.cell?,h];simpa using h1
abbrev stpCells(y:Value×Stp):List Value:=[.int .i64 y.2.kind,y.1,.string y.2.out,.bool y.2.sorted]
abbrev exL(h:Nat):List (Value×Stp):=[(.slice (some ⟨h+1+1,0,none⟩) 2 2,⟨1,[⟨#[98]⟩,⟨#[97]⟩],⟨#[99]⟩,false⟩),(.slice (some ⟨h+1+1+1,0,none⟩) 1 1,⟨4,[⟨#[99]⟩],⟨#[100]⟩,false⟩),(.slice (some ⟨h+1+1+1+1,0,none⟩) 1 1,⟨0,[⟨#[97]⟩],⟨#[101]⟩,false⟩)]
def RcpPost(r:Rcp)(w:World)(e:Ending)(w':World):Prop:=∃vi vs L,e=.returned (nD vi vs r.output)/\fZ r L vi vs w'/\Below w.heap.size w w'
theorem lay6(w:World)(o0 o1 o2 o3 o4 o5:Obj):((((((w.alloc o0).alloc o1).alloc o2).alloc o3).alloc o4).alloc o5).heap[w.heap.size+1]? =some o1/\((((((w.alloc o0).alloc o1).alloc o2).alloc o3).alloc o4).alloc o5).heap[w.heap.size+1+1]? =some o2/\
  ((((((w.alloc o0).alloc o1).alloc o2).alloc o3).alloc o4).alloc o5).heap[w.heap.size+1+1+1]? =some o3/\((((((w.alloc o0).alloc o1).alloc o2).alloc o3).alloc o4).alloc o5).heap[w.heap.size+1+1+1+1]? =some o4/\
  ((((((w.alloc o0).alloc o1).alloc o2).alloc o3).alloc o4).alloc o5).heap[w.heap.size+1+1+1+1+1]? =some o5:=by
 have up:∀{a:World}{o:Obj}{k:Nat}{x:Obj},a.heap[k]? =some x->(a.alloc o).heap[k]? =some x:=fun h=>aD (aA _ _) h;have e1:=aN (w.alloc o0) o1;have e2:=aN ((w.alloc o0).alloc o1) o2;have e3:=aN (((w.alloc o0).alloc o1).alloc o2) o3;have e4:=aN ((((w.alloc o0).alloc o1).alloc o2).alloc o3) o4;have e5:=aN (((((w.alloc o0).alloc o1).alloc o2).alloc o3).alloc o4) o5;simp only[World.size_alloc] at e1 e2 e3 e4 e5;exact⟨up (up (up (up e1))),up (up (up e2)),up (up e3),up e4,e5⟩
theorem exIn{w:World}{h:Nat}{output:ByteArray}{fr:Nat×Nat}{t1 t2 t3 t4 t5:TypeId}(hz:output.size<=140737488355328)(h1:w.heap[h+1]? =some (.cells #[.string ⟨#[97]⟩,.string ⟨#[120]⟩,.string ⟨#[98]⟩,.string ⟨#[121]⟩] t1 fr))(h2:w.heap[h+1+1]? =some (.cells #[.string ⟨#[98]⟩,.string ⟨#[97]⟩] t2 fr))
  (h3:w.heap[h+1+1+1]? =some (.cells #[.string ⟨#[99]⟩] t3 fr)) (h4:w.heap[h+1+1+1+1]? =some (.cells #[.string ⟨#[97]⟩] t4 fr))
  (h5:w.heap[h+1+1+1+1+1]? =some (.cells #[.int .i64 1,.slice (some ⟨h+1+1,0,none⟩) 2 2,.string ⟨#[99]⟩,.bool false,.int .i64 4,.slice (some ⟨h+1+1+1,0,none⟩) 1 1,.string ⟨#[100]⟩,.bool false,.int .i64 0,.slice (some ⟨h+1+1+1+1,0,none⟩) 1 1,.string ⟨#[101]⟩,.bool false] t5 fr)):
  fZ (exR output) (exL h) (.slice (some ⟨h+1,0,none⟩) 2 2) (.slice (some ⟨h+1+1+1+1+1,0,none⟩) 3 3) w:=by
 refine⟨fils_made exInputs h1 rfl vV (fun f hf=>by simp[exInputs] at hf;rcases hf with rfl|rfl<;>decide),?_,rfl,hz⟩;refine row_made (exL h) stpCells h5 rfl (by show(3:Nat)<=_;decide) (fun y hy=>⟨rfl,rfl,?_⟩);simp only[List.mem_cons,List.not_mem_nil,or_false] at hy;rcases hy with rfl|rfl|rfl
 ·exact⟨jI [⟨#[98]⟩,⟨#[97]⟩] h2 rfl vV (small_sz _ vV),by show(⟨#[99]⟩:ByteArray).size<=_;decide⟩
 ·exact⟨jI [⟨#[99]⟩] h3 rfl vV (small_sz _ vV),by show(⟨#[100]⟩:ByteArray).size<=_;decide⟩
 ·exact⟨jI [⟨#[97]⟩] h4 rfl vV (small_sz _ vV),by show(⟨#[101]⟩:ByteArray).size<=_;decide⟩
theorem lP(output:ByteArray)(w:World)(hz:output.size<=140737488355328):
  Calls Tryz.prog 59 #[.string output] w (RcpPost (exR output) w):=by
 go_enter Tryz.func59,Tryz.ntmps59;go_wp2_with fail;refine bodyPost_ret (v:=nD (.slice (some ⟨w.heap.size+1,0,none⟩) 2 2) (.slice (some ⟨w.heap.size+1+1+1+1+1,0,none⟩) 3 3) output) (by simp[results,Tryz.results59,go_sem]) rfl ?_
 obtain⟨h1,h2,h3,h4,h5⟩:=lay6 w (.cells #[.slice (some ⟨w.heap.size+1,0,none⟩) 2 2,.slice (some ⟨w.heap.size+1+1+1+1+1,0,none⟩) 3 3,.string output] 51) (.cells #[.string ⟨#[97]⟩,.string ⟨#[120]⟩,.string ⟨#[98]⟩,.string ⟨#[121]⟩] 40) (.cells #[.string ⟨#[98]⟩,.string ⟨#[97]⟩] 9) (.cells #[.string ⟨#[99]⟩] 9) (.cells #[.string ⟨#[97]⟩] 9)
  (.cells #[.int .i64 1,.slice (some ⟨w.heap.size+1+1,0,none⟩) 2 2,.string ⟨#[99]⟩,.bool false,.int .i64 4,.slice (some ⟨w.heap.size+1+1+1,0,none⟩) 1 1,.string ⟨#[100]⟩,.bool false,.int .i64 0,.slice (some ⟨w.heap.size+1+1+1+1,0,none⟩) 1 1,.string ⟨#[101]⟩,.bool false] 24)
 exact⟨_,_,exL w.heap.size,rfl,exIn hz h1 h2 h3 h4 h5,aB (aB (aB (aB (aB (aA _ _) (aA _ _)) (aA _ _)) (aA _ _)) (aA _ _)) (aA _ _)⟩
set_option maxHeartbeats 1000000
theorem uP{p:Prop}(h:p:=by
 go_enter Tryz.func27,Tryz.ntmps27;go_wp2_with fail;go_ret
 exact⟨_,rfl,aA _ _⟩):p:=h
theorem ints33_any(a b:List Int)(va vb:Value)(w:World)(ha:gZ w va a)(hb:gZ w vb b):
  Calls Tryz.prog 60 #[va,vb] w fun e w'=>e=.returned (.bool (decide (a=b)))/\Below w.heap.size w w':=by
 obtain⟨aa,ca,hva,ha1,ha2,-⟩:=id ha;obtain⟨ab,cb,hvb,hb1,hb2,-⟩:=id hb;subst hva hvb;have HA:=zh ha;have HB:=zh hb;clear ha hb;by_cases hl:a.length=b.length
 ·have HL:=zh hl;rw[<-hl] at hb1 HB ⊢;clear hl;go_enter Tryz.func60,Tryz.ntmps60;go_wp2_with fail;go_loopw [5] (fun i wr=>∃k:Nat,k<=a.length/\i=.int .i64 k/\Hid (a.take k=b.take k)/\Hid (Below w.heap.size w wr)) (fun i _=>a.length-(intOf i).toNat)
  case atStart=>exact⟨0,Nat.zero_le _,rfl,zh rfl,zh (Below.refl _ _)⟩
  case round=>
   obtain⟨k,hk,rfl,HT,HW⟩:=hrel;(rename World=>wr);by_cases hlt:k<a.length
   ·obtain⟨x,hx,-⟩:=getElem?_of_lt hlt;obtain⟨y,hy,-⟩:=getElem?_of_lt (show k<b.length by rw[<-HL.out];exact hlt);rcases(HA.out.later HW.out).cases with⟨e,-⟩|⟨b1,o1,c1,e,-,-,-,-,hc⟩
    ·subst e;simp at hlt
    obtain⟨rfl,rfl⟩:aa=some ⟨b1,o1,none⟩/\ca=c1:=xM;have hB:=HB.out.later HW.out
    obtain⟨b2,o2,c2,e2,cy⟩:∃b2 o2 c2,Value.slice ab a.length cb=.slice (some ⟨b2,o2,none⟩) b.length c2/\wr.cell? ⟨b2,o2+k,none⟩=some (.int .i64 y):=by
     rcases hB.cases with⟨e,-⟩|⟨b2,o2,c2,e,-,-,-,-,hc2⟩
     ·rw[e] at hy;simp at hy
     ·exact⟨b2,o2,c2,e,hc2 k y hy⟩
    (obtain rfl:ab=some ⟨b2,o2,none⟩:=by injection e2);have cx:wr.cell? ⟨b1,o1+k,none⟩=some (.int .i64 x):=hc k x hx;have HX:=zh hx;have HY:=zh hy;clear hc hB e e2 hx hy;by_cases he:x=y
    ·subst he;go_wp2_with fail;(go_region);go_wp2_with fail;go_roundw;(case rel=>exact⟨k+1,vT,wH,zh (by rw[List.take_add_one,List.take_add_one,HT.out,HX.out,HY.out]),zh HW.out.drew⟩);case measure=>simp[intOf];omega
    ·have hne:(x==y)=false:=beq_eq_false_iff_ne.2 he;have hne2:(x != y)=true:=AL;have HNe:=zh he;clear he;go_wp2_with fail;(go_region);go_wp2_with fail;go_ret;refine⟨aE ?_,HW.out.drew⟩;rw[eq_comm,decide_eq_false_iff_not];intro h;have h1:=HX.out;have h2:=HY.out;rw[h,h2] at h1;exact HNe.out (Option.some.inj h1).symm
   ·go_wp2_with fail;go_ret;refine⟨aE ?_,HW.out⟩;rw[eq_comm,decide_eq_true_iff];have h:=HT.out
    rwa [List.take_of_length_le vT,List.take_of_length_le (by rw[<-HL.out];omega)] at h
 ·have HL:=zh hl;have hl2:¬(a.length:Int)=(b.length:Int):=vT;have hl3:((a.length:Int) != (b.length:Int))=true:=by rw[bne_iff_ne];exact hl2
  clear hl hl2;go_enter Tryz.func60,Tryz.ntmps60;go_wp2_with fail
  all_goals
   go_ret;refine⟨aE ?_,Below.refl _ _⟩;rw[eq_comm,decide_eq_false_iff_not];intro h;exact HL.out (by rw[h])
def AnyBool(w:World)(e:Ending)(w':World):Prop:=∃q,e=.returned (.bool q)/\Below w.heap.size w w'
theorem light_any(a1 a2 a3:Option Addr)(n1 n2 n3 c1 c2 c3:Nat)(w:World):
  Calls Tryz.prog 27 #[.agg #[.slice a1 n1 c1,.slice a2 n2 c2,.slice a3 n3 c3]] w (AnyBool w):=by
 by_cases h1:(n1:Int)<=40
 ·by_cases h2:(n2:Int)<=40
  ·exact uP
  ·exact uP
 ·exact uP
set_option maxHeartbeats 4000000
theorem rI{p:Prop}(h:p:=by
 clear hlt;go_wp2_with fail;go_loop [4] (fun i=>∃k:Nat,k<=L.length/\i=.int .i64 k) (fun i=>L.length-(intOf i).toNat)
 case atStart=>exact⟨0,Nat.zero_le _,rfl⟩
 case round=>
  obtain⟨k2,hk2,rfl⟩:=hrel;by_cases hlt2:k2<L.length/\k2<9
  ·obtain⟨hlt2,h9⟩:=hlt2;obtain⟨y,hy,-⟩:=getElem?_of_lt hlt2;rcases HRcp.out.stp.cases with⟨e,-⟩|⟨b,o,c,e,-,-,-,-,hc⟩
   ·rw[e] at hlt2;simp at hlt2
   obtain⟨rfl,rfl⟩:av=some ⟨b,o,none⟩/\cv=c:=xM;obtain⟨s0,s1,s2,s3,hsrc,-⟩:=hc k2 y hy;obtain⟨sa,sc,hvv⟩:=cB hsrc;obtain⟨yv,kind,src,yo,sorted⟩:=y;simp only at s0 s1 s2 s3 hvv;subst hvv;clear hc e hy hsrc;by_cases ht:(4:Int)<src.length
   ·first
     |(exfalso;omega)
     |(go_wp2_with fail;go_ret;exact⟨_,rfl,(fun h=>zQ),HB.out⟩)
   ·by_cases hn:(60:Int)<yo.size
    ·first
      |(exfalso;omega)
      |(go_wp2_with fail;go_ret;exact⟨_,rfl,(fun h=>zQ),HB.out⟩)
    ·go_wp2_with fail
     go_round
     (case rel=>exact⟨k2+1,vT,wH⟩);case measure=>simp[intOf];omega
  ·by_cases h10:k2<L.length
   ·have h11:¬k2<9:=fun h=>hlt2 ⟨h10,h⟩;clear hlt2;by_cases h5:(r.inputs.length:Int)<=5
    ·by_cases h8:(L.length:Int)<=8
     ·by_cases h60:(r.output.size:Int)<=60
      ·first
        |(exfalso;omega)
        |(go_wp2_with fail;go_ret;exact⟨_,rfl,(fun _=>⟨vT,by rw[HLen.out];omega⟩),HB.out⟩)
      ·first
        |(exfalso;omega)
        |(go_wp2_with fail;go_ret;exact⟨_,rfl,(fun h=>zQ),HB.out⟩)
     ·first
       |(exfalso;omega)
       |(go_wp2_with fail;go_ret;exact⟨_,rfl,(fun h=>zQ),HB.out⟩)
    ·first
      |(exfalso;omega)
      |(go_wp2_with fail;go_ret;exact⟨_,rfl,(fun h=>zQ),HB.out⟩)
   ·clear hlt2;by_cases h5:(r.inputs.length:Int)<=5
    ·by_cases h8:(L.length:Int)<=8
     ·by_cases h60:(r.output.size:Int)<=60
      ·first
        |(exfalso;omega)
        |(go_wp2_with fail;go_ret;exact⟨_,rfl,(fun _=>⟨vT,by rw[HLen.out];omega⟩),HB.out⟩)
      ·first
        |(exfalso;omega)
        |(go_wp2_with fail;go_ret;exact⟨_,rfl,(fun h=>zQ),HB.out⟩)
     ·first
       |(exfalso;omega)
       |(go_wp2_with fail;go_ret;exact⟨_,rfl,(fun h=>zQ),HB.out⟩)
    ·first
      |(exfalso;omega)
      |(go_wp2_with fail;go_ret;exact⟨_,rfl,(fun h=>zQ),HB.out⟩)):p:=h
def FewPost(r:Rcp)(w:World)(e:Ending)(w':World):Prop:=∃q:Bool,e=.returned (.bool q)/\(q=true->r.inputs.length<=5/\r.steps.length<=8)/\Below w.heap.size w w'
theorem few_any(r:Rcp)(L:List (Value×Stp))(vi vs:Value)(w:World)(h:fZ r L vi vs w):
  Calls Tryz.prog 26 #[nD vi vs r.output] w (FewPost r w):=by
 have HB:=zh (aA w (dG vi vs r.output));have HRcp:=zh (h.later HB.out);obtain⟨r0,r1,r2⟩:=gY (aN w (dG vi vs r.output));obtain⟨ai,ci,av,cv,rfl,rfl⟩:=h.slices;have hlen:=h.len;have hin:r.inputs.length<=9223372036854775807:=by obtain⟨a,c,hv,h1,h2,-⟩:=h.inp;omega
 have hst:L.length<=9223372036854775807:=by obtain⟨a,c,hv,h1,h2,-⟩:=h.stp;omega
 have HLen:=zh hlen;clear h hlen;go_enter Tryz.func26,Tryz.ntmps26;go_wp2_with fail;generalize w.alloc (dG (.slice ai r.inputs.length ci) (.slice av L.length cv) r.output)=W at HB HRcp r0 r1 r2 ⊢;go_loop [3] (fun i=>∃k:Nat,k<=r.inputs.length/\i=.int .i64 k) (fun i=>r.inputs.length-(intOf i).toNat)
 case atStart=>exact⟨0,Nat.zero_le _,rfl⟩
 case round=>
  obtain⟨k,hk,rfl⟩:=hrel;by_cases hlt:k<r.inputs.length/\k<6
  ·obtain⟨hlt,h6⟩:=hlt;obtain⟨f,hf,-⟩:=getElem?_of_lt hlt;rcases HRcp.out.inp.cases with⟨e,-⟩|⟨b,o,c,e,-,-,-,-,hc⟩
   ·rw[e] at hlt;simp at hlt
   obtain⟨rfl,rfl⟩:ai=some ⟨b,o,none⟩/\ci=c:=xM;obtain⟨f0,f1,-,-⟩:=hc k f hf;clear hc e hf;by_cases ht:(300:Int)<f.text.size
   ·first
     |(exfalso;omega)
     |(go_wp2_with fail;go_ret;exact⟨_,rfl,(fun h=>zQ),HB.out⟩)
   ·by_cases hn:(60:Int)<f.name.size
    ·first
      |(exfalso;omega)
      |(go_wp2_with fail;go_ret;exact⟨_,rfl,(fun h=>zQ),HB.out⟩)
    ·go_wp2_with fail
     go_round
     (case rel=>exact⟨k+1,vT,wH⟩);case measure=>simp[intOf];omega
  ·by_cases h6:k<r.inputs.length
   ·have h7:¬k<6:=fun h=>hlt ⟨h6,h⟩;exact rI
   ·exact rI
set_option maxHeartbeats 8000000
theorem exRight(o:ByteArray)(h:o=⟨#[100]⟩\/o=⟨#[99]⟩):bC (exR o)=0:=by
 rcases h with rfl|rfl<;>kernel_rfl
theorem exDo(o:ByteArray):∀s,s∈(exR o).steps->DoAll C0 s:=by
 intro s hs;have:s∈exSteps:=hs;simp only[exSteps,List.mem_cons,List.not_mem_nil,or_false] at this;rcases this with rfl|rfl|rfl<;>exact doAll_plain vV
def ExRunPost(w:World)(e:Ending)(w':World):Prop:=∃b o c,e=.returned (.tuple #[.slice (some ⟨b,o,none⟩) 3 c,.string ⟨#[121,120,55,59,10]⟩,.int .i64 0])/\w'.cell? ⟨b,o,none⟩=some (.int .i64 2)/\w'.cell? ⟨b,o+3,none⟩=some (.int .i64 0)/\w'.cell? ⟨b,o+6,none⟩=some (.int .i64 1)/\3<=c/\Below w.heap.size w w'
theorem exRun_any(L:List (Value×Stp))(vi vs vc vo vn:Value)(w:World)(h:fZ (exR ⟨#[100]⟩) L vi vs w)(hw:oX [7] [] [1] vc vo vn w)(hG:bV w):
  Calls Tryz.prog 29 #[nD vi vs ⟨#[100]⟩,.agg #[vc,vo,vn]] w (ExRunPost w):=by
 refine(run_good C0 (exR ⟨#[100]⟩) L vi vs vc vo vn [7] [] [1] w h hw hG (exDo _) (exRight _ (.inl rfl))).mono ?_;rw[exRun];rintro e w' ⟨hb,v,M,rfl,hD,hM⟩;have hl:M.length=3:=by have:=congrArg List.length hM;simpa using this
 rcases hD.cases with⟨e,-⟩|⟨b,o,c,rfl,-,hc1,-,-,hc⟩
 ·rw[e] at hl;cases hl
 rw[hl] at hc1 ⊢
 have at_:∀i s,((M.map (·.2))[i]?).map (·.step)=some s->w'.cell? ⟨b,o+i*3,none⟩=some (.int .i64 s):=fun i s hs=>by
  rw[List.getElem?_map] at hs
  cases hy:M[i]? with
  |none=>rw[hy] at hs;cases hs
  |some y=>
   rw[hy] at hs;have:=(hc i y hy).1;rw[this];simp at hs;rw[hs]
 rw[hM] at at_;exact⟨b,o,c,rfl,at_ 0 2 rfl,at_ 1 0 rfl,at_ 2 1 rfl,hc1,hb⟩
theorem small33_any(w:World)(hG:bV w):
  Calls Tryz.prog 25 #[] w fun e w'=>e=.returned (.bool true)/\Below w.heap.size w w':=by
 have HG:=zh hG;clear hG;go_enter Tryz.func25,Tryz.ntmps25;go_wp2_with fail;refine(lP ⟨#[100]⟩ _ vV).mono ?_;rintro e w1 ⟨vi,vs,L,rfl,hr,hb⟩;obtain⟨ai,ci,av,cv,rfl,rfl⟩:=hr.slices;have HB1:=zh hb;have HR1:=zh hr;clear hb hr;go_wp2_with fail;refine(exRun_any L _ _ _ _ _ _ (HR1.out.later (aB (aA w1 (.cells #[.int .i64 7] 3)) (aA _ (.cells #[.int .i64 1] 3)))) ⟨(lN [7] (aN w1 _) rfl vV).later (aA _ _),jW _,?_,?_,?_,?_⟩ ?_).mono ?_
 ·have:=lN (w:=(w1.alloc (.cells #[.int .i64 7] 3)).alloc (.cells #[.int .i64 1] 3)) (g:=w1.heap.size+1) (cs:=#[.int .i64 1]) (t:=3) (fr:=(0,0)) [1] (by have:=aN (w1.alloc (.cells #[.int .i64 7] 3)) (.cells #[.int .i64 1] 3);simpa only[World.size_alloc] using this) rfl vV;exact this
 ·intro x hx;simp at hx;subst hx;decide
 ·intro x hx;cases hx
 ·intro x hx;simp at hx;subst hx;decide
 ·exact HG.out.later (aB HB1.out (aB (aA _ _) (aA _ _)))
 rintro e w2 ⟨b,o,c,rfl,c0,c1,c2,hc3,hb⟩;have HB2:=zh (aB HB1.out (aB (aB (aA _ _) (aA _ _)) hb));have hx:((⟨#[121,120,55,59,10]⟩:ByteArray).extract 0 2).toList=[121,120]:=by rw[toList_eq];kernel_rfl
 clear hb HR1;go_wp2_with fail;refine(lP ⟨#[100]⟩ _ vV).mono ?_;rintro e w3 ⟨vi3,vs3,L3,rfl,hr,hb⟩;have HO3:=zh (order_any _ _ _ _ _ hr);have HB3:=zh (aB HB2.out hb);obtain⟨ai3,ci3,av3,cv3,rfl,rfl⟩:=hr.slices;rw[exOrder] at HO3;clear hb hr;go_wp2_with fail;refine HO3.out.mono ?_;rintro e w4 ⟨v4,rfl,hI,-,hb⟩;have HB4:=zh (aB HB3.out hb);have HI4:=zh (ints33_any _ _ _ _ _ (hI.later (aA w4 (.cells #[.int .i64 0,.int .i64 1,.int .i64 2] 3))) (lN [0,1,2] (aN w4 _) rfl vV));rw[decide_eq_true (show bI [0,1,2]=[0,1,2] from rfl)] at HI4;clear hI hb HO3;go_wp2_with fail;refine HI4.out.mono ?_;rintro e w5 ⟨rfl,hb⟩;have HB5:=zh (aB (aB HB4.out (aA _ _)) hb);clear hb HI4;go_wp2_with fail;refine(lP ⟨#[100]⟩ _ vV).mono ?_;rintro e w6 ⟨vi6,vs6,L6,rfl,hr,hb⟩;have HO6:=zh (qC _ _ _ _ _ hr);have HB6:=zh (aB HB5.out hb);obtain⟨ai6,ci6,av6,cv6,rfl,rfl⟩:=hr.slices;rw[exSliceD] at HO6;clear hb hr;go_wp2_with fail;refine HO6.out.mono ?_;rintro e w7 ⟨v7,rfl,hI,-,hb⟩;have HB7:=zh (aB HB6.out hb);have HI7:=zh (ints33_any _ _ _ _ _ (hI.later (aA w7 (.cells #[.int .i64 0,.int .i64 1] 3))) (lN [0,1] (aN w7 _) rfl vV));rw[decide_eq_true (show bI [0,1]=[0,1] from rfl)] at HI7;clear hI hb HO6;go_wp2_with fail;refine HI7.out.mono ?_;rintro e w8 ⟨rfl,hb⟩;have HB8:=zh (aB (aB HB7.out (aA _ _)) hb);clear hb HI7;go_wp2_with fail;refine(lP ⟨#[99]⟩ _ vV).mono ?_;rintro e w9 ⟨vi9,vs9,L9,rfl,hr,hb⟩;have HO9:=zh (qC _ _ _ _ _ hr);have HB9:=zh (aB HB8.out hb);obtain⟨ai9,ci9,av9,cv9,rfl,rfl⟩:=hr.slices;rw[exSliceC] at HO9;clear hb hr;go_wp2_with fail;refine HO9.out.mono ?_;rintro e w10 ⟨v10,rfl,hI,-,hb⟩;have HB10:=zh (aB HB9.out hb);have HI10:=zh (ints33_any _ _ _ _ _ (hI.later (aA w10 (.cells #[.int .i64 0] 3))) (lN [0] (aN w10 _) rfl vV));rw[decide_eq_true (show bI [0]=[0] from rfl)] at HI10;clear hI hb HO9;go_wp2_with fail;refine HI10.out.mono ?_;rintro e w11 ⟨rfl,hb⟩;have HB11:=zh (aB (aB HB10.out (aA _ _)) hb);clear hb HI10;go_wp2_with fail;refine(lP ⟨#[100]⟩ _ vV).mono ?_;rintro e w12 ⟨vi12,vs12,L12,rfl,hr,hb⟩;have HO12:=zh (pure_any _ _ _ _ _ hr);have HB12:=zh (aB HB11.out hb);obtain⟨ai12,ci12,av12,cv12,rfl,rfl⟩:=hr.slices;rw[exPureD] at HO12;clear hb hr;go_wp2_with fail;refine HO12.out.mono ?_;rintro e w13 ⟨rfl,hb⟩;have HB13:=zh (aB HB12.out hb);clear hb HO12;go_wp2_with fail;refine(lP ⟨#[99]⟩ _ vV).mono ?_;rintro e w14 ⟨vi14,vs14,L14,rfl,hr,hb⟩;have HO14:=zh (pure_any _ _ _ _ _ hr);have HB14:=zh (aB HB13.out hb);obtain⟨ai14,ci14,av14,cv14,rfl,rfl⟩:=hr.slices;rw[exPureC] at HO14;clear hb hr;go_wp2_with fail;refine HO14.out.mono ?_;rintro e w15 ⟨rfl,hb⟩;have HB15:=zh (aB HB14.out hb);clear hb HO14;go_wp2_with fail;go_ret;exact⟨rfl,HB15.out⟩
end Go.Proofs.YtacgopankhpnbaaGreatDoor
