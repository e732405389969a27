/- Texts of this seat, joined. -/
import Derived.Test.YtacgopankhpnbaaGreatDoorSAS
import Derived.Test.YtacgopankhpnbaaGreatDoorAppAll
set_option maxHeartbeats 16000000
set_option maxRecDepth 100000
set_option linter.unusedVariables false
set_option linter.unusedSimpArgs false
namespace Go.Proofs.YtacgopankhpnbaaGreatDoor
open Go.RowKit
structure B2 (w:World) (a b:Obj) (wr:World):Prop where
 r0:wr.heap[w.heap.size]? =some a
 r1:wr.heap[w.heap.size+1]? =some b
 below:Below w.heap.size w wr
theorem B2.later{w:World}{a b:Obj}{wr w':World}(h:B2 w a b wr)(hb:Below wr.heap.size wr w'):B2 w a b w':=
 ⟨aF hb h.r0,aF hb h.r1,aB h.below hb⟩
theorem B2.first(w:World)(a b:Obj):B2 w a b ((w.alloc a).alloc b):=by
 have e1:=aN (w.alloc a) b;simp only[World.size_alloc] at e1;exact⟨aF (aA _ _) (aN w a),e1,aB (aA _ _) (aA _ _)⟩
theorem src_fils{w:World}{ai:Option Addr}{ci:Nat}{l:List Fil}(h:iB w (.slice ai l.length ci) l):Src w (.slice ai l.length ci) l.length 2 (cI l):=by
 rcases h.cases with⟨e,-⟩|⟨b,o,c,e,h0,h1,h2,hb,hc⟩
 ·rw[e];exact .inl ⟨rfl,rfl,_,_,rfl⟩
 ·refine .inr ⟨h0,⟨b,o,none⟩,c,e,filCells_length _,fun j u hu=>?_,filCells_one _⟩;rw[Addr.add_lit];obtain⟨i,f,hf,⟨rfl,rfl⟩|⟨rfl,rfl⟩⟩:=filCells_get _ j u hu
  ·exact(hc i f hf).1
  ·rw[<-Nat.add_assoc];exact(hc i f hf).2.1
theorem pureTo_le{r:Rcp}{m n:Nat}(IG:m<=n)(h:kW r n=true):kW r m=true:=by
 unfold kW at *;refine List.all_eq_true.2 fun x hx=>List.all_eq_true.1 h x ?_;rw[<-Nat.min_eq_left IG,<-List.take_take] at hx;exact List.mem_of_mem_take hx
theorem allPure_any(r:Rcp)(L:List (Value×Stp))(vi vs:Value)(w:World)(h:eL r L vi vs w):
  Calls Tryz.prog 34 #[lY vi vs r.output] w fun e w'=>e=.returned (.bool (kW r L.length))/\Below w.heap.size w w':=by
 have HR:=zh h;obtain⟨ai,ci,av,cv,rfl,rfl⟩:=h.slices;have hll:L.length<=9223372036854775807:=by obtain⟨a,c,e,hl,-⟩:=stps_at h.stp;exact hl
 clear h;have HB:=zh (aA w (bK (.slice ai r.inputs.length ci) (.slice av L.length cv) r.output));have HX:=zh (heap_alloc_new w (bK (.slice ai r.inputs.length ci) (.slice av L.length cv) r.output));go_enter Tryz.func34,Tryz.ntmps34;go_wp2_with fail;go_loopw [3] (fun iv wr=>∃k:Nat,k<=L.length/\Hid (kW r k=true)/\iv=.int .i64 (k:Int)/\Hid (Below (w.alloc (bK (.slice ai r.inputs.length ci) (.slice av L.length cv) r.output)).heap.size (w.alloc (bK (.slice ai r.inputs.length ci) (.slice av L.length cv) r.output)) wr)) (fun iv _=>L.length-(intOf iv).toNat)
 case atStart=>exact⟨0,Nat.zero_le _,zh rfl,rfl,zh (Below.refl _ _)⟩
 case round=>
  obtain⟨k,hk,HPk,rfl,uR⟩:=hrel;rename World=>wr
  have sA:=zh (aB HB.out uR.out);obtain⟨r0,r1,r2⟩:=fF (aF uR.out HX.out);by_cases pT:k<L.length
  ·obtain⟨y,hy,-⟩:=getElem?_of_lt pT;have HPs:Hid (kW r (k+1)=cX y.2):=zh (by rw[pureTo_succ (s:=y.2) (by rw[<-HR.out.map,List.getElem?_map,hy];rfl),HPk.out];rfl);obtain⟨sl,cs,e,-,qA⟩:=stps_at (HR.out.later sA.out).stp;obtain⟨rfl,rfl⟩:av=sl/\cv=cs:=WJ;obtain⟨b,o,rfl,y0,y1,y2,y3,hS,hz⟩:=qA k y hy;have pZ:=zh (stepPure_any y.2 y.1 wr hS hz);obtain⟨yv,s⟩:=y;dsimp only at y0 y1 y2 y3 pZ HPs hS;obtain⟨sa0,sc0,rfl⟩:=gI hS;clear hy qA e hS
   cases xU:cX s with
   |false=>
    have E7:Hid (kW r L.length=false):=zh (by
     rw[<-Bool.not_eq_true];intro h;have h1:=pureTo_le (show k+1<=L.length from pT) h;rw[HPs.out,xU] at h1
     cases h1)
    have F4:=zh xU;clear xU;go_wp2_with(go_at_call 18;refine pZ.out.mono ?_;rintro e w8 ⟨rfl,sC⟩;rw[F4.out]);go_ret;exact⟨aD (by rw[E7.out]),aB sA.out sC⟩
   |true=>
    have HPq:Hid (kW r (k+1)=true):=zh (by rw[HPs.out,xU]);have F4:=zh xU;clear xU;go_wp2_with(go_at_call 18;refine pZ.out.mono ?_;rintro e w8 ⟨rfl,sC⟩;rw[F4.out]);go_roundw;(case rel=>exact⟨k+1,VG,HPq,VT,zh (aB uR.out sC)⟩);case measure=>simp[intOf];omega
  ·obtain rfl:k=L.length:=VG;go_wp2_with fail;go_ret;exact⟨aD (by rw[HPk.out]),sA.out⟩
theorem rcp_less{r:Rcp}{L:List (Value×Stp)}{vi vs v:Value}{w x:World}{base k:Nat}{e:TypeId}(h:eL r L vi vs w)(hb:Below w.heap.size w x)(hk:k<L.length)
  (pP:x.ownsRow base e 4 v (k+(L.length-(k+1))) ((L.take k).flatMap fN++(L.drop (k+1)).flatMap fN)):eL (pB r k) (L.eraseIdx k) vi v x:=by
 have e1:L.eraseIdx k=L.take k++L.drop (k+1):=List.eraseIdx_eq_take_drop_succ _ _;have e2:(L.eraseIdx k).length=k+(L.length-(k+1)):=by rw[e1,List.length_append,List.length_take,List.length_drop];omega
 refine⟨h.inp.later hb,stps_of_owns (base:=base) (e:=e) (by rw[e2,e1,List.flatMap_append];exact pP) (fun y hy=>?_),?_,h.out⟩
 ·have hm:=(List.eraseIdx_sublist L k).subset hy;exact⟨((h.stp.src hm).1).later hb,(h.stp.src hm).2⟩
 ·show(L.eraseIdx k).map (·.2)=r.steps.eraseIdx k;rw[<-h.map,List.eraseIdx_eq_take_drop_succ,List.eraseIdx_eq_take_drop_succ,List.map_append,List.map_take,List.map_drop]
theorem src_sliced{w:World}{b o c l m:Nat}{L:List (Value×Stp)}(h:lD w (.slice (some ⟨b,o,none⟩) L.length c) L)(hl:l<=m)(hm:m<=L.length):
  Src w (sliced (some ⟨b,o,none⟩) l m c 4) (m-l) 4 (((L.drop l).take (m-l)).flatMap fN):=by
 unfold sliced;by_cases e:m=l
 ·subst e;exact .inl ⟨Nat.sub_self _,VL,_,_,by rw[Nat.sub_self]⟩
 ·have hc:L.length<=c:=by
   obtain⟨a',c',e',h1,-⟩:=h;cases e';exact h1
  rw[if_neg VG];have hlen:((L.drop l).take (m-l)).length=m-l:=VZ;refine .inr ⟨VG,_,_,rfl,by rw[stpCells_len,hlen],fun j u hu=>?_,fun u hu=>?_⟩
  ·rcases h.cases with⟨e',-⟩|⟨b',o',c',e',h0,-,-,-,hc'⟩
   ·subst e';simp at hm;omega
   cases e'
   have hj:j<(m-l)*4:=by
    have:=(List.getElem?_eq_some_iff.1 hu).1;rw[stpCells_len,hlen] at this;exact this
   have hi:l+j / 4<L.length:=VG
   have hM:((L.drop l).take (m-l))[j / 4]? =some L[l+j / 4]:=by
    rw[List.getElem?_take,if_pos (show j / 4<m-l by omega),List.getElem?_drop,List.getElem?_eq_getElem hi]
   have h1:=flatMap_at (k:=4) fN ((L.drop l).take (m-l)) (j / 4) L[l+j / 4] (j % 4) (fun y _=>rfl) hM VG;rw[show j / 4*4+j % 4=j by omega,hu] at h1;obtain⟨s0,s1,s2,s3,-⟩:=hc' (l+j / 4) L[l+j / 4] (List.getElem?_eq_getElem hi);show w.cell? (((⟨b,o,none⟩:Addr).add (l*4)).add j)=some u;rw[Addr.add_lit,Addr.add_lit];have hq:j % 4=0\/j % 4=1\/j % 4=2\/j % 4=3:=VG;rcases hq with hq|hq|hq|hq
   ·rw[hq] at h1;cases h1;rw[show o+l*4+j=o+(l+j / 4)*4 by omega];exact s0
   ·rw[hq] at h1;cases h1;rw[show o+l*4+j=o+(l+j / 4)*4+1 by omega];exact s1
   ·rw[hq] at h1;cases h1;rw[show o+l*4+j=o+(l+j / 4)*4+2 by omega];exact s2
   ·rw[hq] at h1;cases h1;rw[show o+l*4+j=o+(l+j / 4)*4+3 by omega];exact s3
  ·obtain⟨y,hy,hu⟩:=List.mem_flatMap.1 hu;exact stpCells_one h u (List.mem_flatMap.2 ⟨y,List.mem_of_mem_drop (List.mem_of_mem_take hy),hu⟩)
theorem src_to{w:World}{b o c m:Nat}{L:List (Value×Stp)}(h:lD w (.slice (some ⟨b,o,none⟩) L.length c) L)(hm:m<=L.length):Src w (.slice (some ⟨b,o,none⟩) m c) m 4 ((L.take m).flatMap fN):=by
 have h1:=src_sliced h (Nat.zero_le m) hm
 have e:sliced (some ⟨b,o,none⟩) 0 m c 4=.slice (some ⟨b,o,none⟩) m c:=by
  unfold sliced;by_cases hc:c=0
  ·rw[if_pos hc];rfl
  ·rw[if_neg hc];show Value.slice (some ((⟨b,o,none⟩:Addr).add (0*4))) (m-0) (c-0)=_;rw[Addr.add_lit];rfl
 rw[e] at h1;exact h1
theorem src_from{w:World}{b o c l:Nat}{L:List (Value×Stp)}(h:lD w (.slice (some ⟨b,o,none⟩) L.length c) L)(hl:l<=L.length):Src w (.slice (if c=l then some ⟨b,o,none⟩ else some ⟨b,o+l*4,none⟩) (L.length-l) (c-l)) (L.length-l) 4 ((L.drop l).flatMap fN):=by
 have h1:=src_sliced h hl (Nat.le_refl _)
 have e:sliced (some ⟨b,o,none⟩) l L.length c 4=.slice (if c=l then some ⟨b,o,none⟩ else some ⟨b,o+l*4,none⟩) (L.length-l) (c-l):=by
  unfold sliced;by_cases hc:c=l
  ·rw[if_pos hc,if_pos hc]
  ·rw[if_neg hc,if_neg hc];show Value.slice (some ((⟨b,o,none⟩:Addr).add (l*4))) _ _=_;rw[Addr.add_lit]
 rw[e,List.take_of_length_le (by rw[List.length_drop];exact Nat.le_refl _)] at h1;exact h1
theorem fils_modify{w:World}{g cap k:Nat}{l:List Fil}{text:ByteArray}(h:iB w (.slice (some ⟨g,0,none⟩) l.length cap) l)(ht:text.size<=140737488355328):
  iB (w.setCell ⟨g,k*2+1,none⟩ (.string text)) (.slice (some ⟨g,0,none⟩) l.length cap) (l.modify k (fun f=>⟨f.name,text⟩)):=by
 obtain⟨a,c,hv,h1,h2,h3⟩:=h;cases hv;refine⟨_,cap,by rw[List.length_modify],by rw[List.length_modify];exact h1,h2,fun pQ=>⟨g,0,rfl,fun i f hf=>?_⟩⟩;have hl:l≠[]:=fun e=>pQ (by rw[e];simp);obtain⟨b,o,e,hc⟩:=h3 hl;cases e;rw[List.getElem?_modify] at hf
 have oth:∀{j:Nat}{v:Value},j≠k*2+1->w.cell? ⟨g,j,none⟩=some v->(w.setCell ⟨g,k*2+1,none⟩ (.string text)).cell? ⟨g,j,none⟩=some v:=fun hj hv=>by
  rw[World.cell?_setCell_other w _ _ _ (fun e=>hj (by injection e with e1 e2;exact e2.symm))];exact hv
 cases hx:l[i]? with
 |none=>rw[hx] at hf;simp at hf
 |some f0=>
  rw[hx] at hf;have hf:(if k=i then(⟨f0.name,text⟩:Fil) else f0)=f:=Option.some.inj hf;obtain⟨cs,he,hlen,hj⟩:=hc i f0 hx;by_cases e:k=i
  ·subst e;rw[if_pos rfl] at hf;subst hf;obtain⟨rfl,z1,z2⟩:=he;refine⟨[.string f0.name,.string text],⟨rfl,z1,ht⟩,rfl,fun j u hu=>?_⟩
   match j,hu with
   |0,hu=>
    cases hu;exact oth VG (hj 0 _ rfl)
   |1,hu=>
    cases hu;have:=hj 1 _ rfl;simp only[Nat.zero_add] at this ⊢;exact World.cell?_setCell_same w _ _ this
  ·rw[if_neg e] at hf;subst hf;refine⟨cs,he,hlen,fun j u hu=>oth ?_ (hj j u hu)⟩;(have NW:j<2:=by rw[<-hlen];exact(List.getElem?_eq_some_iff.1 hu).1);omega
theorem TP{p:Prop}(h:p:=by
 go_wp2_with fail;go_ret
 exact⟨rfl,HB.out.below⟩):p:=h
theorem UQ{p:Prop}(h:p:=by
 clear hp hi NX;go_wp2_with fail;go_roundw;case rel=>exact⟨z+1,VG,by rw[HT2.out],VT,HB,qV⟩
 case measure=>simp[intOf];omega):p:=h
theorem buildSlices_any(r:Rcp)(L:List (Value×Stp))(vi vs vc vo vn:Value)(ck od nx:List Int)(kk:Int)(text:ByteArray)(w:World)(h:eL r L vi vs w)(h1:WldIn ck od nx vc vo vn w)(hG:dH w)(htx:text.size<=140737488355328):
  Calls Tryz.prog 9 #[lY vi vs r.output,.agg #[vc,vo,vn],.int .i64 kk,.string text] w (OkBelow w):=by
 have HR:=zh h;have HV:=zh h1;have HG:=zh hG;obtain⟨⟨a1,c1,rfl⟩,⟨a2,c2,rfl⟩,⟨a3,c3,rfl⟩⟩:=h1.slices;obtain⟨ai,ci,av,cv,rfl,rfl⟩:=h.slices;have hlen:=h.len;have sD:=zh hlen;have hll:L.length<=9223372036854775807:=by obtain⟨a,c,e,hl,-⟩:=stps_at h.stp;exact hl
 obtain⟨i0,tF,rS,qI,qH⟩:=info_parts filInfo;obtain⟨i1,B8,BM,BL,AA⟩:=info_parts stpInfo;clear h h1 hG hlen;have HB:=zh (B2.first w (bK (.slice ai r.inputs.length ci) (.slice av L.length cv) r.output) (wldBox (.slice a1 ck.length c1) (.slice a2 od.length c2) (.slice a3 nx.length c3)));go_enter Tryz.func9,Tryz.ntmps9;go_wp2_with fail;refine(small33_any _ (HG.out.later HB.out.below)).mono ?_;rintro e w1 ⟨rfl,hb⟩
 replace HB:=zh (HB.out.later hb)
 clear hb;obtain⟨r0,r1,r2⟩:=fF HB.out.r0;obtain⟨v0,v1,v2⟩:=fF HB.out.r1;go_wp2_with fail;refine(few_any r L _ _ w1 (HR.out.later HB.out.below)).mono ?_;rintro e w2 ⟨q,rfl,-,hb⟩
 replace HB:=zh (HB.out.later hb)
 clear hb;clear r0 r1 r2 v0 v1 v2
 cases q with
 |false=>
  exact TP
 |true=>
  obtain⟨r0,r1,r2⟩:=fF HB.out.r0;obtain⟨v0,v1,v2⟩:=fF HB.out.r1;go_wp2_with fail;refine(light_any _ _ _ _ _ _ _ _ _ w2).mono ?_;rintro e w3 ⟨q,rfl,hb⟩
  replace HB:=zh (HB.out.later hb)
  clear hb;clear r0 r1 r2 v0 v1 v2
  cases q with
  |false=>
   exact TP
  |true=>
   obtain⟨r0,r1,r2⟩:=fF HB.out.r0;obtain⟨v0,v1,v2⟩:=fF HB.out.r1;go_wp2_with fail;refine(pure_any r L _ _ w3 (HR.out.later HB.out.below)).mono ?_;rintro e w4 ⟨rfl,hb⟩
   replace HB:=zh (HB.out.later hb)
   clear hb;clear r0 r1 r2 v0 v1 v2
   cases hpu:pureL r with
   |false=>
    exact TP
   |true=>
    have HPu:=zh hpu;clear hpu;by_cases ht3:(text.size:Int)<=300
    ·have ht3':¬(300:Int)<(text.size:Int):=VG;by_cases PX:0<=kk
     ·have hk0':¬kk<0:=VG;obtain⟨kn,rfl⟩:∃n:Nat,kk=(n:Int):=⟨kk.toNat,VG⟩;obtain⟨r0,r1,r2⟩:=fF HB.out.r0;obtain⟨v0,v1,v2⟩:=fF HB.out.r1;go_wp2_with fail;refine(runSays_any r L _ _ _ _ _ ck od nx w4 (HR.out.later HB.out.below) (HV.out.later HB.out.below) (HG.out.later HB.out.below)).mono ?_;rintro e w5 ⟨xa,na,ca,sa,ea,rfl,RK,hb⟩
      replace HB:=zh (HB.out.later hb)
      clear hb;clear r0 r1 r2 v0 v1 v2;obtain⟨r0,r1,r2⟩:=fF HB.out.r0;obtain⟨v0,v1,v2⟩:=fF HB.out.r1;go_wp2_with fail;refine(slice_any r L _ _ w5 (HR.out.later HB.out.below)).mono ?_;rintro e w6 ⟨v6,rfl,hI,-,hb⟩
      replace HB:=zh (HB.out.later hb)
      clear hb;clear r0 r1 r2 v0 v1 v2;obtain⟨a6,c6,rfl,h6,qA⟩:=ints_at hI;rw[show(bE (bW r)).length=(bW r).length by simp[bE]] at h6 ⊢;have HI:=zh qA;clear hI qA;by_cases vM:ea=0
      ·subst vM;obtain⟨outA,La,hra,-,-⟩:=RK.out.ok;have MU:=zh hra;have F6:=zh (runL_ok hra).1;clear RK hra;go_wp2_with fail;(go_loopw [14,15] (fun pv iv wz=>∃z:Nat,z<=(bW r).length/\pv=.bool (((bW r).take z).contains kn)/\iv=.int .i64 (z:Int)/\Hid (B2 w (bK (.slice ai r.inputs.length ci) (.slice av L.length cv) r.output) (wldBox (.slice a1 ck.length c1) (.slice a2 od.length c2) (.slice a3 nx.length c3)) wz)/\Hid (Below w6.heap.size w6 wz)) (fun _ iv _=>(bW r).length-(intOf iv).toNat));case atStart=>exact⟨0,Nat.zero_le _,rfl,rfl,HB,zh (Below.refl _ _)⟩
       case round=>
        clear HB;obtain⟨z,hz,rfl,rfl,HB,qV⟩:=hrel;(rename World=>wz);by_cases IJ:z<(bW r).length
        ·obtain⟨i,hi,NX⟩:=getElem?_of_lt IJ;have tG:Hid (((bW r).take (z+1)).contains kn=(((bW r).take z).contains kn||decide (i=kn))):=zh (by rw[List.take_add_one,hi,List.contains_append];simp[eq_comm]);obtain⟨b,o,rfl,hc⟩:=HI.out z (i:Int) (by rw[bE,List.getElem?_map,hi];rfl);have hc:=aC qV.out hc;have rS:(0:Int)<=(z:Int):=VG;have qI:(z:Int)<((bW r).length:Int):=VG
         cases hp:((bW r).take z).contains kn with
         |true=>
          have HT2:Hid (((bW r).take (z+1)).contains kn=true):=zh (by rw[tG.out,hp];rfl);exact UQ
         |false=>
          have HT2:Hid (((bW r).take (z+1)).contains kn=((i:Int)==(kn:Int))):=zh (by
           rw[tG.out,hp,Bool.false_or,Bool.eq_iff_iff,decide_eq_true_eq,beq_iff_eq]
           omega)
          exact UQ
        ·obtain rfl:z=(bW r).length:=VG;rw[List.take_length];clear IJ hz;obtain⟨r0,r1,r2⟩:=fF HB.out.r0;obtain⟨v0,v1,v2⟩:=fF HB.out.r1;rcases Classical.em (kn<L.length/\(bW r).contains kn=false) with hA|hA
         focus
          obtain⟨DF,xC⟩:=hA;have PV:(kn:Int)<(L.length:Int):=VG;(have yA:L.length<=60:=by have:=F6.out.few;have:=sD.out;omega);have yJ:=zh xC;rw[xC]
          obtain⟨bs,os,rfl⟩:∃bs os,av=some ⟨bs,os,none⟩:=by
           obtain⟨y,hy,-⟩:=getElem?_of_lt DF;obtain⟨sl,cs,e,-,qA⟩:=stps_at (HR.out.later HB.out.below).stp;obtain⟨b,o,e2,-⟩:=qA kn y hy;(injection e with e1);exact⟨b,o,by rw[e1,e2]⟩
          have LS:L.length<=cv:=by
           obtain⟨a',c',e',h1,-⟩:=HR.out.stp;cases e';exact h1
          clear xC;go_wp2_with fail;have GG:=zh (aA wz (bK (.slice ai r.inputs.length ci) (.slice (some ⟨bs,os,none⟩) L.length cv) r.output));have HPb:=zh (heap_alloc_new wz (bK (.slice ai r.inputs.length ci) (.slice (some ⟨bs,os,none⟩) L.length cv) r.output));have hyz:wz.heap.size<(wz.alloc (bK (.slice ai r.inputs.length ci) (.slice (some ⟨bs,os,none⟩) L.length cv) r.output)).heap.size:=VL;generalize wz.alloc (bK (.slice ai r.inputs.length ci) (.slice (some ⟨bs,os,none⟩) L.length cv) r.output)=wy at GG HPb hyz ⊢;have P8:11<=wz.heap.size:=(HG.out.later HB.out.below).big;have hw15:IntKind.i64.wrap ((kn:Int)+1)=(kn:Int)+1:=WK;have ht15:((kn:Int)+1).toNat=kn+1:=VG;have hkc:¬cv<kn:=VG;have hkc2:¬(L.length:Int)<(kn:Int)+1:=VG;have hkc3:(0:Int)<=(kn:Int)+1:=VG;obtain⟨pa,hpa⟩:∃pa:Option Addr,(if cv=kn+1 then some ⟨bs,os,none⟩ else some ⟨bs,os+(kn+1)*4,none⟩)=pa:=⟨_,rfl⟩;have HPa:=zh hpa;refine wp_region_held_drew (S:=fun W=>Below wz.heap.size wz W) VH (GG.out.trans (Below.refl _ _).drew) fun hS=>?_;refine zt 1 (.pointer (some ⟨w.heap.size,1,none⟩)) rfl (fun W hW=>VM) hS ?_;(try simp only[zn]);refine zt 2 (.slice (some ⟨bs,os,none⟩) L.length cv) rfl (fun W hW=>by have r1:=aC hW r1;go_simp) hS ?_;(try simp only[zn]);refine zt 3 (.int .i64 (kn:Int)) rfl (fun W hW=>VM) hS ?_;(try simp only[zn]);refine zt 4 (.slice (some ⟨bs,os,none⟩) kn cv) rfl (fun W hW=>VM) hS ?_;(try simp only[zn]);refine zt 6 (.pointer (some ⟨w.heap.size,1,none⟩)) rfl (fun W hW=>VM) hS ?_;(try simp only[zn]);refine zt 7 (.slice (some ⟨bs,os,none⟩) L.length cv) rfl (fun W hW=>by have r1:=aC hW r1;go_simp) hS ?_;(try simp only[zn]);refine zt 8 (.int .i64 (kn:Int)) rfl (fun W hW=>VM) hS ?_;(try simp only[zn]);refine zt 9 (.int .i64 ((kn:Int)+1)) rfl (fun W hW=>VM) hS ?_;(try simp only[zn]);refine zt 10 (.slice pa (L.length-(kn+1)) (cv-(kn+1))) rfl (fun W hW=>VM) hS ?_;(try simp only[zn]);refine zr 0 rfl (fun K hK=>?_);(try simp only[z1,z2,z3]);go_simp;have HBe:=zh (aB (Below.refl _ wy).drew (aA wy.drew (.cells #[] 24)));refine hK.out _ _ (aB GG.out HBe.out) (fun hS=>?_);clear hK K;(try simp only[zn]);have HE1:=zh (src_to ((HR.out.later (aB HB.out.below (aB GG.out HBe.out))).stp) (Nat.le_of_lt DF));refine zr 5 rfl (fun K hK=>?_);(try simp only[z1,z2,z3]);refine oF _ _ 49 rfl wy.heap.size 24 i1 (.agg #[.int .i64 0,.slice none 0 0,.string ByteArray.empty,.bool false]) 4 56 Tryz.underlying49 B8 BM BL AA rfl VG (wy.heap.size) (0) (0) ([]) WF (⟨rfl,.inr ⟨wy.heap.size,0,#[],rfl,Nat.le_refl _,heap_alloc_new wy.drew _,Nat.le_refl _,VR,rfl,rfl⟩⟩) (.slice (some ⟨bs,os,none⟩) kn cv) (kn) _ WF (HE1.out) VR VG VL ?_;intro g1 cap1 wf vO hgr1 CA;have HBf:Hid (Below wy.heap.size wy wf):=zh (grown_new HBe.out hgr1 (Nat.le_refl _));simp only[Nat.zero_add,List.nil_append,Nat.sub_zero,List.drop_zero] at vO ⊢;refine hK.out _ _ (aB GG.out HBf.out) (fun hS=>?_);clear hK K;(try simp only[zn]);have yK:Hid (Src wf (.slice pa (L.length-(kn+1)) (cv-(kn+1))) (L.length-(kn+1)) 4 ((L.drop (kn+1)).flatMap fN)):=zh (by rw[<-HPa.out];exact src_from ((HR.out.later (aB HB.out.below (aB GG.out HBf.out))).stp) (show kn+1<=L.length from DF));refine zr 11 rfl (fun K hK=>?_);(try simp only[z1,z2,z3]);refine oF _ _ 49 rfl wy.heap.size 24 i1 (.agg #[.int .i64 0,.slice none 0 0,.string ByteArray.empty,.bool false]) 4 56 Tryz.underlying49 B8 BM BL AA rfl VG (g1) (kn) (cap1) ((L.take kn).flatMap fN) WF (vO) (.slice pa (L.length-(kn+1)) (cv-(kn+1))) (L.length-(kn+1)) _ WF (yK.out) VR VG (HBf.out.size) ?_;intro g2 cap2 wg wZ hgr2 B9;have HBg:Hid (Below wy.heap.size wy wg):=zh (grown_new HBf.out hgr2 (vO.lt g1 rfl).1);refine hK.out _ _ (aB GG.out HBg.out) (fun hS=>?_);clear hK K;(try simp only[zn]);refine zt 12 (.pointer (some ⟨wz.heap.size,1,none⟩)) rfl (fun W hW=>VM) hS ?_;(try simp only[zn]);obtain⟨⟨p0,p1,p2⟩,q0,q1,q2⟩:=bx3 (aF HBg.out HPb.out);refine zr 13 rfl (fun K hK=>?_);(try simp only[z1,z2,z3]);go_simp;have BJ:Hid (Below wz.heap.size wz (wg.setCell ⟨wz.heap.size,1,none⟩ (.slice (some ⟨g2,0,none⟩) (kn+(L.length-(kn+1))) cap2))):=zh ((aB GG.out HBg.out).setCell (Nat.le_refl _) _);have HRl:Hid (eL (pB r kn) (L.eraseIdx kn) (.slice ai r.inputs.length ci) (.slice (some ⟨g2,0,none⟩) (kn+(L.length-(kn+1))) cap2) (wg.setCell ⟨wz.heap.size,1,none⟩ (.slice (some ⟨g2,0,none⟩) (kn+(L.length-(kn+1))) cap2))):=zh (rcp_less (HR.out.later HB.out.below) BJ.out DF (ownsRow_setCell_below wZ (a:=⟨wz.heap.size,1,none⟩) hyz _));have HPl:Hid ((wg.setCell ⟨wz.heap.size,1,none⟩ (.slice (some ⟨g2,0,none⟩) (kn+(L.length-(kn+1))) cap2)).heap[wz.heap.size]? =some (bK (.slice ai r.inputs.length ci) (.slice (some ⟨g2,0,none⟩) (kn+(L.length-(kn+1))) cap2) r.output)):=zh (by have:=aF HBg.out HPb.out;simp[World.setCell,Array.getElem?_modify,this]);refine hK.out _ _ BJ.out (fun hS=>?_);clear hK K;(try simp only[zn]);refine wpAnyH_done VH ?_ _;clear hS p0 p1 p2 q0 q1 q2 vO hgr1 CA wZ hgr2 B9 HE1 yK HBe HBf HBg;generalize (wg.setCell ⟨wz.heap.size,1,none⟩ (.slice (some ⟨g2,0,none⟩) (kn+(L.length-(kn+1))) cap2))=wh at BJ HRl HPl ⊢
          replace HB:=zh (HB.out.later BJ.out)
          replace qV:=zh (aB qV.out BJ.out)
          clear r0 r1 r2 v0 v1 v2;obtain⟨r0,r1,r2⟩:=fF HB.out.r0;obtain⟨v0,v1,v2⟩:=fF HB.out.r1;obtain⟨l0,l1,l2⟩:=fF HPl.out;go_wp2_with fail;refine(runSays_any (pB r kn) (L.eraseIdx kn) _ _ _ _ _ ck od nx wh HRl.out (HV.out.later HB.out.below) (HG.out.later HB.out.below)).mono ?_;rintro e wj ⟨xb,nb,cb,sb,eb,rfl,wL,hb⟩
          replace HB:=zh (HB.out.later hb)
          replace qV:=zh (aB qV.out hb)
          clear hb l0 l1 l2 HPl HRl BJ GG HPb hyz hw15 ht15 P8 hkc hkc2 hkc3 hpa HPa;clear r0 r1 r2 v0 v1 v2;obtain⟨r0,r1,r2⟩:=fF HB.out.r0;obtain⟨v0,v1,v2⟩:=fF HB.out.r1;obtain⟨A8,vF⟩:=less_law (ck2:=ck) (od2:=od) (nx2:=nx) HPu.out MU.out (k:=kn) (by rw[sD.out];exact DF) (by have h:=yJ.out;intro hm;rw[List.contains_iff_mem.2 hm] at h;cases h);by_cases xJ:eb=0
          focus
           subst xJ;obtain⟨outB,Lb,LJ,-,-⟩:=wL.out.ok;have hts:=A8 _ _ LJ;subst hts;clear A8 vF LJ wL yJ DF PV LS yA;go_wp2_with fail;generalize wj=wk at HB qV r0 r1 r2 v0 v1 v2 ⊢;generalize (some (⟨bs,os,none⟩:Addr))=av at *
          rotate_left
          focus
           (have e0:(eb==0)=false:=by rw[beq_eq_false_iff_ne];exact xJ);(have e1:(eb != 0)=true:=by rw[bne_iff_ne];exact xJ);by_cases he4:eb=4
           focus
            subst he4;clear A8 vF wL yJ DF PV LS yA xJ e0 e1;go_wp2_with fail;generalize wj=wk at HB qV r0 r1 r2 v0 v1 v2 ⊢;generalize (some (⟨bs,os,none⟩:Addr))=av at *
           rotate_left
           focus
            have e4:(eb != 4)=true:=by rw[bne_iff_ne];exact he4
            have E7:Hid (kW r L.length=false):=zh (by
             rw[<-Bool.not_eq_true];intro hp;rw[<-sD.out] at hp
             exact he4 (vF (pureTo_all hp) _ (wL.out.bad xJ).1))
            clear A8 vF wL yJ DF PV LS yA xJ he4;go_wp2_with(go_at_call 34;refine(allPure_any r L _ _ wj (HR.out.later HB.out.below)).mono ?_;rintro e wk ⟨rfl,hb⟩;rw[E7.out])
            replace HB:=zh (HB.out.later hb)
            replace qV:=zh (aB qV.out hb)
            clear hb e0 e1 e4;clear r0 r1 r2 v0 v1 v2;obtain⟨r0,r1,r2⟩:=fF HB.out.r0;obtain⟨v0,v1,v2⟩:=fF HB.out.r1;generalize (some (⟨bs,os,none⟩:Addr))=av at *
         rotate_right
         focus
          have RZ:Hid (¬((kn:Int)<(L.length:Int))\/(bW r).contains kn=true):=zh (by
           by_cases h:kn<L.length
           ·right
            cases hc:(bW r).contains kn with
            |true=>rfl
            |false=>exact absurd ⟨h,hc⟩ hA
           ·left;omega)
          rcases RZ.out with hN|hN
          focus
           clear hA RZ;go_wp2_with fail;generalize wz=wk at HB qV r0 r1 r2 v0 v1 v2 ⊢
          rotate_left
          focus
           rw[hN];clear hA RZ hN;by_cases DF:(kn:Int)<(L.length:Int)
           focus
            go_wp2_with fail;generalize wz=wk at HB qV r0 r1 r2 v0 v1 v2 ⊢
           rotate_left
           focus
            go_wp2_with fail;generalize wz=wk at HB qV r0 r1 r2 v0 v1 v2 ⊢
         all_goals
          by_cases LU:kn<r.inputs.length
          ·have hki':¬(r.inputs.length:Int)<=(kn:Int):=VG;have hki2:(kn:Int)<(r.inputs.length:Int):=VG;have hki3:(0:Int)<=(kn:Int):=VG;obtain⟨g,hg,-⟩:=getElem?_of_lt LU;obtain⟨ax,cx,ex,-,hatF⟩:=fils_at (HR.out.later HB.out.below).inp;(obtain⟨rfl,rfl⟩:ai=ax/\ci=cx:=by injection ex with e1 e2 e3;exact⟨e1,e3⟩);obtain⟨bi,oi,rfl,n0,n1,-,-⟩:=hatF kn g hg;have HGt:=zh hg;have HN0:=zh n0;clear hg ex hatF n1;by_cases hgo:g.name=r.output
           ·(have hgo2:(g.name.toList==r.output.toList)=true:=by rw[cE];exact decide_eq_true hgo);clear hgo;(go_quiet(fail));generalize zK:World.drewN wk _=wl;have uS:Hid (Below wk.heap.size wk wl):=zh WE;clear zK
            replace HB:=zh (HB.out.later uS.out)
            replace qV:=zh (aB qV.out uS.out)
            clear uS;clear r0 r1 r2 v0 v1 v2;obtain⟨r0,r1,r2⟩:=fF HB.out.r0;obtain⟨v0,v1,v2⟩:=fF HB.out.r1;exact TP
           ·(have hgo2:(g.name.toList==r.output.toList)=false:=by rw[cE];exact decide_eq_false hgo);have HGo:=zh hgo;clear hgo;(go_quiet(fail));generalize zK:World.drewN wk _=wl;have uS:Hid (Below wk.heap.size wk wl):=zh WE;clear zK;have HN:=zh (aC uS.out n0);clear n0 HN0
            replace HB:=zh (HB.out.later uS.out)
            replace qV:=zh (aB qV.out uS.out)
            clear uS;clear r0 r1 r2 v0 v1 v2;obtain⟨r0,r1,r2⟩:=fF HB.out.r0;obtain⟨v0,v1,v2⟩:=fF HB.out.r1;go_wp2_with fail;clear r0 r1 r2 v0 v1 v2;(go_loopw [20] (fun iv wr=>∃z:Nat,z<=(bW r).length/\iv=.int .i64 (z:Int)/\Hid (B2 w (bK (.slice (some ⟨bi,oi,none⟩) r.inputs.length ci) (.slice av L.length cv) r.output) (wldBox (.slice a1 ck.length c1) (.slice a2 od.length c2) (.slice a3 nx.length c3)) wr)/\Hid (Below w6.heap.size w6 wr)/\Hid (wr.cell? ⟨bi,oi+kn*2,none⟩=some (.string g.name))/\Hid (∀i∈(bW r).take z,∀s,r.steps[i]? =some s->g.name∉s.src)) (fun iv _=>(bW r).length-(intOf iv).toNat));case atStart=>exact⟨0,Nat.zero_le _,rfl,HB,qV,HN,zh (fun i hi=>absurd hi VL)⟩
            case round=>
             clear HB qV HN;obtain⟨z,hz,rfl,HB,qV,HN,E7⟩:=hrel;(rename World=>wr);obtain⟨r0,r1,r2⟩:=fF HB.out.r0;obtain⟨v0,v1,v2⟩:=fF HB.out.r1;by_cases IJ:z<(bW r).length
             ·obtain⟨i,hi,NX⟩:=getElem?_of_lt IJ;obtain⟨b6,o6,rfl,p0⟩:=HI.out z (i:Int) (by rw[bE,List.getElem?_map,hi];rfl)
              replace p0:=aC qV.out p0
              have hiL:i<L.length:=by
               rw[(pureL_ok HPu.out).2.1] at NX;rw[<-sD.out];exact(mL.1 NX).1
              obtain⟨y,hy,-⟩:=getElem?_of_lt hiL;(have vE:r.steps[i]? =some y.2:=by rw[<-HR.out.map,List.getElem?_map,hy];rfl);obtain⟨sl,cs,e,-,qA⟩:=stps_at (HR.out.later HB.out.below).stp;obtain⟨rfl,rfl⟩:av=sl/\cv=cs:=WJ;obtain⟨bs,os,rfl,s0,s1,s2,s3,hS,-⟩:=qA i y hy;obtain⟨yv,s⟩:=y;dsimp only at s0 s1 s2 s3 hS vE;(have hsl:s.src.length<=9223372036854775807:=by obtain⟨_,_,-,h9,-⟩:=strs_at hS;exact h9);obtain⟨sa0,sc0,rfl⟩:=gI hS
              have tG:Hid ((∀j∈(bW r).take z,∀s,r.steps[j]? =some s->g.name∉s.src)->g.name∉s.src->∀j∈(bW r).take (z+1),∀s,r.steps[j]? =some s->g.name∉s.src):=zh (fun h1 h2 j hj s' hs'=>by
               rw[List.take_add_one,hi] at hj;rcases List.mem_append.1 hj with hj|hj
               ·exact h1 j hj s' hs'
               ·simp at hj;subst hj;rw[vE] at hs';cases hs'
                exact h2)
              have DI:=zh hS;have tF:¬(i:Int)<0:=VG;have B8:¬(L.length:Int)<=(i:Int):=VG;have GO:(0:Int)<=(i:Int):=VG;have NZ:(i:Int)<(L.length:Int):=VG;have rS:(0:Int)<=(z:Int):=VG;have qI:(z:Int)<((bW r).length:Int):=VG;clear hi NX hy vE qA e hS s0 s2 s3;go_wp2_with fail;(go_quiet(fail));generalize zK:World.drewN wr _=wm;have uS:Hid (Below wr.heap.size wr wm):=zh WE;clear zK
              replace HN:=zh (aC uS.out HN.out)
              replace DI:=zh (DI.out.later uS.out)
              replace p0:=aC uS.out p0
              replace s1:=aC uS.out s1
              replace HB:=zh (HB.out.later uS.out)
              replace qV:=zh (aB qV.out uS.out)
              clear uS;clear r0 r1 r2 v0 v1 v2;obtain⟨r0,r1,r2⟩:=fF HB.out.r0;obtain⟨v0,v1,v2⟩:=fF HB.out.r1;go_wp2_with fail;(go_quiet(fail));generalize zK:World.drewN wm _=wo;have uS:Hid (Below wm.heap.size wm wo):=zh WE;clear zK
              replace HN:=zh (aC uS.out HN.out)
              replace DI:=zh (DI.out.later uS.out)
              clear p0 s1
              replace HB:=zh (HB.out.later uS.out)
              replace qV:=zh (aB qV.out uS.out)
              clear uS;clear r0 r1 r2 v0 v1 v2;obtain⟨r0,r1,r2⟩:=fF HB.out.r0;obtain⟨v0,v1,v2⟩:=fF HB.out.r1;go_wp2_with fail;clear r0 r1 r2 v0 v1 v2;(go_loopw [22] (fun nv wn=>∃q:Nat,q<=s.src.length/\nv=.int .i64 (q:Int)/\Hid (B2 w (bK (.slice (some ⟨bi,oi,none⟩) r.inputs.length ci) (.slice (some ⟨bs,os,none⟩) L.length cv) r.output) (wldBox (.slice a1 ck.length c1) (.slice a2 od.length c2) (.slice a3 nx.length c3)) wn)/\Hid (Below w6.heap.size w6 wn)/\Hid (wn.cell? ⟨bi,oi+kn*2,none⟩=some (.string g.name))/\Hid (Strs wn (.slice sa0 s.src.length sc0) s.src)/\Hid (g.name∉s.src.take q)) (fun nv _=>s.src.length-(intOf nv).toNat));case atStart=>exact⟨0,Nat.zero_le _,rfl,HB,qV,HN,DI,zh VL⟩
              case round=>
               clear HB qV HN DI;obtain⟨q,hq,rfl,HB,qV,HN,DI,HNq⟩:=hrel;(rename World=>wn);obtain⟨r0,r1,r2⟩:=fF HB.out.r0;obtain⟨v0,v1,v2⟩:=fF HB.out.r1;have n0:=HN.out;by_cases hlq:q<s.src.length
               ·obtain⟨x,hx,-⟩:=getElem?_of_lt hlq;obtain⟨a9,c9,e9,-,qA⟩:=strs_at DI.out;cases e9;obtain⟨b9,o9,rfl,p9,-⟩:=qA q x hx
                have HXk:Hid (¬x=g.name->g.name∉s.src.take (q+1)):=zh (fun pQ=>by
                 rw[List.take_add_one,hx];intro hm;rcases List.mem_append.1 hm with hm|hm
                 ·exact HNq.out hm
                 ·simp at hm;exact pQ hm.symm)
                have vY:(0:Int)<=(q:Int):=VG;have yV:(q:Int)<(s.src.length:Int):=VG;clear hx qA;by_cases BO:x=g.name
                ·(have hxe2:(x.toList==g.name.toList)=true:=by rw[cE];exact decide_eq_true BO);clear BO;go_wp2_with fail;(go_quiet(fail));generalize zK:World.drewN wn _=wp;have uS:Hid (Below wn.heap.size wn wp):=zh WE;clear zK
                 replace HB:=zh (HB.out.later uS.out)
                 replace qV:=zh (aB qV.out uS.out)
                 clear uS;clear r0 r1 r2 v0 v1 v2;obtain⟨r0,r1,r2⟩:=fF HB.out.r0;obtain⟨v0,v1,v2⟩:=fF HB.out.r1;exact TP
                ·(have hxe2:(x.toList==g.name.toList)=false:=by rw[cE];exact decide_eq_false BO);have rW:=zh (HXk.out BO);clear BO;go_wp2_with fail;(go_quiet(fail));generalize zK:World.drewN wn _=wp;have uS:Hid (Below wn.heap.size wn wp):=zh WE;clear zK
                 replace HN:=zh (aC uS.out HN.out)
                 replace DI:=zh (DI.out.later uS.out)
                 replace HB:=zh (HB.out.later uS.out)
                 replace qV:=zh (aB qV.out uS.out)
                 clear uS;clear r0 r1 r2 v0 v1 v2;obtain⟨r0,r1,r2⟩:=fF HB.out.r0;obtain⟨v0,v1,v2⟩:=fF HB.out.r1;go_wp2_with fail;go_roundw;(case rel=>exact⟨q+1,VG,VT,HB,qV,HN,DI,rW⟩);case measure=>simp[intOf];omega
               ·obtain rfl:q=s.src.length:=VG;have HN2:=zh (tG.out E7.out (by have h:=HNq.out;rwa [List.take_length] at h));go_wp2_with fail;go_roundw;(case rel=>exact⟨z+1,VG,VT,HB,qV,HN,HN2⟩);case measure=>simp[intOf];omega
             ·obtain rfl:z=(bW r).length:=VG;have HNo2:=zh (show ∀i∈bW r,∀s,r.steps[i]? =some s->g.name∉s.src by have h:=E7.out;rwa [List.take_length] at h);clear E7 HN IJ hz;have HP:=zh (heap_alloc_new wr (bK (.slice (some ⟨bi,oi,none⟩) r.inputs.length ci) (.slice av L.length cv) r.output));have D9:=zh (aB (aA wr (bK (.slice (some ⟨bi,oi,none⟩) r.inputs.length ci) (.slice av L.length cv) r.output)) (aA (wr.alloc (bK (.slice (some ⟨bi,oi,none⟩) r.inputs.length ci) (.slice av L.length cv) r.output)) (.cells #[] 40)));have HSr:=zh (src_fils ((HR.out.later (aB HB.out.below D9.out)).inp));have P8:11<=wr.heap.size:=(HG.out.later HB.out.below).big;(have hi60:r.inputs.length<=60:=by have:=F6.out.room;omega);have hE:=heap_alloc_new (wr.alloc (bK (.slice (some ⟨bi,oi,none⟩) r.inputs.length ci) (.slice av L.length cv) r.output)) (.cells #[] 40);rw[show(wr.alloc (bK (.slice (some ⟨bi,oi,none⟩) r.inputs.length ci) (.slice av L.length cv) r.output)).heap.size=wr.heap.size+1 by simp] at hE;have q0:=aC (aA wr (bK (.slice (some ⟨bi,oi,none⟩) r.inputs.length ci) (.slice av L.length cv) r.output)) r0;have q0':=aC D9.out r0;go_wp2_with(at_builtin;refine wpList_append_all rfl _ _ 25 rfl (wr.heap.size+1) 40 i0 (.agg #[.string ByteArray.empty,.string ByteArray.empty]) 2 32 Tryz.underlying25 tF rS qI qH rfl VG (wr.heap.size+1) 0 0 [] WF ⟨rfl,.inr ⟨wr.heap.size+1,0,#[],rfl,Nat.le_refl _,hE,Nat.le_refl _,VR,rfl,rfl⟩⟩ (.slice (some ⟨bi,oi,none⟩) r.inputs.length ci) r.inputs.length (cI r.inputs) WF HSr.out VR VG VL ?_);intro g' cap' w8 pP hgr hg8;(try simp only[Nat.zero_add,List.nil_append] at pP);(try simp only[Nat.zero_add]);have zH:Hid (Below wr.heap.size wr w8):=zh (grown_new D9.out hgr VG);have DW:=(pP.lt g' rfl).1;have HP8:Hid (w8.heap[wr.heap.size]? =some (bK (.slice (some ⟨bi,oi,none⟩) r.inputs.length ci) (.slice av L.length cv) r.output)):=zh ((hgr.block wr.heap.size VZ (fun e=>by injection e with e;omega)).trans (aF (aA _ _) HP.out));have hF8:=fils_of_owns pP (fun f hf=>fils_size HR.out.inp hf)
              obtain⟨cur,LZ⟩:∃cur,w8.heap[g']? =some (.cells cur 40 (0,0)):=by
               rcases pP.2 with⟨e,-⟩|⟨g9,cap9,cur,e,-,hc,-⟩
               ·cases e
               ·cases e;exact⟨cur,hc⟩
              have hfr:w8.frozen? ⟨g',kn*2+1,none⟩=false:=by simp[World.frozen?,LZ]
              have hce:w8.cell? ⟨g',kn*2+1,none⟩=some (.string g.text):=by
               obtain⟨a8,c8,e8,-,hat8⟩:=fils_at hF8;obtain⟨b8,o8,e9,-,h9,-⟩:=hat8 kn g HGt.out;cases e8;cases e9;simpa using h9
              have pQ:g'≠wr.heap.size:=VG;obtain⟨⟨p0,p1,p2⟩,q1,q2,q3⟩:=bx3 HP8.out;(have hce2:(w8.setCell ⟨wr.heap.size,0,none⟩ (.slice (some ⟨g',0,none⟩) r.inputs.length cap')).cell? ⟨g',kn*2+1,none⟩=some (.string g.text):=by rw[World.cell?_setCell_far _ _ _ _ (by simpa using pQ.symm)];exact hce);have R8:=zh (fils_modify (k:=kn) (text:=text) (iB.apart hF8 (w':=w8.setCell ⟨wr.heap.size,0,none⟩ (.slice (some ⟨g',0,none⟩) r.inputs.length cap')) (fun a n c e _=>by cases e;exact Below.heap_setCell _ _ _ _ pQ)) htx);have E9:Hid (Below wr.heap.size wr ((w8.setCell ⟨wr.heap.size,0,none⟩ (.slice (some ⟨g',0,none⟩) r.inputs.length cap')).setCell ⟨g',kn*2+1,none⟩ (.string text))):=zh ((zH.out.setCell (Nat.le_refl _) _).setCell (show wr.heap.size<=g' by omega) _)
              have HP9:Hid (((w8.setCell ⟨wr.heap.size,0,none⟩ (.slice (some ⟨g',0,none⟩) r.inputs.length cap')).setCell ⟨g',kn*2+1,none⟩ (.string text)).heap[wr.heap.size]? =some (bK (.slice (some ⟨g',0,none⟩) r.inputs.length cap') (.slice av L.length cv) r.output)):=zh (by
               rw[Below.heap_setCell _ _ _ _ (by simpa using pQ.symm)]
               simp[World.setCell,Array.getElem?_modify,HP8.out])
              have HRo:Hid (eL (oX r kn text) L (.slice (some ⟨g',0,none⟩) r.inputs.length cap') (.slice av L.length cv) ((w8.setCell ⟨wr.heap.size,0,none⟩ (.slice (some ⟨g',0,none⟩) r.inputs.length cap')).setCell ⟨g',kn*2+1,none⟩ (.string text))):=zh ⟨R8.out,(HR.out.later (aB HB.out.below E9.out)).stp,HR.out.map,HR.out.out⟩;obtain⟨z0,z1,z2⟩:=fF HP9.out;obtain⟨y0,y1,y2⟩:=fF (HB.out.later E9.out).r1;clear pP hgr hE LZ HSr D9 q0' hF8 DW;go_wp2_with fail;refine(runSays_any (oX r kn text) L _ _ _ _ _ ck od nx ((w8.setCell ⟨wr.heap.size,0,none⟩ (.slice (some ⟨g',0,none⟩) r.inputs.length cap')).setCell ⟨g',kn*2+1,none⟩ (.string text)) HRo.out (HV.out.later (aB HB.out.below E9.out)) (HG.out.later (aB HB.out.below E9.out))).mono ?_;rintro e wj ⟨xb,nb,cb,sb,eb,rfl,wL,hb⟩;have HBj:=zh (aB (aB HB.out.below E9.out) hb);clear hb z0 z1 z2 y0 y1 y2 r0 r1 r2 v0 v1 v2 p0 p1 p2 q0 q1 q2 q3 hce hce2 hfr pQ;by_cases xJ:eb=0
              ·subst xJ;obtain⟨outB,Lb,LJ,-,-⟩:=wL.out.ok;have hts:=other_law HPu.out MU.out HGt.out HGo.out HNo2.out LJ;subst hts;clear LJ wL;go_wp2_with fail;go_ret;exact⟨rfl,HBj.out⟩
              ·(have e1:(eb != 0)=true:=by rw[bne_iff_ne];exact xJ);clear xJ wL;go_wp2_with fail;go_ret;exact⟨rfl,HBj.out⟩
          ·have hki':(r.inputs.length:Int)<=(kn:Int):=VG;(go_quiet(fail));generalize zK:World.drewN wk _=wl;have uS:Hid (Below wk.heap.size wk wl):=zh WE;clear zK
           replace HB:=zh (HB.out.later uS.out)
           replace qV:=zh (aB qV.out uS.out)
           clear uS;clear r0 r1 r2 v0 v1 v2;obtain⟨r0,r1,r2⟩:=fF HB.out.r0;obtain⟨v0,v1,v2⟩:=fF HB.out.r1;exact TP
      ·(have e0:(ea==0)=false:=by rw[beq_eq_false_iff_ne];exact vM);(have e1:(ea != 0)=true:=by rw[bne_iff_ne];exact vM);clear RK vM;exact TP
     ·have hk0':kk<0:=VG;exact TP
    ·have ht3':(300:Int)<(text.size:Int):=VG;exact TP
end Go.Proofs.YtacgopankhpnbaaGreatDoor
