/- Joined. -/
import Derived.Test.YtacgopankhpnbaaGreatDoorTQS
set_option maxHeartbeats 8000000
set_option maxRecDepth 100000
set_option linter.unusedVariables false
set_option linter.unusedSimpArgs false
namespace Go.Proofs.YtacgopankhpnbaaGreatDoor
open Go.RowKit
theorem ZG{p:Prop}(h:p:=by
 go_wp2_with fail;go_roundw;case rel=>exact⟨j+1,PA,m,aAM,aAV,BC,zT,aAM⟩
 case measure=>simp[intOf];omega):p:=h
theorem ZS{p:Prop}(h:p:=by
 go_quiet(fail)
 go_wp2_with fail
 exact kS (W:=w9.drewN _) LU.out rfl rfl rfl (dA DO.out _) (Nat.le_succ _)):p:=h
theorem Z2{p:Prop}(h:p:=by
 have tW:=xT.out;clear JF;go_wp2_with fail;go_region
 go_wp2_with fail;go_roundw;case rel=>exact⟨j+1,PA+1,_,aAM,aAV,BC,IL,aAM⟩
 case measure=>simp[intOf];omega):p:=h
theorem aAn{p:Prop}(h:p:=by
 go_wp2_with fail
 exact kS T8.out rfl rfl rfl uW.out (Nat.le_succ _)):p:=h
theorem aAD{p:Prop}(h:p:=by
 exact h'.map.of_block ((aZ aAM).trans ((aZ aAM).trans ((aZ aAM).trans (aZ aAM))))):p:=h
theorem dA{B:Nat}{w w':World}(h:Below B w w')(n:Nat):Below B w (w'.drewN n):=⟨h.os,h.tape,h.output,h.size,h.block⟩
section
variable {g n nm:Nat} {B wr w':World} {st:RSt} {T:List Bool} {D:List (Value×Dn)} {m:bA->Option bA}
theorem RdW.onto{wb:World}(h:RdW g n B st T D nm m wr)(hb:Off (rdS g) wb B):RdW g n wb st T D nm m wr:=⟨hb.trans h.off,h.arr,h.len,h.thr,h.tlen,h.marks,h.of,h.map⟩
theorem RdW.did(h:RdW g n B st T D nm m wr){i:Nat}{sv:Value}{d:Dn}(ha:qB w' g (D.set i (sv,d)))(ht:ArrB w' (g+1+1+1) (T.set i true))(hm:aX eQ vStr w' (g+1) nm m)(ho:Off (rdS g) wr w')(hi:i<n):
  RdW g n B ⟨gS st.there i,qG st.of i d,m⟩ (T.set i true) (D.set i (sv,d)) nm m w':=by
 refine⟨h.off.trans ho,ha,by rw[List.length_set];exact h.len,ht,by rw[List.length_set];exact h.tlen,fun j hj=>?_,fun j hj=>?_,hm⟩
 ·show(T.set i true)[j]? =some (gS st.there i j);unfold gS;rw[List.getElem?_set];by_cases e:i=j
  ·subst e;simp[h.tlen,hi]
  rw[if_neg e,if_neg (Ne.symm e)];exact h.marks j hj
 show ∃v,(D.set i (sv,d))[j]? =some (v,qG st.of i d j);unfold qG;rw[List.getElem?_set];by_cases e:i=j
 ·subst e;exact⟨sv,by simp[h.len,hi]⟩
 rw[if_neg e,if_neg (Ne.symm e)];exact h.of j hj
theorem RdW.drew(h:RdW g n B st T D nm m wr):RdW g n B st T D nm m wr.drew:=⟨h.off.drew,h.arr,h.len,h.thr,h.tlen,h.marks,h.of,h.map⟩
theorem aZ{w:World}{b o k:Nat}{v:Value}(hk:k≠b):(w.setCell ⟨b,o,none⟩ v).heap[k]? =w.heap[k]? :=Below.heap_setCell _ _ _ _ hk
theorem RdW.didA(h:RdW g n B st T D nm m wr){i:Nat}(sv:Value)(d:Dn)(hi:i<n):
  RdW g n B ⟨gS st.there i,qG st.of i d,m⟩ (T.set i true) (D.set i (sv,d)) nm m ((((wr.setCell ⟨g+1+1+1,i,none⟩ (.bool true)).setCell ⟨g,i*3,none⟩ (.int .i64 d.step)).setCell ⟨g,i*3+1,none⟩ sv).setCell ⟨g,i*3+2,none⟩ (.string d.out)):=by
 have h':=h;have h1:qB (wr.setCell ⟨g+1+1+1,i,none⟩ (.bool true)) g D:=(aZ aAM).trans h'.arr;have h2:=h'.thr.set i true;refine h.did (h1.set i (sv,d)) ?_ ?_ ?_ hi
 ·exact(aZ aAM).trans ((aZ aAM).trans ((aZ aAM).trans h2))
 ·exact aAD
 exact(((Off.setCell _ (.inr (.inr rfl))).trans (Off.setCell _ (.inl rfl))).trans (Off.setCell _ (.inl rfl))).trans (Off.setCell _ (.inl rfl))
theorem RdW.didB(h:RdW g n B st T D nm m wr){i:Nat}(sv:Value)(d:Dn)(hi:i<n):
  RdW g n B ⟨gS st.there i,qG st.of i d,m⟩ (T.set i true) (D.set i (sv,d)) nm m ((((wr.setCell ⟨g,i*3,none⟩ (.int .i64 d.step)).setCell ⟨g,i*3+1,none⟩ sv).setCell ⟨g,i*3+2,none⟩ (.string d.out)).setCell ⟨g+1+1+1,i,none⟩ (.bool true)):=by
 have h':=h;have h1:=h'.arr.set i (sv,d)
 have h2:ArrB (((wr.setCell ⟨g,i*3,none⟩ (.int .i64 d.step)).setCell ⟨g,i*3+1,none⟩ sv).setCell ⟨g,i*3+2,none⟩ (.string d.out)) (g+1+1+1) T:=
  (aZ aAM).trans ((aZ aAM).trans ((aZ aAM).trans h'.thr))
 refine h.did ((aZ aAM).trans h1) (h2.set i true) ?_ ?_ hi
 ·exact aAD
 exact(((Off.setCell _ (.inl rfl)).trans (Off.setCell _ (.inl rfl))).trans (Off.setCell _ (.inl rfl))).trans (Off.setCell _ (.inr (.inr rfl)))
end
section
variable {w W:World} {a:Act} {p n:Nat} {x y:Value}
theorem rdW_first(n:Nat)(hw:w.heap.size=p):RdW p n ((((w.alloc (.cells (bN (List.replicate n (.slice none 0 0,jX))).toArray 59)).alloc (.map #[] 0)).alloc (oBx33 (some ⟨p,0,none⟩) n n (.map (some (p+1))))).alloc (.cells (Array.replicate n (.bool false)) 4)) mM (List.replicate n false) (List.replicate n (.slice none 0 0,jX)) 0 (fun _=>none)
  ((((w.alloc (.cells (bN (List.replicate n (.slice none 0 0,jX))).toArray 59)).alloc (.map #[] 0)).alloc (oBx33 (some ⟨p,0,none⟩) n n (.map (some (p+1))))).alloc (.cells (Array.replicate n (.bool false)) 4)):=by
 subst hw;refine⟨Off.refl _ _,?_,aAQ,?_,aAQ,fun i hi=>?_,fun i hi=>⟨.slice none 0 0,?_⟩,?_⟩
 ·exact aD (aB (aB (aA _ _) (aA _ _)) (aA _ _)) (aH w _)
 ·have:=aH (((w.alloc (.cells (bN (List.replicate n (.slice none 0 0,jX))).toArray 59)).alloc (.map #[] 0)).alloc (oBx33 (some ⟨w.heap.size,0,none⟩) n n (.map (some (w.heap.size+1))))) (.cells (Array.replicate n (.bool false)) 4);unfold ArrB;rw[show((List.replicate n false).map Value.bool).toArray=Array.replicate n (.bool false) by simp];exact Y9
 ·rw[List.getElem?_replicate,if_pos hi];rfl
 ·rw[List.getElem?_replicate,if_pos hi];rfl
 have:=((aX.made (K:=eQ) (V:=vStr) (w.alloc (.cells (bN (List.replicate n (.slice none 0 0,jX))).toArray 59))).later (aA _ (oBx33 (some ⟨w.heap.size,0,none⟩) n n (.map (some (w.heap.size+1)))))).later (aA _ (.cells (Array.replicate n (.bool false)) 4));exact Y9
theorem kS{Ld:List (Value×Dn)}(hz:W.heap[p]? =some (.cells #[x,y] 113))(h4:a.tmps[4]?.getD undef=.pointer (some ⟨p,0,none⟩))(h5:a.tmps[5]?.getD undef=.bool false)(hd:a.defers=[])(hb:Below w.heap.size w W)(hp:w.heap.size<=p):
  bodyPost Tryz.prog Tryz.f71 (RdPost n Ld none w) .ret a ((W.setCell ⟨p,0,none⟩ (.slice none 0 0)).setCell ⟨p,1,none⟩ (.map none)):=by
 obtain⟨c0,c1,-,-⟩:=kE (set2 (x:=.slice none 0 0) (y:=.map none) hz);exact bodyPost_ret (v:=.tuple #[recNone,.bool false]) (by simp[results,Tryz.results71,go_sem,h4,h5,c0,c1]) hd ⟨(hb.setCell aA0 _).setCell aA0 _,rfl⟩
theorem read_some{Ld:List (Value×Dn)}{g bm:Nat}{st:RSt}{D:List (Value×Dn)}(hz:W.heap[p]? =some (.cells #[x,y] 113))(h4:a.tmps[4]?.getD undef=.pointer (some ⟨p,0,none⟩))(h5:a.tmps[5]?.getD undef=.bool true)(hd:a.defers=[])(hb:Below w.heap.size w W)(hp:w.heap.size<=p)
  (hr:RecIs ((W.setCell ⟨p,0,none⟩ (.slice (some ⟨g,0,none⟩) n n)).setCell ⟨p,1,none⟩ (.map (some bm))) g bm n st D) (hf:RecFar w.heap.size Ld g bm D):
  bodyPost Tryz.prog Tryz.f71 (RdPost n Ld (some st) w) .ret a ((W.setCell ⟨p,0,none⟩ (.slice (some ⟨g,0,none⟩) n n)).setCell ⟨p,1,none⟩ (.map (some bm))):=by
 obtain⟨c0,c1,-,-⟩:=kE (set2 (x:=.slice (some ⟨g,0,none⟩) n n) (y:=.map (some bm)) hz);exact bodyPost_ret (v:=.tuple #[recV g bm n,.bool true]) (by simp[results,Tryz.results71,go_sem,h4,h5,c0,c1]) hd ⟨(hb.setCell aA0 _).setCell aA0 _,g,bm,D,rfl,hr,hf⟩
end
theorem read_any(r:Rcp)(L:List (Value×Stp))(Ld:List (Value×Dn))(vi vs vl:Value)(w:World)(h:dR r L vi vs w)(hl:Dns w vl Ld):
  Calls Tryz.prog 71 #[jD vi vs r.output,vl] w (RdPost r.steps.length Ld (bQ r (Ld.map (·.2))) w):=by
 have HR:=zh h;have HL:=zh hl;have hlen:=h.len;have vB:=zh hlen;rw[hlen];generalize vM:bQ r (Ld.map (·.2))=res;have uH:=zh vM;clear vM;obtain⟨ai,ci,av,cv,rfl,rfl⟩:=h.slices;obtain⟨al,cl,rfl⟩:=fB hl;clear h hl;have B1:=aA w (aY (.slice ai r.inputs.length ci) (.slice av L.length cv) r.output);have B2:=aA (w.alloc (aY (.slice ai r.inputs.length ci) (.slice av L.length cv) r.output)) (oBx33 none 0 0 (.map none));have sH:=zh (aB B1 B2);have tZ:=zh (aD B2 (aH w (aY (.slice ai r.inputs.length ci) (.slice av L.length cv) r.output)));have zB:=zh (aH (w.alloc (aY (.slice ai r.inputs.length ci) (.slice av L.length cv) r.output)) (oBx33 none 0 0 (.map none)));simp only[World.size_alloc] at zB;clear B1 B2;go_enter Tryz.func71,Tryz.ntmps71;go_wp2_with fail;refine(rH r L _ _ _ (HR.out.later sH.out)).mono ?_;rintro e w1 ⟨rfl,hb⟩
 replace tZ:=zh (aD hb tZ.out)
 replace zB:=zh (aD hb zB.out)
 replace sH:=zh (aB sH.out hb)
 clear hb;obtain⟨r0,r1,r2⟩:=bD tZ.out;obtain⟨z0,z1,f0,f1⟩:=kE zB.out;by_cases he:aP r=0
 ·by_cases hn:Ld.length=L.length
  ·replace uH:=zh (show jG r.steps (Ld.map (·.2)) mM=res by rw[<-uH.out];unfold bQ;rw[if_neg (by simp[he,hn,hlen])])
   rw[he];(have DG:L.length<=60:=by have:=(gG he).few;omega);have EF:=zh (gG he);clear he;have DH:=zh hn;have M5:=make_dns L.length aAM;have hmb:=make_bools L.length aAM;have yV:=@run_makeMap Tryz.prog;rw[hn] at HL ⊢;clear hn;go_wp2_with fail;have hg0:w.heap.size+1<w1.heap.size:=(Array.getElem?_eq_some_iff.1 zB.out).1;have XL:=zh (rdW_first (w:=w1) L.length rfl);have sV:=zh (aB (aB (aB (aA w1 (.cells (bN (List.replicate L.length (.slice none 0 0,jX))).toArray 59)) (aA _ (.map #[] 0))) (aA _ (oBx33 (some ⟨w1.heap.size,0,none⟩) L.length L.length (.map (some (w1.heap.size+1)))))) (aA _ (.cells (Array.replicate L.length (.bool false)) 4)))
   have zK:=zh (show((((w1.alloc (.cells (bN (List.replicate L.length (.slice none 0 0,jX))).toArray 59)).alloc (.map #[] 0)).alloc (oBx33 (some ⟨w1.heap.size,0,none⟩) L.length L.length (.map (some (w1.heap.size+1))))).alloc (.cells (Array.replicate L.length (.bool false)) 4)).heap[w1.heap.size+1+1]? =some (oBx33 (some ⟨w1.heap.size,0,none⟩) L.length L.length (.map (some (w1.heap.size+1)))) from by
    have:=aD (aA _ (.cells (Array.replicate L.length (.bool false)) 4)) (aH ((w1.alloc (.cells (bN (List.replicate L.length (.slice none 0 0,jX))).toArray 59)).alloc (.map #[] 0)) (oBx33 (some ⟨w1.heap.size,0,none⟩) L.length L.length (.map (some (w1.heap.size+1)))))
    simpa only[World.size_alloc] using this)
   replace tZ:=zh (aD sV.out tZ.out)
   replace zB:=zh (aD sV.out zB.out)
   replace sH:=zh (aB sH.out sV.out)
   clear sV r0 r1 r2 z0 z1 f0 f1 M5 hmb yV;generalize ((((w1.alloc (.cells (bN (List.replicate L.length (.slice none 0 0,jX))).toArray 59)).alloc (.map #[] 0)).alloc (oBx33 (some ⟨w1.heap.size,0,none⟩) L.length L.length (.map (some (w1.heap.size+1))))).alloc (.cells (Array.replicate L.length (.bool false)) 4))=wb at XL zK tZ zB sH ⊢;generalize w1.heap.size=g at hg0 XL zK ⊢;have HgS:Hid (∀k,rdS g k->w.heap.size<=k):=zh (fun k hk=>by rcases hk with rfl|rfl|rfl<;>omega);have K3:Hid (¬rdS g w.heap.size/\¬rdS g (w.heap.size+1)/\¬rdS g (g+1+1)):=zh ⟨fun hk=>aCf,fun hk=>aCf,fun hk=>aCf⟩;go_loopw [37] (fun i wr=>∃(k:Nat)(st:RSt)(T:List Bool)(D:List (Value×Dn))(nm:Nat),k<=L.length/\i=.int .i64 k/\Hid (lT r.steps (Ld.map (·.2)) k st)/\Hid (RdW g L.length wb st T D nm st.inp wr)/\nm<=k*60/\Hid (∀y,y∈D->y∈Ld\/y=(.slice none 0 0,jX))) (fun i _=>L.length-(intOf i).toNat)
   case atStart=>
    refine⟨0,mM,_,_,0,Nat.zero_le _,rfl,zh (lT.first _ _),XL,aAM,zh (fun y hy=>?_)⟩;exact .inr (List.mem_replicate.1 hy).2
   case round=>
    obtain⟨k,st,T,D,nm,hk,rfl,yT,HW,xY,F5⟩:=hrel;have xA:=zh (HW.out.off.below sH.out HgS.out sH.out.size);obtain⟨x0,x1,-,-⟩:=kE (HW.out.off.heap K3.out.2.2 zK.out);obtain⟨r0,r1,r2⟩:=bD (HW.out.off.heap K3.out.1 tZ.out);by_cases sE:k<L.length
    ·obtain⟨y,hy,-⟩:=getElem?_of_lt (l:=Ld) (k:=k) (by rw[DH.out];exact sE);have hlw:=HL.out;rw[<-DH.out] at hlw;rcases hlw.cases with⟨e,-⟩|⟨bl,ol,c,e,-,-,-,-,hc⟩
     ·rw[e] at hy;simp at hy
     rw[DH.out] at e;obtain⟨rfl,rfl⟩:al=some ⟨bl,ol,none⟩/\cl=c:=aAT;obtain⟨d0,d1,d2,dstr,doz⟩:=hc k y hy;have HY:=zh hy
     replace d0:=aC xA.out d0
     replace d1:=aC xA.out d1
     replace d2:=aC xA.out d2
     clear hc e hy hlw;obtain⟨yv,step,saw,out⟩:=y;simp only at d0 d1 d2 dstr doz;have GA:=zh doz;clear doz;obtain⟨sa,sc,rfl⟩:=bW dstr;have IN:=zh dstr;clear dstr;have xB:=zh (aA wr (rK step sa saw.length sc out));have xV:=zh (aH wr (rK step sa saw.length sc out));have hgw:g+1+1<wr.heap.size:=cT x0;have hgw3:g+1+1+1<wr.heap.size:=HW.out.thr.lt;(have hkd:(Ld.map (·.2))[k]? =some ⟨step,saw,out⟩:=by rw[List.getElem?_map,HY.out];rfl);have UL:=zh hkd;clear hkd r0 r1 r2 x0 x1;go_wp2_with fail;have D6:=zh (HW.out.later xB.out);have DO:=zh (aB xA.out xB.out);have xP:=xB.out.size;clear d0 d1 d2;generalize wr.alloc (rK step sa saw.length sc out)=w9 at D6 DO xV xB xP ⊢;obtain⟨e0,e1,e2⟩:=bD xV.out;have MU:wr.heap.size<w9.heap.size:=cT e0;generalize wr.heap.size=q9 at hgw hgw3 xV MU e0 e1 e2 ⊢;by_cases vP:step<0
     ·(obtain rfl:res=none:=by rw[<-uH.out];exact yT.out.bad UL.out (readDn_neg vP));have hq:decide (step<0)=true:=decide_eq_true vP;have LU:=zh (D6.out.off.heap K3.out.2.1 zB.out);obtain⟨z0,z1,f0,f1⟩:=kE LU.out;exact ZS
     by_cases KU:(L.length:Int)<=step
     ·(obtain rfl:res=none:=by rw[<-uH.out];exact yT.out.bad UL.out (readDn_far (by rw[vB.out];exact KU)));have hq:decide (step<0)=false:=decide_eq_false vP;have DW:decide ((L.length:Int)<=step)=true:=decide_eq_true KU;have LU:=zh (D6.out.off.heap K3.out.2.1 zB.out);obtain⟨z0,z1,f0,f1⟩:=kE LU.out;exact ZS
     obtain⟨i,rfl⟩:∃i:Nat,step=(i:Int):=⟨step.toNat,aAM⟩;have hi:i<L.length:=aAM;obtain⟨ys,DR,hysm⟩:=getElem?_of_lt hi;have HYs:=zh DR;(have vO:r.steps[i]? =some ys.2:=by rw[<-HR.out.map,List.getElem?_map,DR];rfl);have CU:=zh vO;have HMk:=zh (D6.out.marks i hi);have JE:decide ((i:Int)<0)=false:=decide_eq_false vP;have BE:decide ((L.length:Int)<=(i:Int))=false:=decide_eq_false KU;have PI:decide (L.length<=i)=false:=decide_eq_false aAM;have hn3:¬L.length<=i:=aAM;have vA:(0:Int)<=(i:Int):=aAM;have DD:(i:Int)<(L.length:Int):=aAM;clear vO vP KU
     cases M5:st.there i with
     |true=>
      rw[M5] at HMk;(obtain rfl:res=none:=by rw[<-uH.out];exact yT.out.bad UL.out (readDn_there rfl CU.out M5));have LU:=zh (D6.out.off.heap K3.out.2.1 zB.out);obtain⟨z0,z1,f0,f1⟩:=kE LU.out;obtain⟨t0,-⟩:=D6.out.thr.at_ HMk.out;clear M5 DR hysm;exact ZS
     |false=>
      rw[M5] at HMk;have DL:=zh M5;obtain⟨t0,-⟩:=D6.out.thr.at_ HMk.out;have HX9:=zh (D6.out.off.heap K3.out.2.2 zK.out);have LU:=zh (D6.out.off.heap K3.out.2.1 zB.out);have HR9:=zh (D6.out.off.heap K3.out.1 tZ.out);obtain⟨r0,r1,r2⟩:=bD HR9.out;rcases HR.out.stp.cases with⟨e,-⟩|⟨bs,os,c,e,-,-,-,-,hc⟩
      ·rw[e] at hi;simp at hi
      obtain⟨rfl,rfl⟩:av=some ⟨bs,os,none⟩/\cv=c:=aAT;obtain⟨s0,s1,s2,s3,hsrc,-⟩:=hc i ys DR
      replace s0:=aC DO.out s0
      replace s1:=aC DO.out s1
      replace s2:=aC DO.out s2
      replace s3:=aC DO.out s3
      have JS:=zh (sees_any ys w9.drew (hsrc.later DO.out.drew));have G4:=(dI (EF.out.steps ys.2 (List.mem_of_getElem? CU.out))).2.2.1;have A4:=zh hsrc;obtain⟨ysv,kind,src,yo,sorted⟩:=ys;simp only at s0 s1 s2 s3 JS A4 G4 CU hsrc;obtain⟨ya,yc,rfl⟩:=bW hsrc;clear hc e M5 DR hysm hsrc;generalize vS:iC ⟨kind,src,yo,sorted⟩=ns at JS;have EG:=zh vS;clear vS;by_cases CF:saw.length=ns
      ·(have hsw1:((saw.length:Int)==(ns:Int))=true:=by rw[CF];simp);have hsw2:((saw.length:Int) != (ns:Int))=false:=by rw[CF];simp
       go_region_held3 (fun W=>(W.cell? ⟨q9,0,none⟩=some (.int .i64 (i:Int))/\W.cell? ⟨q9,1,none⟩=some (.slice sa saw.length sc))/\W.cell? ⟨w.heap.size,1,none⟩=some (.slice (some ⟨bs,os,none⟩) L.length cv)/\W.cell? ⟨g+1+1+1,i,none⟩=some (.bool false)/\(W.cell? ⟨bs,os+i*4,none⟩=some (.int .i64 kind)/\W.cell? ⟨bs,os+i*4+1,none⟩=some (.slice ya src.length yc)/\W.cell? ⟨bs,os+i*4+2,none⟩=some (.string yo)/\W.cell? ⟨bs,os+i*4+3,none⟩=some (.bool sorted)))
        (first|(with_reducible exact⟨⟨e0,e1⟩,r1,t0,s0,s1,s2,s3⟩)|(with_reducible exact GI.out)|go_keep)
        (first|(go_at_call 77;(with_reducible refine JS.out.mono ?_);rintro e tB ⟨rfl,hb⟩;have tR:Hid (Below w9.heap.size w9 tB):=zh ((Below.refl _ w9).drew.trans hb);have GI:Hid ((_/\_)/\_/\_/\_/\_/\_/\_):=zh ⟨⟨aC tR.out e0,aC tR.out e1⟩,aC tR.out r1,aC tR.out t0,aC tR.out s0,aC tR.out s1,aC tR.out s2,aC tR.out s3⟩;clear hb))
       obtain⟨⟨e0,e1⟩,r1,t0,s0,s1,s2,s3⟩:=GI.out;have N7:=zh (D6.out.later tR.out).rebase;have HO10:=zh ((D6.out.later tR.out).off);have HD10:=zh (aD tR.out xV.out);have RX:=zh (aD tR.out HX9.out);have HZ10:=zh (aD tR.out LU.out);have HR10:=zh (aD tR.out HR9.out);have tP:=zh (aB DO.out tR.out);go_wp2_with fail;have HSt0:=zh (show oA r.steps st saw src 0 st.inp from oA.first _ _ _ _)
       have IZ:=zh (show saw.length=src.length\/saw=[] from by
        have:=EG.out;unfold iC at this;simp only at this;split at this
        ·right;exact List.eq_nil_of_length_eq_zero aAM
        left;omega)
       have hgN:¬rdS g q9:=fun hk=>aCf;have HqN:=zh hgN;clear hgN e0 e1 e2 r0 r1 r2 t0 s0 s1 s2 s3 GI;(go_loopw [80] (fun jv O8=>∃(j PA:Nat)(m:bA->Option bA),j<=src.length/\jv=.int .i64 j/\Hid (oA r.steps st saw src j m)/\Hid (RdW g L.length tB st T D PA m O8)/\PA<=nm+j) (fun jv _=>src.length-(intOf jv).toNat));case atStart=>exact⟨0,nm,st.inp,Nat.zero_le _,rfl,HSt0,N7,aAM⟩
       case round=>
        obtain⟨j,PA,m,hj,rfl,yK,zL,hnm2⟩:=hrel;(rename World=>O8);have sW:=zh (zL.out.off.below tP.out HgS.out tP.out.size);have BK:=zh (zL.out.off.heap HqN.out HD10.out);have uM:=zh (zL.out.off.heap K3.out.2.2 RX.out);have T8:=zh (zL.out.off.heap K3.out.2.1 HZ10.out);have F8:=zh (zL.out.off.heap K3.out.1 HR10.out);by_cases wJ:j<src.length
        ·obtain⟨x,hx,-⟩:=getElem?_of_lt wJ;rcases(A4.out.later sW.out).cases with⟨e,-⟩|⟨bx,ox,cx,e,-,-,-,-,LQ⟩
         ·rw[e] at wJ;simp at wJ
         obtain⟨rfl,rfl⟩:ya=some ⟨bx,ox,none⟩/\yc=cx:=aAT;obtain⟨xc,xz⟩:=LQ j x hx;obtain⟨r0,r1,r2⟩:=bD F8.out;have HX:=zh hx;have HXz:=zh xz;clear LQ e hx xz;go_wp2_with fail;refine(oZ r L _ _ x O8 (HR.out.later sW.out)).mono ?_;rintro e xK ⟨rfl,hb⟩;have zT:=zh (zL.out.later hb);have uW:=zh (aB sW.out hb)
         replace BK:=zh (aD hb BK.out)
         replace uM:=zh (aD hb uM.out)
         replace T8:=zh (aD hb T8.out)
         clear hb r0 r1 r2 xc;obtain⟨e0,e1,e2⟩:=bD BK.out;obtain⟨x0,x1,-,-⟩:=kE uM.out;have AA:=zT.out.map.look2 Tryz.underlying111 (x:=x) (Nat.le_trans HXz.out gO);have HLk:Hid ((Instr.lookup 111 (.map (some (g+1))) (.string x) true).run Tryz.prog xK=.ok (.tuple #[.string ((m x).getD ⟨#[]⟩),.bool (m x).isSome]) xK):=zh AA;clear AA
         cases yU:aK r.steps x with
         |some iw=>
          have CK:=zh yU;(have hiw:iw<L.length:=by have:=(List.findIdx?_eq_some_iff_getElem.1 yU).1;omega);have HMw:=zh (zT.out.marks iw hiw);have zH:wIdx (some iw)=(iw:Int):=rfl;rw[zH];clear zH yU;have hiw0:(0:Int)<=(iw:Int):=aAM;have hiw1:(iw:Int)<(L.length:Int):=aAM;have hiw2:¬(iw:Int)<0:=aAM;have hiw3:decide ((iw:Int)<0)=false:=decide_eq_false hiw2
          cases G8:st.there iw with
          |false=>
           rw[G8] at HMw;(obtain rfl:res=none:=by rw[<-uH.out];exact yT.out.bad UL.out (by rw[readDn_in rfl CU.out DL.out aCp,yK.out.bad HX.out (name_gone CK.out G8)];rfl));obtain⟨t0,-⟩:=zT.out.thr.at_ HMw.out;obtain⟨z0,z1,f0,f1⟩:=kE T8.out;clear G8;exact aAn
          |true=>
           rw[G8] at HMw;have HMt:=zh G8;obtain⟨t0,-⟩:=zT.out.thr.at_ HMw.out;clear G8;by_cases tT:saw=[]
           ·(have TI:saw.length=0:=by rw[tT];rfl);have BC:=zh (yK.out.next_ HX.out (name_blank (m:=m) (j:=j) CK.out HMt.out (by rw[tT];rfl)));clear tT;exact ZG
           (have PE:saw.length=src.length:=by rcases IZ.out with h|h;exact h;exact absurd h tT);have uQ:((saw.length:Int)==0)=false:=beq_eq_false_iff_ne.2 aAM;obtain⟨t,ht,-⟩:=getElem?_of_lt (l:=saw) (k:=j) aAM;rcases(IN.out.later uW.out).cases with⟨e,-⟩|⟨by',oy,cy,e,-,-,-,-,NK⟩
           ·exact absurd e tT
           obtain⟨rfl,rfl⟩:sa=some ⟨by',oy,none⟩/\sc=cy:=aAT;obtain⟨y0,-⟩:=NK j t ht;have HT:=zh ht;obtain⟨vw,hvw⟩:=zT.out.of iw hiw;obtain⟨⟨-,-,o2⟩,-⟩:=zT.out.arr.at_ hvw;simp only at o2;have H4:(j:Int)<(saw.length:Int):=aAM;have AA:=HLk.out;clear NK e ht tT hvw;by_cases SX:t=(st.of iw).out
           ·have BC:=zh (yK.out.next_ HX.out (name_same (m:=m) (j:=j) CK.out HMt.out HT.out SX));rw[<-SX] at o2;clear SX;exact ZG
           (obtain rfl:res=none:=by rw[<-uH.out];exact yT.out.bad UL.out (by rw[readDn_in rfl CU.out DL.out aCp,yK.out.bad HX.out (name_other CK.out HMt.out HT.out SX)];rfl));(have hte2:(t.toList==(st.of iw).out.toList)=false:=by rw[bI];exact decide_eq_false SX);obtain⟨z0,z1,f0,f1⟩:=kE T8.out;exact aAn
         |none=>
          have CK:=zh yU;have zH:wIdx none=(-1:Int):=rfl;rw[zH];clear zH yU;by_cases tT:saw=[]
          ·(have TI:saw.length=0:=by rw[tT];rfl);have BC:=zh (yK.out.next_ HX.out (inp_blank (m:=m) (j:=j) CK.out (by rw[tT];rfl)));clear tT;exact ZG
          (have PE:saw.length=src.length:=by rcases IZ.out with h|h;exact h;exact absurd h tT);have uQ:((saw.length:Int)==0)=false:=beq_eq_false_iff_ne.2 aAM;obtain⟨t,ht,-⟩:=getElem?_of_lt (l:=saw) (k:=j) aAM;rcases(IN.out.later uW.out).cases with⟨e,-⟩|⟨by',oy,cy,e,-,-,-,-,NK⟩
          ·exact absurd e tT
          obtain⟨rfl,rfl⟩:sa=some ⟨by',oy,none⟩/\sc=cy:=aAT;obtain⟨y0,yz⟩:=NK j t ht;have HT:=zh ht;have HTz:=zh yz;have VE:(0:Int)<=(j:Int):=aAM;have H4:(j:Int)<(saw.length:Int):=aAM;clear NK e ht tT yz;obtain⟨tG,tW,BR,NG⟩:=zT.out.map.drew.store Tryz.underlying111 aAY (x:=x) (Nat.le_trans HXz.out gO) (y:=t) (Nat.le_trans HTz.out gO);have xT:Hid ((Instr.mapUpdate 111 (.map (some (g+1))) (.string x) (.string t)).run Tryz.prog xK.drew=.ok () tG):=zh tW;have IL:=zh (zT.out.drew.put (x:=x) (t:=t) (BR.ext (fun z=>by by_cases hz:z=x<;>simp[hz])) NG);clear tW BR NG
          cases JF:m x with
          |none=>
           have AA:=HLk.out;rw[JF] at AA;simp only[Option.getD_none,Option.isSome_none] at AA;have BC:=zh (yK.out.next_ HX.out (inp_new (j:=j) CK.out HT.out JF));exact Z2
          |some u=>
           have AA:=HLk.out;rw[JF] at AA;simp only[Option.getD_some,Option.isSome_some] at AA;by_cases htu:t=u
           ·subst htu;have BC:=zh (yK.out.next_ HX.out (inp_same (j:=j) CK.out HT.out JF));exact Z2
           (obtain rfl:res=none:=by rw[<-uH.out];exact yT.out.bad UL.out (by rw[readDn_in rfl CU.out DL.out aCp,yK.out.bad HX.out (inp_other (j:=j) CK.out HT.out JF htu)];rfl));(have htu2:(t.toList==u.toList)=false:=by rw[bI];exact decide_eq_false htu);obtain⟨z0,z1,f0,f1⟩:=kE T8.out;clear JF;exact aAn
        obtain rfl:j=src.length:=aAM;have tX:=yK.out.last (Nat.le_refl _);have BC:=zh (yT.out.next_ UL.out (readDn_in (d:=⟨(i:Int),saw,out⟩) rfl CU.out DL.out aCp |>.trans (by rw[tX];rfl)));obtain⟨e0,e1,e2⟩:=bD BK.out;obtain⟨x0,x1,-,-⟩:=kE uM.out;obtain⟨t0,t1⟩:=zL.out.thr.at_ HMk.out;obtain⟨vo,hvo⟩:=zL.out.of i hi;obtain⟨⟨o0,o1,o2⟩,p0,p1,p2⟩:=zL.out.arr.at_ hvo;have HA:=zh ((zL.out.onto HO10.out).didA (.slice sa ns sc) ⟨(i:Int),saw,out⟩ hi).drew;have GY:=zh ((zL.out.onto HO10.out).didB (.slice sa ns sc) ⟨(i:Int),saw,out⟩ hi).drew;have HStr2:Hid (Strs w (.slice sa ns sc) saw):=zh (by rw[<-CF];exact IN.out)
        have UC:Hid (∀y,y∈D.set i (.slice sa ns sc,⟨(i:Int),saw,out⟩)->y∈Ld\/y=(.slice none 0 0,jX)):=zh (fun y hy=>by
         rcases List.mem_or_eq_of_mem_set hy with h|rfl
         ·exact F5.out y h
         exact .inl (by rw[<-CF];exact List.mem_of_getElem? HY.out))
        have hqg:q9≠g/\q9≠g+1+1+1:=⟨aAM,aAM⟩;obtain⟨yP,S5⟩:=hqg;clear tX hvo;go_wp2_with fail;go_region
        all_goals
         go_wp2_with fail;go_roundw;(case rel=>first|exact⟨k+1,_,_,_,PA,aAM,aAV,BC,HA,aAM,UC⟩|exact⟨k+1,_,_,_,PA,aAM,aAV,BC,GY,aAM,UC⟩);case measure=>simp[intOf];omega
      (obtain rfl:res=none:=by rw[<-uH.out];exact yT.out.bad UL.out (readDn_saw rfl CU.out aCp));have hsw1:((saw.length:Int)==(ns:Int))=false:=beq_eq_false_iff_ne.2 aAM;have hsw2:((saw.length:Int) != (ns:Int))=true:=aDa
      go_region_held3 (fun W=>(W.cell? ⟨q9,0,none⟩=some (.int .i64 (i:Int))/\W.cell? ⟨q9,1,none⟩=some (.slice sa saw.length sc))/\W.cell? ⟨w.heap.size,1,none⟩=some (.slice (some ⟨bs,os,none⟩) L.length cv)/\W.cell? ⟨g+1+1+1,i,none⟩=some (.bool false)/\(W.cell? ⟨bs,os+i*4,none⟩=some (.int .i64 kind)/\W.cell? ⟨bs,os+i*4+1,none⟩=some (.slice ya src.length yc)/\W.cell? ⟨bs,os+i*4+2,none⟩=some (.string yo)/\W.cell? ⟨bs,os+i*4+3,none⟩=some (.bool sorted)))
       (first|(with_reducible exact⟨⟨e0,e1⟩,r1,t0,s0,s1,s2,s3⟩)|(with_reducible exact GI.out)|go_keep)
       (first|(go_at_call 77;(with_reducible refine JS.out.mono ?_);rintro e tB ⟨rfl,hb⟩;have tR:Hid (Below w9.heap.size w9 tB):=zh ((Below.refl _ w9).drew.trans hb);have GI:Hid ((_/\_)/\_/\_/\_/\_/\_/\_):=zh ⟨⟨aC tR.out e0,aC tR.out e1⟩,aC tR.out r1,aC tR.out t0,aC tR.out s0,aC tR.out s1,aC tR.out s2,aC tR.out s3⟩;clear hb))
      obtain⟨⟨e0,e1⟩,r1,t0,s0,s1,s2,s3⟩:=GI.out;obtain⟨z0,z1,f0,f1⟩:=kE (aD tR.out LU.out);go_wp2_with fail;exact kS (aD tR.out LU.out) rfl rfl rfl (aB DO.out tR.out) (Nat.le_succ _)
    obtain rfl:k=L.length:=aAM;have hr:=yT.out.last (by rw[List.length_map,DH.out];exact Nat.le_refl _);(obtain rfl:res=some st:=by rw[<-uH.out];exact hr);obtain⟨z0,z1,f0,f1⟩:=kE (HW.out.off.heap K3.out.2.1 zB.out);go_wp2_with fail;refine read_some (D:=D) (HW.out.off.heap K3.out.2.1 zB.out) rfl rfl rfl xA.out (Nat.le_succ _) ?_ ⟨aAM,aAM,F5.out⟩;have sC:∀q,q≠w.heap.size+1->((wr.setCell ⟨w.heap.size+1,0,none⟩ (.slice (some ⟨g,0,none⟩) L.length L.length)).setCell ⟨w.heap.size+1,1,none⟩ (.map (some (g+1)))).heap[q]? =wr.heap[q]? :=fun q hq=>(aZ hq).trans (aZ hq);have hbe:Below w.heap.size w ((wr.setCell ⟨w.heap.size+1,0,none⟩ (.slice (some ⟨g,0,none⟩) L.length L.length)).setCell ⟨w.heap.size+1,1,none⟩ (.map (some (g+1)))):=(xA.out.setCell aAQ _).setCell aAQ _;have KU:RecFar w.heap.size Ld g (g+1) D:=⟨aAM,aAM,F5.out⟩;have SZ:=KU.saws (by rw[<-DH.out] at HL;exact HL.out);exact⟨(sC _ aAM).trans HW.out.arr,HW.out.len,fun y hy=>⟨(SZ y hy).1.later hbe,(SZ y hy).2⟩,HW.out.of,nm,HW.out.map.of_block (sC _ aAM)⟩
  obtain rfl:res=none:=by rw[<-uH.out];unfold bQ;rw[if_pos (by simp[hn,hlen])]
  rw[he];have sC:((Ld.length:Int)==(L.length:Int))=false:=beq_eq_false_iff_ne.2 aAM;have hne2:((Ld.length:Int) != (L.length:Int))=true:=aDa;clear uH he;go_wp2_with fail;exact kS zB.out rfl rfl rfl sH.out (Nat.le_succ _)
 obtain rfl:res=none:=by rw[<-uH.out];unfold bQ;rw[if_pos (.inl he)]
 have h0:(aP r==0)=false:=beq_eq_false_iff_ne.2 he;have h1:(aP r != 0)=true:=aB3;clear uH he;generalize aP r=q at h0 h1 ⊢;go_wp2_with fail;exact kS zB.out rfl rfl rfl sH.out (Nat.le_succ _)
end Go.Proofs.YtacgopankhpnbaaGreatDoor
namespace Go.Proofs.YtacgopankhpnbaaGreatDoor
open Go.RowKit
def pC(n:Nat)(B:Nat)(Ld:List (Value×Dn))(w:World)(res:Option RSt)(v:Value):Prop:=match res with
 |none=>v=recNone
 |some st=>∃g bm D,v=recV g bm n/\RecIs w g bm n st D/\RecFar B Ld g bm D
theorem RdPost.parts{n:Nat}{Ld:List (Value×Dn)}{res:Option RSt}{w w':World}{e:Ending}(h:RdPost n Ld res w e w'):∃x0 x1,e=.returned (.tuple #[.agg #[x0,x1],.bool res.isSome])/\pC n w.heap.size Ld w' res (.agg #[x0,x1])/\Below w.heap.size w w':=by
 cases res with
 |none=>exact⟨_,_,h.2,rfl,h.1⟩
 |some st=>obtain⟨g,bm,D,e,hr,hf⟩:=h.2;exact⟨_,_,e,⟨g,bm,D,rfl,hr,hf⟩,h.1⟩
theorem pC.later{n B:Nat}{Ld:List (Value×Dn)}{w w':World}{res:Option RSt}{v:Value}(h:pC n B Ld w res v)(hb:Below w.heap.size w w'):pC n B Ld w' res v:=by
 cases res with
 |none=>exact h
 |some st=>obtain⟨g,bm,D,e,hr,hf⟩:=h;exact⟨g,bm,D,e,hr.later hb,hf⟩
theorem pC.keep{n B:Nat}{Ld:List (Value×Dn)}{u w w':World}{vl:Value}{res:Option RSt}{v:Value}(h:pC n B Ld w res v)(hb:∀k,B<=k->k<w.heap.size->w'.heap[k]? =w.heap[k]?)(hl:Dns u vl Ld)(hu:Below u.heap.size u w'):pC n B Ld w' res v:=by
 cases res with
 |none=>exact h
 |some st=>
  obtain⟨g,bm,D,e,hr,hf⟩:=h;refine⟨g,bm,D,e,⟨(hb _ hf.arr hr.arr.lt).trans hr.arr,hr.len,fun y hy=>⟨((hf.saws hl) y hy).1.later hu,((hf.saws hl) y hy).2⟩,hr.of,?_⟩,hf⟩;obtain⟨nm,hm⟩:=hr.map;exact⟨nm,hm.of_block (hb _ hf.map hm.lt)⟩
theorem pC.form{n B:Nat}{Ld:List (Value×Dn)}{w:World}{res:Option RSt}{x0 x1:Value}(h:pC n B Ld w res (.agg #[x0,x1])):∃a m b,x0=.slice a m m/\x1=.map b:=by
 cases res with
 |none=>
  have e:(Value.agg #[x0,x1])=.agg #[.slice none 0 0,.map none]:=h;injection e with e;simp at e
  exact⟨none,0,none,e.1,e.2⟩
 |some st=>
  obtain⟨g,bm,D,e,-⟩:=h;injection e with e;simp at e
  exact⟨some ⟨g,0,none⟩,n,some bm,e.1,e.2⟩
abbrev cB(x0 x1:Value):Obj:=.cells #[x0,x1] 113
theorem pO(r:Rcp)(L:List (Value×Stp))(Ld:List (Value×Dn))(vi vs vl:Value)(w:World)(h:dR r L vi vs w)(hl:Dns w vl Ld):
  Calls Tryz.prog 39 #[jD vi vs r.output,vl] w fun e w'=>e=.returned (.bool (bQ r (Ld.map (·.2))).isSome)/\Below w.heap.size w w':=by
 have sH:=zh (aA w (aY vi vs r.output));have AB:=zh (read_any r L Ld vi vs vl _ (h.later sH.out) (hl.later sH.out));obtain⟨ai,ci,av,cv,rfl,rfl⟩:=h.slices;obtain⟨al,cl,rfl⟩:=fB hl;clear h hl;generalize bQ r (Ld.map (·.2))=res at AB ⊢;go_enter Tryz.func39,Tryz.ntmps39;go_wp2_with fail;refine AB.out.mono ?_;rintro e w1 hp;obtain⟨x0,x1,rfl,hr,hb⟩:=hp.parts;obtain⟨a,m,b,rfl,rfl⟩:=hr.form;have sV:=zh (aB sH.out hb);clear hp hr hb AB;go_wp2_with fail;go_ret;exact⟨rfl,aB sV.out (aA _ _)⟩
def txV(t:Option bA):Value:=match t with
 |some s=>.tuple #[.string s,.bool true]
 |none=>.tuple #[.string ⟨#[]⟩,.bool false]
theorem findFile_step{l:List Fil}{k:Nat}{f:Fil}{x:bA}(hf:l[k]? =some f):aI (l.drop k) x=if f.name=x then some f.text else aI (l.drop (k+1)) x:=by
 rw[getElem?_drop hf];unfold aI;rw[List.find?_cons];by_cases h:f.name=x
 ·simp[h]
 simp[h]
theorem text_any(r:Rcp)(L:List (Value×Stp))(vi vs:Value)(g bm:Nat)(st:RSt)(D:List (Value×Dn))(x:bA)(w:World)(h:dR r L vi vs w)(hr:RecIs w g bm r.steps.length st D)(hx:x.size<=140737488355328):
  Calls Tryz.prog 75 #[recV g bm r.steps.length,jD vi vs r.output,.string x] w fun e w'=>e=.returned (txV (cW r st x))/\Below w.heap.size w w':=by
 have HR:=zh h;have wZ:=zh hr;obtain⟨ai,ci,av,cv,rfl,rfl⟩:=h.slices;have B1:=aA w (cB (.slice (some ⟨g,0,none⟩) r.steps.length r.steps.length) (.map (some bm)));have B2:=aA (w.alloc (cB (.slice (some ⟨g,0,none⟩) r.steps.length r.steps.length) (.map (some bm)))) (aY (.slice ai r.inputs.length ci) (.slice av L.length cv) r.output);have sH:=zh (aB B1 B2);have yR:=zh (aD B2 (aH w (cB (.slice (some ⟨g,0,none⟩) r.steps.length r.steps.length) (.map (some bm)))));have GW:=zh (aH (w.alloc (cB (.slice (some ⟨g,0,none⟩) r.steps.length r.steps.length) (.map (some bm)))) (aY (.slice ai r.inputs.length ci) (.slice av L.length cv) r.output));simp only[World.size_alloc] at GW;have HXz:=zh hx
 have JM:=zh (show cW r st x=match aK r.steps x with
  |some i=>some (st.of i).out
  |none=>match st.inp x with
   |some s=>some s
   |none=>aI r.inputs x from rfl)
 generalize cW r st x=tx at JM ⊢;clear B1 B2 h hr hx;go_enter Tryz.func75,Tryz.ntmps75;go_wp2_with fail;refine(oZ r L _ _ x _ (HR.out.later sH.out)).mono ?_;rintro e w1 ⟨rfl,hb⟩
 replace yR:=zh (aD hb yR.out)
 replace GW:=zh (aD hb GW.out)
 replace sH:=zh (aB sH.out hb)
 clear hb;have HRw:=zh (wZ.out.later sH.out);obtain⟨x0,x1,-,-⟩:=kE yR.out
 cases yU:aK r.steps x with
 |some i=>
  have hi:i<r.steps.length:=(List.findIdx?_eq_some_iff_getElem.1 yU).1;obtain rfl:tx=some (st.of i).out:=by rw[JM.out,yU]
  obtain⟨v,hv⟩:=HRw.out.of i hi;obtain⟨⟨-,-,o2⟩,-⟩:=HRw.out.arr.at_ hv;simp only at o2;have vA:(0:Int)<=(i:Int):=aAM;have DD:(i:Int)<(r.steps.length:Int):=aAM;have zH:wIdx (some i)=(i:Int):=rfl;rw[zH];clear yU zH hv;go_wp2_with fail;refine bodyPost_ret (v:=txV (some (st.of i).out)) aBL rfl ?_;exact⟨rfl,sH.out⟩
 |none=>
  have zH:wIdx none=(-1:Int):=rfl;rw[zH];obtain⟨nm,hm⟩:=HRw.out.map;have AA:=hm.look2 Tryz.underlying111 (x:=x) (Nat.le_trans HXz.out gO);have HLk:Hid ((Instr.lookup 111 (.map (some bm)) (.string x) true).run Tryz.prog w1=.ok (.tuple #[.string ((st.inp x).getD ⟨#[]⟩),.bool (st.inp x).isSome]) w1):=zh AA;clear AA hm zH
  cases xR:st.inp x with
  |some s=>
   (obtain rfl:tx=some s:=by rw[JM.out,yU];simp only[xR]);have AA:=HLk.out;rw[xR] at AA;simp only[Option.getD_some,Option.isSome_some] at AA;clear yU xR;go_wp2_with fail;refine bodyPost_ret (v:=txV (some s)) aBL rfl ?_;exact⟨rfl,sH.out⟩
  |none=>
   (obtain rfl:tx=aI r.inputs x:=by rw[JM.out,yU];simp only[xR]);have AA:=HLk.out;rw[xR] at AA;simp only[Option.getD_none,Option.isSome_none] at AA;obtain⟨r0,r1,r2⟩:=bD GW.out;clear yU xR;go_wp2_with fail;have HRi:=zh (HR.out.later sH.out).inp;clear AA;(go_loopw [36] (fun i wr=>∃k:Nat,k<=r.inputs.length/\i=.int .i64 k/\Hid (aI r.inputs x=aI (r.inputs.drop k) x)/\Hid (Below w1.heap.size w1 wr)) (fun i _=>r.inputs.length-(intOf i).toNat));case atStart=>exact⟨0,Nat.zero_le _,rfl,zh (by rw[List.drop_zero]),zh (Below.refl _ _)⟩
   case round=>
    obtain⟨k,hk,rfl,HF,wX⟩:=hrel;(rename World=>wr);by_cases sE:k<r.inputs.length
    ·obtain⟨f,hf,-⟩:=getElem?_of_lt sE;have BB:=zh (findFile_step (x:=x) hf);rcases(HRi.out.later wX.out).cases with⟨e,-⟩|⟨b,o,c,e,-,yQ,zR,-,hc⟩
     ·exact aAy
     obtain⟨rfl,rfl⟩:ai=some ⟨b,o,none⟩/\ci=c:=aAT;obtain⟨f0,f1,-,-⟩:=hc k f hf;clear hc e hf;obtain⟨fn,ft⟩:=f;simp only at f0 f1 BB;have HBe:=zh (aB (aB sH.out wX.out) (aA wr (pJ fn ft)));by_cases DE:fn=x
     ·have HE:=zh (show aI r.inputs x=some ft by rw[HF.out,BB.out,if_pos DE]);subst DE;go_wp2_with fail;refine bodyPost_ret (v:=txV (some ft)) aBL rfl ?_;exact⟨by rw[HE.out],HBe.out⟩
     have HE:=zh (show aI r.inputs x=aI (r.inputs.drop (k+1)) x by rw[HF.out,BB.out,if_neg DE]);(have hfx2:(fn.toList==x.toList)=false:=by rw[bI];exact decide_eq_false DE);go_wp2_with fail;go_roundw;(case rel=>exact⟨k+1,aAM,aAV,HE,zh (aB wX.out (aA _ _))⟩);case measure=>simp[intOf];omega
    obtain rfl:k=r.inputs.length:=aAM;have HE:=zh (show aI r.inputs x=none by rw[HF.out,List.drop_length];rfl);go_wp2_with fail;refine bodyPost_ret (v:=txV none) aBL rfl ?_;exact⟨by rw[HE.out],aB sH.out wX.out⟩
def textOf(r:Rcp)(res:Option RSt)(x:bA):Option bA:=match res with
 |none=>none
 |some st=>cW r st x
theorem oR(r:Rcp)(L:List (Value×Stp))(Ld:List (Value×Dn))(vi vs vl:Value)(x:bA)(w:World)(h:dR r L vi vs w)(hl:Dns w vl Ld)(hx:x.size<=140737488355328):
  Calls Tryz.prog 41 #[jD vi vs r.output,vl,.string x] w fun e w'=>e=.returned (txV (textOf r (bQ r (Ld.map (·.2))) x))/\Below w.heap.size w w':=by
 have sH:=zh (aA w (aY vi vs r.output));have AB:=zh (read_any r L Ld vi vs vl _ (h.later sH.out) (hl.later sH.out));have HR:=zh h;have tZ:=zh (aH w (aY vi vs r.output));have HXz:=zh hx;obtain⟨ai,ci,av,cv,rfl,rfl⟩:=h.slices;obtain⟨al,cl,rfl⟩:=fB hl;clear h hl hx;generalize bQ r (Ld.map (·.2))=res at AB ⊢;go_enter Tryz.func41,Tryz.ntmps41;go_wp2_with fail;refine AB.out.mono ?_;rintro e w1 hp
 cases res with
 |none=>
  obtain⟨hb,rfl⟩:=hp;have sV:=zh (aB sH.out hb);clear hb AB;go_wp2_with fail;refine bodyPost_ret (v:=txV none) aCq rfl ?_;exact⟨rfl,aB sV.out (aA _ _)⟩
 |some st=>
  obtain⟨hb,g,bm,D,rfl,hr,-⟩:=hp;have sV:=zh (aB (aB sH.out hb) (aA w1 (cB (.slice (some ⟨g,0,none⟩) r.steps.length r.steps.length) (.map (some bm)))));have PS:=zh (hr.later (aA w1 (cB (.slice (some ⟨g,0,none⟩) r.steps.length r.steps.length) (.map (some bm)))));have QV:=aD (aB hb (aA w1 (cB (.slice (some ⟨g,0,none⟩) r.steps.length r.steps.length) (.map (some bm))))) tZ.out;obtain⟨r0,r1,r2⟩:=bD QV;have HT:=zh (text_any r L _ _ g bm st D x _ (HR.out.later sV.out) PS.out HXz.out);obtain⟨tx,C6⟩:∃tx,cW r st x=tx:=⟨_,rfl⟩;rw[C6] at HT;have HE:=zh (show textOf r (some st) x=tx from C6);clear C6;clear hb hr AB QV;go_wp2_with fail;refine HT.out.mono ?_;rintro e w2 ⟨rfl,hb⟩;have sW:=zh (aB sV.out hb);clear hb
  cases tx with
  |none=>
   unfold txV;go_wp2_with fail;refine bodyPost_ret (v:=txV none) aCq rfl ?_;exact⟨by rw[HE.out],sW.out⟩
  |some s=>
   unfold txV;go_wp2_with fail;refine bodyPost_ret (v:=txV (some s)) aCq rfl ?_;exact⟨by rw[HE.out],sW.out⟩
theorem aAp{p:Prop}(h:p:=by
 exact((((hb.setCell aA0 _).setCell aA0 _).setCell aA0 _).setCell aA0 _).drew):p:=h
def BothPost(n:Nat)(La Lb:List (Value×Dn))(a b:Option RSt)(w:World)(e:Ending)(w':World):Prop:=Below w.heap.size w w'/\∃x0 x1 y0 y1,e=.returned (.tuple #[.agg #[x0,x1],.agg #[y0,y1],.bool (a.isSome&&b.isSome)])/\pC n w.heap.size La w' a (.agg #[x0,x1])/\pC n w.heap.size Lb w' b (.agg #[y0,y1])
section
variable {w W W1:World} {a:Act} {p n:Nat} {x0 x1 y0 y1 u0 u1 v0 v1:Value} {ra rb:Option RSt}
theorem four_end(hA:W1=((((W.setCell ⟨p,0,none⟩ x0).setCell ⟨p,1,none⟩ x1).setCell ⟨p+1,0,none⟩ y0).setCell ⟨p+1,1,none⟩ y1).drew\/W1=((((W.setCell ⟨p+1,0,none⟩ y0).setCell ⟨p+1,1,none⟩ y1).setCell ⟨p,0,none⟩ x0).setCell ⟨p,1,none⟩ x1).drew)
  (hz:W.heap[p]? =some (.cells #[u0,u1] 113)) (hy:W.heap[p+1]? =some (.cells #[v0,v1] 113)):
  W1.heap[p]? =some (.cells #[x0,x1] 113)/\W1.heap[p+1]? =some (.cells #[y0,y1] 113)/\(∀k,k≠p->k≠p+1->W1.heap[k]? =W.heap[k]?)/\∀{B:Nat}{w:World},Below B w W->B<=p->Below B w W1:=by
 rcases hA with rfl|rfl
 ·refine⟨?_,?_,fun k h1 h2=>?_,fun hb hp=>?_⟩
  ·exact(aZ aAM).trans ((aZ aAM).trans (set2 hz))
  ·exact set2 ((aZ aAM).trans ((aZ aAM).trans hy))
  ·exact(aZ h2).trans ((aZ h2).trans ((aZ h1).trans (aZ h1)))
  exact aAp
 refine⟨?_,?_,fun k h1 h2=>?_,fun hb hp=>?_⟩
 ·exact set2 ((aZ aAM).trans ((aZ aAM).trans hz))
 ·exact(aZ aAM).trans ((aZ aAM).trans (set2 hy))
 ·exact(aZ h1).trans ((aZ h1).trans ((aZ h2).trans (aZ h2)))
 exact aAp
theorem both_ret{q:Bool}{B B2:Nat}{La Lb:List (Value×Dn)}{va vb:Value}(hA:W1=((((W.setCell ⟨p,0,none⟩ x0).setCell ⟨p,1,none⟩ x1).setCell ⟨p+1,0,none⟩ y0).setCell ⟨p+1,1,none⟩ y1).drew\/W1=((((W.setCell ⟨p+1,0,none⟩ y0).setCell ⟨p+1,1,none⟩ y1).setCell ⟨p,0,none⟩ x0).setCell ⟨p,1,none⟩ x1).drew)
  (hz:W.heap[p]? =some (.cells #[u0,u1] 113)) (hy:W.heap[p+1]? =some (.cells #[v0,v1] 113)) (h6:a.tmps[6]?.getD undef=.pointer (some ⟨p,0,none⟩)) (h7:a.tmps[7]?.getD undef=.pointer (some ⟨p+1,0,none⟩)) (h8:a.tmps[8]?.getD undef=.bool q) (hd:a.defers=[])
  (hq:q=(ra.isSome&&rb.isSome)) (hb:Below w.heap.size w W) (hp:w.heap.size<=p) (hB:p+1<B) (hB2:p+1<B2) (hX:pC n B La W ra (.agg #[x0,x1])) (hY:pC n B2 Lb W rb (.agg #[y0,y1])) (ha:Dns w va La) (wR:Dns w vb Lb):
  bodyPost Tryz.prog Tryz.f72 (BothPost n La Lb ra rb w) .ret a W1:=by
 obtain⟨e1,e2,e3,e4⟩:=four_end hA hz hy;obtain⟨c0,c1,-,-⟩:=kE e1;obtain⟨d0,d1,-,-⟩:=kE e2;have sF:=e4 hb hp
 have far:∀{B':Nat}{Ld:List (Value×Dn)}{res:Option RSt}{v:Value},p+1<B'->pC n B' Ld W1 res v->pC n w.heap.size Ld W1 res v:=fun{B' Ld res v}hB' h=>by
  cases res with
  |none=>exact h
  |some st=>obtain⟨g,bm,D,e,hr,hf⟩:=h;exact⟨g,bm,D,e,hr,by have:=hf.arr;omega,by have:=hf.map;omega,hf.mem⟩
 subst hq
 exact bodyPost_ret (v:=.tuple #[.agg #[x0,x1],.agg #[y0,y1],.bool (ra.isSome&&rb.isSome)]) (by simp[results,Tryz.results72,go_sem,h6,h7,h8,c0,c1,d0,d1]) hd
  ⟨sF,_,_,_,_,rfl,far hB (hX.keep (fun k hk _=>e3 k aAM aAM) ha sF),far hB2 (hY.keep (fun k hk _=>e3 k aAM aAM) wR sF)⟩
end
theorem both_any(r:Rcp)(L:List (Value×Stp))(La Lb:List (Value×Dn))(vi vs va vb:Value)(w:World)(h:dR r L vi vs w)(ha:Dns w va La)(hb:Dns w vb Lb):
  Calls Tryz.prog 72 #[jD vi vs r.output,va,vb] w (BothPost r.steps.length La Lb (bQ r (La.map (·.2))) (bQ r (Lb.map (·.2))) w):=by
 have HR:=zh h;have HA:=zh ha;have wF:=zh hb;obtain⟨ai,ci,av,cv,rfl,rfl⟩:=h.slices;obtain⟨aa,ca,rfl⟩:=fB ha;obtain⟨ab,cb,rfl⟩:=fB hb;clear h ha hb;have B1:=aA w (aY (.slice ai r.inputs.length ci) (.slice av L.length cv) r.output);have B2:=aA (w.alloc (aY (.slice ai r.inputs.length ci) (.slice av L.length cv) r.output)) (cB (.slice none 0 0) (.map none));have B3:=aA ((w.alloc (aY (.slice ai r.inputs.length ci) (.slice av L.length cv) r.output)).alloc (cB (.slice none 0 0) (.map none))) (cB (.slice none 0 0) (.map none));have sH:=zh (aB (aB B1 B2) B3);have tZ:=zh (aD (aB B2 B3) (aH w (aY (.slice ai r.inputs.length ci) (.slice av L.length cv) r.output)));have LT:=zh (aD B3 (aH (w.alloc (aY (.slice ai r.inputs.length ci) (.slice av L.length cv) r.output)) (cB (.slice none 0 0) (.map none))));have zB:=zh (aH ((w.alloc (aY (.slice ai r.inputs.length ci) (.slice av L.length cv) r.output)).alloc (cB (.slice none 0 0) (.map none))) (cB (.slice none 0 0) (.map none)));simp only[World.size_alloc] at LT zB;clear B1 B2 B3;have DH:=zh (Array.getElem?_eq_some_iff.1 zB.out).1;have WU:=zh (read_any r L La _ _ _ _ (HR.out.later sH.out) (HA.out.later sH.out));generalize bQ r (La.map (·.2))=ra at WU ⊢;have WT:=zh (fun W(hW:Below w.heap.size w W)=>read_any r L Lb _ _ _ W (HR.out.later hW) (wF.out.later hW));generalize bQ r (Lb.map (·.2))=rb at WT ⊢;go_enter Tryz.func72,Tryz.ntmps72;go_wp2_with fail;refine WU.out.mono ?_;rintro e w1 hp;obtain⟨x0,x1,rfl,hr,hb⟩:=hp.parts;obtain⟨a,m,b,rfl,rfl⟩:=hr.form;have HP1:=zh hb.size;have sD:=aB hb (aA w1 (cB (.slice a m m) (.map b)));have HX:=zh (hr.later (aA w1 (cB (.slice a m m) (.map b))))
 replace tZ:=zh (aD sD tZ.out)
 replace LT:=zh (aD sD LT.out)
 replace zB:=zh (aD sD zB.out)
 replace sH:=zh (aB sH.out sD)
 have zK:=zh (aH w1 (cB (.slice a m m) (.map b)));have FZ:=zh (Array.getElem?_eq_some_iff.1 zB.out).1;obtain⟨r0,r1,r2⟩:=bD tZ.out;have HC:=zh (WT.out _ sH.out);clear hp hr hb sD WU;go_wp2_with fail;refine HC.out.mono ?_;rintro e w2 hp;obtain⟨y0,y1,rfl,hr,hb⟩:=hp.parts;obtain⟨a',m',b',rfl,rfl⟩:=hr.form;have W7:=zh hb.size;have sD:=aB hb (aA w2 (cB (.slice a' m' m') (.map b')));have HY:=zh (hr.later (aA w2 (cB (.slice a' m' m') (.map b'))))
 replace HX:=zh (HX.out.later sD)
 replace LT:=zh (aD sD LT.out)
 replace zB:=zh (aD sD zB.out)
 replace zK:=zh (aD sD zK.out)
 replace sH:=zh (aB sH.out sD)
 have AU:=zh (aH w2 (cB (.slice a' m' m') (.map b')));clear hp hr hb sD HC WT r0 r1 r2;obtain⟨z0,z1,f0,f1⟩:=kE LT.out;obtain⟨z2,z3,f2,f3⟩:=kE zB.out;obtain⟨x0,x1,-,-⟩:=kE zK.out;obtain⟨y0,y1,-,-⟩:=kE AU.out;generalize AQ:ra.isSome=q1;generalize DW:rb.isSome=q2;have BI:=zh AQ;have HQ2:=zh DW;clear AQ DW;have JE:w1.heap.size≠w.heap.size+1:=by have:=DH.out;have h:=HP1.out;omega
 have BE:w1.heap.size≠w.heap.size+1+1:=by have:=DH.out;have h:=HP1.out;omega
 have PI:w2.heap.size≠w.heap.size+1:=by have:=FZ.out;have h:=W7.out;omega
 have hn3:w2.heap.size≠w.heap.size+1+1:=by have:=FZ.out;have h:=W7.out;omega
 have tJ:=JE.symm;have zQ:=BE.symm;have TB:=PI.symm;have Q0:=hn3.symm
 cases q1 with
 |true=>
  go_wp2_with fail;generalize w2.alloc (cB (.slice a' m' m') (.map b'))=w3 at AU HX HY LT zB zK sH x0 x1 y0 y1 z0 z1 z2 z3 f0 f1 f2 f3 ⊢;generalize w2.heap.size=p2 at AU PI hn3 TB Q0 y0 y1 ⊢;generalize w1.heap.size=p1 at zK JE BE tJ zQ x0 x1 ⊢;go_region
  all_goals
   go_wp2_with fail;first|exact both_ret (p:=w.heap.size+1) (.inl rfl) LT.out zB.out rfl rfl rfl rfl (by rw[BI.out,HQ2.out];rfl) sH.out (Nat.le_succ _) DH.out FZ.out HX.out HY.out HA.out wF.out|exact both_ret (p:=w.heap.size+1) (.inr rfl) LT.out zB.out rfl rfl rfl rfl (by rw[BI.out,HQ2.out];rfl) sH.out (Nat.le_succ _) DH.out FZ.out HX.out HY.out HA.out wF.out
 |false=>
  go_wp2_with fail;generalize w2.alloc (cB (.slice a' m' m') (.map b'))=w3 at AU HX HY LT zB zK sH x0 x1 y0 y1 z0 z1 z2 z3 f0 f1 f2 f3 ⊢;generalize w2.heap.size=p2 at AU PI hn3 TB Q0 y0 y1 ⊢;generalize w1.heap.size=p1 at zK JE BE tJ zQ x0 x1 ⊢;go_region
  all_goals
   go_wp2_with fail;first|exact both_ret (p:=w.heap.size+1) (.inl rfl) LT.out zB.out rfl rfl rfl rfl (by rw[BI.out];rfl) sH.out (Nat.le_succ _) DH.out FZ.out HX.out HY.out HA.out wF.out|exact both_ret (p:=w.heap.size+1) (.inr rfl) LT.out zB.out rfl rfl rfl rfl (by rw[BI.out];rfl) sH.out (Nat.le_succ _) DH.out FZ.out HX.out HY.out HA.out wF.out
end Go.Proofs.YtacgopankhpnbaaGreatDoor
namespace Go.Proofs.YtacgopankhpnbaaGreatDoor
open Go.RowKit
theorem equal_any(l m:List bA)(v u:Value)(w:World)(hl:Strs w v l)(hm:Strs w u m):
  Calls Tryz.prog 76 #[v,u] w fun e w'=>e=.returned (.bool (decide (l=m)))/\∃q,w'=w.drewN q:=by
 obtain⟨a1,c1,rfl⟩:=bW hl;obtain⟨a2,c2,rfl⟩:=bW hm;by_cases hlen:l.length=m.length
 ·rcases hl.cases with⟨rfl,-⟩|⟨b,o,c,e,h0,h1,h2,-,hc⟩
  ·have e:m=[]:=List.eq_nil_of_length_eq_zero (by simpa using hlen.symm);subst e;refine(Tryz.slices_Equal_string_empty a1 a2 c1 0 c2 w aAM).mono ?_;rintro e w' ⟨rfl,rfl⟩;exact⟨aAQ,0,rfl⟩
  rcases hm.cases with⟨rfl,-⟩|⟨b',o',c',e',h0',h1',LS,-,FH⟩
  ·simp at hlen;rw[hlen] at h0;simp at h0
  obtain⟨rfl,rfl⟩:a1=some ⟨b,o,none⟩/\c1=c:=aAT;obtain⟨rfl,rfl⟩:a2=some ⟨b',o',none⟩/\c2=c':=aBM;refine(Tryz.slices_Equal_string b o l.length c1 b' o' m.length c2 l m w (Nat.le_refl _) (Nat.le_refl _) aAM aAM (fun j hj=>?_) (fun j hj=>?_)).mono ?_
  ·obtain⟨x,hx,-⟩:=getElem?_of_lt hj;rw[(hc j x hx).1,List.getD_eq_getElem?_getD,hx];rfl
  ·obtain⟨x,hx,-⟩:=getElem?_of_lt hj;rw[(FH j x hx).1,List.getD_eq_getElem?_getD,hx];rfl
  rintro e w' ⟨rfl,h⟩;exact⟨by rw[List.take_length,List.take_length],h⟩
 refine(Tryz.slices_Equal_string_lens a1 a2 l.length c1 m.length c2 w hlen).mono ?_;rintro e w' ⟨rfl,rfl⟩;exact⟨by rw[decide_eq_false (fun h=>hlen (by rw[h]))],0,rfl⟩
theorem BothPost.split{n:Nat}{La Lb:List (Value×Dn)}{a b:Option RSt}{w w':World}{e:Ending}(h:BothPost n La Lb a b w e w'):
  Below w.heap.size w w'/\((∃x y ga ba Da gb bb Db,a=some x/\b=some y/\e=.returned (.tuple #[recV ga ba n,recV gb bb n,.bool true])/\RecIs w' ga ba n x Da/\RecIs w' gb bb n y Db)\/
   ((a=none\/b=none)/\∃s m p t k q,e=.returned (.tuple #[.agg #[.slice s m m,.map p],.agg #[.slice t k k,.map q],.bool false]))):=by
 obtain⟨hb,x0,x1,y0,y1,rfl,hx,hy⟩:=h;refine⟨hb,?_⟩;obtain⟨s,m,p,rfl,rfl⟩:=hx.form;obtain⟨t,k,q,rfl,rfl⟩:=hy.form
 cases a with
 |none=>exact .inr ⟨.inl rfl,s,m,p,t,k,q,rfl⟩
 |some x=>
  cases b with
  |none=>exact .inr ⟨.inr rfl,s,m,p,t,k,q,rfl⟩
  |some y=>
   obtain⟨ga,ba,Da,e1,h1,-⟩:=hx;obtain⟨gb,bb,Db,e2,h2,-⟩:=hy;refine .inl ⟨x,y,ga,ba,Da,gb,bb,Db,rfl,rfl,?_,h1,h2⟩;rw[e1,e2];rfl
def pI{α:Type}(f:RSt->RSt->Option α)(a b:Option RSt):Option α:=match a,b with
 |some x,some y=>f x y
 |_,_=>none
theorem ofBoth_none{α:Type}{f:RSt->RSt->Option α}{a b:Option RSt}(h:a=none\/b=none):pI f a b=none:=by
 rcases h with rfl|rfl
 ·rfl
 cases a<;>rfl
theorem find_step{α:Type}{l:List α}{k:Nat}{f:α}{p:α->Bool}(hf:l[k]? =some f):(l.drop k).find? p=if p f=true then some f else(l.drop (k+1)).find? p:=by
 rw[getElem?_drop hf,List.find?_cons];cases h:p f<;>simp
theorem input_any(r:Rcp)(L:List (Value×Stp))(La Lb:List (Value×Dn))(vi vs va vb:Value)(w:World)(h:dR r L vi vs w)(ha:Dns w va La)(hb:Dns w vb Lb):
  Calls Tryz.prog 45 #[jD vi vs r.output,va,vb] w fun e w'=>e=.returned (txV (pI (lR r) (bQ r (La.map (·.2))) (bQ r (Lb.map (·.2)))))/\Below w.heap.size w w':=by
 have sH:=zh (aA w (aY vi vs r.output));have GY:=zh (both_any r L La Lb vi vs va vb _ (h.later sH.out) (ha.later sH.out) (hb.later sH.out));have HR:=zh h;have tZ:=zh (aH w (aY vi vs r.output));obtain⟨ai,ci,av,cv,rfl,rfl⟩:=h.slices;obtain⟨aa,ca,rfl⟩:=fB ha;obtain⟨ab,cb,rfl⟩:=fB hb;clear h ha hb;generalize bQ r (La.map (·.2))=ra at GY ⊢;generalize bQ r (Lb.map (·.2))=rb at GY ⊢;generalize vM:pI (lR r) ra rb=res;have uH:=zh vM;clear vM;go_enter Tryz.func45,Tryz.ntmps45;go_wp2_with fail;refine GY.out.mono ?_;rintro e w1 hp;obtain⟨hb,hp⟩:=hp.split
 replace tZ:=zh (aD hb tZ.out)
 replace sH:=zh (aB sH.out hb)
 clear hb GY;rcases hp with⟨x,y,ga,ba,Da,gb,bb,Db,rfl,rfl,rfl,hx,hy⟩|⟨hn,s,m,p,t,k,q,rfl⟩
 ·have B1:=aB (aA w1 (cB (.slice (some ⟨ga,0,none⟩) r.steps.length r.steps.length) (.map (some ba)))) (aA _ (cB (.slice (some ⟨gb,0,none⟩) r.steps.length r.steps.length) (.map (some bb))));have HX:=zh (hx.later B1);have HY:=zh (hy.later B1);have zK:=zh (aD (aA _ (cB (.slice (some ⟨gb,0,none⟩) r.steps.length r.steps.length) (.map (some bb)))) (aH w1 (cB (.slice (some ⟨ga,0,none⟩) r.steps.length r.steps.length) (.map (some ba)))));have AU:=zh (aH (w1.alloc (cB (.slice (some ⟨ga,0,none⟩) r.steps.length r.steps.length) (.map (some ba)))) (cB (.slice (some ⟨gb,0,none⟩) r.steps.length r.steps.length) (.map (some bb))));simp only[World.size_alloc] at AU
  replace tZ:=zh (aD B1 tZ.out)
  replace sH:=zh (aB sH.out B1)
  obtain⟨r0,r1,r2⟩:=bD tZ.out;clear B1 hx hy;go_wp2_with fail;clear r0 r1 r2;generalize (w1.alloc (cB (.slice (some ⟨ga,0,none⟩) r.steps.length r.steps.length) (.map (some ba)))).alloc (cB (.slice (some ⟨gb,0,none⟩) r.steps.length r.steps.length) (.map (some bb)))=w2 at HX HY zK AU tZ sH ⊢;generalize w1.heap.size=p1 at zK AU ⊢;have BJ:=zh (HR.out.later sH.out).inp;go_loopw [30] (fun i wr=>∃k:Nat,k<=r.inputs.length/\i=.int .i64 k/\Hid ((r.inputs.find? fun f=>decide ((cW r x f.name).getD ⟨#[]⟩≠(cW r y f.name).getD ⟨#[]⟩))=(r.inputs.drop k).find? fun f=>decide ((cW r x f.name).getD ⟨#[]⟩≠(cW r y f.name).getD ⟨#[]⟩))/\Hid (Below w2.heap.size w2 wr)) (fun i _=>r.inputs.length-(intOf i).toNat)
  case atStart=>exact⟨0,Nat.zero_le _,rfl,zh (by rw[List.drop_zero]),zh (Below.refl _ _)⟩
  case round=>
   obtain⟨k,hk,rfl,HF,wX⟩:=hrel;(rename World=>wr);by_cases sE:k<r.inputs.length
   ·obtain⟨f,hf,-⟩:=getElem?_of_lt sE;have BB:=zh (find_step (p:=fun f=>decide ((cW r x f.name).getD ⟨#[]⟩≠(cW r y f.name).getD ⟨#[]⟩)) hf);rcases(BJ.out.later wX.out).cases with⟨e,-⟩|⟨b,o,c,e,-,yQ,zR,-,hc⟩
    ·exact aAy
    obtain⟨rfl,rfl⟩:ai=some ⟨b,o,none⟩/\ci=c:=aAT;obtain⟨f0,f1,RC,-⟩:=hc k f hf;clear hc e hf;obtain⟨fn,ft⟩:=f;simp only at f0 f1 BB RC;have JZ:=zh (aB wX.out (aA wr (pJ fn ft)));have tP:=zh (aB sH.out JZ.out);have JM:=zh (text_any r L _ _ ga ba x Da fn _ (HR.out.later tP.out) (HX.out.later JZ.out) RC);have HTy:=zh (fun W(hW:Below w2.heap.size w2 W)=>text_any r L _ _ gb bb y Db fn W (HR.out.later (aB sH.out hW)) (HY.out.later hW) RC);have XM:=zh (aH wr (pJ fn ft));obtain⟨x0,x1,-,-⟩:=kE (aD JZ.out zK.out);obtain⟨r0,r1,r2⟩:=bD (aD JZ.out tZ.out);generalize cW r x fn=tx at JM BB;generalize cW r y fn=ty at HTy BB;go_wp2_with fail;refine JM.out.mono ?_;rintro e w3 ⟨rfl,hb⟩;have wL:=zh (aB JZ.out hb);have HF3:=zh (aD hb XM.out);clear hb x0 x1 r0 r1 r2 f0 f1 JM;obtain⟨y0,y1,-,-⟩:=kE (aD wL.out AU.out);obtain⟨r0,r1,r2⟩:=bD (aD wL.out tZ.out);obtain⟨f0,f1,-,-⟩:=kE HF3.out;(obtain⟨sx,bx,G3,hgx⟩:∃(sx:bA)(bx:Bool),txV tx=.tuple #[.string sx,.bool bx]/\tx.getD ⟨#[]⟩=sx:=by cases tx with|none=>exact⟨_,_,rfl,rfl⟩|some s=>exact⟨_,_,rfl,rfl⟩);rw[G3];have HCy:=zh (HTy.out _ wL.out);go_wp2_with fail;refine HCy.out.mono ?_;rintro e w4 ⟨rfl,hb⟩;have xJ:=zh (aB wL.out hb);have HF4:=zh (aD hb HF3.out);clear hb y0 y1 r0 r1 r2 f0 f1 HCy HTy;obtain⟨f0,f1,-,-⟩:=kE HF4.out;(obtain⟨sy,by',KB,hgy⟩:∃(sy:bA)(by':Bool),txV ty=.tuple #[.string sy,.bool by']/\ty.getD ⟨#[]⟩=sy:=by cases ty with|none=>exact⟨_,_,rfl,rfl⟩|some s=>exact⟨_,_,rfl,rfl⟩);rw[KB];rw[hgx,hgy] at BB;clear G3 KB hgx hgy;by_cases wM:sx=sy
    ·have HE:=zh (HF.out.trans (BB.out.trans (if_neg (by simp[wM]))));subst wM;go_wp2_with fail;go_roundw;(case rel=>exact⟨k+1,aAM,aAV,HE,xJ⟩);case measure=>simp[intOf];omega
    have HE:=zh (HF.out.trans (BB.out.trans (if_pos (by simp[wM]))));have hxy2:(sx.toList==sy.toList)=false:=aC7;have AW:=zh (show res=some fn by rw[<-uH.out];show lR r x y=_;unfold lR;rw[HE.out];rfl);go_wp2_with fail;refine bodyPost_ret (v:=txV (some fn)) aCr rfl ?_;exact⟨by rw[AW.out],aB sH.out xJ.out⟩
   obtain rfl:k=r.inputs.length:=aAM;have AW:=zh (show res=none by rw[<-uH.out];show lR r x y=_;unfold lR;rw[HF.out,List.drop_length];rfl);go_wp2_with fail;refine bodyPost_ret (v:=txV none) aCr rfl ?_;exact⟨by rw[AW.out],aB sH.out wX.out⟩
 rw[ofBoth_none hn] at uH;have HE:=zh (aB (aB sH.out (aA w1 (cB (.slice s m m) (.map p)))) (aA _ (cB (.slice t k k) (.map q))));go_wp2_with fail;refine bodyPost_ret (v:=txV none) aCr rfl ?_;exact⟨by rw[<-uH.out],HE.out⟩
def fiV(t:Option Nat):Value:=match t with
 |some i=>.tuple #[.int .i64 i,.bool true]
 |none=>.tuple #[.int .i64 0,.bool false]
theorem readL_right{r:Rcp}{l:List Dn}{st:RSt}(h:bQ r l=some st):aP r=0:=by
 by_cases he:aP r=0
 ·exact he
 unfold bQ at h;rw[if_pos (.inl he)] at h;cases h
theorem RecIs.at_{w:World}{g bm n:Nat}{st:RSt}{D:List (Value×Dn)}(h:RecIs w g bm n st D){i:Nat}(hi:i<n):
  ∃a c,(w.cell? ⟨g,i*3,none⟩=some (.int .i64 (st.of i).step)/\w.cell? ⟨g,i*3+1,none⟩=some (.slice a (st.of i).saw.length c)/\w.cell? ⟨g,i*3+2,none⟩=some (.string (st.of i).out))/\Strs w (.slice a (st.of i).saw.length c) (st.of i).saw/\(st.of i).out.size<=140737488355328:=by
 obtain⟨v,hv⟩:=h.of i hi;obtain⟨⟨o0,o1,o2⟩,-⟩:=h.arr.at_ hv;obtain⟨hs,hz⟩:=h.saws _ (List.mem_of_getElem? hv);obtain⟨a,c,e⟩:=bW hs;simp only at o0 o1 o2 hs hz e;subst e;exact⟨a,c,⟨o0,o1,o2⟩,hs,hz⟩
theorem first_any(r:Rcp)(L:List (Value×Stp))(La Lb:List (Value×Dn))(vi vs va vb:Value)(w:World)(h:dR r L vi vs w)(ha:Dns w va La)(hb:Dns w vb Lb):
  Calls Tryz.prog 46 #[jD vi vs r.output,va,vb] w fun e w'=>e=.returned (fiV (pI (mS r) (bQ r (La.map (·.2))) (bQ r (Lb.map (·.2)))))/\Below w.heap.size w w':=by
 have sH:=zh (aA w (aY vi vs r.output));have GY:=zh (both_any r L La Lb vi vs va vb _ (h.later sH.out) (ha.later sH.out) (hb.later sH.out));have HR:=zh h;have tZ:=zh (aH w (aY vi vs r.output));have EF:=zh (fun st(h:bQ r (La.map (·.2))=some st)=>readL_right h)
 have DG:r.steps.length<=60\/aP r≠0:=by
  by_cases he:aP r=0
  ·exact .inl (by have:=(gG he).few;omega)
  exact .inr he
 have H60:=zh DG;obtain⟨ai,ci,av,cv,rfl,rfl⟩:=h.slices;obtain⟨aa,ca,rfl⟩:=fB ha;obtain⟨ab,cb,rfl⟩:=fB hb;clear h ha hb DG;generalize bQ r (La.map (·.2))=ra at GY EF ⊢;generalize bQ r (Lb.map (·.2))=rb at GY ⊢;generalize vM:pI (mS r) ra rb=res;have uH:=zh vM;clear vM;go_enter Tryz.func46,Tryz.ntmps46;go_wp2_with fail;refine GY.out.mono ?_;rintro e w1 hp;obtain⟨hb,hp⟩:=hp.split
 replace tZ:=zh (aD hb tZ.out)
 replace sH:=zh (aB sH.out hb)
 clear hb GY;rcases hp with⟨x,y,ga,ba,Da,gb,bb,Db,rfl,rfl,rfl,hx,hy⟩|⟨hn,s,m,p,t,k,q,rfl⟩
 ·have GQ:=EF.out x rfl;have HOrd:=zh (show orderL r=jN r.steps by unfold orderL;rw[if_neg (by simp[GQ])]);have hn60:r.steps.length<=60:=by rcases H60.out with h|h;exact h;exact absurd GQ h
  have B1:=aB (aA w1 (cB (.slice (some ⟨ga,0,none⟩) r.steps.length r.steps.length) (.map (some ba)))) (aA _ (cB (.slice (some ⟨gb,0,none⟩) r.steps.length r.steps.length) (.map (some bb))));have HX:=zh (hx.later B1);have HY:=zh (hy.later B1);have zK:=zh (aD (aA _ (cB (.slice (some ⟨gb,0,none⟩) r.steps.length r.steps.length) (.map (some bb)))) (aH w1 (cB (.slice (some ⟨ga,0,none⟩) r.steps.length r.steps.length) (.map (some ba)))));have AU:=zh (aH (w1.alloc (cB (.slice (some ⟨ga,0,none⟩) r.steps.length r.steps.length) (.map (some ba)))) (cB (.slice (some ⟨gb,0,none⟩) r.steps.length r.steps.length) (.map (some bb))));simp only[World.size_alloc] at AU
  replace tZ:=zh (aD B1 tZ.out)
  replace sH:=zh (aB sH.out B1)
  have HOr:=zh (order_any r L _ _ _ (HR.out.later sH.out));rw[HOrd.out] at HOr;obtain⟨r0,r1,r2⟩:=bD tZ.out;clear B1 hx hy GQ;go_wp2_with fail;refine HOr.out.mono ?_;rintro e w2 ⟨v,rfl,hI,-,hb⟩
  replace HX:=zh (HX.out.later hb)
  replace HY:=zh (HY.out.later hb)
  replace zK:=zh (aD hb zK.out)
  replace AU:=zh (aD hb AU.out)
  replace sH:=zh (aB sH.out hb)
  have A8:Hid (∀i,i∈jN r.steps->i<r.steps.length):=zh (fun i hi=>orderAll_lt hi);have PV:=zh (show(jN r.steps).find? (fun i=>decide ((x.of i).saw=(y.of i).saw)&&decide ((x.of i).out≠(y.of i).out))=res from uH.out);generalize jN r.steps=l at hI A8 PV;obtain⟨va',ca',rfl⟩:∃a c,v=.slice a l.length c:=by obtain⟨a,c,e,-⟩:=hI;exact⟨a,c,by simpa using e⟩
  have HI:=zh hI;clear hb hI r0 r1 r2 HOr;generalize w1.heap.size=p1 at zK AU ⊢;go_wp2_with fail;go_loopw [26] (fun j wr=>∃k:Nat,k<=l.length/\j=.int .i64 k/\Hid ((l.drop k).find? (fun i=>decide ((x.of i).saw=(y.of i).saw)&&decide ((x.of i).out≠(y.of i).out))=res)/\Hid (Below w2.heap.size w2 wr)) (fun j _=>l.length-(intOf j).toNat)
  case atStart=>exact⟨0,Nat.zero_le _,rfl,zh (by rw[List.drop_zero];exact PV.out),zh (Below.refl _ _)⟩
  case round=>
   obtain⟨k,hk,rfl,HF,wX⟩:=hrel;(rename World=>wr);by_cases sE:k<l.length
   ·obtain⟨i,hi,him⟩:=getElem?_of_lt sE;have xR:=A8.out i him;have BB:=zh (find_step (p:=fun i=>decide ((x.of i).saw=(y.of i).saw)&&decide ((x.of i).out≠(y.of i).out)) hi);rcases(HI.out.later wX.out).cases with⟨e,-⟩|⟨b,o,c,e,-,yQ,zR,-,hc⟩
    ·(have:l.length=0:=by simpa[aU] using congrArg List.length e);omega
    have hce:=hc k (i:Int) (by simp[aU,List.getElem?_map,hi]);obtain⟨rfl,rfl⟩:va'=some ⟨b,o,none⟩/\ca'=c:=aAT;(have hlen':(aU l).length=l.length:=by simp[aU]);rw[hlen'] at yQ;obtain⟨sx,cx,⟨xc0,L2,SM⟩,G3,-⟩:=(HX.out.later wX.out).at_ xR;obtain⟨sy,cy,⟨yc0,J1,PX⟩,KB,-⟩:=(HY.out.later wX.out).at_ xR;obtain⟨x0,x1,-,-⟩:=kE (aD wX.out zK.out);obtain⟨y0,y1,-,-⟩:=kE (aD wX.out AU.out);have XN:=zh (equal_any _ _ _ _ wr.drew (G3.later (Below.refl _ _).drew) (KB.later (Below.refl _ _).drew));have OX:=zh (fun n=>equal_any _ _ _ _ (wr.drewN n) (G3.later (dA (Below.refl _ _) n)) (KB.later (dA (Below.refl _ _) n)));have vA:(0:Int)<=(i:Int):=aAM;have DD:(i:Int)<(r.steps.length:Int):=aAM;clear hc e hi him G3 KB xc0 yc0;generalize x.of i=dx at XN OX BB L2 SM;generalize y.of i=dy at XN OX BB J1 PX;obtain⟨xs,xw,xo⟩:=dx;obtain⟨ys,yw,yo⟩:=dy;simp only at XN OX BB L2 SM J1 PX
    cases C7:decide (xw=yw) with
    |true=>
     rw[C7] at XN BB;by_cases hout:xo=yo
     ·have HE:=zh ((BB.out.trans (if_neg (by simp[hout]))).symm.trans HF.out);subst hout;clear C7;go_wp2_with fail
      go_region_held3 (fun W=>(W.cell? ⟨p1,0,none⟩=some (.slice (some ⟨ga,0,none⟩) r.steps.length r.steps.length)/\W.cell? ⟨p1+1,0,none⟩=some (.slice (some ⟨gb,0,none⟩) r.steps.length r.steps.length))/\(W.cell? ⟨ga,i*3+1,none⟩=some (.slice sx xw.length cx)/\W.cell? ⟨ga,i*3+2,none⟩=some (.string xo))/\(W.cell? ⟨gb,i*3+1,none⟩=some (.slice sy yw.length cy)/\W.cell? ⟨gb,i*3+2,none⟩=some (.string xo)))
       (first|(with_reducible exact⟨⟨x0,y0⟩,⟨L2,SM⟩,J1,PX⟩)|exact⟨⟨x0,y0⟩,⟨L2,SM⟩,J1,PX⟩|go_keep)
       (first|(go_at_call 76;(with_reducible refine XN.out.mono ?_);rintro e tB ⟨rfl,qn,rfl⟩))
      all_goals
       go_wp2_with fail;go_roundw;(case rel=>exact⟨k+1,aAM,aAV,HE,zh (dA wX.out _)⟩);case measure=>simp[intOf];omega
     have HE:=zh (show res=some i from HF.out.symm.trans (BB.out.trans (if_pos (by simp[hout]))));(have S6:(xo.toList==yo.toList)=false:=by rw[bI];exact decide_eq_false hout);clear C7;go_wp2_with fail
     go_region_held3 (fun W=>(W.cell? ⟨p1,0,none⟩=some (.slice (some ⟨ga,0,none⟩) r.steps.length r.steps.length)/\W.cell? ⟨p1+1,0,none⟩=some (.slice (some ⟨gb,0,none⟩) r.steps.length r.steps.length))/\(W.cell? ⟨ga,i*3+1,none⟩=some (.slice sx xw.length cx)/\W.cell? ⟨ga,i*3+2,none⟩=some (.string xo))/\(W.cell? ⟨gb,i*3+1,none⟩=some (.slice sy yw.length cy)/\W.cell? ⟨gb,i*3+2,none⟩=some (.string yo)))
      (first|(with_reducible exact⟨⟨x0,y0⟩,⟨L2,SM⟩,J1,PX⟩)|exact⟨⟨x0,y0⟩,⟨L2,SM⟩,J1,PX⟩|go_keep)
      (first|(go_at_call 76;(with_reducible refine XN.out.mono ?_);rintro e tB ⟨rfl,qn,rfl⟩))
     all_goals
      go_wp2_with fail;refine bodyPost_ret (v:=fiV (some i)) aCs rfl ?_;exact⟨by rw[HE.out],dA (aB sH.out wX.out) _⟩
    |false=>
     rw[C7] at XN BB;simp only[C7] at OX;have HE:=zh ((BB.out.trans (if_neg aAQ)).symm.trans HF.out);clear C7;go_wp2_with fail;go_quiet((go_at_call 76;refine Calls.quiet_of (OX.out _)))
     all_goals
      go_wp2_with fail;go_roundw;(case rel=>exact⟨k+1,aAM,aAV,HE,zh (dA wX.out _)⟩);case measure=>simp[intOf];omega
   obtain rfl:k=l.length:=aAM;have AW:=zh (show res=none by rw[<-HF.out,List.drop_length];rfl);go_wp2_with fail;refine bodyPost_ret (v:=fiV none) aCs rfl ?_;exact⟨by rw[AW.out],aB sH.out wX.out⟩
 rw[ofBoth_none hn] at uH;have HE:=zh (aB (aB sH.out (aA w1 (cB (.slice s m m) (.map p)))) (aA _ (cB (.slice t k k) (.map q))));go_wp2_with fail;refine bodyPost_ret (v:=fiV none) aCs rfl ?_;exact⟨by rw[<-uH.out],HE.out⟩
theorem aAE{p:Prop}(h:p:=by
 go_wp2_with fail;go_quiet(fail)
 go_wp2_with fail;go_ret
 exact⟨_,rfl,by rw[HE.out];exact mF _,dA sH.out _⟩):p:=h
theorem firstDiff_drop_eq{xs ys:List bA}{j:Nat}{x:bA}(hx:xs[j]? =some x)(hy:ys[j]? =some x):dF (xs.drop j) (ys.drop j)=(dF (xs.drop (j+1)) (ys.drop (j+1))).map (· +1):=by
 rw[getElem?_drop hx,getElem?_drop hy,dF,if_pos rfl]
theorem firstDiff_drop_ne{xs ys:List bA}{j:Nat}{x y:bA}(hx:xs[j]? =some x)(hy:ys[j]? =some y)(sC:x≠y):dF (xs.drop j) (ys.drop j)=some 0:=by
 rw[getElem?_drop hx,getElem?_drop hy,dF,if_neg sC]
def lU(xs ys:List bA)(j:Nat):Prop:=dF xs ys=(dF (xs.drop j) (ys.drop j)).map (· +j)
theorem lU.first(xs ys:List bA):lU xs ys 0:=by unfold lU;simp
theorem lU.next_{xs ys:List bA}{j:Nat}{x:bA}(h:lU xs ys j)(hx:xs[j]? =some x)(hy:ys[j]? =some x):lU xs ys (j+1):=by
 unfold lU at h ⊢;rw[h,firstDiff_drop_eq hx hy]
 cases dF (xs.drop (j+1)) (ys.drop (j+1)) with
 |none=>rfl
 |some k=>simp;omega
theorem lU.here{xs ys:List bA}{j:Nat}{x y:bA}(h:lU xs ys j)(hx:xs[j]? =some x)(hy:ys[j]? =some y)(sC:x≠y):dF xs ys=some j:=by
 unfold lU at h;rw[h,firstDiff_drop_ne hx hy sC];simp
theorem lU.last{xs ys:List bA}{j:Nat}(h:lU xs ys j)(hj:xs.length<=j):dF xs ys=none:=by
 unfold lU at h;rw[h,List.drop_of_length_le hj];rfl
theorem chainNext_here{steps:List Stp}{X Y:RSt}{i j:Nat}{s:Stp}{n:bA}(h:dF (X.of i).saw (Y.of i).saw=some j)(hs:steps[i]? =some s)(hn:s.src[j]? =some n):fH steps X Y i=aK steps n:=by
 unfold fH;rw[h];simp only[hs,hn]
theorem chainNext_last{steps:List Stp}{X Y:RSt}{i:Nat}(h:dF (X.of i).saw (Y.of i).saw=none):fH steps X Y i=none:=by
 unfold fH;rw[h]
def ChainAt(steps:List Stp)(X Y:RSt)(px:Nat->Nat)(fin:List Nat)(at_:Option Nat)(out:List Nat):Prop:=match at_ with
 |some i=>i<steps.length/\∃f,px i<f/\fI steps X Y f i out=fin
 |none=>out=fin
theorem ChainAt.step{r:Rcp}{la lb:List Dn}{X Y:RSt}{px py:Nat->Nat}{fin out:List Nat}{i:Nat}(hx:mI r la X px)(hy:mI r lb Y py)(h:ChainAt r.steps X Y px fin (some i) out):
  ChainAt r.steps X Y px fin (fH r.steps X Y i) (out++[i])/\∀j,fH r.steps X Y i=some j->px j<px i:=by
 obtain⟨hi,f,hf,he⟩:=h
 cases f with
 |zero=>omega
 |succ f=>
  rw[fI] at he
  cases hn:fH r.steps X Y i with
  |none=>rw[hn] at he;exact⟨he,fun j hj=>by cases hj⟩
  |some j=>
   rw[hn] at he;obtain⟨h1,-,h3,-⟩:=chainNext_some hx hy (List.getElem?_eq_getElem hi) hn;exact⟨⟨h1,f,aAM,he⟩,fun k hk=>by cases hk;exact h3⟩
def levelOf(px:Nat->Nat)(v:Value):Nat:=if 0<=intOf v then px (intOf v).toNat+1 else 0
theorem chainFrom_le(steps:List Stp)(X Y:RSt):∀(f i:Nat)(out:List Nat),out.length<=(fI steps X Y f i out).length
 |0,i,out=>Nat.le_refl _
 |f+1,i,out=>by
  rw[fI];split
  ·simp
  exact Nat.le_trans aAQ (chainFrom_le steps X Y f _ _)
theorem ChainAt.le{steps:List Stp}{X Y:RSt}{px:Nat->Nat}{fin out:List Nat}{a:Option Nat}(h:ChainAt steps X Y px fin a out):out.length<=fin.length:=by
 cases a with
 |none=>rw[show out=fin from h];exact Nat.le_refl _
 |some i=>obtain⟨-,f,-,rfl⟩:=h;exact chainFrom_le _ _ _ _ _ _
theorem reverse_any(W0 wr:World)(l:List Nat)(v:Value)(h:Gath W0 l v wr)(sC:l≠[]):
  Calls Tryz.prog 74 #[v] wr fun e w'=>e=.returned (.tuple #[])/\hJ w' v (aU l.reverse)/\Below W0.heap.size W0 w':=by
 rcases h.own.2 with⟨rfl,h0⟩|⟨g,cap,cur,rfl,hg,yY,r1,r2,r3,r4⟩
 ·exact absurd (List.eq_nil_of_length_eq_zero h0) sC
 have sE:g<wr.heap.size:=(Array.getElem?_eq_some_iff.1 yY).1;have yZ:cap<=9223372036854775807:=r2;have hlc:l.length<=cap:=r1
 have tH:∀j x,(aU l)[j]? =some x->wr.cell? ⟨g,0+j,none⟩=some (.int .i64 x):=fun j x hx=>by
  have hj:j<l.length:=by simpa[aU] using(Yb.1 hx).1
  have:=congrArg (fun t:List Value=>t[j]?) r4;rw[List.getElem?_take,if_pos aAM,List.getElem?_map,hx] at this;have h2:cur[j]? =some (.int .i64 x):=aBY;simp[World.cell?,yY,h2]
 have RC:∀j,wr.frozen? ⟨g,0+j,none⟩=false:=fun j=>by simp[World.frozen?,yY]
 have hlen:(aU l).length=l.length:=by simp[aU]
 have hc:=Tryz.slices_Reverse_int_cells g 0 l.length cap (aU l) wr aAM aAM (fun j hj=>by
  obtain⟨x,hx,-⟩:=getElem?_of_lt hj
  rw[tH j x hx,List.getD_eq_getElem?_getD,hx];rfl) (fun j _=>RC j)
 refine hc.mono ?_;rintro e w' ⟨rfl,q,rfl⟩;have e1:((aU l).take l.length).reverse=aU l.reverse:=by rw[<-hlen,List.take_length];simp[aU]
 rw[e1];have ho:bS g wr ((wr.drewN q).setCells g 0 ((aU l.reverse).map (Value.int .i64))):=(bS.drewN q).trans (qU g _ 0 _);refine⟨rfl,⟨_,cap,by simp[aU],by simpa[aU] using r1,r2,fun _=>⟨g,0,rfl,fun i x hx=>⟨[.int .i64 x],rfl,rfl,fun j u hu=>?_⟩⟩⟩,bS.below h.below ho hg h.below.size⟩
 match j,hu with
 |0,hu=>
  cases hu;have hi:i<((aU l.reverse).map (Value.int .i64)).length:=by have:=(Yb.1 hx).1;simpa using this
  show World.cell? _ ⟨g,0+i*1+0,none⟩=_;rw[Nat.mul_one,Nat.add_zero,World.cell?_setCells_in g _ 0 _ (fun j' zJ=>?_) i hi]
  ·have:=(Yb.1 hx).2;simp[<-this]
  obtain⟨y,hy,-⟩:=getElem?_of_lt (l:=aU l) (k:=j') (by simpa[aU] using zJ);show(wr.cell? _).isSome=true;rw[tH j' y hy];rfl
def chainOf(r:Rcp)(a b:Option RSt):List Nat:=match a,b with
 |some x,some y=>chainL r x y
 |_,_=>[]
theorem chainOf_none{r:Rcp}{a b:Option RSt}(h:a=none\/b=none):chainOf r a b=[]:=by
 rcases h with rfl|rfl
 ·rfl
 cases a<;>rfl
theorem mF(w:World):hJ w (.slice none 0 0) (aU []):=⟨none,0,rfl,by simp[aU],aAQ,fun h=>absurd rfl h⟩
def IntsPost(l:List Nat)(w:World)(e:Ending)(w':World):Prop:=∃v,e=.returned v/\hJ w' v (aU l)/\Below w.heap.size w w'
theorem chain_any(r:Rcp)(L:List (Value×Stp))(La Lb:List (Value×Dn))(vi vs va vb:Value)(w:World)(h:dR r L vi vs w)(ha:Dns w va La)(hb:Dns w vb Lb):
  Calls Tryz.prog 40 #[jD vi vs r.output,va,vb] w (IntsPost (chainOf r (bQ r (La.map (·.2))) (bQ r (Lb.map (·.2)))) w):=by
 have sH:=zh (aA w (aY vi vs r.output));have GY:=zh (both_any r L La Lb vi vs va vb _ (h.later sH.out) (ha.later sH.out) (hb.later sH.out));have HR:=zh h;have tZ:=zh (aH w (aY vi vs r.output));have UM:=zh (fun st(h:bQ r (La.map (·.2))=some st)=>readL_ok h);have HFy:=zh (fun st(h:bQ r (Lb.map (·.2))=some st)=>readL_ok h);have vB:=zh h.len;have BQ:=h.map;have HMap:=zh BQ;have GA:=zh h.out;obtain⟨ai,ci,av,cv,rfl,rfl⟩:=h.slices;obtain⟨aa,ca,rfl⟩:=fB ha;obtain⟨ab,cb,rfl⟩:=fB hb;obtain⟨i0,vA,tM,sY,sX⟩:=info_parts intInfo;clear h ha hb BQ;generalize bQ r (La.map (·.2))=ra at GY UM ⊢;generalize bQ r (Lb.map (·.2))=rb at GY HFy ⊢;generalize vM:chainOf r ra rb=res;have uH:=zh vM;clear vM;go_enter Tryz.func40,Tryz.ntmps40;go_wp2_with fail;refine GY.out.mono ?_;rintro e w1 hp;obtain⟨hb,hp⟩:=hp.split
 replace tZ:=zh (aD hb tZ.out)
 replace sH:=zh (aB sH.out hb)
 clear hb GY;rcases hp with⟨x,y,ga,ba,Da,gb,bb,Db,rfl,rfl,rfl,hx,hy⟩|⟨hn,s,m,p,t,k,q,rfl⟩
 ·have B1:=aB (aA w1 (cB (.slice (some ⟨ga,0,none⟩) r.steps.length r.steps.length) (.map (some ba)))) (aA _ (cB (.slice (some ⟨gb,0,none⟩) r.steps.length r.steps.length) (.map (some bb))));have HX:=zh (hx.later B1);have HY:=zh (hy.later B1);have zK:=zh (aD (aA _ (cB (.slice (some ⟨gb,0,none⟩) r.steps.length r.steps.length) (.map (some bb)))) (aH w1 (cB (.slice (some ⟨ga,0,none⟩) r.steps.length r.steps.length) (.map (some ba)))));have AU:=zh (aH (w1.alloc (cB (.slice (some ⟨ga,0,none⟩) r.steps.length r.steps.length) (.map (some ba)))) (cB (.slice (some ⟨gb,0,none⟩) r.steps.length r.steps.length) (.map (some bb))));simp only[World.size_alloc] at AU
  replace tZ:=zh (aD B1 tZ.out)
  replace sH:=zh (aB sH.out B1)
  have CK:=zh (oZ r L _ _ r.output _ (HR.out.later sH.out));obtain⟨r0,r1,r2⟩:=bD tZ.out;clear B1 hx hy;go_wp2_with fail;refine CK.out.mono ?_;rintro e w2 ⟨rfl,hb⟩
  replace HX:=zh (HX.out.later hb)
  replace HY:=zh (HY.out.later hb)
  replace zK:=zh (aD hb zK.out)
  replace AU:=zh (aD hb AU.out)
  replace tZ:=zh (aD hb tZ.out)
  replace sH:=zh (aB sH.out hb)
  clear hb r0 r1 r2 CK;generalize w1.heap.size=p1 at zK AU ⊢;obtain⟨px,DE⟩:=UM.out x rfl;obtain⟨py,hfy⟩:=HFy.out y rfl;have HPx:=zh DE;have HPy:=zh hfy;have DG:r.steps.length<=60:=by have:=DE.right.few;omega
  clear DE hfy UM HFy;obtain⟨x0,x1,-,-⟩:=kE zK.out;obtain⟨y0,y1,-,-⟩:=kE AU.out;have GR:chainL r x y=res:=uH.out;have CA:=zh GR;clear GR
  cases yU:aK r.steps r.output with
  |none=>
   have HE:=zh (show res=[] by rw[<-CA.out];unfold chainL;rw[yU]);have zH:wIdx none=(-1:Int):=rfl;rw[zH];clear zH yU;exact aAE
  |some e0=>
   have JK:e0<r.steps.length:=(List.findIdx?_eq_some_iff_getElem.1 yU).1;have zH:wIdx (some e0)=(e0:Int):=rfl;rw[zH];clear zH;have NF:(0:Int)<=(e0:Int):=aAM;have hi1':(e0:Int)<(r.steps.length:Int):=aAM;have vP:decide ((e0:Int)<0)=false:=decide_eq_false aAM;obtain⟨sx,cx,⟨xc0,L2,SM⟩,-,-⟩:=HX.out.at_ JK;obtain⟨sy,cy,⟨yc0,J1,PX⟩,-,-⟩:=HY.out.at_ JK;by_cases hout:(x.of e0).out=(y.of e0).out
   ·have HE:=zh (show res=[] by rw[<-CA.out];unfold chainL;rw[yU];simp only;rw[if_pos hout]);rw[<-hout] at PX;clear yU hout;exact aAE
   obtain⟨Lc,hLc,hCh⟩:=chainL_is HPx.out HPy.out yU hout;have GG:=zh (show(fI r.steps x y (r.steps.length+1) e0 []).reverse=res by rw[<-CA.out];unfold chainL;rw[yU];simp only;rw[if_neg hout])
   have HFn:Hid (fI r.steps x y (r.steps.length+1) e0 []≠[]/\(fI r.steps x y (r.steps.length+1) e0 []).length<=r.steps.length):=zh (by
    (have e1:(fI r.steps x y (r.steps.length+1) e0 []).reverse=Lc.reverse:=by rw[GG.out,<-CA.out,hLc]);(have e2:fI r.steps x y (r.steps.length+1) e0 []=Lc:=by simpa using congrArg List.reverse e1);rw[e2]
    exact⟨fun h=>by rw[h] at hCh;have:=hCh.head;simp at this,hCh.len⟩)
   have HAt0:Hid (ChainAt r.steps x y px (fI r.steps x y (r.steps.length+1) e0 []) (some e0) []):=zh ⟨JK,_,by have:=HPx.out.pos_lt JK;omega,rfl⟩;generalize fI r.steps x y (r.steps.length+1) e0 []=fin at GG HFn HAt0;(have S6:((x.of e0).out.toList==(y.of e0).out.toList)=false:=by rw[bI];exact decide_eq_false hout);clear hLc hCh yU hout;go_wp2_with fail;(go_quiet(fail));go_wp2_with fail;clear xc0 L2 SM yc0 J1 PX S6 x0 x1 y0 y1 vP NF hi1';have sV:=zh (dA (Below.refl w2.heap.size w2) nq)
   replace HX:=zh (HX.out.later sV.out)
   replace HY:=zh (HY.out.later sV.out)
   replace zK:=zh (aD sV.out zK.out)
   replace AU:=zh (aD sV.out AU.out)
   replace tZ:=zh (aD sV.out tZ.out)
   replace sH:=zh (aB sH.out sV.out)
   generalize w2.drewN nq=w3 at HX HY zK AU tZ sH ⊢;clear sV;(go_loopw [10,11] (fun av ov wr=>∃(a:Option Nat)(o:List Nat),av=.int .i64 (wIdx a)/\Hid (ChainAt r.steps x y px fin a o)/\Hid (Gath w3 o ov wr)) (fun av _ _=>levelOf px av));case atStart=>exact⟨some e0,[],rfl,HAt0,zh (Gath.first w3)⟩
   case round=>
    obtain⟨a,o,rfl,yT,HG⟩:=hrel;(rename World=>wr);have KE:o.length<=60:=by have:=yT.out.le;have:=HFn.out.2;omega
    cases a with
    |none=>
     have zH:wIdx none=(-1:Int):=rfl;rw[zH];clear zH;obtain rfl:o=fin:=yT.out;have HRv:=zh (reverse_any w3 wr o _ HG.out HFn.out.1);go_wp2_with fail;refine HRv.out.mono ?_;rintro e w9 ⟨rfl,hI,hb⟩;have HI:=zh hI;have DO:=zh hb;clear hI hb;go_wp2_with fail;go_ret;exact⟨_,rfl,by rw[<-GG.out];exact HI.out,aB sH.out DO.out⟩
    |some i=>
     have zH:wIdx (some i)=(i:Int):=rfl;rw[zH];clear zH;have hi:i<r.steps.length:=yT.out.1;have zU:=zh (yT.out.step HPx.out HPy.out);have NF:(0:Int)<=(i:Int):=aAM;have hi1':(i:Int)<(r.steps.length:Int):=aAM;have TT:=HG.out.below.size;go_wp2_with(at_builtin;refine wpList_append_own _ rfl _ _ 26 rfl w3.heap.size 3 i0 (.int .i64 0) 1 8 Tryz.underlying26 vA tM sY sX rfl aAO _ _ _ rfl (HG.out.own.alloc _) ⟨wr.heap.size,0,none⟩ 1 1 [.int .i64 i] rfl rfl (cell_one_new _ _ _) aA1 aAY aAM aA0 ?_);intro v' w4 sB sA _;have tN:=zh (HG.out.added aBS sA);clear sB sA;have xJ:=zh (aB sH.out tN.out.below);have xE:=zh (HX.out.later tN.out.below);have HY4:=zh (HY.out.later tN.out.below);have HXb4:=zh (aD tN.out.below zK.out);have HYb4:=zh (aD tN.out.below AU.out);have HRb4:=zh (aD tN.out.below tZ.out);obtain⟨sx,cx,⟨-,L2,-⟩,G3,-⟩:=xE.out.at_ hi;obtain⟨sy,cy,⟨-,J1,-⟩,KB,-⟩:=HY4.out.at_ hi;obtain⟨x0,x1,-,-⟩:=kE HXb4.out;have HSx:=zh G3;have HSy:=zh KB;obtain⟨s,hs⟩:∃s,r.steps[i]? =some s:=⟨_,List.getElem?_eq_getElem hi⟩;obtain⟨hls,sE⟩:=saw_len HPx.out HPy.out hs;have IZ:=zh hls;have A8:=zh sE;have HS:=zh hs;clear hls sE hs G3 KB
     obtain⟨ys,DR,UV⟩:∃ys,L[i]? =some ys/\ys.2=s:=by
      have:=HS.out;rw[<-HMap.out,List.getElem?_map] at this
      cases hq:L[i]? with
      |none=>rw[hq] at this;cases this
      |some ys=>rw[hq] at this;exact⟨ys,rfl,aBY⟩
     subst UV;have HYs:=zh DR;clear DR;have PU:=zh (fun(j:Nat)(h:dF (x.of i).saw (y.of i).saw=some j)(n:bA)(hn:ys.2.src[j]? =some n)=>chainNext_here h HS.out hn);have HN2:=zh (fun(h:dF (x.of i).saw (y.of i).saw=none)=>chainNext_last (steps:=r.steps) h);generalize fH r.steps x y i=nx at zU PU HN2;generalize (x.of i).saw=xw at L2 HSx IZ PU HN2;generalize (y.of i).saw=yw at J1 HSy A8 PU HN2;have HYc1:=zh J1;go_wp2_with fail;clear L2 J1 x0 x1;(go_loopw [12,61] (fun nv jv O8=>∃j:Nat,nv=.int .i64 (-1)/\j<=xw.length/\jv=.int .i64 j/\Hid (lU xw yw j)/\Hid (Below w4.heap.size w4 O8)) (fun _ jv _=>xw.length-(intOf jv).toNat));case atStart=>exact⟨0,rfl,Nat.zero_le _,rfl,zh (lU.first _ _),zh (Below.refl _ _)⟩
     case round=>
      obtain⟨j,rfl,hj,rfl,HD,wX⟩:=hrel;(rename World=>O8);by_cases AS:j<xw.length
      ·obtain⟨sxj,hxj,-⟩:=getElem?_of_lt AS;obtain⟨syj,hyj,-⟩:=getElem?_of_lt (l:=yw) (k:=j) (by have:=IZ.out;have:=A8.out;omega);rcases(HSx.out.later wX.out).cases with⟨e,-⟩|⟨bx,ox,cx',e,-,yQ,zR,-,LQ⟩
       ·rw[e] at AS;simp at AS
       obtain⟨rfl,rfl⟩:sx=some ⟨bx,ox,none⟩/\cx=cx':=aAT;rcases(HSy.out.later wX.out).cases with⟨e',-⟩|⟨by',oy,cy',e',-,-,-,-,NK⟩
       ·rw[e'] at hyj;simp at hyj
       obtain⟨rfl,rfl⟩:sy=some ⟨by',oy,none⟩/\cy=cy':=aBM;obtain⟨xc,-⟩:=LQ j _ hxj;obtain⟨yc,-⟩:=NK j _ hyj;have J1:=aC wX.out HYc1.out;obtain⟨y0,y1,-,-⟩:=kE (aD wX.out HYb4.out);(have H4:(j:Int)<(yw.length:Int):=by have:=IZ.out;have:=A8.out;omega);have HXj:=zh hxj;have HYj:=zh hyj;clear LQ NK e e' hxj hyj;by_cases wM:sxj=syj
       ·have BK:=zh (HD.out.next_ HXj.out (by rw[HYj.out,wM]));subst wM;go_wp2_with fail;go_roundw;(case rel=>exact⟨j+1,rfl,aAM,aAV,BK,wX⟩);case measure=>simp[intOf];omega
       have hxy2:(sxj.toList==syj.toList)=false:=aC7;have HDj:=zh (HD.out.here HXj.out HYj.out wM);(have hjs:j<ys.2.src.length:=by have:=IZ.out;have:=sees_le ys.2;omega);obtain⟨n,hn,-⟩:=getElem?_of_lt hjs;obtain rfl:nx=aK r.steps n:=PU.out j HDj.out n hn;have EW:=zh (aB xJ.out wX.out);rcases(HR.out.later EW.out).stp.cases with⟨e,-⟩|⟨bs,os,c,e,-,-,-,-,hc⟩
       ·have h1:=HYs.out;rw[e] at h1;simp at h1
       obtain⟨rfl,rfl⟩:av=some ⟨bs,os,none⟩/\cv=c:=aAT;obtain⟨-,s1,-,-,hsrc,-⟩:=hc i ys HYs.out;obtain⟨ysv,kind,src,yo,sorted⟩:=ys;simp only at s1 hsrc hjs hn;obtain⟨ya,yc',rfl⟩:=bW hsrc;rcases hsrc.cases with⟨e',-⟩|⟨bn,on_,cn,e',-,-,-,-,TS⟩
       ·rw[e'] at hjs;simp at hjs
       obtain⟨rfl,rfl⟩:ya=some ⟨bn,on_,none⟩/\yc'=cn:=aBM;obtain⟨n0,nz⟩:=TS j n hn;obtain⟨r0,r1,r2⟩:=bD (aD wX.out HRb4.out);have HWn:=zh (oZ r L _ _ n O8.drew (HR.out.later EW.out.drew));have hL:r.steps.length=L.length:=vB.out;have JI:(i:Int)<(L.length:Int):=aAM;have TL:(j:Int)<(src.length:Int):=aAM;have TK:(0:Int)<=(j:Int):=aAM;clear hL hc TS e e' hsrc hn nz wM;go_wp2_with fail
       go_region_held3 (fun W=>(W.cell? ⟨w.heap.size,0,none⟩=some (.slice ai r.inputs.length ci)/\W.cell? ⟨w.heap.size,1,none⟩=some (.slice (some ⟨bs,os,none⟩) L.length cv)/\W.cell? ⟨w.heap.size,2,none⟩=some (.string r.output))/\W.cell? ⟨bs,os+i*4+1,none⟩=some (.slice (some ⟨bn,on_,none⟩) src.length yc')/\W.cell? ⟨bn,on_+j,none⟩=some (.string n))
        (first|(with_reducible exact⟨⟨r0,r1,r2⟩,s1,n0⟩)|exact⟨⟨r0,r1,r2⟩,s1,n0⟩|(with_reducible exact GI.out)|go_keep)
        (first|(go_at_call 73;(with_reducible refine HWn.out.mono ?_);rintro e tB ⟨rfl,hb⟩;have tR:Hid (Below O8.heap.size O8 tB):=zh ((Below.refl _ O8).drew.trans hb);have GI:Hid ((_/\_/\_)/\_/\_):=zh ⟨⟨aC tR.out r0,aC tR.out r1,aC tR.out r2⟩,aC tR.out s1,aC tR.out n0⟩;clear hb))
       all_goals
        go_wp2_with fail;go_roundw;case rel=>exact⟨aK r.steps n,_,rfl,zh zU.out.1,zh (tN.out.later (aB wX.out tR.out))⟩
        case measure=>
         have JC:=zU.out.2
         cases hq:aK r.steps n with
         |none=>simp[levelOf,wIdx,intOf]
         |some k=>
          have:=JC k hq;simp[levelOf,wIdx,intOf];exact this
      obtain rfl:j=xw.length:=aAM;obtain rfl:nx=none:=HN2.out (HD.out.last (Nat.le_refl _));go_wp2_with fail;go_roundw;(case rel=>exact⟨none,_,rfl,zh zU.out.1,zh (tN.out.later wX.out)⟩);case measure=>simp[levelOf,intOf]
 have HE:=zh (show res=[] by rw[<-uH.out,chainOf_none hn]);have sW:=zh (aB (aB sH.out (aA w1 (cB (.slice s m m) (.map p)))) (aA _ (cB (.slice t k k) (.map q))));have CK:=zh (oZ r L _ _ r.output _ (HR.out.later sW.out));obtain⟨r0,r1,r2⟩:=bD (aD (aB (aA w1 (cB (.slice s m m) (.map p))) (aA _ (cB (.slice t k k) (.map q)))) tZ.out);go_wp2_with fail;refine CK.out.mono ?_;rintro e w2 ⟨rfl,hb⟩;have wL:=zh (aB sW.out hb);clear hb r0 r1 r2;go_wp2_with fail;go_quiet(fail)
 go_wp2_with fail;go_ret;exact⟨_,rfl,by rw[HE.out];exact mF _,dA wL.out _⟩
theorem ZE{p:Prop}(h:p:=by
 have yK:=zh (yT.out.next_ HN.out (XR.out.trans (if_pos BG)));subst BG;go_wp2_with fail;go_quiet(fail)
 go_wp2_with fail;go_roundw;case rel=>exact⟨k+1,fs,aAM,aAM,aAV,yK,zh (XJ.out.later (dA (Below.refl _ _) _))⟩
 case measure=>simp[intOf];omega):p:=h
theorem ZP{p:Prop}(h:p:=by
 clear tL;go_wp2_with fail;go_quiet(fail)
 go_wp2_with fail;refine bodyPost_ret (v:=.tuple #[.string ⟨#[]⟩,.int .i64 1]) aCF rfl ?_
 exact⟨dA (aB tP.out wL.out) _,rfl⟩):p:=h
theorem Z9{p:Prop}(h:p:=by
 clear sB sA RR FV;go_wp2_with fail;go_roundw;case rel=>exact⟨k+1,_,aAM,aA0,aAV,yK,tN⟩
 case measure=>simp[intOf];omega):p:=h
def RpAt(saw src:List bA)(k:Nat)(files:List Fil):Prop:=fC saw 0 src []=fC saw k (src.drop k) files
section
variable {saw src:List bA} {k:Nat} {files fs:List Fil} {n:bA}
theorem RpAt.first(saw src:List bA):RpAt saw src 0 []:=by unfold RpAt;rw[List.drop_zero]
theorem RpAt.last(h:RpAt saw src k files)(hk:src.length<=k):fC saw 0 src []=some files:=by unfold RpAt at h;rw[h,List.drop_of_length_le hk];rfl
theorem RpAt.bad(h:RpAt saw src k files)(hn:src[k]? =some n)(ha:lM files ⟨n,gC saw k⟩=none):fC saw 0 src []=none:=by
 unfold RpAt at h;rw[h,getElem?_drop hn,fC,ha]
theorem RpAt.next_(h:RpAt saw src k files)(hn:src[k]? =some n)(ha:lM files ⟨n,gC saw k⟩=some fs):RpAt saw src (k+1) fs:=by
 unfold RpAt at h ⊢;rw[h,getElem?_drop hn,fC,ha]
end
structure GathF (W0:World) (l:List Fil) (v:Value) (wr:World):Prop where
 own:wr.ownsRow W0.heap.size 40 2 v l.length (cG l)
 below:Below W0.heap.size W0 wr
 sizes:∀f,f∈l->f.name.size<=140737488355328/\f.text.size<=140737488355328
theorem GathF.first(W0:World):GathF W0 [] (.slice none 0 0) W0:=⟨World.ownsRow_nil _ _ _ _,Below.refl _ _,fun f h=>aBx⟩
theorem GathF.later{W0 wr w2:World}{l:List Fil}{v:Value}(h:GathF W0 l v wr)(hb:Below wr.heap.size wr w2):GathF W0 l v w2:=
 ⟨h.own.kept (row:=none) ⟨hb.os,hb.tape,hb.output,hb.size,fun k hk _=>hb.block k hk⟩ (Classical.em _),h.below.trans (hb.mono h.below.size),h.sizes⟩
theorem GathF.added{W0 wr w3:World}{l:List Fil}{v v':Value}{f:Fil}{o:Obj}(h:GathF W0 l v wr)(sB:w3.ownsRow W0.heap.size 40 2 v' (l.length+1) (cG l++[.string f.name,.string f.text]))(hg:(wr.alloc o).grownBy w3 v.ownBlock)
  (hf:f.name.size<=140737488355328/\f.text.size<=140737488355328):GathF W0 (l++[f]) v' w3:=by
 have hz:wr.heap.size+1<=w3.heap.size:=aBJ;have wR:=h.below;refine⟨by rw[List.length_append,show cG (l++[f])=cG l++[.string f.name,.string f.text] by simp[cG]];exact sB,?_,fun g hg=>?_⟩
 ·exact YT
 rcases List.mem_append.1 hg with h1|h1
 ·exact h.sizes g h1
 rw[List.mem_singleton.1 h1];exact hf
theorem GathF.fils{W0 wr:World}{l:List Fil}{v:Value}(h:GathF W0 l v wr):jZ wr v l:=by
 rcases h.own.2 with⟨rfl,h0⟩|⟨g,cap,cur,rfl,hg,yY,r1,r2,r3,r4⟩
 ·exact Y7
 refine⟨_,cap,rfl,r1,r2,fun _=>⟨g,0,rfl,fun i f hf=>⟨_,⟨rfl,h.sizes f (List.mem_of_getElem? hf)⟩,rfl,fun j u hu=>?_⟩⟩⟩;have hi:=(Yb.1 hf).1;obtain⟨d0,d1⟩:=filCells_at l i f hf
 have get:∀k u,k<l.length*2->(cG l)[k]? =some u->wr.cell? ⟨g,0+k,none⟩=some u:=fun k u hk hu=>by
  exact Z5
 match j,hu with
 |0,hu=>cases hu;exact get _ _ aAM d0
 |1,hu=>cases hu;rw[Nat.add_assoc];exact get _ _ aAM d1
theorem replay1_any(x fn ft:bA)(b:Nat)(w:World)(hb:w.cell? ⟨b,0,none⟩=some (.string x)):
  Calls Tryz.prog 78 #[.agg #[.string fn,.string ft],.pointer (some ⟨b,0,none⟩)] w fun e w'=>e=.returned (.bool (decide (fn=x)))/\Below w.heap.size w w':=by
 have sE:=cT hb;go_enter Tryz.func78,Tryz.ntmps78;exact Z4
theorem enters_replay1(args:Array Value)(w:World):(callFunc 78 args).run Tryz.prog w=.ok (.enter 78 args) w:=aAN
def RePost(res:Except Int bA)(w:World)(e:Ending)(w':World):Prop:=Below w.heap.size w w'/\match res with
 | .error c=>e=.returned (.tuple #[.string ⟨#[]⟩,.int .i64 c])
 | .ok t=>e=.returned (.tuple #[.string t,.int .i64 0])
theorem replay_good(C:bA->Int×bA)(r:Rcp)(L:List (Value×Stp))(vi vs vd vc vo vn:Value)(s:Stp)(i:Nat)(saw:List bA)(out:bA)(clock order next:List Int)(w:World)(h:dR r L vi vs w)(hw:nC clock order next vc vo vn w)(hG:dL w)
  (he:aP r=0) (hs:r.steps[i]? =some s) (hd:Strs w vd saw) (hl:saw.length=iC s) (hD:DoAll C s):
  Calls Tryz.prog 49 #[jD vi vs r.output,.agg #[.int .i64 i,vd,.string out],.agg #[vc,vo,vn]] w (RePost (eX C s saw clock order) w):=by
 have HR:=zh h;have HW:=zh hw;have HGl:=zh hG;have HD:=zh hD;have HSd:=zh hd;have vB:=zh h.len;have EF:=zh (gG he);have hi:i<L.length:=by have:=(Yb.1 hs).1;have:=h.len;omega
 obtain⟨y,hy,EP⟩:∃y,L[i]? =some y/\y.2=s:=by
  rw[<-h.map,List.getElem?_map] at hs
  cases hq:L[i]? with
  |none=>rw[hq] at hs;cases hs
  |some y=>rw[hq] at hs;exact⟨y,rfl,by simpa using hs⟩
 subst EP;have hsr:=EF.out.steps y.2 (List.mem_of_getElem? hs);have G4:=(dI hsr).2.2.1;obtain⟨⟨a1,c1,rfl⟩,⟨a2,c2,rfl⟩,⟨a3,c3,rfl⟩⟩:=hw.slices;obtain⟨ai,ci,av,cv,rfl,rfl⟩:=h.slices;obtain⟨ad,cd,rfl⟩:=bW hd;rcases h.stp.cases with⟨e,-⟩|⟨bs,os,c,e,-,-,-,-,hc⟩
 ·rw[e] at hi;simp at hi
 obtain⟨rfl,rfl⟩:av=some ⟨bs,os,none⟩/\cv=c:=aAT;obtain⟨s0,s1,s2,s3,hsrc,GP⟩:=hc i y hy;obtain⟨yv,kind,src,yo,sorted⟩:=y;simp only at s0 s1 s2 s3 hsrc GP G4 HD;obtain⟨ya,yc,rfl⟩:=bW hsrc;have A4:=zh hsrc;have HSo:=zh GP;have vS:saw.length=iC ⟨kind,src,yo,sorted⟩:=hl;generalize sC:iC ⟨kind,src,yo,sorted⟩=ns at vS;subst vS;have EG:=zh sC
 have uU:=zh (show eX C ⟨kind,src,yo,sorted⟩ saw clock order=match fC saw 0 src [] with
  |none=>.error 1
  |some files=>match cH C ⟨kind,src,yo,sorted⟩ files clock order 0 0 with
   | .error e=>.error e
   | .ok (text,_,_,_)=>.ok text from rfl)
 show Calls _ _ _ _ (RePost (eX C ⟨kind,src,yo,sorted⟩ saw clock order) w);generalize eX C ⟨kind,src,yo,sorted⟩ saw clock order=res at uU ⊢;have B1:=aA w (aY (.slice ai r.inputs.length ci) (.slice (some ⟨bs,os,none⟩) L.length cv) r.output);have B2:=aA (w.alloc (aY (.slice ai r.inputs.length ci) (.slice (some ⟨bs,os,none⟩) L.length cv) r.output)) (rK i ad saw.length cd out);have B3:=aA ((w.alloc (aY (.slice ai r.inputs.length ci) (.slice (some ⟨bs,os,none⟩) L.length cv) r.output)).alloc (rK i ad saw.length cd out)) (kF (.slice a1 clock.length c1) (.slice a2 order.length c2) (.slice a3 next.length c3));have sH:=zh (aB (aB B1 B2) B3);have tZ:=zh (aD (aB B2 B3) (aH w (aY (.slice ai r.inputs.length ci) (.slice (some ⟨bs,os,none⟩) L.length cv) r.output)));have xV:=zh (aD B3 (aH (w.alloc (aY (.slice ai r.inputs.length ci) (.slice (some ⟨bs,os,none⟩) L.length cv) r.output)) (rK i ad saw.length cd out)));have LW:=zh (aH ((w.alloc (aY (.slice ai r.inputs.length ci) (.slice (some ⟨bs,os,none⟩) L.length cv) r.output)).alloc (rK i ad saw.length cd out)) (kF (.slice a1 clock.length c1) (.slice a2 order.length c2) (.slice a3 next.length c3)));simp only[World.size_alloc] at xV LW;clear B1 B2 B3 h hw hG hD hd hs hy e hc hsr hsrc GP hl sC;go_enter Tryz.func49,Tryz.ntmps49;go_wp2_with fail;generalize ((w.alloc (aY (.slice ai r.inputs.length ci) (.slice (some ⟨bs,os,none⟩) L.length cv) r.output)).alloc (rK i ad saw.length cd out)).alloc (kF (.slice a1 clock.length c1) (.slice a2 order.length c2) (.slice a3 next.length c3))=w0 at sH tZ xV LW ⊢
 replace s0:=aC sH.out s0
 replace s1:=aC sH.out s1
 replace s2:=aC sH.out s2
 replace s3:=aC sH.out s3
 obtain⟨r0,r1,r2⟩:=bD tZ.out;obtain⟨d0,d1,d2⟩:=bD xV.out;have GU:=zh (rH r L _ _ w0.drew (HR.out.later sH.out.drew));rw[he] at GU;have HSe:=zh (fun W(hW:Below w0.heap.size w0 W)=>sees_any (.slice ya src.length yc,⟨kind,src,yo,sorted⟩) W (A4.out.later (aB sH.out hW)));rw[EG.out] at HSe;have JE:decide ((i:Int)<0)=false:=decide_eq_false aAM;have BE:decide ((L.length:Int)<=(i:Int))=false:=decide_eq_false aAM;have PI:decide (L.length<=i)=false:=decide_eq_false aAM;have hn3:¬L.length<=i:=aAM;have vA:(0:Int)<=(i:Int):=aAM;have DD:(i:Int)<(L.length:Int):=aAM
 go_region_held3 (fun W=>(W.cell? ⟨w.heap.size,0,none⟩=some (.slice ai r.inputs.length ci)/\W.cell? ⟨w.heap.size,1,none⟩=some (.slice (some ⟨bs,os,none⟩) L.length cv)/\W.cell? ⟨w.heap.size,2,none⟩=some (.string r.output))/\(W.cell? ⟨w.heap.size+1,0,none⟩=some (.int .i64 (i:Int))/\W.cell? ⟨w.heap.size+1,1,none⟩=some (.slice ad saw.length cd))/\(W.cell? ⟨bs,os+i*4,none⟩=some (.int .i64 kind)/\W.cell? ⟨bs,os+i*4+1,none⟩=some (.slice ya src.length yc)/\W.cell? ⟨bs,os+i*4+2,none⟩=some (.string yo)/\W.cell? ⟨bs,os+i*4+3,none⟩=some (.bool sorted)))
  (first|exact⟨⟨r0,r1,r2⟩,⟨d0,d1⟩,s0,s1,s2,s3⟩|(with_reducible exact BL.out)|(with_reducible exact AN.out)|go_keep)
  (first|(go_at_call 35;(with_reducible refine GU.out.mono ?_);rintro e wa ⟨rfl,hb⟩;have sV:Hid (Below w0.heap.size w0 wa):=zh ((Below.refl _ w0).drew.trans hb);have AN:Hid ((_/\_/\_)/\(_/\_)/\_/\_/\_/\_):=zh ⟨⟨aC sV.out r0,aC sV.out r1,aC sV.out r2⟩,⟨aC sV.out d0,aC sV.out d1⟩,aC sV.out s0,aC sV.out s1,aC sV.out s2,aC sV.out s3⟩;clear hb)|(have _g:=sV;go_at_call 77;(with_reducible refine(HSe.out _ sV.out).mono ?_);rintro e wb ⟨rfl,hb⟩;have sW:Hid (Below w0.heap.size w0 wb):=zh (aB sV.out hb);have BL:Hid ((_/\_/\_)/\(_/\_)/\_/\_/\_/\_):=zh ⟨⟨aC sW.out r0,aC sW.out r1,aC sW.out r2⟩,⟨aC sW.out d0,aC sW.out d1⟩,aC sW.out s0,aC sW.out s1,aC sW.out s2,aC sW.out s3⟩;clear hb))
 all_goals
  obtain⟨⟨r0,r1,r2⟩,⟨d0,d1⟩,s0,s1,s2,s3⟩:=BL.out;have wF:=zh (aB sW.out (aA wb (oBx24 kind ya src.length yc yo sorted)));have HTb:=zh (aH wb (oBx24 kind ya src.length yc yo sorted));go_wp2_with fail;clear r0 r1 r2 d0 d1 s0 s1 s2 s3 BL AN sW sV
  replace xV:=zh (aD wF.out xV.out)
  replace LW:=zh (aD wF.out LW.out)
  replace sH:=zh (aB sH.out wF.out)
  have CM:wb.heap.size<(wb.alloc (oBx24 kind ya src.length yc yo sorted)).heap.size:=aAQ;generalize wb.alloc (oBx24 kind ya src.length yc yo sorted)=w1 at HTb xV LW sH CM ⊢;generalize wb.heap.size=q8 at HTb CM ⊢;clear wF;obtain⟨i0,NF,tM,sY,sX⟩:=info_parts filInfo;go_loopw [9,56] (fun v kv wr=>∃(k:Nat)(fs:List Fil),k<=src.length/\fs.length<=k/\kv=.int .i64 k/\Hid (RpAt saw src k fs)/\Hid (GathF w1 fs v wr)) (fun _ kv _=>src.length-(intOf kv).toNat)
  case atStart=>exact⟨0,[],Nat.zero_le _,Nat.zero_le _,rfl,zh (RpAt.first _ _),zh (GathF.first w1)⟩
  case round=>
   obtain⟨k,fs,hk,RD,rfl,yT,HG⟩:=hrel;(rename World=>wr);(rename Value=>v);have xA:=zh HG.out.below;have tP:=zh (aB sH.out xA.out);have tI:=xA.out.size;obtain⟨af,cf,rfl⟩:=fils_form HG.out.fils;by_cases sE:k<src.length
   ·obtain⟨n,hn,-⟩:=getElem?_of_lt sE;rcases(A4.out.later tP.out).cases with⟨e,-⟩|⟨bx,ox,cx,e,-,-,-,-,LQ⟩
    ·exact aAy
    obtain⟨rfl,rfl⟩:ya=some ⟨bx,ox,none⟩/\yc=cx:=aAT;obtain⟨n0,nz⟩:=LQ k n hn;have HN:=zh hn;have HNz:=zh nz;clear LQ e hn nz;obtain⟨d0,d1,d2⟩:=bD (aD xA.out xV.out);have ES:=aB (aA wr (eP n)) (aA _ (pJ n ⟨#[]⟩));have HBe:=zh ES
    replace d0:=aC ES d0
    replace d1:=aC ES d1
    clear ES d2
    obtain⟨t,ht,HTz⟩:∃t,gC saw k=t/\Hid (t.size<=140737488355328):=by
     refine⟨_,rfl,zh ?_⟩;unfold gC;split
     ·decide
     rw[List.getD_eq_getElem?_getD]
     cases hq:saw[k]? with
     |none=>decide
     |some t=>exact lZ HSd.out (List.mem_of_getElem? hq)
    have HT:=zh ht;have B1:=aA wr (eP n);have B2:=aA (wr.alloc (eP n)) (pJ n t);have sW:=zh (aB B1 B2);have TS:=box1 (aD B2 (aH wr (eP n)));have XM:=zh (aH (wr.alloc (eP n)) (pJ n t));simp only[World.size_alloc] at XM;have HI:=zh (indexFunc_fil 78 #[.pointer (some ⟨wr.heap.size,0,none⟩)] (fun f=>decide (f.name=n)) fs (.slice af fs.length cf) _ (HG.out.fils.later sW.out) enters_replay1 (fun f _ W hW=>replay1_any n f.name f.text _ W (aC hW TS)));have HG2:=zh (HG.out.later sW.out);clear B1 B2 TS;by_cases tT:saw=[]
    ·(obtain rfl:t=⟨#[]⟩:=by rw[<-HT.out];unfold gC;rw[if_pos tT]);(have tM:saw.length=0:=by rw[tT];rfl);have hz1':¬(0:Int)<(saw.length:Int):=aAM;have MG:¬0<saw.length:=aAM;have hz3':decide ((0:Int)<(saw.length:Int))=false:=decide_eq_false hz1';have hz4':decide (0<saw.length)=false:=decide_eq_false MG;clear tM;clear tT;go_wp2_with fail;refine HI.out.mono ?_;rintro e w3 ⟨rfl,hb⟩;have XJ:=zh (HG2.out.later hb);have wL:=zh (aB sW.out hb);obtain⟨c0,c1,-,-⟩:=kE (aD hb XM.out);clear hb HI HG2
     cases A2:fs.findIdx? (fun f=>decide (f.name=n)) with
     |none=>
      have KP:kC (fun f:Fil=>decide (f.name=n)) fs= -1:=nH A2;rw[KP];have yK:=zh (yT.out.next_ HN.out (show lM fs ⟨n,gC saw k⟩=some (fs++[⟨n,⟨#[]⟩⟩]) by rw[HT.out];unfold lM;simp only[A2]));clear KP A2;go_wp2_with fail;(go_quiet(fail));have SH:=zh (XJ.out.later (dA (Below.refl w3.heap.size w3) nq));have h4:=SH.out.below.size;have RR:(w3.drewN nq).cell? ⟨wr.heap.size+1,0,none⟩=some (.string n):=c0;have FV:(w3.drewN nq).cell? ⟨wr.heap.size+1,1,none⟩=some (.string ⟨#[]⟩):=c1;clear c0 c1;generalize w3.drewN nq=w4 at SH h4 RR FV ⊢;go_wp2_with(at_builtin;refine wpList_append_own _ rfl _ _ 25 rfl w1.heap.size 40 i0 (.agg #[.string ByteArray.empty,.string ByteArray.empty]) 2 32 Tryz.underlying25 NF tM sY sX rfl aAO _ _ _ rfl (SH.out.own.alloc _) ⟨w4.heap.size,0,none⟩ 1 1 [.string n,.string ⟨#[]⟩] rfl rfl (World.news_of_block (cs:=#[.string n,.string ⟨#[]⟩]) (t:=40) (fr:=(0,0)) (bY w4 _)) aA1 aAY aAM aA0 ?_);intro v' w5 sB sA _;have tN:=zh (SH.out.added (f:=⟨n,⟨#[]⟩⟩) sB sA ⟨HNz.out,HTz.out⟩);exact Z9
     |some j=>
      have KP:kC (fun f:Fil=>decide (f.name=n)) fs=(j:Int):=nG A2;rw[KP];obtain⟨AS,hp,-⟩:=List.findIdx?_eq_some_iff_getElem.1 A2;obtain⟨g,hg,-⟩:=getElem?_of_lt AS;(have hgn:g.name=n:=by rw[List.getElem?_eq_getElem AS] at hg;cases hg;simpa using hp);rcases XJ.out.fils.cases with⟨e,-⟩|⟨b',o',c',e,-,-,-,-,FH⟩
      ·rw[e] at AS;simp at AS
      obtain⟨rfl,rfl⟩:af=some ⟨b',o',none⟩/\cf=c':=aAT;obtain⟨g0,g1,-,-⟩:=FH j g hg;have XR:=zh (show lM fs ⟨n,gC saw k⟩=if g.text=⟨#[]⟩ then some fs else none by rw[HT.out];unfold lM;simp only[A2,hg]);obtain⟨gn,gt⟩:=g;simp only at g0 g1 hgn XR;subst hgn;have VE:(0:Int)<=(j:Int):=aAM;have H4:(j:Int)<(fs.length:Int):=aAM;have TL:decide ((j:Int)<0)=false:=decide_eq_false aAM;clear KP A2 hp hg FH e;by_cases BG:gt=⟨#[]⟩
      ·exact ZE
      have tL:=yT.out.bad HN.out (XR.out.trans (if_neg BG));(obtain rfl:res=.error 1:=by rw[uU.out,tL]);have VI:(gt.toList==(⟨#[]⟩:bA).toList)=false:=by rw[bI];exact decide_eq_false BG
      have hgt3:(gt.toList==[])=false:=by
       (have e0:(⟨#[]⟩:bA).toList=[]:=by rw[toList_eq]);rw[e0] at VI;exact VI
      (have hgt4:gt.toList≠[]:=fun h=>by rw[h] at hgt3;cases hgt3);exact ZP
    have PE:¬saw.length=0:=fun h=>tT (List.eq_nil_of_length_eq_zero h);have hsl2:(0:Int)<(saw.length:Int):=aAM
    have hks:k<saw.length:=by
     have:=EG.out;unfold iC at this;simp only at this;split at this
     ·omega
     omega
    rcases(HSd.out.later (aB tP.out HBe.out)).cases with⟨e,-⟩|⟨by',oy,cy,e,-,-,-,-,NK⟩
    ·exact absurd e tT
    obtain⟨rfl,rfl⟩:ad=some ⟨by',oy,none⟩/\cd=cy:=aAT;obtain⟨t',ht',-⟩:=getElem?_of_lt hks;obtain⟨y0,-⟩:=NK k t' ht';(obtain rfl:t=t':=by rw[<-HT.out];unfold gC;rw[if_neg tT,List.getD_eq_getElem?_getD,ht'];rfl);have LM:(0:Int)<=(k:Int):=aAM;have BF:(k:Int)<(saw.length:Int):=aAM;clear tT NK e ht';go_wp2_with fail;refine HI.out.mono ?_;rintro e w3 ⟨rfl,hb⟩;have XJ:=zh (HG2.out.later hb);have wL:=zh (aB sW.out hb);obtain⟨c0,c1,-,-⟩:=kE (aD hb XM.out);clear hb HI HG2
    cases A2:fs.findIdx? (fun f=>decide (f.name=n)) with
    |none=>
     have KP:kC (fun f:Fil=>decide (f.name=n)) fs= -1:=nH A2;rw[KP];have yK:=zh (yT.out.next_ HN.out (show lM fs ⟨n,gC saw k⟩=some (fs++[⟨n,t⟩]) by rw[HT.out];unfold lM;simp only[A2]));clear KP A2;go_wp2_with fail;(go_quiet(fail));have SH:=zh (XJ.out.later (dA (Below.refl w3.heap.size w3) nq));have h4:=SH.out.below.size;have RR:(w3.drewN nq).cell? ⟨wr.heap.size+1,0,none⟩=some (.string n):=c0;have FV:(w3.drewN nq).cell? ⟨wr.heap.size+1,1,none⟩=some (.string t):=c1;clear c0 c1;generalize w3.drewN nq=w4 at SH h4 RR FV ⊢;go_wp2_with(at_builtin;refine wpList_append_own _ rfl _ _ 25 rfl w1.heap.size 40 i0 (.agg #[.string ByteArray.empty,.string ByteArray.empty]) 2 32 Tryz.underlying25 NF tM sY sX rfl aAO _ _ _ rfl (SH.out.own.alloc _) ⟨w4.heap.size,0,none⟩ 1 1 [.string n,.string t] rfl rfl (World.news_of_block (cs:=#[.string n,.string t]) (t:=40) (fr:=(0,0)) (bY w4 _)) aA1 aAY aAM aA0 ?_);intro v' w5 sB sA _;have tN:=zh (SH.out.added (f:=⟨n,t⟩) sB sA ⟨HNz.out,HTz.out⟩);exact Z9
    |some j=>
     have KP:kC (fun f:Fil=>decide (f.name=n)) fs=(j:Int):=nG A2;rw[KP];obtain⟨AS,hp,-⟩:=List.findIdx?_eq_some_iff_getElem.1 A2;obtain⟨g,hg,-⟩:=getElem?_of_lt AS;(have hgn:g.name=n:=by rw[List.getElem?_eq_getElem AS] at hg;cases hg;simpa using hp);rcases XJ.out.fils.cases with⟨e,-⟩|⟨b',o',c',e,-,-,-,-,FH⟩
     ·rw[e] at AS;simp at AS
     obtain⟨rfl,rfl⟩:af=some ⟨b',o',none⟩/\cf=c':=aAT;obtain⟨g0,g1,-,-⟩:=FH j g hg;have XR:=zh (show lM fs ⟨n,gC saw k⟩=if g.text=t then some fs else none by rw[HT.out];unfold lM;simp only[A2,hg]);obtain⟨gn,gt⟩:=g;simp only at g0 g1 hgn XR;subst hgn;have VE:(0:Int)<=(j:Int):=aAM;have H4:(j:Int)<(fs.length:Int):=aAM;have TL:decide ((j:Int)<0)=false:=decide_eq_false aAM;clear KP A2 hp hg FH e;by_cases BG:gt=t
     ·exact ZE
     have tL:=yT.out.bad HN.out (XR.out.trans (if_neg BG));(obtain rfl:res=.error 1:=by rw[uU.out,tL]);(have VI:(gt.toList==t.toList)=false:=by rw[bI];exact decide_eq_false BG);exact ZP
   obtain rfl:k=src.length:=aAM;have tX:=yT.out.last (Nat.le_refl _)
   have HRc2:Hid (res=match cH C ⟨kind,src,yo,sorted⟩ fs clock order 0 0 with
    | .error e=>.error e
    | .ok (text,_,_,_)=>.ok text):=zh (by rw[uU.out,tX])
   have UO:=zh (HD.out fs clock order (.slice ya src.length yc) (.slice af fs.length cf) (.slice a1 clock.length c1) (.slice a2 order.length c2) (.slice a3 next.length c3) 0 0 wr ⟨HGl.out.later tP.out,A4.out.later tP.out,HSo.out,HG.out.fils,(HW.out.later tP.out).clk,(HW.out.later tP.out).ord,⟨_,_,_,rfl⟩,aAO,aAO,HW.out.cwf,HW.out.owf⟩);obtain⟨t0,t1,t2,t3⟩:=box4' (aD xA.out HTb.out);obtain⟨x0,x1,x2⟩:=bD (aD xA.out LW.out);clear tX;go_wp2_with fail;refine UO.out.mono ?_;rintro e w5 ⟨hb,hpo⟩;have EW:=zh (aB tP.out hb);clear hb t0 t1 t2 t3 x0 x1 x2 UO;have RN:=HRc2.out;clear HRc2
   cases hds:cH C ⟨kind,src,yo,sorted⟩ fs clock order 0 0 with
   |error q=>
    rw[hds] at hpo RN;have hq:=doStep_err hds;have yP:(q==0)=false:=beq_eq_false_iff_ne.2 hq;(have AQ:(q != 0)=true:=by rw[bne_iff_ne];exact hq);subst RN;subst hpo;clear hds hq;go_wp2_with fail;refine bodyPost_ret (v:=.tuple #[.string ⟨#[]⟩,.int .i64 q]) aCF rfl ?_;exact⟨aB EW.out (aA _ _),rfl⟩
   |ok p=>
    obtain⟨text,saw',ua,ub⟩:=p;rw[hds] at hpo RN;subst RN;obtain⟨vfl,vsaw,rfl,hF,hS,-⟩:=hpo;obtain⟨sa,sc,rfl⟩:=bW hS;rcases(hF.later (aA w5 (oBx22 ua ub))).cases with⟨e,-⟩|⟨bf,of_,cf',rfl,-,yQ,zR,-,NL⟩
    ·simp[eY] at e
    obtain⟨-,f1,-,-⟩:=NL fs.length ⟨yo,text⟩ (by simp[eY]);(have hdl:(eY ⟨kind,src,yo,sorted⟩ fs text).length=fs.length+1:=by simp[eY]);rw[hdl] at yQ ⊢;clear NL hF hS hds hdl;go_wp2_with fail;refine bodyPost_ret (v:=.tuple #[.string text,.int .i64 0]) aCF rfl ?_;exact⟨aB EW.out (aA _ _),rfl⟩
end Go.Proofs.YtacgopankhpnbaaGreatDoor
