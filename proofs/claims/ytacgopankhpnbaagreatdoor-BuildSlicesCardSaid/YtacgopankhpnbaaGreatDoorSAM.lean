/- Texts of this seat, joined. -/
import Derived.Test.YtacgopankhpnbaaGreatDoorSAL
set_option maxHeartbeats 16000000
set_option maxRecDepth 100000
set_option linter.unusedVariables false
set_option linter.unusedSimpArgs false
namespace Go.Proofs.YtacgopankhpnbaaGreatDoor
open Go.RowKit
theorem SH{p:Prop}(h:p:=by
 clear C2 hy ES;by_cases FB:y=(c.code.length:Int)
 ·subst FB;have HF:Hid (dE c=false):=zh (by rw[AV.out,lookAt_full];rfl);have e0:((c.code.length:Int)==(c.code.length:Int))=true:=VL;clear AV;go_wp2_with fail;go_ret2;rw[HF.out];exact⟨⟨_,rfl⟩,E8.out _ C5.out⟩
 ·obtain⟨ky,rfl⟩:∃ky:Nat,y=(ky:Int):=⟨y.toNat,VG⟩;have PU:ky<c.code.length:=VG;have e0:((ky:Int)==(c.code.length:Int))=false:=by rw[beq_eq_false_iff_ne];exact FB
  obtain⟨z2,z3⟩:=yL.out.get (i:=ky) (by rw[zD.out.len];exact PU);have sV:=zh (fun h2=>AV.out.trans (congrArg (nV c.code _) (lookAt_new (n:=c.code.length) (h:=Hh-nd+lv) (k:=(ky:Int)) (r:=r.drop (j+1)) (out:=out') (todo:=todo') FB h2)));have wA:=zh (fun h2 h3=>AV.out.trans (congrArg (nV c.code _) (lookAt_bad (n:=c.code.length) (h:=Hh-nd+lv) (k:=(ky:Int)) (r:=r.drop (j+1)) (out:=out') (todo:=todo') FB h2 h3)));have JK:=zh (fun h2 h3=>AV.out.trans (congrArg (nV c.code _) (lookAt_same (n:=c.code.length) (h:=Hh-nd+lv) (k:=(ky:Int)) (r:=r.drop (j+1)) (out:=out') (todo:=todo') FB h2 h3)));rw[Int.toNat_natCast] at sV wA JK;have A1:=zh (fun(h2:out'.getD ky 0<0)=>zD.out.new (q:=Hh-nd+lv) (x:=Hh) PU h2 VG VG (by have h:=zD.out.get yX;rw[GB.out] at h;exact h));have MZ:=zh (fun(h2:out'.getD ky 0<0)=>negs_set (h:=Hh-nd+lv) (by rw[zD.out.len];exact PU) h2 VG)
  have AZ:=zh (fun(h2:out'.getD ky 0<0)=>(show(out'.set ky (Hh-nd+lv)).getD kk 0=Hh by
   (have pQ:ky≠kk:=fun e=>by rw[e,GB.out] at h2;omega);rw[List.getD_eq_getElem?_getD,List.getElem?_set_ne pQ,<-List.getD_eq_getElem?_getD]
   exact GB.out))
  clear AV FB;generalize hD:out'.getD ky 0=D at *;have HD:=zh hD;clear hD;by_cases uJ:D<0
  ·have HRn:=zh (sV.out uJ);have yJ:=zh (A1.out uJ);have F8:=zh (MZ.out uJ);have HKk:=zh (AZ.out uJ);have rM:Off (fun k=>k=w.heap.size+1) wy ((wy.setCell ⟨w.heap.size+1,ky,none⟩ (.int .i64 (Hh-nd+lv))).alloc (.cells #[.int .i64 (ky:Int)] 3)):=(Off.setCell (S:=fun k=>k=w.heap.size+1) wy rfl).trans (Off.of_below (aA _ _));have HO8:=zh rM;have OY:=zh ((yL.out.set ky (Hh-nd+lv)).later (aA _ (.cells #[.int .i64 (ky:Int)] 3)));have RR:=zh (C4.out.off rM (fun k hk e=>by have h9:=(C4.out.own k hk).1;have e2:k=w.heap.size+1:=e;omega))
   have xF:((wy.setCell ⟨w.heap.size+1,ky,none⟩ (.int .i64 (Hh-nd+lv))).alloc (.cells #[.int .i64 (ky:Int)] 3)).heap[wy.heap.size]? =some (.cells #[.int .i64 (ky:Int)] 3):=by
    have h:=heap_alloc_new (wy.setCell ⟨w.heap.size+1,ky,none⟩ (.int .i64 (Hh-nd+lv))) (.cells #[.int .i64 (ky:Int)] 3);simpa using h
   have HNb:=zh xF;(have hlq:todo'.length<=1000000000000:=by have h1:=zD.out.few;omega);clear xF rM sV wA JK A1 MZ AZ;go_wp2_with(at_builtin;refine nP rfl _ _ rfl RR.out WF WF HNb.out hlq VZ ?_);intro v9 w9 LK tQ qN
   have RL:Hid (∀i y,r[i]? =some y->∃ME o2',some (⟨b2,o2,none⟩:Addr)=some ⟨ME,o2',none⟩/\w.heap.size+1<ME/\v9.ownBlock≠some ME/\w9.cell? ⟨ME,o2'+i,none⟩=some (.int .i64 y)):=zh (fun i y hy=>by
    obtain⟨b3,o3,e,h1,h2,h3⟩:=AW.out i y hy;cases e;have hlt3:=cU h3;refine⟨b2,o2,rfl,h1,fun e=>?_,tQ.cell h2 (HO8.out.cell (fun e=>by have e2:b2=w.heap.size+1:=e;omega) h3)⟩;rcases qN b2 e with h4|h4
    ·exact h2 h4
    ·first|omega|(simp at h4;omega))
   have HA9:=zh (OY.out.off tQ (fun e=>by have h9:=(RR.out.own _ e).1;omega));have JU:=zh ((C5.out.trans (HO8.out.mono fun k hk=>by have e2:k=w.heap.size+1:=hk;show w.heap.size<k;omega)).trans (tQ.mono fun k hk=>by have h9:=(RR.out.own _ hk).1;show w.heap.size<k;omega));have HQ9:=zh LK;clear LK tQ qN;go_wp2_with fail;go_roundw;(case rel=>exact⟨j+1,_,_,VG,VT,HA9,HQ9,yJ,HKk,zh (by have h1:=F8.out;have h2:=xN.out;rw[List.length_append,List.length_singleton];omega),JU,RL,HRn⟩);case measure=>simp[intOf];omega
  ·by_cases FQ:D=Hh-nd+lv
   ·have DK:=zh (JK.out uJ (fun h=>h FQ));(have e2:(D==Hh-nd+lv)=true:=by rw[FQ];simp);clear sV wA JK A1 MZ AZ FQ;go_wp2_with fail;(go_quiet(fail));go_wp2_with fail;go_roundw;(case rel=>exact⟨j+1,_,_,VG,VT,zh (yL.out.later (aL (Below.refl _ _) _)),zh (C4.out.later (aL (Below.refl _ _) _)),zD,GB,xN,zh (C5.out.trans (Off.of_below (aL (Below.refl _ _) _))),zh (fun i y hy=>by obtain⟨b3,o3,e,h1,h2,h3⟩:=AW.out i y hy;exact⟨b3,o3,e,h1,h2,h3⟩),DK⟩);case measure=>simp[intOf];omega
   ·have HF:Hid (dE c=false):=zh (wA.out uJ FQ);(have e2:(D==Hh-nd+lv)=false:=by rw[beq_eq_false_iff_ne];exact FQ);clear sV wA JK A1 MZ AZ FQ;go_wp2_with fail;(go_quiet(fail));go_wp2_with fail;go_ret2;rw[HF.out]
    exact⟨⟨_,rfl⟩,aL (E8.out _ C5.out) _⟩):p:=h
theorem ST{p:Prop}(h:p:=by
 go_wp2_with(go_at_call 194;refine F9.out.mono ?_;rintro e w5 ⟨rfl,hb5⟩;have tX:=zh (GI.out.later hb5);have xM:=zh (AX.out.later hb5);have sX:=zh (EI.out.trans (Off.of_below hb5));obtain⟨t0,t1,t2,t3⟩:=bx4 (sX.out.heap (Nat.not_lt.2 (Nat.le_refl _)) rT.out);have z0:=(tX.out.get (i:=kk) XK).1;rw[GU.out] at z0;obtain⟨c0,c1,c2,c3,c4⟩:=wN.out _ sX.out)
 all_goals first|(go_ret2;rw[HF.out];exact⟨⟨_,rfl⟩,E8.out _ sX.out⟩)|trace_state):p:=h
theorem S1{p:Prop}(h:p:=by
 have PM:lenOf u7=todo'.length:=by obtain⟨_,_,_,_,e,-⟩:=C4.out;rw[e];rfl
 clear yM C2;go_wp2_with fail;go_roundw;case rel=>exact⟨_,_,yL,C4,zD,C5,OQ⟩
 case measure=>
  have h1:=yL.out.arrOf;have h2:=xN.out;have h3:=HMz.out;rw[h1,PM,h3];simp only[lenOf]
  omega):p:=h
theorem TL{p:Prop}(h:p:=by
 go_enter Tryz.func146,Tryz.ntmps146;go_wp2_with(go_at_call 147;refine HN.out.mono ?_;rintro e w5 ⟨rfl,rfl⟩);go_ret2
 exact⟨⟨_,rfl⟩,HB.out⟩):p:=h
theorem Que.pop0{B g off:Nat}{k:Int}{l:List Int}{w:World}(h:Que B (.slice (some ⟨g,off,none⟩) (l.length+1) (0+1)) (k::l) w):Que B (.slice (some ⟨g,off,none⟩) l.length 0) l w:=by
 obtain⟨g',off',cap',cur,hv,h1,h2,h3,h4,h5,h6⟩:=h;cases hv;have hl:l=[]:=List.eq_nil_of_length_eq_zero (by simp only[List.length_cons] at h3;omega);subst hl;exact⟨g,off,0,cur,rfl,h1,h2,Nat.le_refl _,Nat.zero_le _,VG,fun i x hx=>by simp at hx⟩
theorem heights_refuses(nm:ByteArray)(pr lc n:Nat)(ac:Option Addr)(cc:Nat)(w:World)(hg:dH w)(hs:nm.size<=8000)(h:aP nm=false\/6<pr\/lc<pr\/n=0):
  Calls Tryz.prog 146 #[.agg #[.string nm,.int .i64 (pr:Int),.int .i64 (lc:Int),.slice ac n cc]] w fun e w'=>(∃v,e=.returned (.tuple #[v,.bool false]))/\Below w.heap.size w w':=by
 have HB:=zh (aA w (.cells #[.string nm,.int .i64 (pr:Int),.int .i64 (lc:Int),.slice ac n cc] 168));have HN:=zh (dX nm (w.alloc (.cells #[.string nm,.int .i64 (pr:Int),.int .i64 (lc:Int),.slice ac n cc] 168)) VG (hg.later HB.out));have p0:¬(pr:Int)<0:=VG;clear hg
 cases sT:aP nm with
 |false=>
  rw[sT] at HN;clear sT h;exact TL
 |true=>
  rw[sT] at HN;rw[sT] at h;clear sT;by_cases h6:6<pr
  ·have q6:(6:Int)<(pr:Int):=VG;clear h h6;exact TL
  ·have q6:¬(6:Int)<(pr:Int):=VG;by_cases hl:lc<pr
   ·have ql:(lc:Int)<(pr:Int):=VG;clear h h6 hl;exact TL
   ·have ql:¬(lc:Int)<(pr:Int):=VG
    have h0:n=0:=by
     rcases h with h|h|h|h
     ·cases h
     ·omega
     ·omega
     ·exact h
    subst h0;clear h h6 hl;exact TL
theorem heights_any(c:Cod)(N:Nat->Prop)(vc:Value)(w:World)(hg:dH w)(hs:c.name.size<=8000)(hr:aK 5 nI N w vc c.code)(hlen:c.code.length<=100000000000):
  Calls Tryz.prog 146 #[.agg #[.string c.name,.int .i64 (c.params:Int),.int .i64 (c.locals:Int),vc]] w fun e w'=>(∃v,e=.returned (.tuple #[v,.bool (dE c)]))/\Below w.heap.size w w':=by
 by_cases rH:aP c.name=false\/6<c.params\/c.locals<c.params\/c.code.length=0
 ·obtain⟨ac,cc,rfl,-⟩:=hr.at
  have hF:dE c=false:=by
   unfold dE;rcases rH with h|h|h|h
   ·rw[h];rfl
   ·rw[show decide (c.params<=6)=false from decide_eq_false VG];simp
   ·rw[show decide (c.params<=c.locals)=false from decide_eq_false VG];simp
   ·rw[show decide (c.code.length≠0)=false from decide_eq_false VG];simp
  rw[hF];exact heights_refuses c.name c.params c.locals c.code.length ac cc w hg hs rH
 simp only[not_or,Bool.not_eq_false] at rH;obtain⟨sT,hp6,hlp,hn0⟩:=rH;rcases hr.cases VI with⟨h0,-⟩|⟨b,o,cp,rfl,h0,h1,h2,hb,hN,hc⟩
 ·rw[h0] at hn0;exact absurd rfl hn0
 have HC:=zh hc;have rT:=zh (heap_alloc_new w (.cells #[.string c.name,.int .i64 (c.params:Int),.int .i64 (c.locals:Int),.slice (some ⟨b,o,none⟩) c.code.length cp] 168));have sG:=zh (aA w (.cells #[.string c.name,.int .i64 (c.params:Int),.int .i64 (c.locals:Int),.slice (some ⟨b,o,none⟩) c.code.length cp] 168));have EK:=zh (dX c.name (w.alloc (.cells #[.string c.name,.int .i64 (c.params:Int),.int .i64 (c.locals:Int),.slice (some ⟨b,o,none⟩) c.code.length cp] 168)) VG (hg.later sG.out));rw[sT] at EK;have h11:=hg.big;have HGl:=zh (fun W(ho:Off (fun k=>w.heap.size<k) (w.alloc (.cells #[.string c.name,.int .i64 (c.params:Int),.int .i64 (c.locals:Int),.slice (some ⟨b,o,none⟩) c.code.length cp] 168)) W)=>(hg.later sG.out).off ho (fun k hk=>Nat.not_lt.2 VG));have HM:=zh (fun W(ho:Off (fun k=>w.heap.size<k) (w.alloc (.cells #[.string c.name,.int .i64 (c.params:Int),.int .i64 (c.locals:Int),.slice (some ⟨b,o,none⟩) c.code.length cp] 168)) W)=>(show bM N w N W from fun b' qU pT=>⟨qU,fun _ _ h=>ho.cell (Nat.not_lt.2 VG) (aC sG.out h)⟩));have E8:=zh (fun W(ho:Off (fun k=>w.heap.size<k) (w.alloc (.cells #[.string c.name,.int .i64 (c.params:Int),.int .i64 (c.locals:Int),.slice (some ⟨b,o,none⟩) c.code.length cp] 168)) W)=>Off.below sG.out ho (fun k hk=>Nat.le_of_lt hk) sG.out.size);have HRM:=zh (fun(h5:∀(k:Nat)(x:Ins),c.code[k]? =some x->bS c x=true)=>rightC_main sT VG VG hn0 h5);have p0:¬(c.params:Int)<0:=VG;have q6:¬(6:Int)<(c.params:Int):=VG;have ql:¬(c.locals:Int)<(c.params:Int):=VG;have qn:((c.code.length:Int)==0)=false:=VQ;obtain⟨A0,CQ⟩:∃A,A=((List.replicate c.code.length (0:Int)).map (Value.int .i64)).toArray:=⟨_,rfl⟩;have hmk:=make_ints c.code.length VG;rw[<-CQ] at hmk;have sH:=zh CQ;have uK:(w.alloc (.cells #[.string c.name,.int .i64 (c.params:Int),.int .i64 (c.locals:Int),.slice (some ⟨b,o,none⟩) c.code.length cp] 168)).heap.size=w.heap.size+1:=VL
 have HAr:Hid (lB ((w.alloc (.cells #[.string c.name,.int .i64 (c.params:Int),.int .i64 (c.locals:Int),.slice (some ⟨b,o,none⟩) c.code.length cp] 168)).alloc (.cells A0 3)) (w.heap.size+1) (List.replicate c.code.length 0)):=zh (by
  unfold lB;rw[<-sH.out]
  simpa using heap_alloc_new (w.alloc (.cells #[.string c.name,.int .i64 (c.params:Int),.int .i64 (c.locals:Int),.slice (some ⟨b,o,none⟩) c.code.length cp] 168)) (.cells A0 3))
 clear CQ hc hg hr sT hp6 hn0;go_enter Tryz.func146,Tryz.ntmps146;go_wp2_with(go_at_call 147;refine EK.out.mono ?_;rintro e w5 ⟨rfl,rfl⟩);clear hmk p0 q6 ql qn;go_loopw [47] (fun iv wr=>∃q:Nat,q<=c.code.length/\iv=.int .i64 (q:Int)/\Hid (lB wr (w.heap.size+1) (List.replicate q (-1)++List.replicate (c.code.length-q) 0))/\Hid (Off (fun k=>w.heap.size<k) (w.alloc (.cells #[.string c.name,.int .i64 (c.params:Int),.int .i64 (c.locals:Int),.slice (some ⟨b,o,none⟩) c.code.length cp] 168)) wr)/\Hid (∀(k:Nat)(x:Ins),k<q->c.code[k]? =some x->bS c x=true)) (fun iv _=>c.code.length-(intOf iv).toNat)
 case atStart=>exact⟨0,Nat.zero_le _,rfl,HAr,zh (Off.of_below (aA _ _)),zh (fun k x hk=>VG)⟩
 case round=>
  obtain⟨q,hq,rfl,HA,HO,GD⟩:=hrel;rename World=>wr
  obtain⟨t0,t1,t2,t3⟩:=bx4 (HO.out.heap (Nat.not_lt.2 (Nat.le_refl _)) rT.out);by_cases pT:q<c.code.length
  ·obtain⟨x,hx,-⟩:=getElem?_of_lt pT;obtain⟨cs,⟨vn,rfl,KE,hzm,GN,-⟩,-,hj⟩:=HC.out q x hx;have HRN:=zh GN;obtain⟨an,cn,rfl,-⟩:=GN;have c0:wr.cell? ⟨b,o+q*5,none⟩=some (.int .i64 x.op):=HO.out.cell (Nat.not_lt.2 VG) (aC sG.out (hj 0 _ rfl));have c1:=HO.out.cell (Nat.not_lt.2 VG) (aC sG.out (hj 1 _ rfl));have c2:=HO.out.cell (Nat.not_lt.2 VG) (aC sG.out (hj 2 _ rfl));have c3:=HO.out.cell (Nat.not_lt.2 VG) (aC sG.out (hj 3 _ rfl));have c4:=HO.out.cell (Nat.not_lt.2 VG) (aC sG.out (hj 4 _ rfl));have pU:Off (fun k=>w.heap.size<k) (w.alloc (.cells #[.string c.name,.int .i64 (c.params:Int),.int .i64 (c.locals:Int),.slice (some ⟨b,o,none⟩) c.code.length cp] 168)) (wr.alloc (.cells #[.int .i64 x.op,.int .i64 x.a,.string x.s,.string x.m,.slice an x.names.length cn] 171)):=HO.out.trans (Off.of_below (aA _ _));have LX:=formed_any c x (some ⟨b,o,none⟩) cp an cn N (wr.alloc (.cells #[.int .i64 x.op,.int .i64 x.a,.string x.s,.string x.m,.slice an x.names.length cn] 171)) (HGl.out _ pU) KE hzm (HRN.out.moves aQ (HM.out _ pU) VI);unfold bT at LX;have HFm:=zh LX;have F7:=zh pU;obtain⟨s0,s1,s2,s3⟩:=bx4 (pU.heap (Nat.not_lt.2 (Nat.le_refl _)) rT.out);have HXq:=zh hx;have PB:=HA.out.lt;clear LX pU hj hx
   cases hf:bS c x with
   |false=>
    have HF:Hid (dE c=false):=zh (rightC_form HXq.out hf);rw[hf] at HFm;clear hf;go_wp2_with(go_at_call 193;refine HFm.out.mono ?_;rintro e w5 ⟨rfl,hb5⟩;have sX:=zh (F7.out.trans (Off.of_below hb5)));go_ret2;rw[HF.out];exact⟨⟨_,rfl⟩,E8.out _ sX.out⟩
   |true=>
    have HFn:Hid (∀(k:Nat)(y:Ins),k<q+1->c.code[k]? =some y->bS c y=true):=zh (fun k y hk hy=>by
     rcases Nat.lt_or_ge k q with h|h
     ·exact GD.out k y h hy
     ·have e:k=q:=VG;subst e
      rw[HXq.out] at hy;cases hy;exact hf)
    rw[hf] at HFm;clear hf;go_wp2_with(go_at_call 193;refine HFm.out.mono ?_;rintro e w5 ⟨rfl,hb5⟩;have sX:=zh (F7.out.trans (Off.of_below hb5));have tX:=zh (HA.out.later (aB (aA wr (.cells #[.int .i64 x.op,.int .i64 x.a,.string x.s,.string x.m,.slice an x.names.length cn] 171)) hb5));obtain⟨u5,hu5,hf5⟩:=tX.out.some_at VZ pT);go_roundw;(case rel=>first|exact⟨q+1,VG,VT,zh (by have h:=tX.out.set q (-1);rw[rep_set q _ pT] at h;exact h),zh (sX.out.trans (Off.setCell (S:=fun k=>w.heap.size<k) _ (Nat.lt_succ_self _))),HFn⟩|exact⟨_,_,_,_,_,_,_,_,_,_,_,_,_,_,_,_,_,⟨q+1,VG,VT,zh (by have h:=tX.out.set q (-1);rw[rep_set q _ pT] at h;exact h),zh (sX.out.trans (Off.setCell (S:=fun k=>w.heap.size<k) _ (Nat.lt_succ_self _))),HFn⟩,rfl⟩);case measure=>simp[intOf];omega
  ·have wY:q=c.code.length:=VG;subst wY;have HFA:=zh (fun(k:Nat)(x:Ins)(hx:c.code[k]? =some x)=>GD.out k x (List.getElem?_eq_some_iff.1 hx).1 hx);have HRR:=zh (HRM.out HFA.out);have A6:Hid (lB wr (w.heap.size+1) (List.replicate c.code.length (-1))):=zh (by have h:=HA.out;rw[Nat.sub_self,List.replicate_zero,List.append_nil] at h;exact h);obtain⟨u5,hu5,hf5⟩:=A6.out.some_at (List.length_replicate ..) h0;have PB:=A6.out.lt;have BK:=zh (A6.out.set 0 0);have F7:Hid (Off (fun k=>w.heap.size<k) (w.alloc (.cells #[.string c.name,.int .i64 (c.params:Int),.int .i64 (c.locals:Int),.slice (some ⟨b,o,none⟩) c.code.length cp] 168)) (wr.setCell ⟨w.heap.size+1,0,none⟩ (.int .i64 0))):=zh (HO.out.trans (Off.setCell (S:=fun k=>w.heap.size<k) _ (Nat.lt_succ_self _)));have PE:(wr.setCell ⟨w.heap.size+1,0,none⟩ (.int .i64 0)).heap.size=wr.heap.size:=VL;clear GD HRM HA;go_wp2_with fail;clear t0 t1 t2 t3 hu5 hf5;go_loopw [7] (fun tv wz=>∃out todo:List Int,Hid (lB wz (w.heap.size+1) out)/\Hid (Que (w.heap.size+2) tv todo wz)/\Hid (mC c.code.length out todo)/\Hid (Off (fun k=>w.heap.size<k) (w.alloc (.cells #[.string c.name,.int .i64 (c.params:Int),.int .i64 (c.locals:Int),.slice (some ⟨b,o,none⟩) c.code.length cp] 168)) wz)/\Hid (dE c=(dZ c.code (gQ out+todo.length+1) out todo).isSome)) (fun tv wz=>gQ (arrOf wz (w.heap.size+1))+lenOf tv)
   case atStart=>
    refine⟨_,[0],zh (BK.out.later (aA _ _)),zh (Que.first (B:=w.heap.size+2) (b:=wr.heap.size) ?_ VG),zh (mC.first h0),zh (F7.out.trans (Off.of_below (aA _ _))),zh ?_⟩
    ·rw[<-PE];exact heap_alloc_new _ _
    ·rw[HRR.out,List.length_singleton,show gQ ((List.replicate c.code.length (-1:Int)).set 0 0)+1=c.code.length from negs_first h0]
   case round=>
    obtain⟨out,todo,GI,HQz,HI,EI,HRz⟩:=hrel;(rename World=>wz);clear A6 BK F7 HO PE HRR PB;obtain⟨t0,t1,t2,t3⟩:=bx4 (EI.out.heap (Nat.not_lt.2 (Nat.le_refl _)) rT.out)
    cases todo with
    |nil=>
     obtain⟨gq,off,cap,cur,rfl,-⟩:=HQz.out;have HF:Hid (dE c=true):=zh (by rw[HRz.out];rfl);clear HRz;simp only[List.length_nil];go_wp2_with fail;go_ret2;rw[HF.out];exact⟨⟨_,rfl⟩,E8.out _ EI.out⟩
    |cons k todo=>
     obtain⟨PX,BB⟩:=HI.out.at_ k VL;obtain⟨kk,rfl⟩:∃kk:Nat,k=(kk:Int):=⟨k.toNat,VG⟩;have yX:kk<c.code.length:=VG;obtain⟨gq,off,cap,rfl,hcap1,hcap2,vY,yV⟩:=HQz.out.pop;obtain⟨x,hx,-⟩:=getElem?_of_lt yX;obtain⟨cs,⟨vn,rfl,KE,hzm,GN,QQ,QP⟩,-,hj⟩:=HC.out kk x hx;obtain⟨an,cn,rfl,-⟩:=GN;have hl:=HI.out.len;have HMz:=zh GI.out.arrOf;have DG:=HFA.out kk x hx;obtain⟨ho0,pV⟩:=formed_op DG;obtain⟨hd0,hd1,hv0,G5⟩:=needs_range DG;have uR:=zh (behind_range DG yX);have HIx:Hid (nG c.code kk=x):=zh (insAt_of hx);have hnd:=cneeds_any x an cn wz ho0 pV;unfold NeedsSays at hnd;have hih:=HI.out.get yX;have wN:=zh (fun W(ho:Off (fun k=>w.heap.size<k) (w.alloc (.cells #[.string c.name,.int .i64 (c.params:Int),.int .i64 (c.locals:Int),.slice (some ⟨b,o,none⟩) c.code.length cp] 168)) W)=>(show W.cell? ⟨b,o+kk*5,none⟩=some (.int .i64 x.op)/\W.cell? ⟨b,o+kk*5+1,none⟩=some (.int .i64 x.a)/\W.cell? ⟨b,o+kk*5+2,none⟩=some (.string x.s)/\W.cell? ⟨b,o+kk*5+3,none⟩=some (.string x.m)/\W.cell? ⟨b,o+kk*5+4,none⟩=some (.slice an x.names.length cn) from⟨ho.cell (Nat.not_lt.2 VG) (aC sG.out (hj 0 _ rfl)),ho.cell (Nat.not_lt.2 VG) (aC sG.out (hj 1 _ rfl)),ho.cell (Nat.not_lt.2 VG) (aC sG.out (hj 2 _ rfl)),ho.cell (Nat.not_lt.2 VG) (aC sG.out (hj 3 _ rfl)),ho.cell (Nat.not_lt.2 VG) (aC sG.out (hj 4 _ rfl))⟩));obtain⟨c0,c1,c2,c3,c4⟩:=wN.out _ EI.out;have tD:=zh (fun h=>HRz.out.trans (heights_bad (l:=c.code) (f:=gQ out+((kk:Int)::todo).length) (out:=out) (todo:=todo) (k:=kk) h));have KT:=zh (fun h=>HRz.out.trans (heights_ok (l:=c.code) (f:=gQ out+((kk:Int)::todo).length) (out:=out) (todo:=todo) (k:=kk) h));rw[HIx.out] at tD KT;have HZ:Hid (out.getD kk 0=out.getD kk 0):=zh rfl;generalize hHh:out.getD kk 0=Hh at hih tD KT HZ;have GU:=zh hHh;obtain⟨nd,lv,LL⟩:∃nd lv,jT x=(nd,lv):=⟨_,_,rfl⟩;rw[LL] at hnd hd0 hd1 hv0 G5 tD KT;dsimp only at hnd hd0 hd1 hv0 G5 tD KT;have F9:=zh hnd;have hne0:Hh<=100000000000:=VG;clear hj hx DG hnd LL hHh HRz HZ KE hzm hl;rcases Nat.eq_zero_or_pos cap with hcz|hcz
     ·subst hcz;have ht:todo=[]:=List.eq_nil_of_length_eq_zero VG;subst ht;have AX:=zh (Que.pop0 HQz.out);clear yV hcap1;by_cases sZ:Hh<nd\/(x.op=18/\Hh≠1)
      ·have HF:Hid (dE c=false):=zh (tD.out sZ);clear tD KT;by_cases g1:Hh<nd
       ·clear sZ;exact ST
       ·have g2:x.op=18/\Hh≠1:=sZ.resolve_left g1;(have MD:(x.op==18)=true:=by rw[g2.1];rfl);(have e1:(Hh==1)=false:=by rw[beq_eq_false_iff_ne];exact g2.2);(have e2:(Hh != 1)=true:=by rw[bne_iff_ne];exact g2.2);clear sZ g2;exact ST
      ·have g1:¬Hh<nd:=fun h=>sZ (.inl h);have zL:x.op=18->Hh=1:=fun h=>Decidable.not_not.1 fun h2=>sZ (.inr ⟨h,h2⟩);have C3:=zh (KT.out sZ);generalize hr:kA x (kk:Int)=r at C3 uR;have RJ:=zh hr;(have hrl:r.length<=2:=by rw[<-hr];unfold kA;(repeat' split)<;>simp);clear hr sZ tD KT;by_cases g2:x.op=18
       ·(have MD:(x.op==18)=true:=by rw[g2];rfl);(have e1:(Hh==1)=true:=by rw[zL g2];rfl);(have e2:(Hh != 1)=false:=by rw[zL g2];rfl);have RV:=zh g2;clear g2 zL;have JP:Hid (r=[]):=zh (by rw[<-RJ.out];unfold kA;rw[if_pos RV.out]);go_wp2_with(go_at_call 194;refine F9.out.mono ?_;rintro e w5 ⟨rfl,hb5⟩;have tX:=zh (GI.out.later hb5);have xM:=zh (AX.out.later hb5);have sX:=zh (EI.out.trans (Off.of_below hb5));obtain⟨t0,t1,t2,t3⟩:=bx4 (sX.out.heap (Nat.not_lt.2 (Nat.le_refl _)) rT.out);have z0:=(tX.out.get (i:=kk) XK).1;rw[GU.out] at z0;obtain⟨c0,c1,c2,c3,c4⟩:=wN.out _ sX.out);have AI:=behind_any x kk c.code.length c.name (c.params:Int) (c.locals:Int) an x.names.length cn b o cp w5 yX VG c0 c1 c2 c3 c4;rw[RJ.out] at AI;unfold eP at AI;have BJ:=zh AI;clear AI;go_wp2_with(go_at_call 195;refine BJ.out.mono ?_;rintro e w6 ⟨ra,rn,rc,rfl,G7,sL,qR⟩;obtain⟨rfl,G9⟩:=ints_each G7);have yS:=zh (sX.out.trans (Off.of_below sL));have FA:=zh (tX.out.later sL);have EG:=zh (xM.out.later sL);have hg5:=tX.out.lt
        have yH:Hid (∀i y,r[i]? =some y->∃b2 o2,ra=some ⟨b2,o2,none⟩/\w.heap.size+1<b2/\(Value.slice (some ⟨gq,off,none⟩) ([]:List Int).length 0).ownBlock≠some b2/\w6.cell? ⟨b2,o2+i,none⟩=some (.int .i64 y)):=zh (fun i y hy=>by
         obtain⟨b2,o2,e,hc⟩:=G9 i y hy;subst e;have h5:=qR b2 XZ
         exact⟨b2,o2,rfl,VG,fun e=>XL,hc⟩)
        clear G7 G9 qR sL t0 t1 t2 t3 c0 c1 c2 c3 c4 z0 BJ F9 vY;(go_loopw [7,106] (fun tv iv wy=>∃(j:Nat)(out' todo':List Int),j<=r.length/\iv=.int .i64 (j:Int)/\Hid (lB wy (w.heap.size+1) out')/\Hid (Que (w.heap.size+2) tv todo' wy)/\Hid (mC c.code.length out' todo')/\Hid (out'.getD kk 0=Hh)/\Hid (gQ out'+todo'.length=gQ out+([]:List Int).length)/\Hid (Off (fun k=>w.heap.size<k) (w.alloc (.cells #[.string c.name,.int .i64 (c.params:Int),.int .i64 (c.locals:Int),.slice (some ⟨b,o,none⟩) c.code.length cp] 168)) wy)/\Hid (∀i y,r[i]? =some y->∃b2 o2,ra=some ⟨b2,o2,none⟩/\w.heap.size+1<b2/\tv.ownBlock≠some b2/\wy.cell? ⟨b2,o2+i,none⟩=some (.int .i64 y))/\Hid (dE c=nV c.code (gQ out+((kk:Int)::([]:List Int)).length) (gK c.code.length (Hh-nd+lv) (r.drop j) out' todo'))) (fun _ iv _=>r.length-(intOf iv).toNat));case atStart=>exact⟨0,out,([]:List Int),Nat.zero_le _,rfl,FA,EG,zh HI.out.tail,GU,zh rfl,yS,yH,C3⟩
        case round=>
         obtain⟨j,out',todo',hj,rfl,yL,C4,zD,GB,xN,C5,AW,C2⟩:=hrel;(rename World=>wy);clear FA EG yS yH C3 tX xM sX AX GI EI;have hgy:=yL.out.lt;by_cases PQ:j<r.length
         ·exact absurd PQ (by rw[JP.out];exact Nat.not_lt_zero _)
         ·have yM:r.drop j=[]:=List.drop_eq_nil_of_le VG
          have OQ:Hid (dE c=(dZ c.code (gQ out'+todo'.length+1) out' todo').isSome):=zh (by
           have h:=C2.out;rw[yM,lookAt_end] at h;have h2:=xN.out;rw[h,List.length_cons,show gQ out+(([]:List Int).length+1)=gQ out'+todo'.length+1 by omega]
           rfl)
          exact S1
       ·(have MD:(x.op==18)=false:=by rw[beq_eq_false_iff_ne];exact g2);clear g2 zL;go_wp2_with(go_at_call 194;refine F9.out.mono ?_;rintro e w5 ⟨rfl,hb5⟩;have tX:=zh (GI.out.later hb5);have xM:=zh (AX.out.later hb5);have sX:=zh (EI.out.trans (Off.of_below hb5));obtain⟨t0,t1,t2,t3⟩:=bx4 (sX.out.heap (Nat.not_lt.2 (Nat.le_refl _)) rT.out);have z0:=(tX.out.get (i:=kk) XK).1;rw[GU.out] at z0;obtain⟨c0,c1,c2,c3,c4⟩:=wN.out _ sX.out);have AI:=behind_any x kk c.code.length c.name (c.params:Int) (c.locals:Int) an x.names.length cn b o cp w5 yX VG c0 c1 c2 c3 c4;rw[RJ.out] at AI;unfold eP at AI;have BJ:=zh AI;clear AI;go_wp2_with(go_at_call 195;refine BJ.out.mono ?_;rintro e w6 ⟨ra,rn,rc,rfl,G7,sL,qR⟩;obtain⟨rfl,G9⟩:=ints_each G7);have yS:=zh (sX.out.trans (Off.of_below sL));have FA:=zh (tX.out.later sL);have EG:=zh (xM.out.later sL);have hg5:=tX.out.lt
        have yH:Hid (∀i y,r[i]? =some y->∃b2 o2,ra=some ⟨b2,o2,none⟩/\w.heap.size+1<b2/\(Value.slice (some ⟨gq,off,none⟩) ([]:List Int).length 0).ownBlock≠some b2/\w6.cell? ⟨b2,o2+i,none⟩=some (.int .i64 y)):=zh (fun i y hy=>by
         obtain⟨b2,o2,e,hc⟩:=G9 i y hy;subst e;have h5:=qR b2 XZ
         exact⟨b2,o2,rfl,VG,fun e=>XL,hc⟩)
        clear G7 G9 qR sL t0 t1 t2 t3 c0 c1 c2 c3 c4 z0 BJ F9 vY;(go_loopw [7,106] (fun tv iv wy=>∃(j:Nat)(out' todo':List Int),j<=r.length/\iv=.int .i64 (j:Int)/\Hid (lB wy (w.heap.size+1) out')/\Hid (Que (w.heap.size+2) tv todo' wy)/\Hid (mC c.code.length out' todo')/\Hid (out'.getD kk 0=Hh)/\Hid (gQ out'+todo'.length=gQ out+([]:List Int).length)/\Hid (Off (fun k=>w.heap.size<k) (w.alloc (.cells #[.string c.name,.int .i64 (c.params:Int),.int .i64 (c.locals:Int),.slice (some ⟨b,o,none⟩) c.code.length cp] 168)) wy)/\Hid (∀i y,r[i]? =some y->∃b2 o2,ra=some ⟨b2,o2,none⟩/\w.heap.size+1<b2/\tv.ownBlock≠some b2/\wy.cell? ⟨b2,o2+i,none⟩=some (.int .i64 y))/\Hid (dE c=nV c.code (gQ out+((kk:Int)::([]:List Int)).length) (gK c.code.length (Hh-nd+lv) (r.drop j) out' todo'))) (fun _ iv _=>r.length-(intOf iv).toNat));case atStart=>exact⟨0,out,([]:List Int),Nat.zero_le _,rfl,FA,EG,zh HI.out.tail,GU,zh rfl,yS,yH,C3⟩
        case round=>
         obtain⟨j,out',todo',hj,rfl,yL,C4,zD,GB,xN,C5,AW,C2⟩:=hrel;(rename World=>wy);clear FA EG yS yH C3 tX xM sX AX GI EI;have hgy:=yL.out.lt;by_cases PQ:j<r.length
         ·obtain⟨y,hy,ES⟩:=getElem?_of_lt PQ;obtain⟨b2,o2,rfl,hbg,hbo,BM⟩:=AW.out j y hy;obtain⟨BL,AA⟩:=uR.out y ES;obtain⟨t0,t1,t2,t3⟩:=bx4 (C5.out.heap (Nat.not_lt.2 (Nat.le_refl _)) rT.out);have z0:=(yL.out.get (i:=kk) (by rw[zD.out.len];exact yX)).1;rw[GB.out] at z0
          have AV:Hid (dE c=nV c.code (gQ out+((kk:Int)::([]:List Int)).length) (gK c.code.length (Hh-nd+lv) (y::r.drop (j+1)) out' todo')):=zh (by
           have h:=C2.out;obtain⟨KM,NW⟩:=List.getElem?_eq_some_iff.1 hy;rw[List.drop_eq_getElem_cons KM,NW] at h
           exact h)
          exact SH
         ·have yM:r.drop j=[]:=List.drop_eq_nil_of_le VG
          have OQ:Hid (dE c=(dZ c.code (gQ out'+todo'.length+1) out' todo').isSome):=zh (by
           have h:=C2.out;rw[yM,lookAt_end] at h;have h2:=xN.out;rw[h,List.length_cons,show gQ out+(([]:List Int).length+1)=gQ out'+todo'.length+1 by omega]
           rfl)
          exact S1
     ·have hcz2:¬cap=0:=VG;have AX:=zh yV;clear yV hcz;by_cases sZ:Hh<nd\/(x.op=18/\Hh≠1)
      ·have HF:Hid (dE c=false):=zh (tD.out sZ);clear tD KT;by_cases g1:Hh<nd
       ·clear sZ;exact ST
       ·have g2:x.op=18/\Hh≠1:=sZ.resolve_left g1;(have MD:(x.op==18)=true:=by rw[g2.1];rfl);(have e1:(Hh==1)=false:=by rw[beq_eq_false_iff_ne];exact g2.2);(have e2:(Hh != 1)=true:=by rw[bne_iff_ne];exact g2.2);clear sZ g2;exact ST
      ·have g1:¬Hh<nd:=fun h=>sZ (.inl h);have zL:x.op=18->Hh=1:=fun h=>Decidable.not_not.1 fun h2=>sZ (.inr ⟨h,h2⟩);have C3:=zh (KT.out sZ);generalize hr:kA x (kk:Int)=r at C3 uR;have RJ:=zh hr;(have hrl:r.length<=2:=by rw[<-hr];unfold kA;(repeat' split)<;>simp);clear hr sZ tD KT;by_cases g2:x.op=18
       ·(have MD:(x.op==18)=true:=by rw[g2];rfl);(have e1:(Hh==1)=true:=by rw[zL g2];rfl);(have e2:(Hh != 1)=false:=by rw[zL g2];rfl);have RV:=zh g2;clear g2 zL;have JP:Hid (r=[]):=zh (by rw[<-RJ.out];unfold kA;rw[if_pos RV.out]);go_wp2_with(go_at_call 194;refine F9.out.mono ?_;rintro e w5 ⟨rfl,hb5⟩;have tX:=zh (GI.out.later hb5);have xM:=zh (AX.out.later hb5);have sX:=zh (EI.out.trans (Off.of_below hb5));obtain⟨t0,t1,t2,t3⟩:=bx4 (sX.out.heap (Nat.not_lt.2 (Nat.le_refl _)) rT.out);have z0:=(tX.out.get (i:=kk) XK).1;rw[GU.out] at z0;obtain⟨c0,c1,c2,c3,c4⟩:=wN.out _ sX.out);have AI:=behind_any x kk c.code.length c.name (c.params:Int) (c.locals:Int) an x.names.length cn b o cp w5 yX VG c0 c1 c2 c3 c4;rw[RJ.out] at AI;unfold eP at AI;have BJ:=zh AI;clear AI;go_wp2_with(go_at_call 195;refine BJ.out.mono ?_;rintro e w6 ⟨ra,rn,rc,rfl,G7,sL,qR⟩;obtain⟨rfl,G9⟩:=ints_each G7);have yS:=zh (sX.out.trans (Off.of_below sL));have FA:=zh (tX.out.later sL);have EG:=zh (xM.out.later sL);have hg5:=tX.out.lt
        have yH:Hid (∀i y,r[i]? =some y->∃b2 o2,ra=some ⟨b2,o2,none⟩/\w.heap.size+1<b2/\(Value.slice (some ⟨gq,off+1,none⟩) todo.length cap).ownBlock≠some b2/\w6.cell? ⟨b2,o2+i,none⟩=some (.int .i64 y)):=zh (fun i y hy=>by
         obtain⟨b2,o2,e,hc⟩:=G9 i y hy;subst e;have h5:=qR b2 XZ
         exact⟨b2,o2,rfl,VG,fun e=>XL,hc⟩)
        clear G7 G9 qR sL t0 t1 t2 t3 c0 c1 c2 c3 c4 z0 BJ F9 vY;(go_loopw [7,106] (fun tv iv wy=>∃(j:Nat)(out' todo':List Int),j<=r.length/\iv=.int .i64 (j:Int)/\Hid (lB wy (w.heap.size+1) out')/\Hid (Que (w.heap.size+2) tv todo' wy)/\Hid (mC c.code.length out' todo')/\Hid (out'.getD kk 0=Hh)/\Hid (gQ out'+todo'.length=gQ out+todo.length)/\Hid (Off (fun k=>w.heap.size<k) (w.alloc (.cells #[.string c.name,.int .i64 (c.params:Int),.int .i64 (c.locals:Int),.slice (some ⟨b,o,none⟩) c.code.length cp] 168)) wy)/\Hid (∀i y,r[i]? =some y->∃b2 o2,ra=some ⟨b2,o2,none⟩/\w.heap.size+1<b2/\tv.ownBlock≠some b2/\wy.cell? ⟨b2,o2+i,none⟩=some (.int .i64 y))/\Hid (dE c=nV c.code (gQ out+((kk:Int)::todo).length) (gK c.code.length (Hh-nd+lv) (r.drop j) out' todo'))) (fun _ iv _=>r.length-(intOf iv).toNat));case atStart=>exact⟨0,out,todo,Nat.zero_le _,rfl,FA,EG,zh HI.out.tail,GU,zh rfl,yS,yH,C3⟩
        case round=>
         obtain⟨j,out',todo',hj,rfl,yL,C4,zD,GB,xN,C5,AW,C2⟩:=hrel;(rename World=>wy);clear FA EG yS yH C3 tX xM sX AX GI EI;have hgy:=yL.out.lt;by_cases PQ:j<r.length
         ·exact absurd PQ (by rw[JP.out];exact Nat.not_lt_zero _)
         ·have yM:r.drop j=[]:=List.drop_eq_nil_of_le VG
          have OQ:Hid (dE c=(dZ c.code (gQ out'+todo'.length+1) out' todo').isSome):=zh (by
           have h:=C2.out;rw[yM,lookAt_end] at h;have h2:=xN.out;rw[h,List.length_cons,show gQ out+(todo.length+1)=gQ out'+todo'.length+1 by omega]
           rfl)
          exact S1
       ·(have MD:(x.op==18)=false:=by rw[beq_eq_false_iff_ne];exact g2);clear g2 zL;go_wp2_with(go_at_call 194;refine F9.out.mono ?_;rintro e w5 ⟨rfl,hb5⟩;have tX:=zh (GI.out.later hb5);have xM:=zh (AX.out.later hb5);have sX:=zh (EI.out.trans (Off.of_below hb5));obtain⟨t0,t1,t2,t3⟩:=bx4 (sX.out.heap (Nat.not_lt.2 (Nat.le_refl _)) rT.out);have z0:=(tX.out.get (i:=kk) XK).1;rw[GU.out] at z0;obtain⟨c0,c1,c2,c3,c4⟩:=wN.out _ sX.out);have AI:=behind_any x kk c.code.length c.name (c.params:Int) (c.locals:Int) an x.names.length cn b o cp w5 yX VG c0 c1 c2 c3 c4;rw[RJ.out] at AI;unfold eP at AI;have BJ:=zh AI;clear AI;go_wp2_with(go_at_call 195;refine BJ.out.mono ?_;rintro e w6 ⟨ra,rn,rc,rfl,G7,sL,qR⟩;obtain⟨rfl,G9⟩:=ints_each G7);have yS:=zh (sX.out.trans (Off.of_below sL));have FA:=zh (tX.out.later sL);have EG:=zh (xM.out.later sL);have hg5:=tX.out.lt
        have yH:Hid (∀i y,r[i]? =some y->∃b2 o2,ra=some ⟨b2,o2,none⟩/\w.heap.size+1<b2/\(Value.slice (some ⟨gq,off+1,none⟩) todo.length cap).ownBlock≠some b2/\w6.cell? ⟨b2,o2+i,none⟩=some (.int .i64 y)):=zh (fun i y hy=>by
         obtain⟨b2,o2,e,hc⟩:=G9 i y hy;subst e;have h5:=qR b2 XZ
         exact⟨b2,o2,rfl,VG,fun e=>XL,hc⟩)
        clear G7 G9 qR sL t0 t1 t2 t3 c0 c1 c2 c3 c4 z0 BJ F9 vY;(go_loopw [7,106] (fun tv iv wy=>∃(j:Nat)(out' todo':List Int),j<=r.length/\iv=.int .i64 (j:Int)/\Hid (lB wy (w.heap.size+1) out')/\Hid (Que (w.heap.size+2) tv todo' wy)/\Hid (mC c.code.length out' todo')/\Hid (out'.getD kk 0=Hh)/\Hid (gQ out'+todo'.length=gQ out+todo.length)/\Hid (Off (fun k=>w.heap.size<k) (w.alloc (.cells #[.string c.name,.int .i64 (c.params:Int),.int .i64 (c.locals:Int),.slice (some ⟨b,o,none⟩) c.code.length cp] 168)) wy)/\Hid (∀i y,r[i]? =some y->∃b2 o2,ra=some ⟨b2,o2,none⟩/\w.heap.size+1<b2/\tv.ownBlock≠some b2/\wy.cell? ⟨b2,o2+i,none⟩=some (.int .i64 y))/\Hid (dE c=nV c.code (gQ out+((kk:Int)::todo).length) (gK c.code.length (Hh-nd+lv) (r.drop j) out' todo'))) (fun _ iv _=>r.length-(intOf iv).toNat));case atStart=>exact⟨0,out,todo,Nat.zero_le _,rfl,FA,EG,zh HI.out.tail,GU,zh rfl,yS,yH,C3⟩
        case round=>
         obtain⟨j,out',todo',hj,rfl,yL,C4,zD,GB,xN,C5,AW,C2⟩:=hrel;(rename World=>wy);clear FA EG yS yH C3 tX xM sX AX GI EI;have hgy:=yL.out.lt;by_cases PQ:j<r.length
         ·obtain⟨y,hy,ES⟩:=getElem?_of_lt PQ;obtain⟨b2,o2,rfl,hbg,hbo,BM⟩:=AW.out j y hy;obtain⟨BL,AA⟩:=uR.out y ES;obtain⟨t0,t1,t2,t3⟩:=bx4 (C5.out.heap (Nat.not_lt.2 (Nat.le_refl _)) rT.out);have z0:=(yL.out.get (i:=kk) (by rw[zD.out.len];exact yX)).1;rw[GB.out] at z0
          have AV:Hid (dE c=nV c.code (gQ out+((kk:Int)::todo).length) (gK c.code.length (Hh-nd+lv) (y::r.drop (j+1)) out' todo')):=zh (by
           have h:=C2.out;obtain⟨KM,NW⟩:=List.getElem?_eq_some_iff.1 hy;rw[List.drop_eq_getElem_cons KM,NW] at h
           exact h)
          exact SH
         ·have yM:r.drop j=[]:=List.drop_eq_nil_of_le VG
          have OQ:Hid (dE c=(dZ c.code (gQ out'+todo'.length+1) out' todo').isSome):=zh (by
           have h:=C2.out;rw[yM,lookAt_end] at h;have h2:=xN.out;rw[h,List.length_cons,show gQ out+(todo.length+1)=gQ out'+todo'.length+1 by omega]
           rfl)
          exact S1
theorem line_any(i:Ins)(an:Option Addr)(cn:Nat)(N:Nat->Prop)(w:World)(hg:dH w)(h0:0<=i.op)(h1:i.op<20)(tP: -1<=i.a)(qD:i.a<=1099511627776)(hs:i.s.size<=8000)(hm:i.m.size<=8000)(hn:aK 1 cK N w (.slice an i.names.length cn) i.names)(hl:i.names.length<=1000):iP i (.slice an i.names.length cn) w:=by
 obtain⟨op,a,s,m,names⟩:=i;dsimp only at h0 h1 tP qD hs hm hn hl
 obtain⟨wd,BP,KF⟩:∃wd,iV[op.toNat]? =some wd/\wd.length<=6:=by
  obtain⟨k,rfl⟩:∃k:Nat,op=(k:Int):=⟨op.toNat,VG⟩;have hk:k<iV.length:=by show k<20;omega
  exact⟨iV[k],List.getElem?_eq_getElem hk,(by decide:∀x∈iV,x.length<=6) _ (List.getElem_mem hk)⟩
 have hc:op=12\/op=13\/op=14\/(op=4\/op=5\/op=6\/op=7\/op=8\/op=9\/op=18\/op=19)\/op=0\/op=1\/op=2\/op=3\/op=10\/op=11\/op=15\/op=16\/op=17:=VG;rcases hc with rfl|rfl|rfl|ho|ho
 ·exact line_12 a s m names an cn N w hg tP qD hs hm hn hl
 ·exact line_13 a s m names an cn N w hg tP qD hs hm hn hl
 ·exact line_14 a s m names an cn N w hg tP qD hs hm hn hl
 ·exact line_bare op ho BP KF a s m names an cn w hg tP qD
 ·exact line_num op ho BP KF a s m names an cn w hg tP qD
theorem kR{s:ByteArray}(h:aP s=true):s.size<=20:=by
 unfold aP kC at h;simp only[Bool.and_eq_true] at h;obtain⟨h,-⟩:=h;split at h
 ·cases h
 ·simp only[Bool.and_eq_true,decide_eq_true_eq] at h;exact h.1.2
theorem data_len(s:ByteArray):s.data.toList.length=s.size:=VL
theorem ascOk_all:∀{l:List ByteArray}{b:Option ByteArray},nM b l=true->∀x∈l,aP x=true
 |[],_,_,x,hx=>by cases hx
 |y::l,b,h,x,hx=>by
  unfold nM at h;simp only[Bool.and_eq_true] at h;rcases List.mem_cons.1 hx with rfl|hx
  ·exact h.1.1
  ·exact ascOk_all h.2 x hx
theorem names_len:∀(l:List ByteArray),(∀x∈l,aP x=true)->(l.flatMap (fun x=>[32]++x.data.toList)).length<=l.length*21
 |[],_=>VL
 |y::l,h=>by
  have h1:=names_len l (fun x hx=>h x (by simp[hx]));have h2:=kR (h y VL);rw[List.flatMap_cons,List.length_append,List.length_cons,Nat.succ_mul,List.length_append,data_len];simp only[List.length_cons,List.length_nil];omega
theorem itoaB_len{n:Int}(h0: -1<=n)(h1:n<=1099511627776):(itoaB n).length<=21:=Lib.itoa_length_le n VG VG
theorem words_len(op:Nat):(iV.getD op []).length<=6:=by
 by_cases h:op<20
 ·have hc:∀k,k<20->(iV.getD k []).length<=6:=VI;exact hc op h
 ·rw[List.getD_eq_getElem?_getD,List.getElem?_eq_none (show iV.length<=op from by show 20<=op;omega)];simp
theorem line_len{c:Cod}{i:Ins}(h:bS c i=true)(tP: -1<=i.a)(qD:i.a<=1099511627776):(gP i).length<=175:=by
 have hw:=words_len i.op.toNat;have hi:=itoaB_len tP qD;unfold gP;rw[List.length_append,List.length_append];have key:∀l:List UInt8,l.length<=168->(iV.getD i.op.toNat []).length+l.length+[10].length<=175:=fun l hl=>by simp only[List.length_cons,List.length_nil];omega
 apply key;split
 ·rename_i AM
  have hs:aP i.s=true:=by
   unfold bS at h;simp[AM] at h;exact h.1.1.1
  have:=kR hs;rw[List.length_append,data_len];simp only[List.length_cons,List.length_nil];omega
 split
 ·rename_i h14
  have hs:aP i.s=true/\(i.m=noB\/aP i.m=true):=by
   unfold bS at h;simp[h14] at h;exact⟨h.1.1.2,h.1.2⟩
  have h1:=kR hs.1
  have h2:(if i.m=noB then[46] else i.m.data.toList).length<=20:=by
   split
   ·simp
   ·rename_i hm;have:=kR (hs.2.resolve_left hm);rw[data_len];exact this
  simp only[List.length_append,data_len,List.length_cons,List.length_nil];omega
 split
 ·rename_i CR
  have hs:nM none i.names=true/\i.names.length<=8:=by
   unfold bS at h;simp[CR] at h;exact⟨h.1.1.1.1,h.1.1.1.2⟩
  have h1:=names_len i.names (ascOk_all hs.1);have h2:i.names.length*21<=8*21:=Nat.mul_le_mul_right _ hs.2;omega
 split
 ·simp
 ·rw[List.length_append];simp only[List.length_cons,List.length_nil];omega
theorem rightC_parts{c:Cod}(h:dE c=true):aP c.name=true/\c.params<=6/\∀i∈c.code,bS c i=true:=by
 unfold dE at h;simp only[Bool.and_eq_true,decide_eq_true_eq,List.all_eq_true] at h;obtain⟨⟨⟨⟨⟨h1,h2⟩,h3⟩,-⟩,h5⟩,-⟩:=h;exact⟨h1,h2,h5⟩
theorem lines_len{c:Cod}:∀(l:List Ins),(∀i∈l,bS c i=true/\ -1<=i.a/\i.a<=1099511627776)->(l.flatMap gP).length<=l.length*175
 |[],_=>VL
 |i::l,h=>by
  have h1:=lines_len l (fun x hx=>h x (by simp[hx]));have h2:=h i VL;have h3:=line_len h2.1 h2.2.1 h2.2.2;rw[List.flatMap_cons,List.length_append,List.length_cons,Nat.succ_mul];omega
def headL(c:Cod):List UInt8:=[102,117,110,99,32]++c.name.data.toList++[32]++itoaB c.params++[32]++itoaB c.locals++[10]
theorem dG(c:Cod):codL c=headL c++c.code.flatMap gP:=rfl
def CodFit(c:Cod):Prop:=c.code.length<=10000000000/\c.params<=1000000/\c.locals<=1000000/\∀i∈c.code,-1<=i.a/\i.a<=1099511627776
def CodSmall(c:Cod):Prop:=c.code.length<=10000000000/\c.params<=1000000/\c.locals<=1000000
theorem row_fit{N:Nat->Prop}{w:World}{v:Value}{l:List Cod}(hr:aK 4 encCod N w v l)(h:∀c∈l,CodSmall c):∀c∈l,CodFit c:=by
 intro c hc;obtain⟨a,cl,-,-,-,qO⟩:=hr.at;obtain⟨k,hk⟩:=List.getElem?_of_mem hc;obtain⟨b,o,-,-,cs,⟨vc,-,-,LI⟩,-,-⟩:=qO k c hk;obtain⟨ac,cc,-,-,-,hcr⟩:=LI.at;refine⟨(h c hc).1,(h c hc).2.1,(h c hc).2.2,fun i hi=>?_⟩;obtain⟨z,hz⟩:=List.getElem?_of_mem hi;obtain⟨b9,o9,-,-,cs9,⟨vn,-,-,-,-,h1,h2⟩,-,-⟩:=hcr z i hz;exact⟨h1,h2⟩
theorem formed_names{c:Cod}{i:Ins}(h:bS c i=true):i.names.length<=8:=by
 by_cases CR:i.op=12
 ·unfold bS at h;simp[CR] at h;exact h.1.1.1.2
 ·have:i.names.length=0:=by
   unfold bS at h;simp only[CR,if_false] at h
   repeat' split at h
   all_goals first|(simp at h;done)|(simp only[Bool.and_eq_true,decide_eq_true_eq] at h;omega)
  omega
theorem head_len{c:Cod}(h:CodFit c)(hs:aP c.name=true):(headL c).length<=100:=by
 have h1:=kR hs;have h2:=itoaB_len (n:=(c.params:Int)) VG (by have:=h.2.1;omega);have h3:=itoaB_len (n:=(c.locals:Int)) VG (by have:=h.2.2.1;omega);unfold headL;simp only[List.length_append,data_len,List.length_cons,List.length_nil];omega
theorem codL_len{c:Cod}(h:CodFit c)(hr:dE c=true):(codL c).length<=1750000000100:=by
 obtain⟨h1,h2,h3⟩:=rightC_parts hr;have h4:=head_len h h1;have h5:=lines_len (c:=c) c.code (fun i hi=>⟨h3 i hi,(h.2.2.2 i hi).1,(h.2.2.2 i hi).2⟩);have h6:c.code.length*175<=10000000000*175:=Nat.mul_le_mul_right _ h.1;rw[dG,List.length_append];omega
theorem cods_len:∀(l:List Cod),(∀c∈l,CodFit c/\dE c=true)->(l.flatMap codL).length<=l.length*1750000000100
 |[],_=>VL
 |c::l,h=>by
  have h1:=cods_len l (fun x hx=>h x (by simp[hx]));have h2:=codL_len (h c VL).1 (h c VL).2;rw[List.flatMap_cons,List.length_append,List.length_cons,Nat.succ_mul];omega
theorem lines_pre{c:Cod}(k:Nat):((c.code.take k).flatMap gP).length<=(c.code.flatMap gP).length:=by
 have:c.code.flatMap gP=(c.code.take k).flatMap gP++(c.code.drop k).flatMap gP:=by rw[<-List.flatMap_append,List.take_append_drop]
 rw[this,List.length_append];omega
theorem flat_take{α:Type}{f:α->List UInt8}{l:List α}{k:Nat}{x:α}(hx:l[k]? =some x):(l.take (k+1)).flatMap f=(l.take k).flatMap f++f x:=by
 simp[List.take_add_one,hx]
theorem eZ{B b:Nat}{bs:List Value}{w w':World}(h:Lib.IsBuilder 147 5 B b bs w)(hb:Below w.heap.size w w'):Lib.IsBuilder 147 5 B b bs w':=by
 have hk:w.grownBy w' none:=⟨hb.os,hb.tape,hb.output,hb.size,fun k hk _=>hb.block k hk⟩
 have step:∀p,Lib.BuilderAt 147 5 B b p bs w->Lib.BuilderAt 147 5 B b p bs w':=fun p hp=>by
  obtain⟨hB,v,BD,pP,pQ⟩:=hp;refine⟨hB,v,aF hb BD,pP.kept hk ?_,pQ⟩
  cases hv:v.ownBlock with
  |none=>exact .inl rfl
  |some k=>exact .inr (fun e=>by cases e)
 exact h.elim (fun h=>.inl (step _ h)) (fun h=>.inr (step _ h))
theorem copyCheck_k(B b:Nat)(bs:List Value)(w:World)(h:Lib.IsBuilder 147 5 B b bs w):
  Calls Tryz.prog 120 #[.pointer (some ⟨b,0,none⟩)] w fun e w'=>e=.returned (.tuple #[])/\(Lib.BuilderAt 147 5 B b (.pointer (some ⟨b,0,none⟩)) bs w'/\Below B w w'/\Lib.OthersKept 5 (some b) w w'):=by
 rcases h with h|h
 ·refine(copyCheck_fresh b w h.cell0 h.shape h.frozen0).mono ?_;rintro e w' ⟨rfl,rfl⟩;exact⟨rfl,h.used _,(Below.refl B w).setCell (p:=⟨b,0,none⟩) h.1 _,(Lib.OthersKept.refl _ _ _).setCell ⟨b,0,none⟩ rfl _⟩
 ·refine(copyCheck_used b w h.cell0).mono ?_;rintro e w' ⟨rfl,rfl⟩;exact⟨rfl,h,Below.refl B _,Lib.OthersKept.refl _ _ _⟩
theorem writeString_k(B b:Nat)(bs:List Value)(s:ByteArray)(w:World)(h:Lib.IsBuilder 147 5 B b bs w)(hlen:bs.length+s.size<=140737488355328)(KO:B<=w.heap.size):
  Calls Tryz.prog 100 #[.pointer (some ⟨b,0,none⟩),.string s] w fun e w'=>e=.returned (.tuple #[.int .i64 s.size,.nilIface])/\(Lib.BuilderAt 147 5 B b (.pointer (some ⟨b,0,none⟩)) (bs++Lib.strCells s) w'/\Below B w w'/\Lib.OthersKept 5 (some b) w w'):=by
 obtain⟨i0,hi,rS,qI,qH⟩:=info_parts byteInfo;go_enter Tryz.func100,Tryz.ntmps100;go_wp2_with(go_at_call 120;refine(copyCheck_k B b bs _ h).mono ?_);rintro e w1 ⟨rfl,h1,pS,BB⟩;obtain⟨hB,v,BD,pP,pQ⟩:=h1;have c0:w1.cell? ⟨b,0,none⟩=some (.pointer (some ⟨b,0,none⟩)):=by rw[Lib.cell_of_heap BD];rfl
 have c1:w1.cell? ⟨b,1,none⟩=some v:=by rw[Lib.cell_of_heap BD];rfl
 go_wp2_with(at_builtin;refine Lib.wpList_append_own_string _ rfl _ _ 145 9 rfl B 5 i0 Tryz.underlying145 Tryz.underlying9 hi rS qI qH _ _ _ rfl pP s rfl ?c3 ?c4 ?c5 ?_);case c3=>unfold maxLen;omega
 case c4=>omega
 case c5=>have:=pS.size;omega
 intro v' w2 tM pO _
 have pT:b<w1.heap.size:=by
  exact UE
 have pR:w2.heap[b]? =some (.cells #[.pointer (some ⟨b,0,none⟩),v] 147 (0,0)):=by
  rw[pO.block b pT (fun e=>pQ e.symm)];exact BD
 have d0:w2.cell? ⟨b,0,none⟩=some (.pointer (some ⟨b,0,none⟩)):=by rw[Lib.cell_of_heap pR];rfl
 have d1:w2.cell? ⟨b,1,none⟩=some v:=by rw[Lib.cell_of_heap pR];rfl
 have f1:w2.frozen? ⟨b,1,none⟩=false:=Lib.frozen_of_heap pR 1
 obtain⟨ao,n',cap,rfl⟩:∃ao n' cap,v'=.slice ao n' cap:=by
  rcases tM.2 with⟨hv,_⟩|⟨g,cap,cur,hv,_⟩
  ·exact⟨_,_,_,hv⟩
  ·exact⟨_,_,_,hv⟩
 go_wp2
 go_ret2;refine⟨rfl,?_,?_,?_⟩
 ·exact UY
 ·exact VF
 ·exact(BB.grown pO (fun g hg=>by
   rcases pP.2 with⟨rfl,_⟩|⟨g',cap',cur,rfl,_,DW,_⟩
   ·simp[Value.ownBlock] at hg
   ·simp only[Value.ownBlock,Option.some.injEq] at hg;subst hg
    exact⟨_,_,DW⟩)).setCell ⟨b,1,none⟩ rfl _
theorem cright_any(c:Cod)(ac:Option Addr)(cc:Nat)(N:Nat->Prop)(w:World)(hg:dH w)(hs:c.name.size<=8000)(hr:aK 5 nI N w (.slice ac c.code.length cc) c.code)(hlen:c.code.length<=100000000000):
  Calls Tryz.prog 111 #[.agg #[.string c.name,.int .i64 (c.params:Int),.int .i64 (c.locals:Int),.slice ac c.code.length cc]] w fun e w'=>e=.returned (.bool (dE c))/\Below w.heap.size w w':=by
 have sG:=zh (aA w (.cells #[.string c.name,.int .i64 (c.params:Int),.int .i64 (c.locals:Int),.slice ac c.code.length cc] 168));have HQ:=zh (heights_any c N (.slice ac c.code.length cc) (w.alloc (.cells #[.string c.name,.int .i64 (c.params:Int),.int .i64 (c.locals:Int),.slice ac c.code.length cc] 168)) (hg.later sG.out) hs (hr.moves fZ (bM.later sG.out) VI) hlen);clear hg hr;go_enter Tryz.func111,Tryz.ntmps111;go_wp2_with(go_at_call 146;refine HQ.out.mono ?_;rintro e w5 ⟨⟨v,rfl⟩,hb5⟩);go_ret;exact⟨rfl,aB sG.out hb5⟩
end Go.Proofs.YtacgopankhpnbaaGreatDoor
