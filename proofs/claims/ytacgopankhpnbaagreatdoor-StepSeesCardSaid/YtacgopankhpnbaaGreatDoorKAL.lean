/- Texts of this seat, joined. -/
import Derived.Test.YtacgopankhpnbaaGreatDoorKAK
set_option linter.unusedVariables false
set_option linter.unusedSimpArgs false
namespace Go.Proofs.YtacgopankhpnbaaGreatDoor
set_option maxHeartbeats 16000000
set_option maxRecDepth 100000
open Go.RowKit
theorem rB{p:Prop}(h:p:=by
 clear HRy hy hym;by_cases hyn:y=(c.code.length:Int)
 ·subst hyn;have HF:Hid (dP c=false):=zh (by rw[HRd.out,lookAt_full];rfl);have e0:((c.code.length:Int)==(c.code.length:Int))=true:=vZ;clear HRd;go_wp2_with fail;go_ret2;rw[HF.out];exact⟨⟨_,rfl⟩,HBl.out _ HOy.out⟩
 ·obtain⟨ky,rfl⟩:∃ky:Nat,y=(ky:Int):=⟨y.toNat,vT⟩;have hky:ky<c.code.length:=vT;have e0:((ky:Int)==(c.code.length:Int))=false:=by rw[beq_eq_false_iff_ne];exact hyn
  obtain⟨z2,z3⟩:=HAy.out.get (i:=ky) (by rw[HIy.out.len];exact hky);have HNew:=zh (fun h2=>HRd.out.trans (congrArg (pH c.code _) (lookAt_new (n:=c.code.length) (h:=Hh-nd+lv) (k:=(ky:Int)) (r:=r.drop (j+1)) (out:=out') (todo:=todo') hyn h2)));have HBd:=zh (fun h2 h3=>HRd.out.trans (congrArg (pH c.code _) (lookAt_bad (n:=c.code.length) (h:=Hh-nd+lv) (k:=(ky:Int)) (r:=r.drop (j+1)) (out:=out') (todo:=todo') hyn h2 h3)));have HSm:=zh (fun h2 h3=>HRd.out.trans (congrArg (pH c.code _) (lookAt_same (n:=c.code.length) (h:=Hh-nd+lv) (k:=(ky:Int)) (r:=r.drop (j+1)) (out:=out') (todo:=todo') hyn h2 h3)));rw[Int.toNat_natCast] at HNew HBd HSm;have HGet:=zh (fun(h2:out'.getD ky 0<0)=>HIy.out.new (q:=Hh-nd+lv) (x:=Hh) hky h2 vT vT (by have h:=HIy.out.get hkk;rw[HHy.out] at h;exact h));have HNs:=zh (fun(h2:out'.getD ky 0<0)=>negs_set (h:=Hh-nd+lv) (by rw[HIy.out.len];exact hky) h2 vT)
  have HKn:=zh (fun(h2:out'.getD ky 0<0)=>(show(out'.set ky (Hh-nd+lv)).getD kk 0=Hh by
   (have hne:ky≠kk:=fun e=>by rw[e,HHy.out] at h2;omega);rw[List.getD_eq_getElem?_getD,List.getElem?_set_ne hne,<-List.getD_eq_getElem?_getD]
   exact HHy.out))
  clear HRd hyn;generalize hD:out'.getD ky 0=D at *;have HD:=zh hD;clear hD;by_cases hneg:D<0
  ·have HRn:=zh (HNew.out hneg);have HIn:=zh (HGet.out hneg);have HNn:=zh (HNs.out hneg);have HKk:=zh (HKn.out hneg);have ho8:Off (fun k=>k=w.heap.size+1) wy ((wy.setCell ⟨w.heap.size+1,ky,none⟩ (.int .i64 (Hh-nd+lv))).alloc (.cells #[.int .i64 (ky:Int)] 3)):=(Off.setCell (S:=fun k=>k=w.heap.size+1) wy rfl).trans (Off.of_below (aA _ _));have HO8:=zh ho8;have HA8:=zh ((HAy.out.set ky (Hh-nd+lv)).later (aA _ (.cells #[.int .i64 (ky:Int)] 3)));have HQ8:=zh (HQy.out.off ho8 (fun k hk e=>by have h9:=(HQy.out.own k hk).1;have e2:k=w.heap.size+1:=e;omega))
   have hnb:((wy.setCell ⟨w.heap.size+1,ky,none⟩ (.int .i64 (Hh-nd+lv))).alloc (.cells #[.int .i64 (ky:Int)] 3)).heap[wy.heap.size]? =some (.cells #[.int .i64 (ky:Int)] 3):=by
    have h:=heap_alloc_new (wy.setCell ⟨w.heap.size+1,ky,none⟩ (.int .i64 (Hh-nd+lv))) (.cells #[.int .i64 (ky:Int)] 3);simpa using h
   have HNb:=zh hnb;(have hlq:todo'.length<=1000000000000:=by have h1:=HIy.out.few;omega);clear hnb ho8 HNew HBd HSm HGet HNs HKn;go_wp2_with(at_builtin;refine pA rfl _ _ rfl HQ8.out xK xK HNb.out hlq wQ ?_);intro v9 w9 hq9 ho9 hown9
   have HRE9:Hid (∀i y,r[i]? =some y->∃b2' o2',some (⟨b2,o2,none⟩:Addr)=some ⟨b2',o2',none⟩/\w.heap.size+1<b2'/\v9.ownBlock≠some b2'/\w9.cell? ⟨b2',o2'+i,none⟩=some (.int .i64 y)):=zh (fun i y hy=>by
    obtain⟨b3,o3,e,h1,h2,h3⟩:=HREy.out i y hy;cases e;have hlt3:=dC h3;refine⟨b2,o2,rfl,h1,fun e=>?_,ho9.cell h2 (HO8.out.cell (fun e=>by have e2:b2=w.heap.size+1:=e;omega) h3)⟩;rcases hown9 b2 e with h4|h4
    ·exact h2 h4
    ·first|omega|(simp at h4;omega))
   have HA9:=zh (HA8.out.off ho9 (fun e=>by have h9:=(HQ8.out.own _ e).1;omega));have HO9:=zh ((HOy.out.trans (HO8.out.mono fun k hk=>by have e2:k=w.heap.size+1:=hk;show w.heap.size<k;omega)).trans (ho9.mono fun k hk=>by have h9:=(HQ8.out.own _ hk).1;show w.heap.size<k;omega));have HQ9:=zh hq9;clear hq9 ho9 hown9;go_wp2_with fail;go_roundw;(case rel=>exact⟨j+1,_,_,vT,wH,HA9,HQ9,HIn,HKk,zh (by have h1:=HNn.out;have h2:=HNy.out;rw[List.length_append,List.length_singleton];omega),HO9,HRE9,HRn⟩);case measure=>simp[intOf];omega
  ·by_cases heq:D=Hh-nd+lv
   ·have HRs:=zh (HSm.out hneg (fun h=>h heq));(have e2:(D==Hh-nd+lv)=true:=by rw[heq];simp);clear HNew HBd HSm HGet HNs HKn heq;go_wp2_with fail;(go_quiet(fail));go_wp2_with fail;go_roundw;(case rel=>exact⟨j+1,_,_,vT,wH,zh (HAy.out.later (aJ (Below.refl _ _) _)),zh (HQy.out.later (aJ (Below.refl _ _) _)),HIy,HHy,HNy,zh (HOy.out.trans (Off.of_below (aJ (Below.refl _ _) _))),zh (fun i y hy=>by obtain⟨b3,o3,e,h1,h2,h3⟩:=HREy.out i y hy;exact⟨b3,o3,e,h1,h2,h3⟩),HRs⟩);case measure=>simp[intOf];omega
   ·have HF:Hid (dP c=false):=zh (HBd.out hneg heq);(have e2:(D==Hh-nd+lv)=false:=by rw[beq_eq_false_iff_ne];exact heq);clear HNew HBd HSm HGet HNs HKn heq;go_wp2_with fail;(go_quiet(fail));go_wp2_with fail;go_ret2;rw[HF.out]
    exact⟨⟨_,rfl⟩,aJ (HBl.out _ HOy.out) _⟩):p:=h
theorem rR{p:Prop}(h:p:=by
 go_wp2_with(go_at_call 194;refine HNd.out.mono ?_;rintro e w5 ⟨rfl,hb5⟩;have HA5:=zh (HAz.out.later hb5);have HQ5:=zh (HQ1.out.later hb5);have HO5:=zh (HOz.out.trans (Off.of_below hb5));obtain⟨t0,t1,t2,t3⟩:=bx4 (HO5.out.heap (Nat.not_lt.2 (Nat.le_refl _)) HBX.out);have z0:=(HA5.out.get (i:=kk) zE).1;rw[HHh.out] at z0;obtain⟨c0,c1,c2,c3,c4⟩:=HCell.out _ HO5.out)
 all_goals first|(go_ret2;rw[HF.out];exact⟨⟨_,rfl⟩,HBl.out _ HO5.out⟩)|trace_state):p:=h
theorem sE{p:Prop}(h:p:=by
 have hmz:lenOf u7=todo'.length:=by obtain⟨_,_,_,_,e,-⟩:=HQy.out;rw[e];rfl
 clear hj' HRy;go_wp2_with fail;go_roundw;case rel=>exact⟨_,_,HAy,HQy,HIy,HOy,HRe⟩
 case measure=>
  have h1:=HAy.out.arrOf;have h2:=HNy.out;have h3:=HMz.out;rw[h1,hmz,h3];simp only[lenOf]
  omega):p:=h
theorem tD{p:Prop}(h:p:=by
 go_enter Tryz.func146,Tryz.ntmps146;go_wp2_with(go_at_call 147;refine HN.out.mono ?_;rintro e w5 ⟨rfl,rfl⟩);go_ret2
 exact⟨⟨_,rfl⟩,HB.out⟩):p:=h
theorem Que.pop0{B g off:Nat}{k:Int}{l:List Int}{w:World}(h:Que B (.slice (some ⟨g,off,none⟩) (l.length+1) (0+1)) (k::l) w):Que B (.slice (some ⟨g,off,none⟩) l.length 0) l w:=by
 obtain⟨g',off',cap',cur,hv,h1,h2,h3,h4,h5,h6⟩:=h;cases hv;have hl:l=[]:=List.eq_nil_of_length_eq_zero (by simp only[List.length_cons] at h3;omega);subst hl;exact⟨g,off,0,cur,rfl,h1,h2,Nat.le_refl _,Nat.zero_le _,vT,fun i x hx=>by simp at hx⟩
theorem heights_refuses(nm:ByteArray)(pr lc n:Nat)(ac:Option Addr)(cc:Nat)(w:World)(hg:bV w)(hs:nm.size<=8000)(h:aT nm=false\/6<pr\/lc<pr\/n=0):
  Calls Tryz.prog 146 #[.agg #[.string nm,.int .i64 (pr:Int),.int .i64 (lc:Int),.slice ac n cc]] w fun e w'=>(∃v,e=.returned (.tuple #[v,.bool false]))/\Below w.heap.size w w':=by
 have HB:=zh (aA w (.cells #[.string nm,.int .i64 (pr:Int),.int .i64 (lc:Int),.slice ac n cc] 168));have HN:=zh (eJ nm (w.alloc (.cells #[.string nm,.int .i64 (pr:Int),.int .i64 (lc:Int),.slice ac n cc] 168)) vT (hg.later HB.out));have p0:¬(pr:Int)<0:=vT;clear hg
 cases hsn:aT nm with
 |false=>
  rw[hsn] at HN;clear hsn h;exact tD
 |true=>
  rw[hsn] at HN;rw[hsn] at h;clear hsn;by_cases h6:6<pr
  ·have q6:(6:Int)<(pr:Int):=vT;clear h h6;exact tD
  ·have q6:¬(6:Int)<(pr:Int):=vT;by_cases hl:lc<pr
   ·have ql:(lc:Int)<(pr:Int):=vT;clear h h6 hl;exact tD
   ·have ql:¬(lc:Int)<(pr:Int):=vT
    have h0:n=0:=by
     rcases h with h|h|h|h
     ·cases h
     ·omega
     ·omega
     ·exact h
    subst h0;clear h h6 hl;exact tD
theorem heights_any(c:Cod)(N:Nat->Prop)(vc:Value)(w:World)(hg:bV w)(hs:c.name.size<=8000)(hr:aK 5 oS N w vc c.code)(hlen:c.code.length<=100000000000):
  Calls Tryz.prog 146 #[.agg #[.string c.name,.int .i64 (c.params:Int),.int .i64 (c.locals:Int),vc]] w fun e w'=>(∃v,e=.returned (.tuple #[v,.bool (dP c)]))/\Below w.heap.size w w':=by
 by_cases hbad:aT c.name=false\/6<c.params\/c.locals<c.params\/c.code.length=0
 ·obtain⟨ac,cc,rfl,-⟩:=hr.at
  have hF:dP c=false:=by
   unfold dP;rcases hbad with h|h|h|h
   ·rw[h];rfl
   ·rw[show decide (c.params<=6)=false from decide_eq_false vT];simp
   ·rw[show decide (c.params<=c.locals)=false from decide_eq_false vT];simp
   ·rw[show decide (c.code.length≠0)=false from decide_eq_false vT];simp
  rw[hF];exact heights_refuses c.name c.params c.locals c.code.length ac cc w hg hs hbad
 simp only[not_or,Bool.not_eq_false] at hbad;obtain⟨hsn,hp6,hlp,hn0⟩:=hbad;rcases hr.cases vV with⟨h0,-⟩|⟨b,o,cp,rfl,h0,h1,h2,hb,hN,hc⟩
 ·rw[h0] at hn0;exact absurd rfl hn0
 have HC:=zh hc;have HBX:=zh (heap_alloc_new w (.cells #[.string c.name,.int .i64 (c.params:Int),.int .i64 (c.locals:Int),.slice (some ⟨b,o,none⟩) c.code.length cp] 168));have HB0:=zh (aA w (.cells #[.string c.name,.int .i64 (c.params:Int),.int .i64 (c.locals:Int),.slice (some ⟨b,o,none⟩) c.code.length cp] 168));have HNm:=zh (eJ c.name (w.alloc (.cells #[.string c.name,.int .i64 (c.params:Int),.int .i64 (c.locals:Int),.slice (some ⟨b,o,none⟩) c.code.length cp] 168)) vT (hg.later HB0.out));rw[hsn] at HNm;have h11:=hg.big;have HGl:=zh (fun W(ho:Off (fun k=>w.heap.size<k) (w.alloc (.cells #[.string c.name,.int .i64 (c.params:Int),.int .i64 (c.locals:Int),.slice (some ⟨b,o,none⟩) c.code.length cp] 168)) W)=>(hg.later HB0.out).off ho (fun k hk=>Nat.not_lt.2 vT));have HM:=zh (fun W(ho:Off (fun k=>w.heap.size<k) (w.alloc (.cells #[.string c.name,.int .i64 (c.params:Int),.int .i64 (c.locals:Int),.slice (some ⟨b,o,none⟩) c.code.length cp] 168)) W)=>(show bX N w N W from fun b' hb' hlt=>⟨hb',fun _ _ h=>ho.cell (Nat.not_lt.2 vT) (aC HB0.out h)⟩));have HBl:=zh (fun W(ho:Off (fun k=>w.heap.size<k) (w.alloc (.cells #[.string c.name,.int .i64 (c.params:Int),.int .i64 (c.locals:Int),.slice (some ⟨b,o,none⟩) c.code.length cp] 168)) W)=>Off.below HB0.out ho (fun k hk=>Nat.le_of_lt hk) HB0.out.size);have HRM:=zh (fun(h5:∀(k:Nat)(x:Ins),c.code[k]? =some x->bN c x=true)=>rightC_main hsn vT vT hn0 h5);have p0:¬(c.params:Int)<0:=vT;have q6:¬(6:Int)<(c.params:Int):=vT;have ql:¬(c.locals:Int)<(c.params:Int):=vT;have qn:((c.code.length:Int)==0)=false:=wC;obtain⟨A0,hA0⟩:∃A,A=((List.replicate c.code.length (0:Int)).map (Value.int .i64)).toArray:=⟨_,rfl⟩;have hmk:=make_ints c.code.length vT;rw[<-hA0] at hmk;have HA0:=zh hA0;have hs1:(w.alloc (.cells #[.string c.name,.int .i64 (c.params:Int),.int .i64 (c.locals:Int),.slice (some ⟨b,o,none⟩) c.code.length cp] 168)).heap.size=w.heap.size+1:=vZ
 have HAr:Hid (mJ ((w.alloc (.cells #[.string c.name,.int .i64 (c.params:Int),.int .i64 (c.locals:Int),.slice (some ⟨b,o,none⟩) c.code.length cp] 168)).alloc (.cells A0 3)) (w.heap.size+1) (List.replicate c.code.length 0)):=zh (by
  unfold mJ;rw[<-HA0.out]
  simpa using heap_alloc_new (w.alloc (.cells #[.string c.name,.int .i64 (c.params:Int),.int .i64 (c.locals:Int),.slice (some ⟨b,o,none⟩) c.code.length cp] 168)) (.cells A0 3))
 clear hA0 hc hg hr hsn hp6 hn0;go_enter Tryz.func146,Tryz.ntmps146;go_wp2_with(go_at_call 147;refine HNm.out.mono ?_;rintro e w5 ⟨rfl,rfl⟩);clear hmk p0 q6 ql qn;go_loopw [47] (fun iv wr=>∃q:Nat,q<=c.code.length/\iv=.int .i64 (q:Int)/\Hid (mJ wr (w.heap.size+1) (List.replicate q (-1)++List.replicate (c.code.length-q) 0))/\Hid (Off (fun k=>w.heap.size<k) (w.alloc (.cells #[.string c.name,.int .i64 (c.params:Int),.int .i64 (c.locals:Int),.slice (some ⟨b,o,none⟩) c.code.length cp] 168)) wr)/\Hid (∀(k:Nat)(x:Ins),k<q->c.code[k]? =some x->bN c x=true)) (fun iv _=>c.code.length-(intOf iv).toNat)
 case atStart=>exact⟨0,Nat.zero_le _,rfl,HAr,zh (Off.of_below (aA _ _)),zh (fun k x hk=>vT)⟩
 case round=>
  obtain⟨q,hq,rfl,HA,HO,HFo⟩:=hrel;rename World=>wr
  obtain⟨t0,t1,t2,t3⟩:=bx4 (HO.out.heap (Nat.not_lt.2 (Nat.le_refl _)) HBX.out);by_cases hlt:q<c.code.length
  ·obtain⟨x,hx,-⟩:=getElem?_of_lt hlt;obtain⟨cs,⟨vn,rfl,hzs,hzm,hrn,-⟩,-,hj⟩:=HC.out q x hx;have HRN:=zh hrn;obtain⟨an,cn,rfl,-⟩:=hrn;have c0:wr.cell? ⟨b,o+q*5,none⟩=some (.int .i64 x.op):=HO.out.cell (Nat.not_lt.2 vT) (aC HB0.out (hj 0 _ rfl));have c1:=HO.out.cell (Nat.not_lt.2 vT) (aC HB0.out (hj 1 _ rfl));have c2:=HO.out.cell (Nat.not_lt.2 vT) (aC HB0.out (hj 2 _ rfl));have c3:=HO.out.cell (Nat.not_lt.2 vT) (aC HB0.out (hj 3 _ rfl));have c4:=HO.out.cell (Nat.not_lt.2 vT) (aC HB0.out (hj 4 _ rfl));have ho2:Off (fun k=>w.heap.size<k) (w.alloc (.cells #[.string c.name,.int .i64 (c.params:Int),.int .i64 (c.locals:Int),.slice (some ⟨b,o,none⟩) c.code.length cp] 168)) (wr.alloc (.cells #[.int .i64 x.op,.int .i64 x.a,.string x.s,.string x.m,.slice an x.names.length cn] 171)):=HO.out.trans (Off.of_below (aA _ _));have hfm:=formed_any c x (some ⟨b,o,none⟩) cp an cn N (wr.alloc (.cells #[.int .i64 x.op,.int .i64 x.a,.string x.s,.string x.m,.slice an x.names.length cn] 171)) (HGl.out _ ho2) hzs hzm (HRN.out.moves aV (HM.out _ ho2) vV);unfold aW at hfm;have HFm:=zh hfm;have HO2:=zh ho2;obtain⟨s0,s1,s2,s3⟩:=bx4 (ho2.heap (Nat.not_lt.2 (Nat.le_refl _)) HBX.out);have HXq:=zh hx;have hwr1:=HA.out.lt;clear hfm ho2 hj hx
   cases hf:bN c x with
   |false=>
    have HF:Hid (dP c=false):=zh (rightC_form HXq.out hf);rw[hf] at HFm;clear hf;go_wp2_with(go_at_call 193;refine HFm.out.mono ?_;rintro e w5 ⟨rfl,hb5⟩;have HO5:=zh (HO2.out.trans (Off.of_below hb5)));go_ret2;rw[HF.out];exact⟨⟨_,rfl⟩,HBl.out _ HO5.out⟩
   |true=>
    have HFn:Hid (∀(k:Nat)(y:Ins),k<q+1->c.code[k]? =some y->bN c y=true):=zh (fun k y hk hy=>by
     rcases Nat.lt_or_ge k q with h|h
     ·exact HFo.out k y h hy
     ·have e:k=q:=vT;subst e
      rw[HXq.out] at hy;cases hy;exact hf)
    rw[hf] at HFm;clear hf;go_wp2_with(go_at_call 193;refine HFm.out.mono ?_;rintro e w5 ⟨rfl,hb5⟩;have HO5:=zh (HO2.out.trans (Off.of_below hb5));have HA5:=zh (HA.out.later (aB (aA wr (.cells #[.int .i64 x.op,.int .i64 x.a,.string x.s,.string x.m,.slice an x.names.length cn] 171)) hb5));obtain⟨u5,hu5,hf5⟩:=HA5.out.some_at wQ hlt);go_roundw;(case rel=>first|exact⟨q+1,vT,wH,zh BE,zh (HO5.out.trans (Off.setCell (S:=fun k=>w.heap.size<k) _ (Nat.lt_succ_self _))),HFn⟩|exact⟨_,_,_,_,_,_,_,_,_,_,_,_,_,_,_,_,_,⟨q+1,vT,wH,zh BE,zh (HO5.out.trans (Off.setCell (S:=fun k=>w.heap.size<k) _ (Nat.lt_succ_self _))),HFn⟩,rfl⟩);case measure=>simp[intOf];omega
  ·have hq':q=c.code.length:=vT;subst hq';have HFA:=zh (fun(k:Nat)(x:Ins)(hx:c.code[k]? =some x)=>HFo.out k x (List.getElem?_eq_some_iff.1 hx).1 hx);have HRR:=zh (HRM.out HFA.out);have HA1:Hid (mJ wr (w.heap.size+1) (List.replicate c.code.length (-1))):=zh (by have h:=HA.out;rw[Nat.sub_self,List.replicate_zero,List.append_nil] at h;exact h);obtain⟨u5,hu5,hf5⟩:=HA1.out.some_at (List.length_replicate ..) h0;have hwr1:=HA1.out.lt;have HA2:=zh (HA1.out.set 0 0);have HO2:Hid (Off (fun k=>w.heap.size<k) (w.alloc (.cells #[.string c.name,.int .i64 (c.params:Int),.int .i64 (c.locals:Int),.slice (some ⟨b,o,none⟩) c.code.length cp] 168)) (wr.setCell ⟨w.heap.size+1,0,none⟩ (.int .i64 0))):=zh (HO.out.trans (Off.setCell (S:=fun k=>w.heap.size<k) _ (Nat.lt_succ_self _)));have hsz2:(wr.setCell ⟨w.heap.size+1,0,none⟩ (.int .i64 0)).heap.size=wr.heap.size:=vZ;clear HFo HRM HA;go_wp2_with fail;clear t0 t1 t2 t3 hu5 hf5;go_loopw [7] (fun tv wz=>∃out todo:List Int,Hid (mJ wz (w.heap.size+1) out)/\Hid (Que (w.heap.size+2) tv todo wz)/\Hid (nG c.code.length out todo)/\Hid (Off (fun k=>w.heap.size<k) (w.alloc (.cells #[.string c.name,.int .i64 (c.params:Int),.int .i64 (c.locals:Int),.slice (some ⟨b,o,none⟩) c.code.length cp] 168)) wz)/\Hid (dP c=(eN c.code (iJ out+todo.length+1) out todo).isSome)) (fun tv wz=>iJ (arrOf wz (w.heap.size+1))+lenOf tv)
   case atStart=>
    refine⟨_,[0],zh (HA2.out.later (aA _ _)),zh (Que.first (B:=w.heap.size+2) (b:=wr.heap.size) ?_ vT),zh (nG.first h0),zh (HO2.out.trans (Off.of_below (aA _ _))),zh ?_⟩
    ·rw[<-hsz2];exact heap_alloc_new _ _
    ·rw[HRR.out,List.length_singleton,show iJ ((List.replicate c.code.length (-1:Int)).set 0 0)+1=c.code.length from negs_first h0]
   case round=>
    obtain⟨out,todo,HAz,HQz,HI,HOz,HRz⟩:=hrel;(rename World=>wz);clear HA1 HA2 HO2 HO hsz2 HRR hwr1;obtain⟨t0,t1,t2,t3⟩:=bx4 (HOz.out.heap (Nat.not_lt.2 (Nat.le_refl _)) HBX.out)
    cases todo with
    |nil=>
     obtain⟨gq,off,cap,cur,rfl,-⟩:=HQz.out;have HF:Hid (dP c=true):=zh (by rw[HRz.out];rfl);clear HRz;simp only[List.length_nil];go_wp2_with fail;go_ret2;rw[HF.out];exact⟨⟨_,rfl⟩,HBl.out _ HOz.out⟩
    |cons k todo=>
     obtain⟨hk0,hk1⟩:=HI.out.at_ k vZ;obtain⟨kk,rfl⟩:∃kk:Nat,k=(kk:Int):=⟨k.toNat,vT⟩;have hkk:kk<c.code.length:=vT;obtain⟨gq,off,cap,rfl,hcap1,hcap2,hq0,hq1⟩:=HQz.out.pop;obtain⟨x,hx,-⟩:=getElem?_of_lt hkk;obtain⟨cs,⟨vn,rfl,hzs,hzm,hrn,hax0,hax1⟩,-,hj⟩:=HC.out kk x hx;obtain⟨an,cn,rfl,-⟩:=hrn;have hl:=HI.out.len;have HMz:=zh HAz.out.arrOf;have hfx:=HFA.out kk x hx;obtain⟨ho0,ho1⟩:=formed_op hfx;obtain⟨hd0,hd1,hv0,hv1⟩:=needs_range hfx;have HBr:=zh (behind_range hfx hkk);have HIx:Hid (oQ c.code kk=x):=zh (insAt_of hx);have hnd:=cneeds_any x an cn wz ho0 ho1;unfold bB at hnd;have hih:=HI.out.get hkk;have HCell:=zh (fun W(ho:Off (fun k=>w.heap.size<k) (w.alloc (.cells #[.string c.name,.int .i64 (c.params:Int),.int .i64 (c.locals:Int),.slice (some ⟨b,o,none⟩) c.code.length cp] 168)) W)=>(show W.cell? ⟨b,o+kk*5,none⟩=some (.int .i64 x.op)/\W.cell? ⟨b,o+kk*5+1,none⟩=some (.int .i64 x.a)/\W.cell? ⟨b,o+kk*5+2,none⟩=some (.string x.s)/\W.cell? ⟨b,o+kk*5+3,none⟩=some (.string x.m)/\W.cell? ⟨b,o+kk*5+4,none⟩=some (.slice an x.names.length cn) from⟨ho.cell (Nat.not_lt.2 vT) (aC HB0.out (hj 0 _ rfl)),ho.cell (Nat.not_lt.2 vT) (aC HB0.out (hj 1 _ rfl)),ho.cell (Nat.not_lt.2 vT) (aC HB0.out (hj 2 _ rfl)),ho.cell (Nat.not_lt.2 vT) (aC HB0.out (hj 3 _ rfl)),ho.cell (Nat.not_lt.2 vT) (aC HB0.out (hj 4 _ rfl))⟩));obtain⟨c0,c1,c2,c3,c4⟩:=HCell.out _ HOz.out;have HBad:=zh (fun h=>HRz.out.trans (heights_bad (l:=c.code) (f:=iJ out+((kk:Int)::todo).length) (out:=out) (todo:=todo) (k:=kk) h));have HOk:=zh (fun h=>HRz.out.trans (heights_ok (l:=c.code) (f:=iJ out+((kk:Int)::todo).length) (out:=out) (todo:=todo) (k:=kk) h));rw[HIx.out] at HBad HOk;have HZ:Hid (out.getD kk 0=out.getD kk 0):=zh rfl;generalize hHh:out.getD kk 0=Hh at hih HBad HOk HZ;have HHh:=zh hHh;obtain⟨nd,lv,hni⟩:∃nd lv,dQ x=(nd,lv):=⟨_,_,rfl⟩;rw[hni] at hnd hd0 hd1 hv0 hv1 HBad HOk;dsimp only at hnd hd0 hd1 hv0 hv1 HBad HOk;have HNd:=zh hnd;have hne0:Hh<=100000000000:=vT;clear hj hx hfx hnd hni hHh HRz HZ hzs hzm hl;rcases Nat.eq_zero_or_pos cap with hcz|hcz
     ·subst hcz;have ht:todo=[]:=List.eq_nil_of_length_eq_zero vT;subst ht;have HQ1:=zh (Que.pop0 HQz.out);clear hq1 hcap1;by_cases hcase:Hh<nd\/(x.op=18/\Hh≠1)
      ·have HF:Hid (dP c=false):=zh (HBad.out hcase);clear HBad HOk;by_cases g1:Hh<nd
       ·clear hcase;exact rR
       ·have g2:x.op=18/\Hh≠1:=hcase.resolve_left g1;(have e18:(x.op==18)=true:=by rw[g2.1];rfl);(have e1:(Hh==1)=false:=by rw[beq_eq_false_iff_ne];exact g2.2);(have e2:(Hh != 1)=true:=by rw[bne_iff_ne];exact g2.2);clear hcase g2;exact rR
      ·have g1:¬Hh<nd:=fun h=>hcase (.inl h);have hn1:x.op=18->Hh=1:=fun h=>Decidable.not_not.1 fun h2=>hcase (.inr ⟨h,h2⟩);have HR1:=zh (HOk.out hcase);generalize hr:kU x (kk:Int)=r at HR1 HBr;have HRq:=zh hr;(have hrl:r.length<=2:=by rw[<-hr];unfold kU;(repeat' split)<;>simp);clear hr hcase HBad HOk;by_cases g2:x.op=18
       ·(have e18:(x.op==18)=true:=by rw[g2];rfl);(have e1:(Hh==1)=true:=by rw[hn1 g2];rfl);(have e2:(Hh != 1)=false:=by rw[hn1 g2];rfl);have HO18:=zh g2;clear g2 hn1;have HR0:Hid (r=[]):=zh (by rw[<-HRq.out];unfold kU;rw[if_pos HO18.out]);go_wp2_with(go_at_call 194;refine HNd.out.mono ?_;rintro e w5 ⟨rfl,hb5⟩;have HA5:=zh (HAz.out.later hb5);have HQ5:=zh (HQ1.out.later hb5);have HO5:=zh (HOz.out.trans (Off.of_below hb5));obtain⟨t0,t1,t2,t3⟩:=bx4 (HO5.out.heap (Nat.not_lt.2 (Nat.le_refl _)) HBX.out);have z0:=(HA5.out.get (i:=kk) zE).1;rw[HHh.out] at z0;obtain⟨c0,c1,c2,c3,c4⟩:=HCell.out _ HO5.out);have hbh:=behind_any x kk c.code.length c.name (c.params:Int) (c.locals:Int) an x.names.length cn b o cp w5 hkk vT c0 c1 c2 c3 c4;rw[HRq.out] at hbh;unfold fH at hbh;have HBh:=zh hbh;clear hbh;go_wp2_with(go_at_call 195;refine HBh.out.mono ?_;rintro e w6 ⟨ra,rn,rc,rfl,hri,hb6,hown6⟩;obtain⟨rfl,hre⟩:=ints_each hri);have HO6:=zh (HO5.out.trans (Off.of_below hb6));have HA6:=zh (HA5.out.later hb6);have HQ6:=zh (HQ5.out.later hb6);have hg5:=HA5.out.lt
        have HRE6:Hid (∀i y,r[i]? =some y->∃b2 o2,ra=some ⟨b2,o2,none⟩/\w.heap.size+1<b2/\(Value.slice (some ⟨gq,off,none⟩) ([]:List Int).length 0).ownBlock≠some b2/\w6.cell? ⟨b2,o2+i,none⟩=some (.int .i64 y)):=zh (fun i y hy=>by
         obtain⟨b2,o2,e,hc⟩:=hre i y hy;subst e;have h5:=hown6 b2 zX
         exact⟨b2,o2,rfl,vT,fun e=>zI,hc⟩)
        clear hri hre hown6 hb6 t0 t1 t2 t3 c0 c1 c2 c3 c4 z0 HBh HNd hq0;(go_loopw [7,106] (fun tv iv wy=>∃(j:Nat)(out' todo':List Int),j<=r.length/\iv=.int .i64 (j:Int)/\Hid (mJ wy (w.heap.size+1) out')/\Hid (Que (w.heap.size+2) tv todo' wy)/\Hid (nG c.code.length out' todo')/\Hid (out'.getD kk 0=Hh)/\Hid (iJ out'+todo'.length=iJ out+([]:List Int).length)/\Hid (Off (fun k=>w.heap.size<k) (w.alloc (.cells #[.string c.name,.int .i64 (c.params:Int),.int .i64 (c.locals:Int),.slice (some ⟨b,o,none⟩) c.code.length cp] 168)) wy)/\Hid (∀i y,r[i]? =some y->∃b2 o2,ra=some ⟨b2,o2,none⟩/\w.heap.size+1<b2/\tv.ownBlock≠some b2/\wy.cell? ⟨b2,o2+i,none⟩=some (.int .i64 y))/\Hid (dP c=pH c.code (iJ out+((kk:Int)::([]:List Int)).length) (iH c.code.length (Hh-nd+lv) (r.drop j) out' todo'))) (fun _ iv _=>r.length-(intOf iv).toNat));case atStart=>exact⟨0,out,([]:List Int),Nat.zero_le _,rfl,HA6,HQ6,zh HI.out.tail,HHh,zh rfl,HO6,HRE6,HR1⟩
        case round=>
         obtain⟨j,out',todo',hj,rfl,HAy,HQy,HIy,HHy,HNy,HOy,HREy,HRy⟩:=hrel;(rename World=>wy);clear HA6 HQ6 HO6 HRE6 HR1 HA5 HQ5 HO5 HQ1 HAz HOz;have hgy:=HAy.out.lt;by_cases hlj:j<r.length
         ·exact absurd hlj (by rw[HR0.out];exact Nat.not_lt_zero _)
         ·have hj':r.drop j=[]:=List.drop_eq_nil_of_le vT
          have HRe:Hid (dP c=(eN c.code (iJ out'+todo'.length+1) out' todo').isSome):=zh (by
           have h:=HRy.out;rw[hj',lookAt_end] at h;have h2:=HNy.out;rw[h,List.length_cons,show iJ out+(([]:List Int).length+1)=iJ out'+todo'.length+1 by omega]
           rfl)
          exact sE
       ·(have e18:(x.op==18)=false:=by rw[beq_eq_false_iff_ne];exact g2);clear g2 hn1;go_wp2_with(go_at_call 194;refine HNd.out.mono ?_;rintro e w5 ⟨rfl,hb5⟩;have HA5:=zh (HAz.out.later hb5);have HQ5:=zh (HQ1.out.later hb5);have HO5:=zh (HOz.out.trans (Off.of_below hb5));obtain⟨t0,t1,t2,t3⟩:=bx4 (HO5.out.heap (Nat.not_lt.2 (Nat.le_refl _)) HBX.out);have z0:=(HA5.out.get (i:=kk) zE).1;rw[HHh.out] at z0;obtain⟨c0,c1,c2,c3,c4⟩:=HCell.out _ HO5.out);have hbh:=behind_any x kk c.code.length c.name (c.params:Int) (c.locals:Int) an x.names.length cn b o cp w5 hkk vT c0 c1 c2 c3 c4;rw[HRq.out] at hbh;unfold fH at hbh;have HBh:=zh hbh;clear hbh;go_wp2_with(go_at_call 195;refine HBh.out.mono ?_;rintro e w6 ⟨ra,rn,rc,rfl,hri,hb6,hown6⟩;obtain⟨rfl,hre⟩:=ints_each hri);have HO6:=zh (HO5.out.trans (Off.of_below hb6));have HA6:=zh (HA5.out.later hb6);have HQ6:=zh (HQ5.out.later hb6);have hg5:=HA5.out.lt
        have HRE6:Hid (∀i y,r[i]? =some y->∃b2 o2,ra=some ⟨b2,o2,none⟩/\w.heap.size+1<b2/\(Value.slice (some ⟨gq,off,none⟩) ([]:List Int).length 0).ownBlock≠some b2/\w6.cell? ⟨b2,o2+i,none⟩=some (.int .i64 y)):=zh (fun i y hy=>by
         obtain⟨b2,o2,e,hc⟩:=hre i y hy;subst e;have h5:=hown6 b2 zX
         exact⟨b2,o2,rfl,vT,fun e=>zI,hc⟩)
        clear hri hre hown6 hb6 t0 t1 t2 t3 c0 c1 c2 c3 c4 z0 HBh HNd hq0;(go_loopw [7,106] (fun tv iv wy=>∃(j:Nat)(out' todo':List Int),j<=r.length/\iv=.int .i64 (j:Int)/\Hid (mJ wy (w.heap.size+1) out')/\Hid (Que (w.heap.size+2) tv todo' wy)/\Hid (nG c.code.length out' todo')/\Hid (out'.getD kk 0=Hh)/\Hid (iJ out'+todo'.length=iJ out+([]:List Int).length)/\Hid (Off (fun k=>w.heap.size<k) (w.alloc (.cells #[.string c.name,.int .i64 (c.params:Int),.int .i64 (c.locals:Int),.slice (some ⟨b,o,none⟩) c.code.length cp] 168)) wy)/\Hid (∀i y,r[i]? =some y->∃b2 o2,ra=some ⟨b2,o2,none⟩/\w.heap.size+1<b2/\tv.ownBlock≠some b2/\wy.cell? ⟨b2,o2+i,none⟩=some (.int .i64 y))/\Hid (dP c=pH c.code (iJ out+((kk:Int)::([]:List Int)).length) (iH c.code.length (Hh-nd+lv) (r.drop j) out' todo'))) (fun _ iv _=>r.length-(intOf iv).toNat));case atStart=>exact⟨0,out,([]:List Int),Nat.zero_le _,rfl,HA6,HQ6,zh HI.out.tail,HHh,zh rfl,HO6,HRE6,HR1⟩
        case round=>
         obtain⟨j,out',todo',hj,rfl,HAy,HQy,HIy,HHy,HNy,HOy,HREy,HRy⟩:=hrel;(rename World=>wy);clear HA6 HQ6 HO6 HRE6 HR1 HA5 HQ5 HO5 HQ1 HAz HOz;have hgy:=HAy.out.lt;by_cases hlj:j<r.length
         ·obtain⟨y,hy,hym⟩:=getElem?_of_lt hlj;obtain⟨b2,o2,rfl,hbg,hbo,hy0⟩:=HREy.out j y hy;obtain⟨hy1,hy2⟩:=HBr.out y hym;obtain⟨t0,t1,t2,t3⟩:=bx4 (HOy.out.heap (Nat.not_lt.2 (Nat.le_refl _)) HBX.out);have z0:=(HAy.out.get (i:=kk) (by rw[HIy.out.len];exact hkk)).1;rw[HHy.out] at z0
          have HRd:Hid (dP c=pH c.code (iJ out+((kk:Int)::([]:List Int)).length) (iH c.code.length (Hh-nd+lv) (y::r.drop (j+1)) out' todo')):=zh (by
           have h:=HRy.out;obtain⟨hj1,hj2⟩:=List.getElem?_eq_some_iff.1 hy;rw[List.drop_eq_getElem_cons hj1,hj2] at h
           exact h)
          exact rB
         ·have hj':r.drop j=[]:=List.drop_eq_nil_of_le vT
          have HRe:Hid (dP c=(eN c.code (iJ out'+todo'.length+1) out' todo').isSome):=zh (by
           have h:=HRy.out;rw[hj',lookAt_end] at h;have h2:=HNy.out;rw[h,List.length_cons,show iJ out+(([]:List Int).length+1)=iJ out'+todo'.length+1 by omega]
           rfl)
          exact sE
     ·have hcz2:¬cap=0:=vT;have HQ1:=zh hq1;clear hq1 hcz;by_cases hcase:Hh<nd\/(x.op=18/\Hh≠1)
      ·have HF:Hid (dP c=false):=zh (HBad.out hcase);clear HBad HOk;by_cases g1:Hh<nd
       ·clear hcase;exact rR
       ·have g2:x.op=18/\Hh≠1:=hcase.resolve_left g1;(have e18:(x.op==18)=true:=by rw[g2.1];rfl);(have e1:(Hh==1)=false:=by rw[beq_eq_false_iff_ne];exact g2.2);(have e2:(Hh != 1)=true:=by rw[bne_iff_ne];exact g2.2);clear hcase g2;exact rR
      ·have g1:¬Hh<nd:=fun h=>hcase (.inl h);have hn1:x.op=18->Hh=1:=fun h=>Decidable.not_not.1 fun h2=>hcase (.inr ⟨h,h2⟩);have HR1:=zh (HOk.out hcase);generalize hr:kU x (kk:Int)=r at HR1 HBr;have HRq:=zh hr;(have hrl:r.length<=2:=by rw[<-hr];unfold kU;(repeat' split)<;>simp);clear hr hcase HBad HOk;by_cases g2:x.op=18
       ·(have e18:(x.op==18)=true:=by rw[g2];rfl);(have e1:(Hh==1)=true:=by rw[hn1 g2];rfl);(have e2:(Hh != 1)=false:=by rw[hn1 g2];rfl);have HO18:=zh g2;clear g2 hn1;have HR0:Hid (r=[]):=zh (by rw[<-HRq.out];unfold kU;rw[if_pos HO18.out]);go_wp2_with(go_at_call 194;refine HNd.out.mono ?_;rintro e w5 ⟨rfl,hb5⟩;have HA5:=zh (HAz.out.later hb5);have HQ5:=zh (HQ1.out.later hb5);have HO5:=zh (HOz.out.trans (Off.of_below hb5));obtain⟨t0,t1,t2,t3⟩:=bx4 (HO5.out.heap (Nat.not_lt.2 (Nat.le_refl _)) HBX.out);have z0:=(HA5.out.get (i:=kk) zE).1;rw[HHh.out] at z0;obtain⟨c0,c1,c2,c3,c4⟩:=HCell.out _ HO5.out);have hbh:=behind_any x kk c.code.length c.name (c.params:Int) (c.locals:Int) an x.names.length cn b o cp w5 hkk vT c0 c1 c2 c3 c4;rw[HRq.out] at hbh;unfold fH at hbh;have HBh:=zh hbh;clear hbh;go_wp2_with(go_at_call 195;refine HBh.out.mono ?_;rintro e w6 ⟨ra,rn,rc,rfl,hri,hb6,hown6⟩;obtain⟨rfl,hre⟩:=ints_each hri);have HO6:=zh (HO5.out.trans (Off.of_below hb6));have HA6:=zh (HA5.out.later hb6);have HQ6:=zh (HQ5.out.later hb6);have hg5:=HA5.out.lt
        have HRE6:Hid (∀i y,r[i]? =some y->∃b2 o2,ra=some ⟨b2,o2,none⟩/\w.heap.size+1<b2/\(Value.slice (some ⟨gq,off+1,none⟩) todo.length cap).ownBlock≠some b2/\w6.cell? ⟨b2,o2+i,none⟩=some (.int .i64 y)):=zh (fun i y hy=>by
         obtain⟨b2,o2,e,hc⟩:=hre i y hy;subst e;have h5:=hown6 b2 zX
         exact⟨b2,o2,rfl,vT,fun e=>zI,hc⟩)
        clear hri hre hown6 hb6 t0 t1 t2 t3 c0 c1 c2 c3 c4 z0 HBh HNd hq0;(go_loopw [7,106] (fun tv iv wy=>∃(j:Nat)(out' todo':List Int),j<=r.length/\iv=.int .i64 (j:Int)/\Hid (mJ wy (w.heap.size+1) out')/\Hid (Que (w.heap.size+2) tv todo' wy)/\Hid (nG c.code.length out' todo')/\Hid (out'.getD kk 0=Hh)/\Hid (iJ out'+todo'.length=iJ out+todo.length)/\Hid (Off (fun k=>w.heap.size<k) (w.alloc (.cells #[.string c.name,.int .i64 (c.params:Int),.int .i64 (c.locals:Int),.slice (some ⟨b,o,none⟩) c.code.length cp] 168)) wy)/\Hid (∀i y,r[i]? =some y->∃b2 o2,ra=some ⟨b2,o2,none⟩/\w.heap.size+1<b2/\tv.ownBlock≠some b2/\wy.cell? ⟨b2,o2+i,none⟩=some (.int .i64 y))/\Hid (dP c=pH c.code (iJ out+((kk:Int)::todo).length) (iH c.code.length (Hh-nd+lv) (r.drop j) out' todo'))) (fun _ iv _=>r.length-(intOf iv).toNat));case atStart=>exact⟨0,out,todo,Nat.zero_le _,rfl,HA6,HQ6,zh HI.out.tail,HHh,zh rfl,HO6,HRE6,HR1⟩
        case round=>
         obtain⟨j,out',todo',hj,rfl,HAy,HQy,HIy,HHy,HNy,HOy,HREy,HRy⟩:=hrel;(rename World=>wy);clear HA6 HQ6 HO6 HRE6 HR1 HA5 HQ5 HO5 HQ1 HAz HOz;have hgy:=HAy.out.lt;by_cases hlj:j<r.length
         ·exact absurd hlj (by rw[HR0.out];exact Nat.not_lt_zero _)
         ·have hj':r.drop j=[]:=List.drop_eq_nil_of_le vT
          have HRe:Hid (dP c=(eN c.code (iJ out'+todo'.length+1) out' todo').isSome):=zh (by
           have h:=HRy.out;rw[hj',lookAt_end] at h;have h2:=HNy.out;rw[h,List.length_cons,show iJ out+(todo.length+1)=iJ out'+todo'.length+1 by omega]
           rfl)
          exact sE
       ·(have e18:(x.op==18)=false:=by rw[beq_eq_false_iff_ne];exact g2);clear g2 hn1;go_wp2_with(go_at_call 194;refine HNd.out.mono ?_;rintro e w5 ⟨rfl,hb5⟩;have HA5:=zh (HAz.out.later hb5);have HQ5:=zh (HQ1.out.later hb5);have HO5:=zh (HOz.out.trans (Off.of_below hb5));obtain⟨t0,t1,t2,t3⟩:=bx4 (HO5.out.heap (Nat.not_lt.2 (Nat.le_refl _)) HBX.out);have z0:=(HA5.out.get (i:=kk) zE).1;rw[HHh.out] at z0;obtain⟨c0,c1,c2,c3,c4⟩:=HCell.out _ HO5.out);have hbh:=behind_any x kk c.code.length c.name (c.params:Int) (c.locals:Int) an x.names.length cn b o cp w5 hkk vT c0 c1 c2 c3 c4;rw[HRq.out] at hbh;unfold fH at hbh;have HBh:=zh hbh;clear hbh;go_wp2_with(go_at_call 195;refine HBh.out.mono ?_;rintro e w6 ⟨ra,rn,rc,rfl,hri,hb6,hown6⟩;obtain⟨rfl,hre⟩:=ints_each hri);have HO6:=zh (HO5.out.trans (Off.of_below hb6));have HA6:=zh (HA5.out.later hb6);have HQ6:=zh (HQ5.out.later hb6);have hg5:=HA5.out.lt
        have HRE6:Hid (∀i y,r[i]? =some y->∃b2 o2,ra=some ⟨b2,o2,none⟩/\w.heap.size+1<b2/\(Value.slice (some ⟨gq,off+1,none⟩) todo.length cap).ownBlock≠some b2/\w6.cell? ⟨b2,o2+i,none⟩=some (.int .i64 y)):=zh (fun i y hy=>by
         obtain⟨b2,o2,e,hc⟩:=hre i y hy;subst e;have h5:=hown6 b2 zX
         exact⟨b2,o2,rfl,vT,fun e=>zI,hc⟩)
        clear hri hre hown6 hb6 t0 t1 t2 t3 c0 c1 c2 c3 c4 z0 HBh HNd hq0;(go_loopw [7,106] (fun tv iv wy=>∃(j:Nat)(out' todo':List Int),j<=r.length/\iv=.int .i64 (j:Int)/\Hid (mJ wy (w.heap.size+1) out')/\Hid (Que (w.heap.size+2) tv todo' wy)/\Hid (nG c.code.length out' todo')/\Hid (out'.getD kk 0=Hh)/\Hid (iJ out'+todo'.length=iJ out+todo.length)/\Hid (Off (fun k=>w.heap.size<k) (w.alloc (.cells #[.string c.name,.int .i64 (c.params:Int),.int .i64 (c.locals:Int),.slice (some ⟨b,o,none⟩) c.code.length cp] 168)) wy)/\Hid (∀i y,r[i]? =some y->∃b2 o2,ra=some ⟨b2,o2,none⟩/\w.heap.size+1<b2/\tv.ownBlock≠some b2/\wy.cell? ⟨b2,o2+i,none⟩=some (.int .i64 y))/\Hid (dP c=pH c.code (iJ out+((kk:Int)::todo).length) (iH c.code.length (Hh-nd+lv) (r.drop j) out' todo'))) (fun _ iv _=>r.length-(intOf iv).toNat));case atStart=>exact⟨0,out,todo,Nat.zero_le _,rfl,HA6,HQ6,zh HI.out.tail,HHh,zh rfl,HO6,HRE6,HR1⟩
        case round=>
         obtain⟨j,out',todo',hj,rfl,HAy,HQy,HIy,HHy,HNy,HOy,HREy,HRy⟩:=hrel;(rename World=>wy);clear HA6 HQ6 HO6 HRE6 HR1 HA5 HQ5 HO5 HQ1 HAz HOz;have hgy:=HAy.out.lt;by_cases hlj:j<r.length
         ·obtain⟨y,hy,hym⟩:=getElem?_of_lt hlj;obtain⟨b2,o2,rfl,hbg,hbo,hy0⟩:=HREy.out j y hy;obtain⟨hy1,hy2⟩:=HBr.out y hym;obtain⟨t0,t1,t2,t3⟩:=bx4 (HOy.out.heap (Nat.not_lt.2 (Nat.le_refl _)) HBX.out);have z0:=(HAy.out.get (i:=kk) (by rw[HIy.out.len];exact hkk)).1;rw[HHy.out] at z0
          have HRd:Hid (dP c=pH c.code (iJ out+((kk:Int)::todo).length) (iH c.code.length (Hh-nd+lv) (y::r.drop (j+1)) out' todo')):=zh (by
           have h:=HRy.out;obtain⟨hj1,hj2⟩:=List.getElem?_eq_some_iff.1 hy;rw[List.drop_eq_getElem_cons hj1,hj2] at h
           exact h)
          exact rB
         ·have hj':r.drop j=[]:=List.drop_eq_nil_of_le vT
          have HRe:Hid (dP c=(eN c.code (iJ out'+todo'.length+1) out' todo').isSome):=zh (by
           have h:=HRy.out;rw[hj',lookAt_end] at h;have h2:=HNy.out;rw[h,List.length_cons,show iJ out+(todo.length+1)=iJ out'+todo'.length+1 by omega]
           rfl)
          exact sE
set_option maxHeartbeats 2000000
theorem line_any(i:Ins)(an:Option Addr)(cn:Nat)(N:Nat->Prop)(w:World)(hg:bV w)(h0:0<=i.op)(h1:i.op<20)(ha0: -1<=i.a)(ha1:i.a<=1099511627776)(hs:i.s.size<=8000)(hm:i.m.size<=8000)(hn:aK 1 bM N w (.slice an i.names.length cn) i.names)(hl:i.names.length<=1000):bL i (.slice an i.names.length cn) w:=by
 obtain⟨op,a,s,m,names⟩:=i;dsimp only at h0 h1 ha0 ha1 hs hm hn hl;have hc:op=0\/op=1\/op=2\/op=3\/op=4\/op=5\/op=6\/op=7\/op=8\/op=9\/op=10\/op=11\/op=12\/op=13\/op=14\/op=15\/op=16\/op=17\/op=18\/op=19:=vT;rcases hc with rfl|rfl|rfl|rfl|rfl|rfl|rfl|rfl|rfl|rfl|rfl|rfl|rfl|rfl|rfl|rfl|rfl|rfl|rfl|rfl
 ·exact line_0 a s m names an cn N w hg ha0 ha1 hs hm hn hl
 ·exact line_1 a s m names an cn N w hg ha0 ha1 hs hm hn hl
 ·exact line_2 a s m names an cn N w hg ha0 ha1 hs hm hn hl
 ·exact line_3 a s m names an cn N w hg ha0 ha1 hs hm hn hl
 ·exact line_4 a s m names an cn N w hg ha0 ha1 hs hm hn hl
 ·exact line_5 a s m names an cn N w hg ha0 ha1 hs hm hn hl
 ·exact line_6 a s m names an cn N w hg ha0 ha1 hs hm hn hl
 ·exact line_7 a s m names an cn N w hg ha0 ha1 hs hm hn hl
 ·exact line_8 a s m names an cn N w hg ha0 ha1 hs hm hn hl
 ·exact line_9 a s m names an cn N w hg ha0 ha1 hs hm hn hl
 ·exact line_10 a s m names an cn N w hg ha0 ha1 hs hm hn hl
 ·exact line_11 a s m names an cn N w hg ha0 ha1 hs hm hn hl
 ·exact line_12 a s m names an cn N w hg ha0 ha1 hs hm hn hl
 ·exact line_13 a s m names an cn N w hg ha0 ha1 hs hm hn hl
 ·exact line_14 a s m names an cn N w hg ha0 ha1 hs hm hn hl
 ·exact line_15 a s m names an cn N w hg ha0 ha1 hs hm hn hl
 ·exact line_16 a s m names an cn N w hg ha0 ha1 hs hm hn hl
 ·exact line_17 a s m names an cn N w hg ha0 ha1 hs hm hn hl
 ·exact line_18 a s m names an cn N w hg ha0 ha1 hs hm hn hl
 ·exact line_19 a s m names an cn N w hg ha0 ha1 hs hm hn hl
theorem lT{s:ByteArray}(h:aT s=true):s.size<=20:=by
 unfold aT kX at h;simp only[Bool.and_eq_true] at h;obtain⟨h,-⟩:=h;split at h
 ·cases h
 ·simp only[Bool.and_eq_true,decide_eq_true_eq] at h;exact h.1.2
theorem data_len(s:ByteArray):s.data.toList.length=s.size:=vZ
theorem ascOk_all:∀{l:List ByteArray}{b:Option ByteArray},oV b l=true->∀x∈l,aT x=true
 |[],_,_,x,hx=>by cases hx
 |y::l,b,h,x,hx=>by
  unfold oV at h;simp only[Bool.and_eq_true] at h;rcases List.mem_cons.1 hx with rfl|hx
  ·exact h.1.1
  ·exact ascOk_all h.2 x hx
theorem names_len:∀(l:List ByteArray),(∀x∈l,aT x=true)->(l.flatMap (fun x=>[32]++x.data.toList)).length<=l.length*21
 |[],_=>vZ
 |y::l,h=>by
  have h1:=names_len l (fun x hx=>h x (by simp[hx]));have h2:=lT (h y vZ);rw[List.flatMap_cons,List.length_append,List.length_cons,Nat.succ_mul,List.length_append,data_len];simp only[List.length_cons,List.length_nil];omega
theorem itoaB_len{n:Int}(h0: -1<=n)(h1:n<=1099511627776):(mC n).length<=21:=Lib.itoa_length_le n vT vT
theorem words_len(op:Nat):(eV.getD op []).length<=6:=by
 by_cases h:op<20
 ·have hc:∀k,k<20->(eV.getD k []).length<=6:=vV;exact hc op h
 ·rw[List.getD_eq_getElem?_getD,List.getElem?_eq_none (show eV.length<=op from by show 20<=op;omega)];simp
theorem line_len{c:Cod}{i:Ins}(h:bN c i=true)(ha0: -1<=i.a)(ha1:i.a<=1099511627776):(cV i).length<=175:=by
 have hw:=words_len i.op.toNat;have hi:=itoaB_len ha0 ha1;unfold cV;rw[List.length_append,List.length_append];have key:∀l:List UInt8,l.length<=168->(eV.getD i.op.toNat []).length+l.length+[10].length<=175:=fun l hl=>by simp only[List.length_cons,List.length_nil];omega
 apply key;split
 ·rename_i h13
  have hs:aT i.s=true:=by
   unfold bN at h;simp[h13] at h;exact h.1.1.1
  have:=lT hs;rw[List.length_append,data_len];simp only[List.length_cons,List.length_nil];omega
 split
 ·rename_i h14
  have hs:aT i.s=true/\(i.m=noB\/aT i.m=true):=by
   unfold bN at h;simp[h14] at h;exact⟨h.1.1.2,h.1.2⟩
  have h1:=lT hs.1
  have h2:(if i.m=noB then[46] else i.m.data.toList).length<=20:=by
   split
   ·simp
   ·rename_i hm;have:=lT (hs.2.resolve_left hm);rw[data_len];exact this
  simp only[List.length_append,data_len,List.length_cons,List.length_nil];omega
 split
 ·rename_i h12
  have hs:oV none i.names=true/\i.names.length<=8:=by
   unfold bN at h;simp[h12] at h;exact⟨h.1.1.1.1,h.1.1.1.2⟩
  have h1:=names_len i.names (ascOk_all hs.1);have h2:i.names.length*21<=8*21:=Nat.mul_le_mul_right _ hs.2;omega
 split
 ·simp
 ·rw[List.length_append];simp only[List.length_cons,List.length_nil];omega
theorem rightC_parts{c:Cod}(h:dP c=true):aT c.name=true/\c.params<=6/\∀i∈c.code,bN c i=true:=by
 unfold dP at h;simp only[Bool.and_eq_true,decide_eq_true_eq,List.all_eq_true] at h;obtain⟨⟨⟨⟨⟨h1,h2⟩,h3⟩,-⟩,h5⟩,-⟩:=h;exact⟨h1,h2,h5⟩
theorem lines_len{c:Cod}:∀(l:List Ins),(∀i∈l,bN c i=true/\ -1<=i.a/\i.a<=1099511627776)->(l.flatMap cV).length<=l.length*175
 |[],_=>vZ
 |i::l,h=>by
  have h1:=lines_len l (fun x hx=>h x (by simp[hx]));have h2:=h i vZ;have h3:=line_len h2.1 h2.2.1 h2.2.2;rw[List.flatMap_cons,List.length_append,List.length_cons,Nat.succ_mul];omega
def headL(c:Cod):List UInt8:=[102,117,110,99,32]++c.name.data.toList++[32]++mC c.params++[32]++mC c.locals++[10]
theorem dT(c:Cod):codL c=headL c++c.code.flatMap cV:=rfl
def CodFit(c:Cod):Prop:=c.code.length<=10000000000/\c.params<=1000000/\c.locals<=1000000/\∀i∈c.code,-1<=i.a/\i.a<=1099511627776
def CodSmall(c:Cod):Prop:=c.code.length<=10000000000/\c.params<=1000000/\c.locals<=1000000
theorem row_fit{N:Nat->Prop}{w:World}{v:Value}{l:List Cod}(hr:aK 4 encCod N w v l)(h:∀c∈l,CodSmall c):∀c∈l,CodFit c:=by
 intro c hc;obtain⟨a,cl,-,-,-,hrow⟩:=hr.at;obtain⟨k,hk⟩:=List.getElem?_of_mem hc;obtain⟨b,o,-,-,cs,⟨vc,-,-,hrc⟩,-,-⟩:=hrow k c hk;obtain⟨ac,cc,-,-,-,hcr⟩:=hrc.at;refine⟨(h c hc).1,(h c hc).2.1,(h c hc).2.2,fun i hi=>?_⟩;obtain⟨z,hz⟩:=List.getElem?_of_mem hi;obtain⟨b9,o9,-,-,cs9,⟨vn,-,-,-,-,h1,h2⟩,-,-⟩:=hcr z i hz;exact⟨h1,h2⟩
theorem formed_names{c:Cod}{i:Ins}(h:bN c i=true):i.names.length<=8:=by
 by_cases h12:i.op=12
 ·unfold bN at h;simp[h12] at h;exact h.1.1.1.2
 ·have:i.names.length=0:=by
   unfold bN at h;simp only[h12,if_false] at h
   repeat' split at h
   all_goals first|(simp at h;done)|(simp only[Bool.and_eq_true,decide_eq_true_eq] at h;omega)
  omega
theorem head_len{c:Cod}(h:CodFit c)(hs:aT c.name=true):(headL c).length<=100:=by
 have h1:=lT hs;have h2:=itoaB_len (n:=(c.params:Int)) vT (by have:=h.2.1;omega);have h3:=itoaB_len (n:=(c.locals:Int)) vT (by have:=h.2.2.1;omega);unfold headL;simp only[List.length_append,data_len,List.length_cons,List.length_nil];omega
theorem codL_len{c:Cod}(h:CodFit c)(hr:dP c=true):(codL c).length<=1750000000100:=by
 obtain⟨h1,h2,h3⟩:=rightC_parts hr;have h4:=head_len h h1;have h5:=lines_len (c:=c) c.code (fun i hi=>⟨h3 i hi,(h.2.2.2 i hi).1,(h.2.2.2 i hi).2⟩);have h6:c.code.length*175<=10000000000*175:=Nat.mul_le_mul_right _ h.1;rw[dT,List.length_append];omega
theorem cods_len:∀(l:List Cod),(∀c∈l,CodFit c/\dP c=true)->(l.flatMap codL).length<=l.length*1750000000100
 |[],_=>vZ
 |c::l,h=>by
  have h1:=cods_len l (fun x hx=>h x (by simp[hx]));have h2:=codL_len (h c vZ).1 (h c vZ).2;rw[List.flatMap_cons,List.length_append,List.length_cons,Nat.succ_mul];omega
theorem lines_pre{c:Cod}(k:Nat):((c.code.take k).flatMap cV).length<=(c.code.flatMap cV).length:=by
 have:c.code.flatMap cV=(c.code.take k).flatMap cV++(c.code.drop k).flatMap cV:=by rw[<-List.flatMap_append,List.take_append_drop]
 rw[this,List.length_append];omega
theorem flat_take{α:Type}{f:α->List UInt8}{l:List α}{k:Nat}{x:α}(hx:l[k]? =some x):(l.take (k+1)).flatMap f=(l.take k).flatMap f++f x:=by
 simp[List.take_add_one,hx]
theorem fT{B b:Nat}{bs:List Value}{w w':World}(h:Lib.IsBuilder 147 5 B b bs w)(hb:Below w.heap.size w w'):Lib.IsBuilder 147 5 B b bs w':=by
 have hk:w.grownBy w' none:=⟨hb.os,hb.tape,hb.output,hb.size,fun k hk _=>hb.block k hk⟩
 have step:∀p,Lib.BuilderAt 147 5 B b p bs w->Lib.BuilderAt 147 5 B b p bs w':=fun p hp=>by
  obtain⟨hB,v,hbk,hown,hne⟩:=hp;refine⟨hB,v,aD hb hbk,hown.kept hk ?_,hne⟩
  cases hv:v.ownBlock with
  |none=>exact .inl rfl
  |some k=>exact .inr (fun e=>by cases e)
 exact h.elim (fun h=>.inl (step _ h)) (fun h=>.inr (step _ h))
theorem copyCheck_k(B b:Nat)(bs:List Value)(w:World)(h:Lib.IsBuilder 147 5 B b bs w):
  Calls Tryz.prog 120 #[.pointer (some ⟨b,0,none⟩)] w fun e w'=>e=.returned (.tuple #[])/\(Lib.BuilderAt 147 5 B b (.pointer (some ⟨b,0,none⟩)) bs w'/\Below B w w'/\Lib.OthersKept 5 (some b) w w'):=by
 rcases h with h|h
 ·refine(copyCheck_fresh b w h.cell0 h.shape h.frozen0).mono ?_;rintro e w' ⟨rfl,rfl⟩;exact⟨rfl,h.used _,(Below.refl B w).setCell (p:=⟨b,0,none⟩) h.1 _,(Lib.OthersKept.refl _ _ _).setCell ⟨b,0,none⟩ rfl _⟩
 ·refine(copyCheck_used b w h.cell0).mono ?_;rintro e w' ⟨rfl,rfl⟩;exact⟨rfl,h,Below.refl B _,Lib.OthersKept.refl _ _ _⟩
theorem writeString_k(B b:Nat)(bs:List Value)(s:ByteArray)(w:World)(h:Lib.IsBuilder 147 5 B b bs w)(hlen:bs.length+s.size<=140737488355328)(hBw:B<=w.heap.size):
  Calls Tryz.prog 100 #[.pointer (some ⟨b,0,none⟩),.string s] w fun e w'=>e=.returned (.tuple #[.int .i64 s.size,.nilIface])/\(Lib.BuilderAt 147 5 B b (.pointer (some ⟨b,0,none⟩)) (bs++Lib.strCells s) w'/\Below B w w'/\Lib.OthersKept 5 (some b) w w'):=by
 obtain⟨i0,hi,hz0,hz1,hz2⟩:=info_parts byteInfo;go_enter Tryz.func100,Tryz.ntmps100;go_wp2_with(go_at_call 120;refine(copyCheck_k B b bs _ h).mono ?_);rintro e w1 ⟨rfl,h1,hb1,hk1⟩;obtain⟨hB,v,hbk,hown,hne⟩:=h1;have c0:w1.cell? ⟨b,0,none⟩=some (.pointer (some ⟨b,0,none⟩)):=by rw[Lib.cell_of_heap hbk];rfl
 have c1:w1.cell? ⟨b,1,none⟩=some v:=by rw[Lib.cell_of_heap hbk];rfl
 go_wp2_with(at_builtin;refine Lib.wpList_append_own_string _ rfl _ _ 145 9 rfl B 5 i0 Tryz.underlying145 Tryz.underlying9 hi hz0 hz1 hz2 _ _ _ rfl hown s rfl ?c3 ?c4 ?c5 ?_);case c3=>unfold maxLen;omega
 case c4=>omega
 case c5=>have:=hb1.size;omega
 intro v' w2 hown' hgrow _
 have hlt:b<w1.heap.size:=by
  exact uG
 have hb2:w2.heap[b]? =some (.cells #[.pointer (some ⟨b,0,none⟩),v] 147 (0,0)):=by
  rw[hgrow.block b hlt (fun e=>hne e.symm)];exact hbk
 have d0:w2.cell? ⟨b,0,none⟩=some (.pointer (some ⟨b,0,none⟩)):=by rw[Lib.cell_of_heap hb2];rfl
 have d1:w2.cell? ⟨b,1,none⟩=some v:=by rw[Lib.cell_of_heap hb2];rfl
 have f1:w2.frozen? ⟨b,1,none⟩=false:=Lib.frozen_of_heap hb2 1
 obtain⟨ao,n',cap,rfl⟩:∃ao n' cap,v'=.slice ao n' cap:=by
  rcases hown'.2 with⟨hv,_⟩|⟨g,cap,cur,hv,_⟩
  ·exact⟨_,_,_,hv⟩
  ·exact⟨_,_,_,hv⟩
 go_wp2
 go_ret2;refine⟨rfl,?_,?_,?_⟩
 ·exact vD
 ·exact vM
 ·exact(hk1.grown hgrow (fun g hg=>by
   rcases hown.2 with⟨rfl,_⟩|⟨g',cap',cur,rfl,_,hgg,_⟩
   ·simp[Value.ownBlock] at hg
   ·simp only[Value.ownBlock,Option.some.injEq] at hg;subst hg
    exact⟨_,_,hgg⟩)).setCell ⟨b,1,none⟩ rfl _
theorem cright_any(c:Cod)(ac:Option Addr)(cc:Nat)(N:Nat->Prop)(w:World)(hg:bV w)(hs:c.name.size<=8000)(hr:aK 5 oS N w (.slice ac c.code.length cc) c.code)(hlen:c.code.length<=100000000000):
  Calls Tryz.prog 111 #[.agg #[.string c.name,.int .i64 (c.params:Int),.int .i64 (c.locals:Int),.slice ac c.code.length cc]] w fun e w'=>e=.returned (.bool (dP c))/\Below w.heap.size w w':=by
 have HB0:=zh (aA w (.cells #[.string c.name,.int .i64 (c.params:Int),.int .i64 (c.locals:Int),.slice ac c.code.length cc] 168));have HQ:=zh (heights_any c N (.slice ac c.code.length cc) (w.alloc (.cells #[.string c.name,.int .i64 (c.params:Int),.int .i64 (c.locals:Int),.slice ac c.code.length cc] 168)) (hg.later HB0.out) hs (hr.moves hU (bX.later HB0.out) vV) hlen);clear hg hr;go_enter Tryz.func111,Tryz.ntmps111;go_wp2_with(go_at_call 146;refine HQ.out.mono ?_;rintro e w5 ⟨⟨v,rfl⟩,hb5⟩);go_ret;exact⟨rfl,aB HB0.out hb5⟩
set_option maxHeartbeats 16000000
theorem list_any(l:List Cod)(N:Nat->Prop)(v:Value)(w:World)(hg:bV w)(hr:aK 4 encCod N w v l)(hl:l.length<=30)(hsm:∀c∈l,CodSmall c):
  Calls Tryz.prog 85 #[v] w fun e w'=>e=.returned (.string (listC l))/\Below w.heap.size w w':=by
 have HFt:=zh (row_fit hr hsm);obtain⟨a,cl,rfl,l1,l2,hrow⟩:=hr.at;have HC:=zh hrow;have HG:=zh (fun W(hb:Below w.heap.size w W)=>hg.later hb);have HMv:=zh (fun W(hb:Below w.heap.size w W)=>bX.later (N:=N) hb);have h11:=hg.big;clear hrow hg hr hsm;go_enter Tryz.func85,Tryz.ntmps85;go_wp2_with fail;go_loopw [10] (fun iv wr=>∃q:Nat,q<=l.length/\iv=.int .i64 (q:Int)/\Hid (Lib.IsBuilder 147 5 w.heap.size w.heap.size (Lib.byteCells ((l.take q).flatMap codL)) wr)/\Hid (Below w.heap.size w wr)/\Hid (∀c∈l.take q,dP c=true)) (fun iv _=>l.length-(intOf iv).toNat)
 case atStart=>exact⟨0,Nat.zero_le _,rfl,zh (Lib.fresh_isBuilder 147 5 w),zh (aA w _),zh (fun c hc=>by simp at hc)⟩
 case round=>
  obtain⟨q,hq,rfl,HBd,HB,HR⟩:=hrel;rename World=>wr
  have hwr:=HB.out.size;have hbl:w.heap.size<wr.heap.size:=by rcases HBd.out with h|h<;>exact dC h.cell0
  by_cases hlt:q<l.length
  ·obtain⟨c,hx,hmem⟩:=getElem?_of_lt hlt;obtain⟨b,o,rfl,hnb,cs,⟨vc,rfl,hzn,hrc⟩,-,hj⟩:=HC.out q c hx;have hft:=HFt.out c hmem;obtain⟨ac,cc,rfl,lc1,lc2,hcr⟩:=hrc.at;have HCR:=zh hcr;have c0:wr.cell? ⟨b,o+q*4,none⟩=some (.string c.name):=aC HB.out (hj 0 _ rfl);have c1:=aC HB.out (hj 1 _ rfl);have c2:=aC HB.out (hj 2 _ rfl);have c3:=aC HB.out (hj 3 _ rfl);have HBX:=zh (heap_alloc_new wr (.cells #[.string c.name,.int .i64 (c.params:Int),.int .i64 (c.locals:Int),.slice ac c.code.length cc] 168));have HB2:=zh (aB HB.out (aA wr (.cells #[.string c.name,.int .i64 (c.params:Int),.int .i64 (c.locals:Int),.slice ac c.code.length cc] 168)));have HRt:=zh (cright_any c ac cc N (wr.alloc (.cells #[.string c.name,.int .i64 (c.params:Int),.int .i64 (c.locals:Int),.slice ac c.code.length cc] 168)) (HG.out _ HB2.out) hzn (hrc.moves hU (HMv.out _ HB2.out) vV) (by have:=hft.1;omega));have HX:=zh hx;have HM:=zh hmem;have HFc:=zh hft;have hp1:=hft.2.1;have hp2:=hft.2.2.1;clear hj hx hmem hcr hrc hft
   cases hrt:dP c with
   |false=>
    have HF:Hid (listC l=noB):=zh (by
     unfold listC;rw[if_neg];intro h;have:=List.all_eq_true.1 h c HM.out
     rw[hrt] at this;cases this)
    rw[hrt] at HRt;clear hrt;go_wp2_with(go_at_call 111;refine HRt.out.mono ?_;rintro e w5 ⟨rfl,hb5⟩);go_ret;exact⟨eQ xI,aB HB2.out hb5⟩
   |true=>
    obtain⟨hsn,hp6,hfm⟩:=rightC_parts hrt
    have HRc:Hid (∀d∈l.take (q+1),dP d=true):=zh (fun d hd=>by
     rw[List.take_add_one,HX.out,Option.toList,List.mem_append,List.mem_singleton] at hd;rcases hd with hd|rfl
     ·exact HR.out d hd
     ·exact hrt)
    have hpre:=cods_len (l.take q) (fun d hd=>⟨HFt.out d (List.mem_of_mem_take hd),HR.out d hd⟩);have hpre2:((l.take q).flatMap codL).length<=30*1750000000100:=Nat.le_trans hpre (Nat.mul_le_mul_right _ (by rw[List.length_take];omega));have hhead:=head_len HFc.out hsn;have HFo:=zh hfm;have HLn:=zh (lines_len (c:=c) c.code (fun i hi=>⟨hfm i hi,(HFc.out.2.2.2 i hi).1,(HFc.out.2.2.2 i hi).2⟩));have HTk:=zh (flat_take (f:=codL) HX.out);rw[hrt] at HRt;clear hrt hfm hpre hsn;generalize hpr:(l.take q).flatMap codL=pre at *;have HPr:=zh hpr;clear hpr;go_wp2_with(go_at_call 111;refine HRt.out.mono ?_;rintro e w5 ⟨rfl,hb5⟩;have HB5:=zh (aB HB2.out hb5);have HX5:=zh (aD hb5 HBX.out);have HBd5:=zh (fT (fT HBd.out (aA wr (.cells #[.string c.name,.int .i64 (c.params:Int),.int .i64 (c.locals:Int),.slice ac c.code.length cc] 168))) hb5));clear c0 c1 c2 c3 HRt HBd HR;have HI1:=zh (fun W(h:Below w.heap.size w W)=>Tryz.strconv_Itoa (c.params:Int) vT vT W (HG.out _ h).pow10);have HI2:=zh (fun W(h:Below w.heap.size w W)=>Tryz.strconv_Itoa (c.locals:Int) vT vT W (HG.out _ h).pow10);have hil1:=Lib.itoa_length_le (c.params:Int) vT vT;have hil2:=Lib.itoa_length_le (c.locals:Int) vT vT;have HTx:Hid ((((((⟨#[102,117,110,99,32]⟩++c.name)++⟨#[32]⟩)++⟨(Lib.itoa (c.params:Int)).toArray⟩)++⟨#[32]⟩)++⟨(Lib.itoa (c.locals:Int)).toArray⟩)++⟨#[10]⟩=bs (headL c)):=zh (cR (by simp[app_data,mk_data,bs_data,headL,mC]));generalize hi1:Lib.itoa (c.params:Int)=it1 at *;generalize hi2:Lib.itoa (c.locals:Int)=it2 at *;clear hi1 hi2;have hw5:=HB5.out.size;refine wp_region_held_drew (S:=fun W=>W.heap[wr.heap.size]? =some (.cells #[.string c.name,.int .i64 (c.params:Int),.int .i64 (c.locals:Int),.slice ac c.code.length cc] 168)/\Below w.heap.size w W) vU ⟨HX5.out,Below.drew HB5.out⟩ fun hS=>?_;refine zt 0 (.pointer (some ⟨wr.heap.size,0,none⟩)) rfl (fun W hW=>wT) hS ?_;(try simp only[zn]);refine zt 1 (.string c.name) rfl (fun W hW=>AD) hS ?_;(try simp only[zn]);refine zt 2 (.string (⟨#[102,117,110,99,32]⟩++c.name)) rfl (fun W hW=>wT) hS ?_;(try simp only[zn]);refine zt 3 (.string ((⟨#[102,117,110,99,32]⟩++c.name)++⟨#[32]⟩)) rfl (fun W hW=>wT) hS ?_;(try simp only[zn]);refine zt 4 (.pointer (some ⟨wr.heap.size,1,none⟩)) rfl (fun W hW=>wT) hS ?_;(try simp only[zn]);refine zt 5 (.int .i64 (c.params:Int)) rfl (fun W hW=>AD) hS ?_;(try simp only[zn]);refine zt 9 (.pointer (some ⟨wr.heap.size,2,none⟩)) rfl (fun W hW=>wT) hS ?_;(try simp only[zn]);refine zt 10 (.int .i64 (c.locals:Int)) rfl (fun W hW=>AD) hS ?_;(try simp only[zn]);refine zr 6 rfl (fun K hK=>?_);(try simp only[z1,z2,z3]);go_simp;refine(HI1.out w5.drew (Below.drew HB5.out)).mono ?_;rintro e wi6 ⟨rfl,ki,osi,rfl⟩;have hbi:=Lib.below_grow _ w5.drew (Nat.le_refl _) ki osi;generalize Sort.grow (World.drewN w5.drew ki) osi=wi6 at hbi ⊢;have HB6:=zh (aB (Below.drew HB5.out) hbi);have HX6:=zh (aD hbi (show w5.drew.heap[wr.heap.size]? =some (.cells #[.string c.name,.int .i64 (c.params:Int),.int .i64 (c.locals:Int),.slice ac c.code.length cc] 168) from HX5.out));have HBd6:=zh (fT (fT HBd5.out (aF _)) hbi);clear hbi;refine hK.out _ _ ⟨HX6.out,HB6.out⟩ (fun hS=>?_);clear hK K;(try simp only[zn]);refine zt 7 (.string (((⟨#[102,117,110,99,32]⟩++c.name)++⟨#[32]⟩)++⟨it1.toArray⟩)) rfl (fun W hW=>wT) hS ?_;(try simp only[zn]);refine zt 8 (.string ((((⟨#[102,117,110,99,32]⟩++c.name)++⟨#[32]⟩)++⟨it1.toArray⟩)++⟨#[32]⟩)) rfl (fun W hW=>wT) hS ?_;(try simp only[zn]);refine zr 11 rfl (fun K hK=>?_);(try simp only[z1,z2,z3]);go_simp;refine(HI2.out wi6 HB6.out).mono ?_;rintro e wi7 ⟨rfl,ki,osi,rfl⟩;have hbi:=Lib.below_grow _ wi6 (Nat.le_refl _) ki osi;generalize Sort.grow (World.drewN wi6 ki) osi=wi7 at hbi ⊢;have HB7:=zh (aB HB6.out hbi);have HX7:=zh (aD hbi HX6.out);have HBd7:=zh (fT HBd6.out hbi);clear hbi;refine hK.out _ _ ⟨HX7.out,HB7.out⟩ (fun hS=>?_);clear hK K;(try simp only[zn]);refine zt 12 (.string (((((⟨#[102,117,110,99,32]⟩++c.name)++⟨#[32]⟩)++⟨it1.toArray⟩)++⟨#[32]⟩)++⟨it2.toArray⟩)) rfl (fun W hW=>wT) hS ?_;(try simp only[zn]);refine zt 13 (.string ((((((⟨#[102,117,110,99,32]⟩++c.name)++⟨#[32]⟩)++⟨it1.toArray⟩)++⟨#[32]⟩)++⟨it2.toArray⟩)++⟨#[10]⟩)) rfl (fun W hW=>wT) hS ?_;(try simp only[zn]);refine zr 14 rfl (fun K hK=>?_);(try simp only[z1,z2,z3]);go_simp;(try rw[HTx.out]);have hw7:=HB7.out.size;refine(writeString_k w.heap.size w.heap.size _ (bs (headL c)) _ HBd7.out (by rw[Lib.byteCells_length,eX];omega) hw7).mono ?_;rintro e w8 ⟨rfl,hB8,hb8,hk8⟩;have HB8:=zh (HB7.out.trans hb8);have HX8:=zh (hk8 _ _ HX7.out (by intro e;have:=Option.some.inj e;omega) (by intro c fz e;cases e));have HBd8:Hid (Lib.BuilderAt 147 5 w.heap.size w.heap.size (.pointer (some ⟨w.heap.size,0,none⟩)) (Lib.byteCells (pre++headL c)) w8):=zh (by rw[Lib.byteCells_append];exact hB8);clear hB8 hb8 hk8;refine hK.out _ _ ⟨HX8.out,HB8.out⟩ (fun hS=>?_);clear hK K;(try simp only[zn]);refine wpAnyH_done vU ?_ _;clear hS;have hb8:=HB8.out.size;obtain⟨t0,t1,t2,t3⟩:=bx4 HX8.out;go_wp2_with fail;(go_loopw [35] (fun iv wz=>∃z:Nat,z<=c.code.length/\iv=.int .i64 (z:Int)/\Hid (Lib.IsBuilder 147 5 w.heap.size w.heap.size (Lib.byteCells (pre++headL c++(c.code.take z).flatMap cV)) wz)/\Hid (Below w.heap.size w wz)) (fun iv _=>c.code.length-(intOf iv).toNat));case atStart=>exact⟨0,Nat.zero_le _,rfl,zh (by rw[List.take_zero,List.flatMap_nil,List.append_nil];exact .inr HBd8.out),HB8⟩
    case round=>
     obtain⟨z,hz,rfl,HBz,HBw⟩:=hrel;(rename World=>wz);have hwz:=HBw.out.size;by_cases hlz:z<c.code.length
     ·obtain⟨x,hx,hmem⟩:=getElem?_of_lt hlz;obtain⟨b9,o9,rfl,-,cs9,⟨vn,rfl,hzs,hzm,hrn,hax0,hax1⟩,-,hj⟩:=HCR.out z x hx;obtain⟨an,cn,rfl,-,-,-⟩:=hrn.at;have d0:wz.cell? ⟨b9,o9+z*5,none⟩=some (.int .i64 x.op):=aC HBw.out (hj 0 _ rfl);have d1:=aC HBw.out (hj 1 _ rfl);have d2:=aC HBw.out (hj 2 _ rfl);have d3:=aC HBw.out (hj 3 _ rfl);have d4:=aC HBw.out (hj 4 _ rfl);have HB9:=zh (aB HBw.out (aA wz (.cells #[.int .i64 x.op,.int .i64 x.a,.string x.s,.string x.m,.slice an x.names.length cn] 171)));obtain⟨ho0,ho1⟩:=formed_op (HFo.out x hmem);have hln:=line_any x an cn N (wz.alloc (.cells #[.int .i64 x.op,.int .i64 x.a,.string x.s,.string x.m,.slice an x.names.length cn] 171)) (HG.out _ HB9.out) ho0 ho1 hax0 hax1 hzs hzm (hrn.moves aV (HMv.out _ HB9.out) vV) (by have:=formed_names (HFo.out x hmem);omega);unfold bL at hln;have HLN:=zh hln;have HT9:=zh (flat_take (f:=cV) hx)
      have hsz:(pre++headL c++(c.code.take z).flatMap cV).length+(cV x).length<=140737488355328:=by
       have h1:=lines_pre (c:=c) (z+1);rw[HT9.out,List.length_append] at h1;have h2:=HLn.out;have h3:c.code.length*175<=10000000000*175:=Nat.mul_le_mul_right _ HFc.out.1;rw[List.length_append,List.length_append];omega
      have HSz:=zh hsz;clear hln hx hmem hj hrn hzs hzm hsz ho0 ho1 hax0 hax1;go_wp2_with(go_at_call 112;refine HLN.out.mono ?_;rintro e w10 ⟨rfl,hb10⟩;have HB10:=zh (aB HB9.out hb10);have HBz10:=zh (fT (fT HBz.out (aA wz (.cells #[.int .i64 x.op,.int .i64 x.a,.string x.s,.string x.m,.slice an x.names.length cn] 171))) hb10));have hw10:=HB10.out.size;have HWS:=zh (writeString_k w.heap.size w.heap.size _ (bs (cV x)) _ HBz10.out (by rw[Lib.byteCells_length,eX];exact HSz.out) hw10);go_wp2_with(go_at_call 100;refine HWS.out.mono ?_;rintro e w11 ⟨rfl,hB11,hb11,-⟩);have HB11:=zh (HB10.out.trans hb11);have HBd11:=zh hB11;clear hB11 hb11 HWS d0 d1 d2 d3 d4;go_roundw;(case rel=>first|exact⟨z+1,vT,wH,zh (.inr vY),HB11⟩|exact⟨_,_,_,_,_,⟨z+1,vT,wH,zh (.inr vY),HB11⟩,rfl⟩|exact⟨_,_,_,_,_,_,⟨z+1,vT,wH,zh (.inr vY),HB11⟩,rfl⟩|exact⟨_,_,_,_,_,_,_,⟨z+1,vT,wH,zh (.inr vY),HB11⟩,rfl⟩|exact⟨_,_,_,_,_,_,_,_,⟨z+1,vT,wH,zh (.inr vY),HB11⟩,rfl⟩|exact⟨_,_,_,_,_,_,_,_,_,⟨z+1,vT,wH,zh (.inr vY),HB11⟩,rfl⟩|exact⟨_,_,_,_,_,_,_,_,_,_,⟨z+1,vT,wH,zh (.inr vY),HB11⟩,rfl⟩|exact⟨_,_,_,_,_,_,_,_,_,_,_,⟨z+1,vT,wH,zh (.inr vY),HB11⟩,rfl⟩|exact⟨_,_,_,_,_,_,_,_,_,_,_,_,⟨z+1,vT,wH,zh (.inr vY),HB11⟩,rfl⟩|exact⟨_,_,_,_,_,_,_,_,_,_,_,_,_,⟨z+1,vT,wH,zh (.inr vY),HB11⟩,rfl⟩|exact⟨_,_,_,_,_,_,_,_,_,_,_,_,_,_,⟨z+1,vT,wH,zh (.inr vY),HB11⟩,rfl⟩|exact⟨_,_,_,_,_,_,_,_,_,_,_,_,_,_,_,⟨z+1,vT,wH,zh (.inr vY),HB11⟩,rfl⟩|exact⟨_,_,_,_,_,_,_,_,_,_,_,_,_,_,_,_,⟨z+1,vT,wH,zh (.inr vY),HB11⟩,rfl⟩|exact⟨_,_,_,_,_,_,_,_,_,_,_,_,_,_,_,_,_,⟨z+1,vT,wH,zh (.inr vY),HB11⟩,rfl⟩|exact⟨_,_,_,_,_,_,_,_,_,_,_,_,_,_,_,_,_,_,⟨z+1,vT,wH,zh (.inr vY),HB11⟩,rfl⟩|exact⟨_,_,_,_,_,_,_,_,_,_,_,_,_,_,_,_,_,_,_,⟨z+1,vT,wH,zh (.inr vY),HB11⟩,rfl⟩|exact⟨_,_,_,_,_,_,_,_,_,_,_,_,_,_,_,_,_,_,_,_,⟨z+1,vT,wH,zh (.inr vY),HB11⟩,rfl⟩|exact⟨_,_,_,_,_,_,_,_,_,_,_,_,_,_,_,_,_,_,_,_,_,⟨z+1,vT,wH,zh (.inr vY),HB11⟩,rfl⟩|exact⟨_,_,_,_,_,_,_,_,_,_,_,_,_,_,_,_,_,_,_,_,_,_,⟨z+1,vT,wH,zh (.inr vY),HB11⟩,rfl⟩|exact⟨_,_,_,_,_,_,_,_,_,_,_,_,_,_,_,_,_,_,_,_,_,_,_,⟨z+1,vT,wH,zh (.inr vY),HB11⟩,rfl⟩|exact⟨_,_,_,_,_,_,_,_,_,_,_,_,_,_,_,_,_,_,_,_,_,_,_,_,⟨z+1,vT,wH,zh (.inr vY),HB11⟩,rfl⟩|exact⟨_,_,_,_,_,_,_,_,_,_,_,_,_,_,_,_,_,_,_,_,_,_,_,_,_,⟨z+1,vT,wH,zh (.inr vY),HB11⟩,rfl⟩|exact⟨_,_,_,_,_,_,_,_,_,_,_,_,_,_,_,_,_,_,_,_,_,_,_,_,_,_,⟨z+1,vT,wH,zh (.inr vY),HB11⟩,rfl⟩|exact⟨_,_,_,_,_,_,_,_,_,_,_,_,_,_,_,_,_,_,_,_,_,_,_,_,_,_,_,⟨z+1,vT,wH,zh (.inr vY),HB11⟩,rfl⟩|exact⟨_,_,_,_,_,_,_,_,_,_,_,_,_,_,_,_,_,_,_,_,_,_,_,_,_,_,_,_,⟨z+1,vT,wH,zh (.inr vY),HB11⟩,rfl⟩|exact⟨_,_,_,_,_,_,_,_,_,_,_,_,_,_,_,_,_,_,_,_,_,_,_,_,_,_,_,_,_,⟨z+1,vT,wH,zh (.inr vY),HB11⟩,rfl⟩);case measure=>simp[intOf];omega
     ·have hz':c.code.take z=c.code:=List.take_of_length_le vT;rw[hz'] at HBz;clear hz';go_wp2_with fail;go_roundw;(case rel=>first|exact⟨q+1,vT,wH,zh wB,HBw,HRc⟩|exact⟨_,_,_,_,_,⟨q+1,vT,wH,zh wB,HBw,HRc⟩,rfl⟩|exact⟨_,_,_,_,_,_,⟨q+1,vT,wH,zh wB,HBw,HRc⟩,rfl⟩|exact⟨_,_,_,_,_,_,_,⟨q+1,vT,wH,zh wB,HBw,HRc⟩,rfl⟩|exact⟨_,_,_,_,_,_,_,_,⟨q+1,vT,wH,zh wB,HBw,HRc⟩,rfl⟩|exact⟨_,_,_,_,_,_,_,_,_,⟨q+1,vT,wH,zh wB,HBw,HRc⟩,rfl⟩|exact⟨_,_,_,_,_,_,_,_,_,_,⟨q+1,vT,wH,zh wB,HBw,HRc⟩,rfl⟩|exact⟨_,_,_,_,_,_,_,_,_,_,_,⟨q+1,vT,wH,zh wB,HBw,HRc⟩,rfl⟩|exact⟨_,_,_,_,_,_,_,_,_,_,_,_,⟨q+1,vT,wH,zh wB,HBw,HRc⟩,rfl⟩|exact⟨_,_,_,_,_,_,_,_,_,_,_,_,_,⟨q+1,vT,wH,zh wB,HBw,HRc⟩,rfl⟩|exact⟨_,_,_,_,_,_,_,_,_,_,_,_,_,_,⟨q+1,vT,wH,zh wB,HBw,HRc⟩,rfl⟩|exact⟨_,_,_,_,_,_,_,_,_,_,_,_,_,_,_,⟨q+1,vT,wH,zh wB,HBw,HRc⟩,rfl⟩|exact⟨_,_,_,_,_,_,_,_,_,_,_,_,_,_,_,_,⟨q+1,vT,wH,zh wB,HBw,HRc⟩,rfl⟩|exact⟨_,_,_,_,_,_,_,_,_,_,_,_,_,_,_,_,_,⟨q+1,vT,wH,zh wB,HBw,HRc⟩,rfl⟩|exact⟨_,_,_,_,_,_,_,_,_,_,_,_,_,_,_,_,_,_,⟨q+1,vT,wH,zh wB,HBw,HRc⟩,rfl⟩|exact⟨_,_,_,_,_,_,_,_,_,_,_,_,_,_,_,_,_,_,_,⟨q+1,vT,wH,zh wB,HBw,HRc⟩,rfl⟩|exact⟨_,_,_,_,_,_,_,_,_,_,_,_,_,_,_,_,_,_,_,_,⟨q+1,vT,wH,zh wB,HBw,HRc⟩,rfl⟩|exact⟨_,_,_,_,_,_,_,_,_,_,_,_,_,_,_,_,_,_,_,_,_,⟨q+1,vT,wH,zh wB,HBw,HRc⟩,rfl⟩|exact⟨_,_,_,_,_,_,_,_,_,_,_,_,_,_,_,_,_,_,_,_,_,_,⟨q+1,vT,wH,zh wB,HBw,HRc⟩,rfl⟩|exact⟨_,_,_,_,_,_,_,_,_,_,_,_,_,_,_,_,_,_,_,_,_,_,_,⟨q+1,vT,wH,zh wB,HBw,HRc⟩,rfl⟩|exact⟨_,_,_,_,_,_,_,_,_,_,_,_,_,_,_,_,_,_,_,_,_,_,_,_,⟨q+1,vT,wH,zh wB,HBw,HRc⟩,rfl⟩|exact⟨_,_,_,_,_,_,_,_,_,_,_,_,_,_,_,_,_,_,_,_,_,_,_,_,_,⟨q+1,vT,wH,zh wB,HBw,HRc⟩,rfl⟩|exact⟨_,_,_,_,_,_,_,_,_,_,_,_,_,_,_,_,_,_,_,_,_,_,_,_,_,_,⟨q+1,vT,wH,zh wB,HBw,HRc⟩,rfl⟩|exact⟨_,_,_,_,_,_,_,_,_,_,_,_,_,_,_,_,_,_,_,_,_,_,_,_,_,_,_,⟨q+1,vT,wH,zh wB,HBw,HRc⟩,rfl⟩|exact⟨_,_,_,_,_,_,_,_,_,_,_,_,_,_,_,_,_,_,_,_,_,_,_,_,_,_,_,_,⟨q+1,vT,wH,zh wB,HBw,HRc⟩,rfl⟩|exact⟨_,_,_,_,_,_,_,_,_,_,_,_,_,_,_,_,_,_,_,_,_,_,_,_,_,_,_,_,_,⟨q+1,vT,wH,zh wB,HBw,HRc⟩,rfl⟩);case measure=>simp[intOf];omega
  ·have hq':l.take q=l:=List.take_of_length_le vT;rw[hq'] at HBd HR
   have HF:Hid (listC l=⟨(l.flatMap codL).toArray⟩):=zh (by
    unfold listC
    rw[if_pos (List.all_eq_true.2 HR.out)])
   clear HR hq';go_wp2_with(go_at_call 101;refine(Tryz.Builder_String_any w.heap.size w.heap.size _ _ HBd.out hwr).mono ?_;rintro e w' ⟨rfl,hb'⟩);go_ret;exact⟨eQ HF.out.symm,HB.out.trans hb'⟩
set_option maxHeartbeats 2000000
theorem lastIdx_ge(s:ByteArray):∀(l:List ByteArray),-1<=eB l s/\eB l s<l.length
 |[]=>by simp[eB]
 |x::r=>by
  have:=lastIdx_ge s r;rw[eB,List.length_cons];split
  ·omega
  ·split<;>omega
theorem lastIdx_off(s:ByteArray):∀(l:List ByteArray)(k:Nat),0<=eB (l.drop k) s->eB l s=eB (l.drop k) s+k
 |l,0,_=>vZ
 |[],k+1,h=>by simp[eB] at h
 |x::r,k+1,h=>by
  rw[List.drop_succ_cons] at h ⊢;have:=lastIdx_off s r k h;rw[eB,if_pos vT,this];omega
theorem lastIdx_hit{s x:ByteArray}{l:List ByteArray}{k:Nat}(hx:l[k]? =some x)(h:eB (l.drop (k+1)) s= -1)(he:x=s):eB l s=k:=by
 obtain⟨hk,hv⟩:=List.getElem?_eq_some_iff.1 hx;have e:eB (l.drop k) s=0:=by rw[List.drop_eq_getElem_cons hk,eB,h,hv,if_neg vT,if_pos he]
 have:=lastIdx_off s l k vT;omega
theorem lastIdx_miss{s x:ByteArray}{l:List ByteArray}{k:Nat}(hx:l[k]? =some x)(h:eB (l.drop (k+1)) s= -1)(he:x≠s):eB (l.drop k) s= -1:=by
 obtain⟨hk,hv⟩:=List.getElem?_eq_some_iff.1 hx;rw[List.drop_eq_getElem_cons hk,eB,h,hv,if_neg vT,if_neg he]
theorem clast_any(l:List ByteArray)(s:ByteArray)(v:Value)(w:World)(hl:l.length<=1000000)(hv:Strs w v l):
  Calls Tryz.prog 153 #[v,.string s] w fun e w'=>e=.returned (.int .i64 (eB l s))/\w=w':=by
 rcases hv.cases with⟨rfl,a,c,rfl⟩|⟨b,o,c,rfl,h0,h1,h2,hb,hc⟩
 ·clear hv;go_enter Tryz.func153,Tryz.ntmps153;go_wp2_with fail;go_loop [5] (fun i=>i=.int .i64 (-1)) (fun _=>0)
  case atStart=>rfl
  case round=>
   subst hrel;exact uH
 ·clear hv;have HC:=zh hc;clear hc;go_enter Tryz.func153,Tryz.ntmps153;go_wp2_with fail;go_loop [5] (fun i=>∃k:Nat,k<=l.length/\i=.int .i64 ((k:Int)-1)/\Hid (eB (l.drop k) s= -1)) (fun i=>(intOf i+1).toNat)
  case atStart=>exact⟨l.length,Nat.le_refl _,rfl,zh (by rw[List.drop_length];rfl)⟩
  case round=>
   obtain⟨k,hk,rfl,HL⟩:=hrel
   cases k with
   |zero=>
    have HF:Hid (eB l s= -1):=HL;go_wp2_with fail;go_ret;exact⟨fQ HF.out.symm,rfl⟩
   |succ k=>
    obtain⟨x,hx,-⟩:=getElem?_of_lt (show k<l.length by omega);have hcell:=(HC.out k x hx).1;have e1:((k+1:Nat):Int)-1=(k:Int):=vT;rw[e1];by_cases he:x=s
    ·(have he':(x.toList==s.toList)=true:=by rw[dD];exact decide_eq_true he);have HF:=zh (lastIdx_hit hx HL.out he);clear he hx HC;go_wp2_with fail;go_ret;exact⟨fQ HF.out.symm,rfl⟩
    ·have he':(x.toList==s.toList)=false:=AY;have HF:=zh (lastIdx_miss hx HL.out he);clear he hx HC;go_wp2_with fail
     go_round
     (case rel=>exact⟨k,vT,wH,HF⟩);case measure=>simp[intOf]
theorem enters_variable1:∀args w,(callFunc 200 args).run Tryz.prog w=.ok (.enter 200 args) w:=enters_of Tryz.func200 vU rfl
theorem variable1_any(s n:ByteArray)(k:Int)(a:Option Addr)(m c b:Nat)(w:World)(hb:w.cell? ⟨b,0,none⟩=some (.string s)):
  Calls Tryz.prog 200 #[.agg #[.string n,.int .i64 k,.slice a m c],.pointer (some ⟨b,0,none⟩)] w fun e w'=>e=.returned (.bool (decide (n=s)))/\Below w.heap.size w w':=by
 have hlt:=dC hb;go_enter Tryz.func200,Tryz.ntmps200;go_wp2_with fail;go_ret;exact⟨aE (dD _ _),aA _ _⟩
theorem varIdx_eq(l:List Fld)(s:ByteArray):jS (l.map (·.1)) s=mM (fun f:Fld=>decide (f.1=s)) l:=by
 unfold jS mM;rw[List.findIdx?_map];rfl
def TestsFld(g:FuncId)(cap:Array Value)(p:ByteArray->Bool)(w:World):Prop:=
 ∀(n:ByteArray)(k:Int)(a:Option Addr)(m c:Nat)W,Below w.heap.size w W->Calls Tryz.prog g (#[.agg #[.string n,.int .i64 k,.slice a m c]]++cap) W fun e W'=>e=.returned (.bool (p n))/\Below W.heap.size W W'
theorem indexFunc_fld(g:FuncId)(cap:Array Value)(p:ByteArray->Bool)(l:List Fld)(N:Nat->Prop)(v:Value)(w:World)(hv:aK 3 gP N w v l)
  (eg:∀args w,(callFunc g args).run Tryz.prog w=.ok (.enter g args) w) (hp:TestsFld g cap p w):
  Calls Tryz.prog 199 #[v,.func (.func g) #[] cap] w fun e w'=>e=.returned (.int .i64 (mM (fun f:Fld=>p f.1) l))/\Below w.heap.size w w':=by
 have HP:=zh hp;clear hp;rcases hv.cases vV with⟨rfl,a,c,rfl⟩|⟨b,o,c,rfl,h0,h1,h2,hb,hN,hc⟩
 ·clear hv;go_enter Tryz.func199,Tryz.ntmps199;exact sX
 ·clear hv;have HC:=zh hc;clear hc;go_enter Tryz.func199,Tryz.ntmps199;go_wp2_with fail;go_loopw [8] (fun i wr=>∃k:Nat,k<=l.length/\i=.int .i64 k/\Hid (∀x,x∈l.take k->p x.1=false)/\Hid (Below w.heap.size w wr)) (fun i _=>l.length-(intOf i).toNat)
  case atStart=>exact⟨0,Nat.zero_le _,rfl,zh vZ,zh (Below.refl _ _)⟩
  case round=>
   obtain⟨k,hk,rfl,HN,HB⟩:=hrel;(rename World=>wr);by_cases hlt:k<l.length
   ·obtain⟨x,hx,hxl⟩:=getElem?_of_lt hlt;obtain⟨cs,het,-,hj⟩:=HC.out k x hx;obtain⟨nm,t⟩:=x;obtain⟨ct,rfl,hsz,hty⟩:=het
    cases t with
    |mk kd fs=>
     rw[iE] at hty;obtain⟨vf,rfl,hr1⟩:=hty;obtain⟨a1,cc1,rfl,-⟩:=hr1;have c0:wr.cell? ⟨b,o+k*3,none⟩=some (.string nm):=aC HB.out (hj 0 _ rfl);have c1:=aC HB.out (hj 1 _ rfl);have c2:=aC HB.out (hj 2 _ rfl);have HX:=zh hx;have hcall:=zh (HP.out nm kd a1 fs.length cc1 _ HB.out);clear hj hx hxl HC;generalize fs.length=ln at *
     cases hq:p nm with
     |true=>
      rw[hq] at hcall;have HQ:=zh hq;clear hq;go_wp2_with(go_at_fn g;refine(hcall.out).mono ?_;rintro e w' ⟨rfl,hb'⟩);go_ret;exact⟨fQ (idxOf_some (p:=fun f:Fld=>p f.1) (pL HX.out HQ.out HN.out)).symm,aB HB.out hb'⟩
     |false=>
      rw[hq] at hcall;have HQ:=zh hq;clear hq;go_wp2_with(go_at_fn g;refine(hcall.out).mono ?_;rintro e w' ⟨rfl,hb'⟩);go_roundw;(case rel=>exact⟨k+1,vT,wH,zh (take_no (p:=fun f:Fld=>p f.1) HX.out HQ.out HN.out),zh (aB HB.out hb')⟩);case measure=>simp[intOf];omega
   ·go_wp2_with fail;go_ret;exact⟨fQ (idxOf_none (p:=fun f:Fld=>p f.1) (nQ vT HN.out)).symm,HB.out⟩
theorem variable_any(cb:Nat)(vars:List Fld)(N:Nat->Prop)(vv:Value)(u1 u2:Value)(s:ByteArray)(w:World)(hbox:w.heap[cb]? =some (.cells #[vv,u1,u2] 182))(hv:aK 3 gP N w vv vars):
  Calls Tryz.prog 154 #[.pointer (some ⟨cb,0,none⟩),.string s] w fun e w'=>e=.returned (.int .i64 (jS (vars.map (·.1)) s))/\Below w.heap.size w w':=by
 have hidx:∀W,Below w.heap.size w W->W.heap[w.heap.size]? =some (.cells #[.string s] 9)->Calls Tryz.prog 199 #[vv,.func (.func 200) #[] #[.pointer (some ⟨w.heap.size,0,none⟩)]] W
   fun e w'=>e=.returned (.int .i64 (jS (vars.map (·.1)) s))/\Below W.heap.size W w':=fun W hb hW=>by
  rw[varIdx_eq];refine indexFunc_fld _ _ (fun n=>decide (n=s)) vars N vv W (hv.moves bA (bX.later hb) vV) enters_variable1 (fun n k a m c W' hb'=>?_);have h0:W.cell? ⟨w.heap.size,0,none⟩=some (.string s):=by simp[World.cell?,hW]
  exact variable1_any s n k a m c w.heap.size W' (aC hb' h0)
 have HI:=zh hidx;clear hidx;generalize jS (vars.map (·.1)) s=r at HI ⊢;obtain⟨a,c,rfl,-⟩:=hv;generalize vars.length=n at *;obtain⟨⟨b0,b1,b2⟩,-⟩:=bx3 hbox;have hlt:=dC b0;clear hbox;go_enter Tryz.func154,Tryz.ntmps154;go_wp2_with(go_at_call 199;refine(HI.out _ (aA _ _) (aN _ _)).mono ?_;rintro e w' ⟨rfl,hb'⟩);go_ret;exact⟨rfl,aB (aA _ _) hb'⟩
end Go.Proofs.YtacgopankhpnbaaGreatDoor
