/- Joined. -/
import Derived.Test.YtacgopankhpnbaaGreatDoorTQX
import Derived.Test.YtacgopankhpnbaaGreatDoorTQT
set_option maxHeartbeats 8000000
set_option maxRecDepth 100000
set_option linter.unusedVariables false
set_option linter.unusedSimpArgs false
namespace Go.Proofs.YtacgopankhpnbaaGreatDoor
open Go.RowKit
theorem small_sz(l:List bA)(h:l.all (fun x=>decide (x.size<=100))=true):∀x,x∈l->x.size<=140737488355328:=by
 intro x hx;have:=List.all_eq_true.1 h x hx;simp at this;omega
theorem flatMap_at{α:Type}{k:Nat}(f:α->List Value):∀(l:List α)(i:Nat)(x:α)(j:Nat),(∀y,y∈l->(f y).length=k)->l[i]? =some x->j<k->(l.flatMap f)[i*k+j]? =(f x)[j]?
 |[],i,x,j,_,h,_=>aBF
 |a::l,0,x,j,hf,h,hj=>by
  simp at h;subst h;rw[List.flatMap_cons,List.getElem?_append_left (by rw[hf a aAQ];omega)];simp
 |a::l,i+1,x,j,hf,h,hj=>by
  have ha:=hf a aAQ;rw[List.flatMap_cons,List.getElem?_append_right (by rw[ha,Nat.add_mul];omega),ha,show(i+1)*k+j-k=i*k+j by rw[Nat.add_mul];omega];exact flatMap_at f l i x j (fun y hy=>hf y (by simp[hy])) aBn hj
theorem row_made{α:Type}{k:Nat}{enc:World->α->List Value->Prop}{w:World}{g:Nat}{cs:Array Value}{t:TypeId}{fr:Nat×Nat}(l:List α)(f:α->List Value)(h:w.heap[g]? =some (.cells cs t fr))(wC:cs.toList=l.flatMap f)
  (hl:l.length<=140737488355328) (hf:∀x,x∈l->(f x).length=k/\enc w x (f x)):Row k enc w (.slice (some ⟨g,0,none⟩) l.length l.length) l:=by
 refine⟨_,l.length,rfl,Nat.le_refl _,aAM,fun _=>⟨g,0,rfl,fun i x hx=>⟨f x,(hf x (List.mem_of_getElem? hx)).2,(hf x (List.mem_of_getElem? hx)).1,fun j u hu=>?_⟩⟩⟩;have hk:=(hf x (List.mem_of_getElem? hx)).1;have hj:j<k:=by rw[<-hk];exact(Yb.1 hu).1
 have h1:=flatMap_at f l i x j (fun y hy=>(hf y hy).1) hx hj;rw[hu,<-wC] at h1;simp only[World.cell?,h];simpa using h1
abbrev stpCells(y:Value×Stp):List Value:=[.int .i64 y.2.kind,y.1,.string y.2.out,.bool y.2.sorted]
def RcpPost(r:Rcp)(w:World)(e:Ending)(w':World):Prop:=∃vi vs L,e=.returned (jD vi vs r.output)/\dR r L vi vs w'/\Below w.heap.size w w'
def AnyBool(w:World)(e:Ending)(w':World):Prop:=∃q,e=.returned (.bool q)/\Below w.heap.size w w'
theorem aAd{p:Prop}(h:p:=by
 go_wp2_with fail;refine bodyPost_ret (v:=fiV (some k)) aCt rfl ?_
 exact⟨by rw[zY.out],EW.out⟩):p:=h
theorem readDn_some{steps:List Stp}{st st':RSt}{d:Dn}(h:iV steps st d=some st'):∃(i:Nat)(s:Stp),d.step=(i:Int)/\steps[i]? =some s/\d.saw.length=iC s:=by
 unfold iV at h;split at h
 ·cases h
 rename_i h0;split at h
 ·cases h
 rename_i s hs;split at h
 ·cases h
 rename_i h1;rw[not_or] at h1;exact⟨d.step.toNat,s,aAM,hs,by simpa using h1.2⟩
theorem readAll_each{steps:List Stp}:∀{l:List Dn}{st st':RSt},jG steps l st=some st'->∀d,d∈l->∃(i:Nat)(s:Stp),d.step=(i:Int)/\steps[i]? =some s/\d.saw.length=iC s
 |[],_,_,_,d,hd=>by cases hd
 |x::l,st,st',h,d,hd=>by
  rw[jG] at h;split at h
  ·cases h
  rename_i st1 h1;rcases List.mem_cons.1 hd with rfl|hm
  ·exact readDn_some h1
  exact readAll_each h d hm
theorem readL_each{r:Rcp}{l:List Dn}{st:RSt}(h:bQ r l=some st):∀d,d∈l->∃(i:Nat)(s:Stp),d.step=(i:Int)/\r.steps[i]? =some s/\d.saw.length=iC s:=by
 unfold bQ at h;split at h
 ·cases h
 exact readAll_each h
theorem replayL_err{C:bA->Int×bA}{s:Stp}{saw:List bA}{clock order:List Int}{q:Int}(h:eX C s saw clock order=.error q):q≠0:=by
 unfold eX at h;split at h
 ·cases h;decide
 split at h
 ·rename_i e he;cases h;exact doStep_err he
 cases h
theorem wrong_any(C:bA->Int×bA)(r:Rcp)(L:List (Value×Stp))(Ld:List (Value×Dn))(vi vs vl:Value)(w:World)(h:dR r L vi vs w)(hl:Dns w vl Ld)(hG:dL w)(hD:∀s,s∈r.steps->bZ s=true->DoAll C s):
  Calls Tryz.prog 48 #[jD vi vs r.output,vl] w fun e w'=>e=.returned (fiV (nD C r (Ld.map (·.2))))/\Below w.heap.size w w':=by
 have HR:=zh h;have HL:=zh hl;have HGl:=zh hG;have HD:=zh hD;have vB:=zh h.len;have sH:=zh (aA w (aY vi vs r.output));have tZ:=zh (aH w (aY vi vs r.output));have PV:=zh (pO r L Ld vi vs vl _ (h.later sH.out) (hl.later sH.out));obtain⟨ai,ci,av,cv,rfl,rfl⟩:=h.slices;obtain⟨al,cl,rfl⟩:=fB hl;obtain⟨r0,r1,r2⟩:=bD tZ.out;have uH:=zh (show nD C r (Ld.map (·.2))=if(bQ r (Ld.map (·.2))).isSome then(Ld.map (·.2)).findIdx? (oN C r.steps) else none from rfl);generalize nD C r (Ld.map (·.2))=res at uH ⊢
 cases QT:bQ r (Ld.map (·.2)) with
 |none=>
  rw[QT] at PV uH;obtain rfl:res=none:=uH.out;clear h hl hG hD QT;go_enter Tryz.func48,Tryz.ntmps48;go_wp2_with fail;refine PV.out.mono ?_;rintro e w1 ⟨rfl,hb⟩;have sV:=zh (aB sH.out hb);clear hb r0 r1 r2;rw[show(none:Option RSt).isSome=false from rfl];go_wp2_with fail;refine bodyPost_ret (v:=fiV none) aCt rfl ?_;exact⟨rfl,sV.out⟩
 |some st=>
  rw[QT] at PV uH;have OE:=zh (show res=(Ld.map (·.2)).findIdx? (oN C r.steps) from uH.out);have HE:=zh (readL_each QT);have EF:=zh (readL_right QT);clear h hl hG hD QT uH;go_enter Tryz.func48,Tryz.ntmps48;go_wp2_with fail;refine PV.out.mono ?_;rintro e w1 ⟨rfl,hb⟩
  replace tZ:=zh (aD hb tZ.out)
  replace sH:=zh (aB sH.out hb)
  clear hb r0 r1 r2 PV;rw[show(some st).isSome=true from rfl];go_wp2_with fail;go_loopw [16] (fun kv wr=>∃k:Nat,k<=Ld.length/\kv=.int .i64 k/\Hid (∀x,x∈(Ld.map (·.2)).take k->oN C r.steps x=false)/\Hid (Below w1.heap.size w1 wr)) (fun kv _=>Ld.length-(intOf kv).toNat)
  case atStart=>exact⟨0,Nat.zero_le _,rfl,zh (fun x hx=>by simp at hx),zh (Below.refl _ _)⟩
  case round=>
   obtain⟨k,hk,rfl,LZ,wX⟩:=hrel;(rename World=>wr);have tP:=zh (aB sH.out wX.out);by_cases sE:k<Ld.length
   ·obtain⟨y,hy,CE⟩:=getElem?_of_lt sE;rcases(HL.out.later tP.out).cases with⟨e,-⟩|⟨bl,ol,c,e,-,yQ,zR,-,hc⟩
    ·exact aAy
    obtain⟨rfl,rfl⟩:al=some ⟨bl,ol,none⟩/\cl=c:=aAT;obtain⟨d0,d1,d2,dstr,doz⟩:=hc k y hy;have HYk:Hid ((Ld.map (·.2))[k]? =some y.2):=zh (by rw[List.getElem?_map,hy];rfl);obtain⟨i,s,vO,hs,hsaw⟩:=HE.out y.2 (List.mem_map.2 ⟨y,CE,rfl⟩);obtain⟨yv,step,saw,out⟩:=y;simp only at d0 d1 d2 dstr vO hsaw HYk;subst vO;obtain⟨sa,sc,rfl⟩:=bW dstr
    have HW:=zh (show oN C r.steps ⟨(i:Int),saw,out⟩=(bZ s&&(match eX C s saw [] [] with
     | .ok t=>decide (t≠out)
     | .error _=>true)) by unfold oN;simp only[Int.toNat_natCast,hs];rfl)
    obtain⟨ys,DR,UV⟩:∃ys,L[i]? =some ys/\ys.2=s:=by
     have h1:=hs;rw[<-HR.out.map,List.getElem?_map] at h1
     cases hq:L[i]? with
     |none=>rw[hq] at h1;cases h1
     |some ys=>rw[hq] at h1;exact⟨ys,rfl,by simpa using h1⟩
    subst UV;have hi:i<L.length:=(Yb.1 DR).1;have xB:=zh (aB wX.out (aA wr (rK i sa saw.length sc out)));have HBd2:=zh (aB sH.out xB.out);have xV:=zh (aH wr (rK i sa saw.length sc out));rcases(HR.out.later HBd2.out).stp.cases with⟨e',-⟩|⟨bs,os,c',e',-,-,-,-,FH⟩
    ·rw[e'] at hi;simp at hi
    obtain⟨rfl,rfl⟩:av=some ⟨bs,os,none⟩/\cv=c':=aBM;obtain⟨s0,s1,s2,s3,hsrc,hyo⟩:=FH i ys DR;obtain⟨r0,r1,r2⟩:=bD (aD xB.out tZ.out);have IN:=zh (dstr.later (aA wr (rK i sa saw.length sc out)));have HS:=zh hs;have JR:=zh (List.mem_of_getElem? hs);have K6:=zh (oE ys.2 ys.1 _ hsrc hyo);have HSw:=zh hsaw;obtain⟨ysv,kind,src,yo,sorted⟩:=ys;simp only at s0 s1 s2 s3 K6 HW HS JR HSw hsrc;obtain⟨ya,yc,rfl⟩:=bW hsrc;have vA:(0:Int)<=(i:Int):=aAM;have DD:(i:Int)<(L.length:Int):=aAM;clear hc FH e e' hy CE DR hs hsaw hsrc dstr doz
    cases EQ:bZ ⟨kind,src,yo,sorted⟩ with
    |false=>
     rw[EQ] at K6 HW;have SC:=zh (qF HYk.out (HW.out.trans (Bool.false_and _)) LZ.out);clear EQ;go_wp2_with fail;refine K6.out.mono ?_;rintro e w3 ⟨rfl,hb⟩;have wL:=zh (aB xB.out hb);clear hb;go_wp2_with fail;go_roundw;(case rel=>exact⟨k+1,aAM,aAV,SC,wL⟩);case measure=>simp[intOf];omega
    |true=>
     rw[EQ] at K6 HW;have HDs:=zh (HD.out _ JR.out EQ);clear EQ;go_wp2_with fail;refine K6.out.mono ?_;rintro e w3 ⟨rfl,hb⟩;have wL:=zh (aB xB.out hb);have xJ:=zh (aB sH.out wL.out);have GH:=zh (aD hb xV.out);have LX:=zh (replay_good C r L _ _ (.slice sa saw.length sc) (.slice none 0 0) (.slice none 0 0) (.slice none 0 0) ⟨kind,src,yo,sorted⟩ i saw out [] [] [] w3 (HR.out.later xJ.out) ⟨mF _,mF _,mF _,fun x hx=>(by cases hx),fun x hx=>(by cases hx),fun x hx=>(by cases hx)⟩ (HGl.out.later xJ.out) EF.out HS.out (IN.out.later hb) HSw.out HDs.out);clear hb r0 r1 r2 s0 s1 s2 s3;obtain⟨r0,r1,r2⟩:=bD (aD wL.out tZ.out);obtain⟨e0,e1,e2⟩:=bD GH.out
     cases QS:eX C ⟨kind,src,yo,sorted⟩ saw [] [] with
     |error q=>
      rw[QS] at LX HW;have hq:=replayL_err QS;have yP:(q==0)=false:=beq_eq_false_iff_ne.2 hq;(have AQ:(q != 0)=true:=by rw[bne_iff_ne];exact hq);have zY:=zh (show res=some k by rw[OE.out];exact mG HYk.out (HW.out.trans rfl) LZ.out);clear QS hq;go_wp2_with fail;refine LX.out.mono ?_;rintro e w5 ⟨hb,rfl⟩;have EW:=zh (aB xJ.out hb);clear hb r0 r1 r2 e0 e1 e2;exact aAd
     |ok t=>
      rw[QS] at LX HW;by_cases QL:t=out
      ·have SC:=zh (qF HYk.out (HW.out.trans (by simp[QL])) LZ.out);subst QL;clear QS;go_wp2_with fail;refine LX.out.mono ?_;rintro e w5 ⟨hb,rfl⟩;have EW:=zh (aB wL.out hb);have XQ:=zh (aD hb GH.out);clear hb r0 r1 r2 e0 e1 e2;obtain⟨e0,e1,e2⟩:=bD XQ.out;go_wp2_with fail;go_roundw;(case rel=>exact⟨k+1,aAM,aAV,SC,EW⟩);case measure=>simp[intOf];omega
      have zY:=zh (show res=some k by rw[OE.out];exact mG HYk.out (HW.out.trans (by simp[QL])) LZ.out);(have hto2:(t.toList==out.toList)=false:=by rw[bI];exact decide_eq_false QL);clear QS;go_wp2_with fail;refine LX.out.mono ?_;rintro e w5 ⟨hb,rfl⟩;have EW:=zh (aB xJ.out hb);have XQ:=zh (aD hb GH.out);clear hb r0 r1 r2 e0 e1 e2;obtain⟨e0,e1,e2⟩:=bD XQ.out;exact aAd
   obtain rfl:k=Ld.length:=aAM;have zY:=zh (show res=none by rw[OE.out];exact mT aAQ LZ.out);go_wp2_with fail;refine bodyPost_ret (v:=fiV none) aCt rfl ?_;exact⟨by rw[zY.out],tP.out⟩
theorem X7{p:Prop}(h:p:=by
 clear sE;go_wp2_with fail;go_loop [4] (fun i=>∃k:Nat,k<=L.length/\i=.int .i64 k) (fun i=>L.length-(intOf i).toNat)
 case atStart=>exact⟨0,Nat.zero_le _,rfl⟩
 case round=>
  obtain⟨k2,CG,rfl⟩:=hrel;by_cases wJ:k2<L.length/\k2<13
  ·obtain⟨wJ,h9⟩:=wJ;obtain⟨y,hy,-⟩:=getElem?_of_lt wJ;rcases xX.out.stp.cases with⟨e,-⟩|⟨b,o,c,e,-,-,-,-,hc⟩
   ·rw[e] at wJ;simp at wJ
   obtain⟨rfl,rfl⟩:av=some ⟨b,o,none⟩/\cv=c:=aAT;obtain⟨-,s1,-,-,hsrc,-⟩:=hc k2 y hy;obtain⟨sa,sc,hse⟩:=bW hsrc;rw[hse] at s1;generalize y.2.src.length=ns at s1;clear hc e hy hsrc hse;by_cases ht:(6:Int)<ns
   ·go_wp2_with fail;go_ret;exact⟨_,rfl,HB.out⟩
   go_wp2_with fail
   go_round
   (case rel=>exact⟨k2+1,aAM,aAV⟩);case measure=>simp[intOf];omega
  by_cases BX:k2<L.length
  ·have h14:¬k2<13:=fun h=>wJ ⟨BX,h⟩;clear wJ;by_cases h8:(r.inputs.length:Int)<=8
   ·by_cases CT:(L.length:Int)<=12
    ·first|(exfalso;omega)|(go_wp2_with fail;go_ret;exact⟨_,rfl,HB.out⟩)
    first|(exfalso;omega)|(go_wp2_with fail;go_ret;exact⟨_,rfl,HB.out⟩)
   first|(exfalso;omega)|(go_wp2_with fail;go_ret;exact⟨_,rfl,HB.out⟩)
  clear wJ;by_cases h8:(r.inputs.length:Int)<=8
  ·by_cases CT:(L.length:Int)<=12
   ·first|(exfalso;omega)|(go_wp2_with fail;go_ret;exact⟨_,rfl,HB.out⟩)
   first|(exfalso;omega)|(go_wp2_with fail;go_ret;exact⟨_,rfl,HB.out⟩)
  first|(exfalso;omega)|(go_wp2_with fail;go_ret;exact⟨_,rfl,HB.out⟩)):p:=h
theorem ints04_any(a b:List Int)(va vb:Value)(w:World)(ha:hJ w va a)(hb:hJ w vb b):
  Calls Tryz.prog 70 #[va,vb] w fun e w'=>e=.returned (.bool (decide (a=b)))/\Below w.heap.size w w':=by
 obtain⟨aa,ca,hva,sT,tD,-⟩:=id ha;obtain⟨ab,cb,hvb,sF,sD,-⟩:=id hb;subst hva hvb;have HA:=zh ha;have HB:=zh hb;clear ha hb;by_cases hl:a.length=b.length
 ·have HL:=zh hl;rw[<-hl] at sF HB ⊢;clear hl;go_enter Tryz.func70,Tryz.ntmps70;go_wp2_with fail;go_loopw [5] (fun i wr=>∃k:Nat,k<=a.length/\i=.int .i64 k/\Hid (a.take k=b.take k)/\Hid (Below w.heap.size w wr)) (fun i _=>a.length-(intOf i).toNat)
  case atStart=>exact⟨0,Nat.zero_le _,rfl,zh rfl,zh (Below.refl _ _)⟩
  case round=>
   obtain⟨k,hk,rfl,HT,HW⟩:=hrel;(rename World=>wr);by_cases sE:k<a.length
   ·obtain⟨x,hx,-⟩:=getElem?_of_lt sE;obtain⟨y,hy,-⟩:=getElem?_of_lt (show k<b.length by rw[<-HL.out];exact sE);rcases(HA.out.later HW.out).cases with⟨e,-⟩|⟨b1,o1,c1,e,-,-,-,-,hc⟩
    ·subst e;simp at sE
    obtain⟨rfl,rfl⟩:aa=some ⟨b1,o1,none⟩/\ca=c1:=aAT;have hB:=HB.out.later HW.out
    obtain⟨b2,o2,c2,e2,cy⟩:∃b2 o2 c2,Value.slice ab a.length cb=.slice (some ⟨b2,o2,none⟩) b.length c2/\wr.cell? ⟨b2,o2+k,none⟩=some (.int .i64 y):=by
     rcases hB.cases with⟨e,-⟩|⟨b2,o2,c2,e,-,-,-,-,tU⟩
     ·rw[e] at hy;simp at hy
     exact⟨b2,o2,c2,e,tU k y hy⟩
    (obtain rfl:ab=some ⟨b2,o2,none⟩:=by injection e2);have cx:wr.cell? ⟨b1,o1+k,none⟩=some (.int .i64 x):=hc k x hx;have HX:=zh hx;have HY:=zh hy;clear hc hB e e2 hx hy;by_cases he:x=y
    ·subst he;go_wp2_with fail;(go_region);go_wp2_with fail;go_roundw;(case rel=>exact⟨k+1,aAM,aAV,zh (by rw[List.take_add_one,List.take_add_one,HT.out,HX.out,HY.out]),zh HW.out.drew⟩);case measure=>simp[intOf];omega
    have sC:(x==y)=false:=beq_eq_false_iff_ne.2 he;have hne2:(x != y)=true:=aB3;have UJ:=zh he;clear he;go_wp2_with fail;(go_region);go_wp2_with fail;go_ret;refine⟨aF ?_,HW.out.drew⟩;rw[eq_comm,decide_eq_false_iff_not];intro h;have h1:=HX.out;have h2:=HY.out;rw[h,h2] at h1;exact UJ.out (Option.some.inj h1).symm
   go_wp2_with fail;go_ret;refine⟨aF ?_,HW.out⟩;rw[eq_comm,decide_eq_true_iff];have h:=HT.out
   rwa [List.take_of_length_le aAM,List.take_of_length_le (by rw[<-HL.out];omega)] at h
 have HL:=zh hl;have zR:¬(a.length:Int)=(b.length:Int):=aAM;have M9:((a.length:Int) != (b.length:Int))=true:=by rw[bne_iff_ne];exact zR
 clear hl zR;go_enter Tryz.func70,Tryz.ntmps70;go_wp2_with fail
 all_goals
  go_ret;refine⟨aF ?_,Below.refl _ _⟩;rw[eq_comm,decide_eq_false_iff_not];intro h;exact HL.out (by rw[h])
theorem few35_any(r:Rcp)(L:List (Value×Stp))(vi vs:Value)(w:World)(h:dR r L vi vs w):
  Calls Tryz.prog 37 #[jD vi vs r.output] w (AnyBool w):=by
 have HB:=zh (aA w (aY vi vs r.output));have xX:=zh (h.later HB.out);obtain⟨r0,r1,r2⟩:=bD (aH w (aY vi vs r.output));obtain⟨ai,ci,av,cv,rfl,rfl⟩:=h.slices;have xR:r.inputs.length<=9223372036854775807:=by obtain⟨a,c,hv,h1,h2,-⟩:=h.inp;omega
 have vO:L.length<=9223372036854775807:=by obtain⟨a,c,hv,h1,h2,-⟩:=h.stp;omega
 clear h;go_enter Tryz.func37,Tryz.ntmps37;go_wp2_with fail;generalize w.alloc (aY (.slice ai r.inputs.length ci) (.slice av L.length cv) r.output)=W at HB xX r0 r1 r2 ⊢;go_loop [3] (fun i=>∃k:Nat,k<=r.inputs.length/\i=.int .i64 k) (fun i=>r.inputs.length-(intOf i).toNat)
 case atStart=>exact⟨0,Nat.zero_le _,rfl⟩
 case round=>
  obtain⟨k,hk,rfl⟩:=hrel;by_cases sE:k<r.inputs.length/\k<9
  ·obtain⟨sE,h6⟩:=sE;obtain⟨f,hf,-⟩:=getElem?_of_lt sE;rcases xX.out.inp.cases with⟨e,-⟩|⟨b,o,c,e,-,-,-,-,hc⟩
   ·exact aAy
   obtain⟨rfl,rfl⟩:ai=some ⟨b,o,none⟩/\ci=c:=aAT;obtain⟨f0,f1,-,-⟩:=hc k f hf;clear hc e hf;by_cases ht:(300:Int)<f.text.size
   ·go_wp2_with fail;go_ret;exact⟨_,rfl,HB.out⟩
   go_wp2_with fail
   go_round
   (case rel=>exact⟨k+1,aAM,aAV⟩);case measure=>simp[intOf];omega
  by_cases h6:k<r.inputs.length
  ·have h7:¬k<9:=fun h=>sE ⟨h6,h⟩;exact X7
  exact X7
end Go.Proofs.YtacgopankhpnbaaGreatDoor
namespace Go.Proofs.YtacgopankhpnbaaGreatDoor
def blR:Rcp:=⟨[⟨⟨#[97]⟩,⟨#[120]⟩⟩,⟨⟨#[98]⟩,⟨#[121]⟩⟩],[⟨1,[⟨#[98]⟩,⟨#[97]⟩],⟨#[99]⟩,false⟩,⟨4,[⟨#[99]⟩],⟨#[100]⟩,false⟩],⟨#[100]⟩⟩
def blDone(b c d:bA):List Dn:=[⟨0,[b,⟨#[120]⟩],c⟩,⟨1,[c],d⟩]
def blA:List Dn:=[⟨0,[⟨#[121]⟩,⟨#[120]⟩],⟨#[121,120]⟩⟩,⟨1,[⟨#[121,120]⟩],⟨#[121,120,55,59,10]⟩⟩]
def blB:List Dn:=[⟨0,[⟨#[121]⟩,⟨#[120]⟩],⟨#[121,120]⟩⟩,⟨1,[⟨#[121,120]⟩],⟨#[121,120,56,59,10]⟩⟩]
def blZ:List Dn:=blDone ⟨#[122]⟩ ⟨#[122,120]⟩ ⟨#[122,120,55,59,10]⟩
def blQ:List Dn:=blDone ⟨#[122]⟩ ⟨#[113]⟩ ⟨#[113,55,59,10]⟩
theorem blRight:aP blR=0:=aAN
theorem blRunA:mZ C0 blR [7] [] []=.ok (blA,⟨#[121,120,55,59,10]⟩):=aAN
theorem blRunB:mZ C0 blR [8] [] []=.ok (blB,⟨#[121,120,56,59,10]⟩):=aAN
theorem blIn1:pI (lR blR) (bQ blR blA) (bQ blR blB)=none:=aAN
theorem blFi1:pI (mS blR) (bQ blR blA) (bQ blR blB)=some 1:=aAN
theorem blIn2:pI (lR blR) (bQ blR blA) (bQ blR blZ)=some ⟨#[98]⟩:=aAN
theorem blFi2:pI (mS blR) (bQ blR blA) (bQ blR blZ)=none:=aAN
theorem blWr1:nD C0 blR blQ=some 0:=aAN
theorem blWr2:nD C0 blR blZ=none:=aAN
theorem blTx:textOf blR (bQ blR blZ) ⟨#[98]⟩=some ⟨#[122]⟩:=aAN
theorem blCh1:chainOf blR (bQ blR blA) (bQ blR blB)=[1]:=aAN
theorem blCh2:chainOf blR (bQ blR blA) (bQ blR blZ)=[0,1]:=aAN
theorem blFit:(bQ blR blZ).isSome=true:=aAN
end Go.Proofs.YtacgopankhpnbaaGreatDoor
namespace Go.Proofs.YtacgopankhpnbaaGreatDoor
open Go.RowKit
abbrev blL(h:Nat):List (Value×Stp):=[(.slice (some ⟨h+1,0,none⟩) 2 2,⟨1,[⟨#[98]⟩,⟨#[97]⟩],⟨#[99]⟩,false⟩),(.slice (some ⟨h+1+1,0,none⟩) 1 1,⟨4,[⟨#[99]⟩],⟨#[100]⟩,false⟩)]
theorem lay5(w:World)(o0 o1 o2 o3 o4:Obj):(((((w.alloc o0).alloc o1).alloc o2).alloc o3).alloc o4).heap[w.heap.size+1]? =some o1/\(((((w.alloc o0).alloc o1).alloc o2).alloc o3).alloc o4).heap[w.heap.size+1+1]? =some o2/\
  (((((w.alloc o0).alloc o1).alloc o2).alloc o3).alloc o4).heap[w.heap.size+1+1+1]? =some o3/\(((((w.alloc o0).alloc o1).alloc o2).alloc o3).alloc o4).heap[w.heap.size+1+1+1+1]? =some o4:=by
 have up:∀{a:World}{o:Obj}{k:Nat}{x:Obj},a.heap[k]? =some x->(a.alloc o).heap[k]? =some x:=fun h=>aD (aA _ _) h;have e1:=aH (w.alloc o0) o1;have e2:=aH ((w.alloc o0).alloc o1) o2;have e3:=aH (((w.alloc o0).alloc o1).alloc o2) o3;have e4:=aH ((((w.alloc o0).alloc o1).alloc o2).alloc o3) o4;simp only[World.size_alloc] at e1 e2 e3 e4;exact⟨up (up (up e1)),up (up e2),up e3,e4⟩
theorem blIn{w:World}{h:Nat}{fr:Nat×Nat}{t1 t2 t3 t4:TypeId}(h1:w.heap[h+1]? =some (.cells #[.string ⟨#[98]⟩,.string ⟨#[97]⟩] t1 fr))(h2:w.heap[h+1+1]? =some (.cells #[.string ⟨#[99]⟩] t2 fr))
  (h3:w.heap[h+1+1+1]? =some (.cells #[.int .i64 1,.slice (some ⟨h+1,0,none⟩) 2 2,.string ⟨#[99]⟩,.bool false,.int .i64 4,.slice (some ⟨h+1+1,0,none⟩) 1 1,.string ⟨#[100]⟩,.bool false] t3 fr))
  (h4:w.heap[h+1+1+1+1]? =some (.cells #[.string ⟨#[97]⟩,.string ⟨#[120]⟩,.string ⟨#[98]⟩,.string ⟨#[121]⟩] t4 fr)):
  dR blR (blL h) (.slice (some ⟨h+1+1+1+1,0,none⟩) 2 2) (.slice (some ⟨h+1+1+1,0,none⟩) 2 2) w:=by
 refine⟨fils_made blR.inputs h4 rfl aAO (fun f hf=>by simp[blR] at hf;rcases hf with rfl|rfl<;>decide),?_,rfl,aAO⟩;refine row_made (blL h) stpCells h3 rfl aC2 (fun y hy=>⟨rfl,rfl,?_⟩);simp only[List.mem_cons,List.not_mem_nil,or_false] at hy;rcases hy with rfl|rfl
 ·exact⟨strs_made [⟨#[98]⟩,⟨#[97]⟩] h1 rfl aAO (small_sz _ aAO),by show(⟨#[99]⟩:bA).size<=_;decide⟩
 exact⟨strs_made [⟨#[99]⟩] h2 rfl aAO (small_sz _ aAO),by show(⟨#[100]⟩:bA).size<=_;decide⟩
theorem recipe_any(w:World):Calls Tryz.prog 68 #[] w (RcpPost blR w):=by
 go_enter Tryz.func68,Tryz.ntmps68;go_wp2_with fail;refine bodyPost_ret (v:=jD (.slice (some ⟨w.heap.size+1+1+1+1,0,none⟩) 2 2) (.slice (some ⟨w.heap.size+1+1+1,0,none⟩) 2 2) ⟨#[100]⟩) (by simp[results,Tryz.results68,go_sem]) rfl ?_
 obtain⟨h1,h2,h3,h4⟩:=lay5 w (.cells #[.slice (some ⟨w.heap.size+1+1+1+1,0,none⟩) 2 2,.slice (some ⟨w.heap.size+1+1+1,0,none⟩) 2 2,.string ⟨#[100]⟩] 51) (.cells #[.string ⟨#[98]⟩,.string ⟨#[97]⟩] 9) (eP ⟨#[99]⟩)
  (.cells #[.int .i64 1,.slice (some ⟨w.heap.size+1,0,none⟩) 2 2,.string ⟨#[99]⟩,.bool false,.int .i64 4,.slice (some ⟨w.heap.size+1+1,0,none⟩) 1 1,.string ⟨#[100]⟩,.bool false] 24) (.cells #[.string ⟨#[97]⟩,.string ⟨#[120]⟩,.string ⟨#[98]⟩,.string ⟨#[121]⟩] 40)
 exact⟨_,_,blL w.heap.size,rfl,blIn h1 h2 h3 h4,aB (aB (aB (aB (aA _ _) (aA _ _)) (aA _ _)) (aA _ _)) (aA _ _)⟩
abbrev dnC(y:Value×Dn):List Value:=[.int .i64 y.2.step,y.1,.string y.2.out]
abbrev blD(h:Nat)(b c d:bA):List (Value×Dn):=[(.slice (some ⟨h,0,none⟩) 2 2,⟨0,[b,⟨#[120]⟩],c⟩),(.slice (some ⟨h+1,0,none⟩) 1 1,⟨1,[c],d⟩)]
def DnsPost(l:List Dn)(w:World)(e:Ending)(w':World):Prop:=∃g M,e=.returned (.slice (some ⟨g,0,none⟩) 2 2)/\Dns w' (.slice (some ⟨g,0,none⟩) 2 2) M/\M.map (·.2)=l/\Below w.heap.size w w'
theorem done_any(b c d:bA)(w:World)(hb:b.size<=100)(hc:c.size<=100)(hd:d.size<=100):
  Calls Tryz.prog 69 #[.string b,.string c,.string d] w (DnsPost (blDone b c d) w):=by
 go_enter Tryz.func69,Tryz.ntmps69;go_wp2_with fail;go_ret;have e1:=aD (aB (aA _ (eP c)) (aA _ (.cells #[.int .i64 0,.slice (some ⟨w.heap.size,0,none⟩) 2 2,.string c,.int .i64 1,.slice (some ⟨w.heap.size+1,0,none⟩) 1 1,.string d] 59))) (aH w (.cells #[.string b,.string ⟨#[120]⟩] 9));have e2:=aD (aA _ (.cells #[.int .i64 0,.slice (some ⟨w.heap.size,0,none⟩) 2 2,.string c,.int .i64 1,.slice (some ⟨w.heap.size+1,0,none⟩) 1 1,.string d] 59)) (aH (w.alloc (.cells #[.string b,.string ⟨#[120]⟩] 9)) (eP c));have e3:=aH ((w.alloc (.cells #[.string b,.string ⟨#[120]⟩] 9)).alloc (eP c)) (.cells #[.int .i64 0,.slice (some ⟨w.heap.size,0,none⟩) 2 2,.string c,.int .i64 1,.slice (some ⟨w.heap.size+1,0,none⟩) 1 1,.string d] 59);simp only[World.size_alloc] at e2 e3;refine⟨w.heap.size+1+1,blD w.heap.size b c d,rfl,?_,rfl,aB (aB (aA _ _) (aA _ _)) (aA _ _)⟩;refine row_made (blD w.heap.size b c d) dnC e3 rfl aC2 (fun y hy=>⟨rfl,rfl,?_⟩);simp only[List.mem_cons,List.not_mem_nil,or_false] at hy;rcases hy with rfl|rfl
 ·exact⟨strs_made [b,⟨#[120]⟩] e1 rfl aC2 (fun x hx=>by simp at hx;rcases hx with rfl|rfl;omega;decide),by show c.size<=_;omega⟩
 exact⟨strs_made [c] e2 rfl (by show(1:Nat)<=_;decide) (fun x hx=>by simp at hx;subst hx;omega),by show d.size<=_;omega⟩
theorem blDo:∀s,s∈blR.steps->DoAll C0 s:=by
 intro s hs;simp only[blR,List.mem_cons,List.not_mem_nil,or_false] at hs;rcases hs with rfl|rfl<;>exact doAll_plain aAO
def BlRunPost(l:List Dn)(t:bA)(w:World)(e:Ending)(w':World):Prop:=∃v M,e=.returned (.tuple #[v,.string t,.int .i64 0])/\Dns w' v M/\M.map (·.2)=l/\Below w.heap.size w w'
theorem blRun_any(x:Int)(l:List Dn)(t:bA)(hx:mZ C0 blR [x] [] []=.ok (l,t))(hxw:(Lit.int .i64 x).wf=true)(L:List (Value×Stp))(vi vs:Value)(w:World)(h:dR blR L vi vs w)(hG:dL w):
  Calls Tryz.prog 29 #[jD vi vs blR.output,mQ (some ⟨w.heap.size,0,none⟩) 1 1 none 0 0 none 0 0] (w.alloc (iN x)) (BlRunPost l t (w.alloc (iN x))):=by
 have hb:=aA w (iN x);refine(run_good C0 blR L vi vs _ _ _ [x] [] [] _ (h.later hb) ⟨ints_made [x] (aH w _) rfl (by show(1:Nat)<=_;decide),mF _,mF _,fun y hy=>(by simp at hy;subst hy;exact hxw),fun y hy=>(by cases hy),fun y hy=>(by cases hy)⟩ (hG.later hb) blDo blRight).mono ?_;rw[hx];rintro e w' ⟨hb,v,M,rfl,hD,hM⟩;exact⟨v,M,rfl,hD,hM,hb⟩
theorem Dns.take1{w:World}{g:Nat}{M:List (Value×Dn)}(h:Dns w (.slice (some ⟨g,0,none⟩) 2 2) M)(hl:M.length=2):Dns w (.slice (some ⟨g,0,none⟩) 1 2) (M.take 1):=by
 obtain⟨a,c,hv,h1,h2,h3⟩:=h;injection hv with e1 e2 e3
 subst e1 e3;have yQ:(M.take 1).length=1:=aCm;refine⟨_,2,by rw[yQ],aAM,aAM,fun _=>?_⟩;obtain⟨b,o,ha,hc⟩:=h3 (fun h=>by rw[h] at hl;cases hl);refine⟨b,o,ha,fun i x hx=>hc i x ?_⟩;rw[List.getElem?_take] at hx;split at hx
 ·exact hx
 cases hx
theorem small35_any(w:World)(hG:dL w):
  Calls Tryz.prog 36 #[] w fun e w'=>e=.returned (.bool true)/\Below w.heap.size w w':=by
 have HG:=zh hG;clear hG;go_enter Tryz.func36,Tryz.ntmps36;go_wp2_with fail;refine(recipe_any w).mono ?_;rintro e w1 ⟨vi,vs,L,rfl,hr,hb⟩;obtain⟨ai,ci,av,cv,rfl,rfl⟩:=hr.slices;have sD:=aB hb (aA w1 (aY (.slice ai blR.inputs.length ci) (.slice av L.length cv) blR.output));have HB:=zh sD;have HR:=zh (hr.later (aA w1 (aY (.slice ai blR.inputs.length ci) (.slice av L.length cv) blR.output)));have uV:=zh (aH w1 (aY (.slice ai blR.inputs.length ci) (.slice av L.length cv) blR.output));have xT:=zh (blRun_any 7 _ _ blRunA aAO L _ _ _ HR.out (HG.out.later HB.out));simp only[World.size_alloc] at xT;obtain⟨r0,r1,r2⟩:=bD uV.out;clear hb sD hr;go_wp2_with fail;generalize w1.alloc (aY (.slice ai blR.inputs.length ci) (.slice av L.length cv) blR.output)=W1 at HB HR uV xT r0 r1 r2 ⊢;generalize w1.heap.size=p at uV xT r0 r1 r2 ⊢;refine xT.out.mono ?_;rintro e w2 ⟨v,MA,rfl,hD,hM,hb⟩;obtain⟨a2,c2,rfl⟩:=fB hD;have HA:=zh hD;have EMA:=zh hM;clear hD hM xT
 replace hb:=aB (aA _ _) hb
 have sS:=zh hb
 replace HR:=zh (HR.out.later sS.out)
 replace uV:=zh (aD sS.out uV.out)
 replace HB:=zh (aB HB.out sS.out)
 clear hb sS r0 r1 r2;obtain⟨r0,r1,r2⟩:=bD uV.out;have xT:=zh (blRun_any 8 _ _ blRunB aAO L _ _ _ HR.out (HG.out.later HB.out));go_wp2_with fail;refine xT.out.mono ?_;rintro e w3 ⟨v,MB,rfl,hD,hM,hb⟩;obtain⟨a3,c3,rfl⟩:=fB hD;have wF:=zh hD;have EMB:=zh hM;clear hD hM xT
 replace hb:=aB (aA _ _) hb
 have sS:=zh hb
 replace HR:=zh (HR.out.later sS.out)
 replace uV:=zh (aD sS.out uV.out)
 replace HA:=zh (HA.out.later sS.out)
 replace HB:=zh (aB HB.out sS.out)
 clear hb sS r0 r1 r2;obtain⟨r0,r1,r2⟩:=bD uV.out;go_wp2_with fail;refine(done_any ⟨#[122]⟩ ⟨#[122,120]⟩ ⟨#[122,120,55,59,10]⟩ _ aAO aAO aAO).mono ?_;rintro e w4 ⟨g4,MZ,rfl,hD,hM,hb⟩;have HZ:=zh hD;have EMZ:Hid (MZ.map (·.2)=blZ):=zh hM;clear hD hM;have sS:=zh hb
 replace HR:=zh (HR.out.later sS.out)
 replace uV:=zh (aD sS.out uV.out)
 replace HA:=zh (HA.out.later sS.out)
 replace wF:=zh (wF.out.later sS.out)
 replace HB:=zh (aB HB.out sS.out)
 clear hb sS r0 r1 r2;obtain⟨r0,r1,r2⟩:=bD uV.out;go_wp2_with fail;refine(done_any ⟨#[122]⟩ ⟨#[113]⟩ ⟨#[113,55,59,10]⟩ _ aAO aAO aAO).mono ?_;rintro e w5 ⟨g5,MQ,rfl,hD,hM,hb⟩;have HQ:=zh hD;have EMQ:Hid (MQ.map (·.2)=blQ):=zh hM;clear hD hM;have sS:=zh hb
 replace HR:=zh (HR.out.later sS.out)
 replace uV:=zh (aD sS.out uV.out)
 replace HA:=zh (HA.out.later sS.out)
 replace wF:=zh (wF.out.later sS.out)
 replace HZ:=zh (HZ.out.later sS.out)
 replace HB:=zh (aB HB.out sS.out)
 clear hb sS r0 r1 r2;obtain⟨r0,r1,r2⟩:=bD uV.out;have HC:=zh (input_any blR L MA MB _ _ _ _ _ HR.out HA.out wF.out);rw[EMA.out,EMB.out,blIn1] at HC;go_wp2_with fail;refine HC.out.mono ?_;rintro e w6 ⟨rfl,hb⟩;rw[show txV none=.tuple #[.string ⟨#[]⟩,.bool false] from rfl];clear HC;have sS:=zh hb
 replace HR:=zh (HR.out.later sS.out)
 replace uV:=zh (aD sS.out uV.out)
 replace HA:=zh (HA.out.later sS.out)
 replace wF:=zh (wF.out.later sS.out)
 replace HZ:=zh (HZ.out.later sS.out)
 replace HQ:=zh (HQ.out.later sS.out)
 replace HB:=zh (aB HB.out sS.out)
 clear hb sS r0 r1 r2;obtain⟨r0,r1,r2⟩:=bD uV.out;have HC:=zh (first_any blR L MA MB _ _ _ _ _ HR.out HA.out wF.out);rw[EMA.out,EMB.out,blFi1] at HC;go_wp2_with fail;refine HC.out.mono ?_;rintro e w7 ⟨rfl,hb⟩;rw[show fiV (some 1)=.tuple #[.int .i64 1,.bool true] from rfl];clear HC;have sS:=zh hb
 replace HR:=zh (HR.out.later sS.out)
 replace uV:=zh (aD sS.out uV.out)
 replace HA:=zh (HA.out.later sS.out)
 replace wF:=zh (wF.out.later sS.out)
 replace HZ:=zh (HZ.out.later sS.out)
 replace HQ:=zh (HQ.out.later sS.out)
 replace HB:=zh (aB HB.out sS.out)
 clear hb sS r0 r1 r2;obtain⟨r0,r1,r2⟩:=bD uV.out;have HC:=zh (input_any blR L MA MZ _ _ _ _ _ HR.out HA.out HZ.out);rw[EMA.out,EMZ.out,blIn2] at HC;go_wp2_with fail;refine HC.out.mono ?_;rintro e w8 ⟨rfl,hb⟩;rw[show txV (some ⟨#[98]⟩)=.tuple #[.string ⟨#[98]⟩,.bool true] from rfl];clear HC;have sS:=zh hb
 replace HR:=zh (HR.out.later sS.out)
 replace uV:=zh (aD sS.out uV.out)
 replace HA:=zh (HA.out.later sS.out)
 replace wF:=zh (wF.out.later sS.out)
 replace HZ:=zh (HZ.out.later sS.out)
 replace HQ:=zh (HQ.out.later sS.out)
 replace HB:=zh (aB HB.out sS.out)
 clear hb sS r0 r1 r2;obtain⟨r0,r1,r2⟩:=bD uV.out;have HC:=zh (first_any blR L MA MZ _ _ _ _ _ HR.out HA.out HZ.out);rw[EMA.out,EMZ.out,blFi2] at HC;go_wp2_with fail;refine HC.out.mono ?_;rintro e w9 ⟨rfl,hb⟩;rw[show fiV none=.tuple #[.int .i64 0,.bool false] from rfl];clear HC;have sS:=zh hb
 replace HR:=zh (HR.out.later sS.out)
 replace uV:=zh (aD sS.out uV.out)
 replace HA:=zh (HA.out.later sS.out)
 replace wF:=zh (wF.out.later sS.out)
 replace HZ:=zh (HZ.out.later sS.out)
 replace HQ:=zh (HQ.out.later sS.out)
 replace HB:=zh (aB HB.out sS.out)
 clear hb sS r0 r1 r2;obtain⟨r0,r1,r2⟩:=bD uV.out;have HC:=zh (wrong_any C0 blR L MQ _ _ _ _ HR.out HQ.out (HG.out.later HB.out) (fun s hs _=>blDo s hs));rw[EMQ.out,blWr1] at HC;go_wp2_with fail;refine HC.out.mono ?_;rintro e tB ⟨rfl,hb⟩;rw[show fiV (some 0)=.tuple #[.int .i64 0,.bool true] from rfl];clear HC;have sS:=zh hb
 replace HR:=zh (HR.out.later sS.out)
 replace uV:=zh (aD sS.out uV.out)
 replace HA:=zh (HA.out.later sS.out)
 replace wF:=zh (wF.out.later sS.out)
 replace HZ:=zh (HZ.out.later sS.out)
 replace HQ:=zh (HQ.out.later sS.out)
 replace HB:=zh (aB HB.out sS.out)
 clear hb sS r0 r1 r2;obtain⟨r0,r1,r2⟩:=bD uV.out;have HC:=zh (wrong_any C0 blR L MZ _ _ _ _ HR.out HZ.out (HG.out.later HB.out) (fun s hs _=>blDo s hs));rw[EMZ.out,blWr2] at HC;go_wp2_with fail;refine HC.out.mono ?_;rintro e xK ⟨rfl,hb⟩;rw[show fiV none=.tuple #[.int .i64 0,.bool false] from rfl];clear HC;have sS:=zh hb
 replace HR:=zh (HR.out.later sS.out)
 replace uV:=zh (aD sS.out uV.out)
 replace HA:=zh (HA.out.later sS.out)
 replace wF:=zh (wF.out.later sS.out)
 replace HZ:=zh (HZ.out.later sS.out)
 replace HQ:=zh (HQ.out.later sS.out)
 replace HB:=zh (aB HB.out sS.out)
 clear hb sS r0 r1 r2;obtain⟨r0,r1,r2⟩:=bD uV.out;have HC:=zh (oR blR L MZ _ _ _ ⟨#[98]⟩ _ HR.out HZ.out aAO);rw[EMZ.out,blTx] at HC;go_wp2_with fail;refine HC.out.mono ?_;rintro e tG ⟨rfl,hb⟩;rw[show txV (some ⟨#[122]⟩)=.tuple #[.string ⟨#[122]⟩,.bool true] from rfl];clear HC;have sS:=zh hb
 replace HR:=zh (HR.out.later sS.out)
 replace uV:=zh (aD sS.out uV.out)
 replace HA:=zh (HA.out.later sS.out)
 replace wF:=zh (wF.out.later sS.out)
 replace HZ:=zh (HZ.out.later sS.out)
 replace HQ:=zh (HQ.out.later sS.out)
 replace HB:=zh (aB HB.out sS.out)
 clear hb sS r0 r1 r2;obtain⟨r0,r1,r2⟩:=bD uV.out;have HC:=zh (chain_any blR L MA MB _ _ _ _ _ HR.out HA.out wF.out);rw[EMA.out,EMB.out,blCh1] at HC;go_wp2_with fail;refine HC.out.mono ?_;rintro e vL ⟨v,rfl,hI,hb⟩;obtain⟨va,vc,rfl⟩:∃a c,v=.slice a 1 c:=by obtain⟨a,c,e,-⟩:=hI;exact⟨a,c,e⟩
 have HI:=zh hI;clear HC hI;have sS:=zh hb
 replace HR:=zh (HR.out.later sS.out)
 replace uV:=zh (aD sS.out uV.out)
 replace HA:=zh (HA.out.later sS.out)
 replace wF:=zh (wF.out.later sS.out)
 replace HZ:=zh (HZ.out.later sS.out)
 replace HQ:=zh (HQ.out.later sS.out)
 replace HB:=zh (aB HB.out sS.out)
 clear hb sS r0 r1 r2;obtain⟨r0,r1,r2⟩:=bD uV.out;have D0:=aA vL (iN 1);have HC:=zh (ints04_any _ _ _ _ _ (HI.out.later D0) (ints_made [1] (aH vL _) rfl (by show(1:Nat)<=_;decide)));rw[decide_eq_true (show aU [1]=[1] from rfl)] at HC;go_wp2_with fail;refine HC.out.mono ?_;rintro e CC ⟨rfl,hb⟩
 replace hb:=aB D0 hb
 clear HC D0 HI;have sS:=zh hb
 replace HR:=zh (HR.out.later sS.out)
 replace uV:=zh (aD sS.out uV.out)
 replace HA:=zh (HA.out.later sS.out)
 replace wF:=zh (wF.out.later sS.out)
 replace HZ:=zh (HZ.out.later sS.out)
 replace HQ:=zh (HQ.out.later sS.out)
 replace HB:=zh (aB HB.out sS.out)
 clear hb sS r0 r1 r2;obtain⟨r0,r1,r2⟩:=bD uV.out;have HC:=zh (chain_any blR L MA MZ _ _ _ _ _ HR.out HA.out HZ.out);rw[EMA.out,EMZ.out,blCh2] at HC;go_wp2_with fail;refine HC.out.mono ?_;rintro e GZ ⟨v,rfl,hI,hb⟩;obtain⟨va,vc,rfl⟩:∃a c,v=.slice a 2 c:=by obtain⟨a,c,e,-⟩:=hI;exact⟨a,c,e⟩
 have HI:=zh hI;clear HC hI;have sS:=zh hb
 replace HR:=zh (HR.out.later sS.out)
 replace uV:=zh (aD sS.out uV.out)
 replace HA:=zh (HA.out.later sS.out)
 replace wF:=zh (wF.out.later sS.out)
 replace HZ:=zh (HZ.out.later sS.out)
 replace HQ:=zh (HQ.out.later sS.out)
 replace HB:=zh (aB HB.out sS.out)
 clear hb sS r0 r1 r2;obtain⟨r0,r1,r2⟩:=bD uV.out;have D0:=aA GZ (.cells #[.int .i64 0,.int .i64 1] 3);have HC:=zh (ints04_any _ _ _ _ _ (HI.out.later D0) (ints_made [0,1] (aH GZ _) rfl aC2));rw[decide_eq_true (show aU [0,1]=[0,1] from rfl)] at HC;go_wp2_with fail;refine HC.out.mono ?_;rintro e I4 ⟨rfl,hb⟩
 replace hb:=aB D0 hb
 clear HC D0 HI;have sS:=zh hb
 replace HR:=zh (HR.out.later sS.out)
 replace uV:=zh (aD sS.out uV.out)
 replace HA:=zh (HA.out.later sS.out)
 replace wF:=zh (wF.out.later sS.out)
 replace HZ:=zh (HZ.out.later sS.out)
 replace HQ:=zh (HQ.out.later sS.out)
 replace HB:=zh (aB HB.out sS.out)
 clear hb sS r0 r1 r2;obtain⟨r0,r1,r2⟩:=bD uV.out;have HF1:=zh (pO blR L MZ _ _ _ I4.drew (HR.out.later (Below.refl _ _).drew) (HZ.out.later (Below.refl _ _).drew));rw[EMZ.out,blFit] at HF1;go_wp2_with fail
 go_region_held3 (fun W=>W.cell? ⟨p,0,none⟩=some (.slice ai blR.inputs.length ci)/\W.cell? ⟨p,1,none⟩=some (.slice av L.length cv)/\W.cell? ⟨p,2,none⟩=some (.string blR.output))
  (first|exact⟨r0,r1,r2⟩|(with_reducible exact vQ.out)|(with_reducible exact xS.out)|(with_reducible exact PQ.out)|go_keep)
  (first|(go_at_call 39;(with_reducible refine HF1.out.mono ?_);rintro e wa ⟨rfl,hb⟩;have JZ:Hid (Below I4.heap.size I4 wa):=zh ((Below.refl _ I4).drew.trans hb);have vQ:Hid (_/\_/\_):=zh ⟨aC JZ.out r0,aC JZ.out r1,aC JZ.out r2⟩;clear hb)|(have _g:=JZ;go_at_call 69;refine(done_any ⟨#[122]⟩ ⟨#[122,120]⟩ ⟨#[]⟩ _ aAO aAO aAO).mono ?_;rintro e wb ⟨gb,M,rfl,hD,hM,hb⟩;have HBc:Hid (Below I4.heap.size I4 wb):=zh (aB JZ.out hb);have HDn:=zh hD;have EM:=zh hM;have xS:Hid (_/\_/\_):=zh ⟨aC HBc.out r0,aC HBc.out r1,aC HBc.out r2⟩;clear hb hD hM)|(have _g:=HDn;go_at_call 39;refine(pO blR L (M.take 1) _ _ _ _ (HR.out.later HBc.out) (HDn.out.take1 (by have:=congrArg List.length EM.out;simpa[blDone] using this))).mono ?_;rintro e wc ⟨rfl,hb⟩;have xB:Hid (Below I4.heap.size I4 wc):=zh (aB HBc.out hb);have PQ:Hid (_/\_/\_):=zh ⟨aC xB.out r0,aC xB.out r1,aC xB.out r2⟩;clear hb))
 all_goals
  have hm:(bQ blR ((M.map (·.2)).take 1)).isNone=true:=by rw[EM.out];kernel_rfl
  rw[hm];go_wp2_with fail;go_ret;exact⟨rfl,aB HB.out xB.out⟩
end Go.Proofs.YtacgopankhpnbaaGreatDoor
