/- Texts of this seat, joined. -/
import Derived.Test.YtmpopphjaggeoaaGreatDoorKAB
set_option maxHeartbeats 32000000
set_option maxRecDepth 100000
set_option linter.unusedVariables false
set_option linter.unusedSimpArgs false
set_option linter.constructorNameAsVariable false
namespace Go.Proofs.YtmpopphjaggeoaaGreatDoor
open Go.RowKit Go.Shelf
theorem AX{p:Prop}(h:p:=by
 go_wp2_with fail;go_ret
 exact⟨aF EB,jF.out⟩):p:=h
theorem A9{p:Prop}(h:p:=by
 go_wp2_with fail;go_ret
 exact⟨aF EB,jL.out⟩):p:=h
theorem BP{p:Prop}(h:p:=by
 go_wp2_with fail;go_ret
 exact⟨aF EB,kH.out⟩):p:=h
noncomputable def sameNd (x y:Nd):Bool:=decide (x.name=y.name)&&decide (x.kind=y.kind)&&decide (x.whn=y.whn)&&eqL x.ranges y.ranges&&eqL x.feats y.feats
noncomputable def sameFt (x y:Ft):Bool:=decide (x.name=y.name)&&eqL x.implies y.implies
noncomputable def sameRl (a b:Rl):Bool:=eqL a.needs b.needs&&eqL a.feats b.feats&&decide (a.name=b.name)&&decide (a.ver=b.ver)&&decide (a.source=b.source)&&eqL a.plats b.plats&&decide (a.lic=b.lic)
theorem eqL_iff{α:Type}(a b:List α):eqL a b=true↔a=b:=⟨fun h=>@of_decide_eq_true _ (Classical.propDecidable _) h,dW⟩
theorem sameNd_iff(x y:Nd):sameNd x y=true↔x=y:=by
 cases x;cases y;simp only[sameNd,Bool.and_eq_true,decide_eq_true_eq,eqL_iff,Nd.mk.injEq];constructor
 ·rintro⟨⟨⟨⟨h1,h2⟩,h3⟩,h4⟩,h5⟩;exact⟨h1,h4,h2,h3,h5⟩
 rintro⟨h1,h4,h2,h3,h5⟩;exact⟨⟨⟨⟨h1,h2⟩,h3⟩,h4⟩,h5⟩
theorem sameFt_iff(x y:Ft):sameFt x y=true↔x=y:=by
 cases x;cases y;simp only[sameFt,Bool.and_eq_true,decide_eq_true_eq,eqL_iff,Ft.mk.injEq]
theorem sameRl_iff(x y:Rl):sameRl x y=true↔x=y:=by
 cases x;cases y;simp only[sameRl,Bool.and_eq_true,decide_eq_true_eq,eqL_iff,Rl.mk.injEq];constructor
 ·rintro⟨⟨⟨⟨⟨⟨h1,h2⟩,h3⟩,h4⟩,h5⟩,h6⟩,h7⟩;exact⟨h3,h4,h5,h1,h2,h6,h7⟩
 rintro⟨h3,h4,h5,h1,h2,h6,h7⟩;exact⟨⟨⟨⟨⟨⟨h1,h2⟩,h3⟩,h4⟩,h5⟩,h6⟩,h7⟩
theorem cf5{w:World}{b:Nat}{x0 x1 x2 x3 x4:Value}{t:TypeId}(h:w.heap[b]? =some (.cells #[x0,x1,x2,x3,x4] t)):
  w.cell? ⟨b,0,none⟩=some x0/\w.cell? ⟨b,1,none⟩=some x1/\w.cell? ⟨b,2,none⟩=some x2/\w.cell? ⟨b,3,none⟩=some x3/\w.cell? ⟨b,4,none⟩=some x4:=
 ⟨(bx h 0 rfl).1,(bx h 1 rfl).1,(bx h 2 rfl).1,(bx h 3 rfl).1,(bx h 4 rfl).1⟩
theorem cf2{w:World}{b:Nat}{x0 x1:Value}{t:TypeId}(h:w.heap[b]? =some (.cells #[x0,x1] t)):
  w.cell? ⟨b,0,none⟩=some x0/\w.cell? ⟨b,1,none⟩=some x1:=
 ⟨(bx h 0 rfl).1,(bx h 1 rfl).1⟩
theorem cf9{w:World}{b:Nat}{x0 x1 x2 x3 x4 x5 x6 x7 x8:Value}{t:TypeId}(h:w.heap[b]? =some (.cells #[x0,x1,x2,x3,x4,x5,x6,x7,x8] t)):
  w.cell? ⟨b,0,none⟩=some x0/\w.cell? ⟨b,1,none⟩=some x1/\w.cell? ⟨b,2,none⟩=some x2/\w.cell? ⟨b,3,none⟩=some x3/\w.cell? ⟨b,4,none⟩=some x4/\w.cell? ⟨b,5,none⟩=some x5/\w.cell? ⟨b,6,none⟩=some x6/\w.cell? ⟨b,7,none⟩=some x7/\w.cell? ⟨b,8,none⟩=some x8:=
 ⟨(bx h 0 rfl).1,(bx h 1 rfl).1,(bx h 2 rfl).1,(bx h 3 rfl).1,(bx h 4 rfl).1,(bx h 5 rfl).1,(bx h 6 rfl).1,(bx h 7 rfl).1,(bx h 8 rfl).1⟩
theorem sameNd_any(x y:Nd){N N':Nat->Prop}{cx cy:List Value}{w:World}(hx:cI N w x cx)(hy:cI N' w y cy):
  Calls Tryz.prog 127 #[.agg cx.toArray,.agg cy.toArray] w fun e w'=>e=.returned (.bool (sameNd x y))/\Below w.heap.size w w':=by
 obtain⟨nm,rs,kd,wn,ft⟩:=x;obtain⟨nm',rs',kd',wn',ft'⟩:=y;have HR:Hid (sameNd ⟨nm,rs,kd,wn,ft⟩ ⟨nm',rs',kd',wn',ft'⟩=(decide (nm=nm')&&decide (kd=kd')&&decide (wn=wn')&&eqL rs rs'&&eqL ft ft')):=zh rfl;obtain⟨vr,vf,rfl,-,-,hp,hf⟩:=hx;obtain⟨a1,c1,rfl,-⟩:=id hp;obtain⟨a2,c2,rfl,-⟩:=id hf;obtain⟨vr',vf',rfl,-,-,hp',zM⟩:=hy;obtain⟨xX,xV,rfl,-⟩:=id hp';obtain⟨tR,sU,rfl,-⟩:=id zM;dsimp only at *;have HP:=zh (fun W(hb:Below w.heap.size w W)=>equalR_any rs rs' (w:=W) (hp.moves aS (aM.later hb) CX) (hp'.moves aS (aM.later hb) CX));have HF:=zh (fun W(hb:Below w.heap.size w W)=>names_any ft ft' _ _ W (aK.strs (hf.moves aT (aM.later hb) CX)) (aK.strs (zM.moves aT (aM.later hb) CX)));have jD:=zh (aA (aB w (.cells #[.string nm,.slice a1 rs.length c1,.int .i64 kd,.string wn,.slice a2 ft.length c2] 71)) (aB (w.alloc (.cells #[.string nm,.slice a1 rs.length c1,.int .i64 kd,.string wn,.slice a2 ft.length c2] 71)) (.cells #[.string nm',.slice xX rs'.length xV,.int .i64 kd',.string wn',.slice tR ft'.length sU] 71)));have iN:=zh (aC (aB (w.alloc (.cells #[.string nm,.slice a1 rs.length c1,.int .i64 kd,.string wn,.slice a2 ft.length c2] 71)) (.cells #[.string nm',.slice xX rs'.length xV,.int .i64 kd',.string wn',.slice tR ft'.length sU] 71)) (bY w (.cells #[.string nm,.slice a1 rs.length c1,.int .i64 kd,.string wn,.slice a2 ft.length c2] 71)));have jE:=bY (w.alloc (.cells #[.string nm,.slice a1 rs.length c1,.int .i64 kd,.string wn,.slice a2 ft.length c2] 71)) (.cells #[.string nm',.slice xX rs'.length xV,.int .i64 kd',.string wn',.slice tR ft'.length sU] 71);rw[show(w.alloc (.cells #[.string nm,.slice a1 rs.length c1,.int .i64 kd,.string wn,.slice a2 ft.length c2] 71)).heap.size=w.heap.size+1 by simp] at jE;have jI:=zh jE;clear jE;clear hp hf hp' zM;generalize sameNd ⟨nm,rs,kd,wn,ft⟩ ⟨nm',rs',kd',wn',ft'⟩=rr at *;generalize eqL rs rs'=q4 at *;generalize eqL ft ft'=q5 at *;generalize rs.length=l1 at *;generalize rs'.length=l1' at *;generalize ft.length=l2 at *;generalize ft'.length=l2' at *;go_enter Tryz.func127,Tryz.ntmps127;obtain⟨x0,x1,x2,x3,x4⟩:=cf5 iN.out;obtain⟨y0,y1,y2,y3,y4⟩:=cf5 jI.out;by_cases h1:nm=nm'
 ·subst h1;by_cases h2:kd=kd'
  ·subst h2;by_cases h3:wn=wn'
   ·subst h3;go_wp2_with fail;clear x0 x1 x2 x3 x4 y0 y1 y2 y3 y4;go_at_call 70;refine(HP.out _ jD.out).mono ?_;rintro e tU ⟨rfl,hb⟩;have kW:=zh hb;have jL:=zh (aA jD.out kW.out);obtain⟨x0,x1,x2,x3,x4⟩:=cf5 (aC kW.out iN.out);obtain⟨y0,y1,y2,y3,y4⟩:=cf5 (aC kW.out jI.out);clear hb
    cases q4 with
    |false=>
     exact A9
    |true=>
     go_wp2_with fail;clear x0 x1 x2 x3 x4 y0 y1 y2 y3 y4;go_at_call 124;refine(HF.out _ jL.out).mono ?_;rintro e vD ⟨rfl,hb⟩;have kY:=zh (aA kW.out hb);have jF:=zh (aA jD.out kY.out);obtain⟨x0,x1,x2,x3,x4⟩:=cf5 (aC kY.out iN.out);obtain⟨y0,y1,y2,y3,y4⟩:=cf5 (aC kY.out jI.out);clear hb
     cases q5 with
     |false=>
      exact AX
     |true=>
      exact AX
   have g:(wn.toList==wn'.toList)=false:=cO h3;go_wp2_with fail;go_ret;exact⟨aF (by rw[HR.out];simp[h3]),jD.out⟩
  have g:(kd==kd')=false:=beq_eq_false_iff_ne.2 h2;go_wp2_with fail;go_ret;exact⟨aF (by rw[HR.out];simp[h2]),jD.out⟩
 have g:(nm.toList==nm'.toList)=false:=cO h1;exact B6
theorem sameFt_any(x y:Ft){N N':Nat->Prop}{cx cy:List Value}{w:World}(hx:dO N w x cx)(hy:dO N' w y cy):
  Calls Tryz.prog 129 #[.agg cx.toArray,.agg cy.toArray] w fun e w'=>e=.returned (.bool (sameFt x y))/\Below w.heap.size w w':=by
 obtain⟨nm,ft⟩:=x;obtain⟨nm',ft'⟩:=y;have HR:Hid (sameFt ⟨nm,ft⟩ ⟨nm',ft'⟩=(decide (nm=nm')&&eqL ft ft')):=zh rfl;obtain⟨vf,rfl,-,hf⟩:=hx;obtain⟨a2,c2,rfl,-⟩:=id hf;obtain⟨vf',rfl,-,zM⟩:=hy;obtain⟨tR,sU,rfl,-⟩:=id zM;dsimp only at *;have HF:=zh (fun W(hb:Below w.heap.size w W)=>names_any ft ft' _ _ W (aK.strs (hf.moves aT (aM.later hb) CX)) (aK.strs (zM.moves aT (aM.later hb) CX)));have jD:=zh (aA (aB w (.cells #[.string nm,.slice a2 ft.length c2] 73)) (aB (w.alloc (.cells #[.string nm,.slice a2 ft.length c2] 73)) (.cells #[.string nm',.slice tR ft'.length sU] 73)));have iN:=zh (aC (aB (w.alloc (.cells #[.string nm,.slice a2 ft.length c2] 73)) (.cells #[.string nm',.slice tR ft'.length sU] 73)) (bY w (.cells #[.string nm,.slice a2 ft.length c2] 73)));have jE:=bY (w.alloc (.cells #[.string nm,.slice a2 ft.length c2] 73)) (.cells #[.string nm',.slice tR ft'.length sU] 73);rw[show(w.alloc (.cells #[.string nm,.slice a2 ft.length c2] 73)).heap.size=w.heap.size+1 by simp] at jE;have jI:=zh jE;clear jE;clear hf zM;generalize sameFt ⟨nm,ft⟩ ⟨nm',ft'⟩=rr at *;generalize eqL ft ft'=q5 at *;generalize ft.length=l2 at *;generalize ft'.length=l2' at *;go_enter Tryz.func129,Tryz.ntmps129;obtain⟨x0,x1⟩:=cf2 iN.out;obtain⟨y0,y1⟩:=cf2 jI.out;by_cases h1:nm=nm'
 ·subst h1;go_wp2_with fail;clear x0 x1 y0 y1;go_at_call 124;refine(HF.out _ jD.out).mono ?_;rintro e tU ⟨rfl,hb⟩;have kW:=zh hb;have jL:=zh (aA jD.out kW.out);obtain⟨x0,x1⟩:=cf2 (aC kW.out iN.out);obtain⟨y0,y1⟩:=cf2 (aC kW.out jI.out);clear hb
  cases q5 with
  |false=>
   exact A9
  |true=>
   exact A9
 have g:(nm.toList==nm'.toList)=false:=cO h1;exact B6
theorem sameNds_any(a b:List Nd){N N':Nat->Prop}{va vb:Value}{w:World}(ha:aK 5 cI N w va a)(hb:aK 5 cI N' w vb b):
  Calls Tryz.prog 126 #[va,vb,.func (.func 127) #[] #[]] w fun e w'=>e=.returned (.bool (eqL a b))/\Below w.heap.size w w':=by
 obtain⟨aa,ca,rfl,la1,la2,jG⟩:=ha.at;obtain⟨ab,cb,rfl,lb1,lb2,jD⟩:=hb.at;have HA:=zh jG;have HB:=zh jD;clear jG jD ha hb;by_cases hl:a.length=b.length
 ·have HL:=zh hl;rw[<-hl] at lb1 ⊢;clear hl;go_enter Tryz.func126,Tryz.ntmps126;go_wp2_with fail;go_loopw [17] (fun iv wr=>∃q:Nat,q<=a.length/\iv=.int .i64 (q:Int)/\Hid (Below w.heap.size w wr)/\Hid (a.take q=b.take q)) (fun iv _=>a.length-(intOf iv).toNat)
  case atStart=>exact⟨0,Nat.zero_le _,rfl,zh (Below.refl _ _),zh rfl⟩
  case round=>
   obtain⟨q,hq,rfl,HW,HT⟩:=hrel;(rename World=>wr);by_cases jM:q<a.length
   ·obtain⟨x,hx,-⟩:=getElem?_of_lt jM;obtain⟨y,hy,-⟩:=getElem?_of_lt (show q<b.length by rw[<-HL.out];exact jM);have tN:(0:Int)<=(q:Int)/\(q:Int)<(a.length:Int):=CR;have HX:=zh hx;have HY:=zh hy;obtain⟨b1,o1,rfl,-,zX,oO,-,mY⟩:=HA.out q x hx;obtain⟨b2,o2,rfl,-,zW,sE,-,qA⟩:=HB.out q y hy;obtain⟨oV,oM,rfl,-,-,hp,hf⟩:=id oO;obtain⟨ra1,rc1,rfl,-⟩:=id hp;obtain⟨jV,jU,rfl,-⟩:=id hf;clear hp hf;obtain⟨vr2,vf2,rfl,-,-,hp,hf⟩:=id sE;obtain⟨ra2,rc2,rfl,-⟩:=id hp;obtain⟨uG,uF,rfl,-⟩:=id hf;clear hp hf;have p1a:wr.cell? ⟨b1,o1+q*5,none⟩=_:=aD HW.out (mY 0 _ rfl);have p1b:wr.cell? ⟨b1,o1+q*5+1,none⟩=_:=aD HW.out (mY 1 _ rfl);have p1c:wr.cell? ⟨b1,o1+q*5+2,none⟩=_:=aD HW.out (mY 2 _ rfl);have p1d:wr.cell? ⟨b1,o1+q*5+3,none⟩=_:=aD HW.out (mY 3 _ rfl);have p1e:wr.cell? ⟨b1,o1+q*5+4,none⟩=_:=aD HW.out (mY 4 _ rfl);have p2a:wr.cell? ⟨b2,o2+q*5,none⟩=_:=aD HW.out (qA 0 _ rfl);have p2b:wr.cell? ⟨b2,o2+q*5+1,none⟩=_:=aD HW.out (qA 1 _ rfl);have p2c:wr.cell? ⟨b2,o2+q*5+2,none⟩=_:=aD HW.out (qA 2 _ rfl);have p2d:wr.cell? ⟨b2,o2+q*5+3,none⟩=_:=aD HW.out (qA 3 _ rfl);have p2e:wr.cell? ⟨b2,o2+q*5+4,none⟩=_:=aD HW.out (qA 4 _ rfl);have yG:=zh (fun W(hb:Below wr.heap.size wr W)=>sameNd_any x y (w:=W) (fC _ _ _ _ _ _ (aM.later (aA HW.out hb)) oO) (fC _ _ _ _ _ _ (aM.later (aA HW.out hb)) sE));have qM:=zh (sameNd_iff x y);clear mY qA hx hy oO sE;have jO:=zh (aB wr (.cells #[.string x.name,.slice ra1 x.ranges.length rc1,.int .i64 x.kind,.string x.whn,.slice jV x.feats.length jU] 71));have qY:=zh (aA jO.out (aB (wr.alloc (.cells #[.string x.name,.slice ra1 x.ranges.length rc1,.int .i64 x.kind,.string x.whn,.slice jV x.feats.length jU] 71)) (.cells #[.string y.name,.slice ra2 y.ranges.length rc2,.int .i64 y.kind,.string y.whn,.slice uG y.feats.length uF] 71)));have t2a:=aD jO.out p2a;have t2b:=aD jO.out p2b;have t2c:=aD jO.out p2c;have t2d:=aD jO.out p2d;have t2e:=aD jO.out p2e;have lF:(wr.alloc (.cells #[.string x.name,.slice ra1 x.ranges.length rc1,.int .i64 x.kind,.string x.whn,.slice jV x.feats.length jU] 71)).heap.size=wr.heap.size+1:=C0;have qE:=bY (wr.alloc (.cells #[.string x.name,.slice ra1 x.ranges.length rc1,.int .i64 x.kind,.string x.whn,.slice jV x.feats.length jU] 71)) (.cells #[.string y.name,.slice ra2 y.ranges.length rc2,.int .i64 y.kind,.string y.whn,.slice uG y.feats.length uF] 71);rw[lF] at qE;obtain⟨x0,x1,x2,x3,x4⟩:=cf5 (aC (aB (wr.alloc (.cells #[.string x.name,.slice ra1 x.ranges.length rc1,.int .i64 x.kind,.string x.whn,.slice jV x.feats.length jU] 71)) (.cells #[.string y.name,.slice ra2 y.ranges.length rc2,.int .i64 y.kind,.string y.whn,.slice uG y.feats.length uF] 71)) (bY wr (.cells #[.string x.name,.slice ra1 x.ranges.length rc1,.int .i64 x.kind,.string x.whn,.slice jV x.feats.length jU] 71)));obtain⟨y0,y1,y2,y3,y4⟩:=cf5 qE;clear qE;go_wp2_with fail;go_at_call 127;refine(yG.out _ qY.out).mono ?_;rintro e w8 ⟨rfl,rF⟩;have pN:=zh (aA HW.out (aA qY.out rF));generalize sameNd x y=sr at *;exact AY
   exact BG
 have HE:Hid (eqL a b=false):=zh (cH (fun e=>hl (by rw[e])));have tP:((a.length:Int)==(b.length:Int))=false:=DN;go_enter Tryz.func126,Tryz.ntmps126;exact B7
theorem sameFts_any(a b:List Ft){N N':Nat->Prop}{va vb:Value}{w:World}(ha:aK 2 dO N w va a)(hb:aK 2 dO N' w vb b):
  Calls Tryz.prog 128 #[va,vb,.func (.func 129) #[] #[]] w fun e w'=>e=.returned (.bool (eqL a b))/\Below w.heap.size w w':=by
 obtain⟨aa,ca,rfl,la1,la2,jG⟩:=ha.at;obtain⟨ab,cb,rfl,lb1,lb2,jD⟩:=hb.at;have HA:=zh jG;have HB:=zh jD;clear jG jD ha hb;by_cases hl:a.length=b.length
 ·have HL:=zh hl;rw[<-hl] at lb1 ⊢;clear hl;go_enter Tryz.func128,Tryz.ntmps128;go_wp2_with fail;go_loopw [17] (fun iv wr=>∃q:Nat,q<=a.length/\iv=.int .i64 (q:Int)/\Hid (Below w.heap.size w wr)/\Hid (a.take q=b.take q)) (fun iv _=>a.length-(intOf iv).toNat)
  case atStart=>exact⟨0,Nat.zero_le _,rfl,zh (Below.refl _ _),zh rfl⟩
  case round=>
   obtain⟨q,hq,rfl,HW,HT⟩:=hrel;(rename World=>wr);by_cases jM:q<a.length
   ·obtain⟨x,hx,-⟩:=getElem?_of_lt jM;obtain⟨y,hy,-⟩:=getElem?_of_lt (show q<b.length by rw[<-HL.out];exact jM);have tN:(0:Int)<=(q:Int)/\(q:Int)<(a.length:Int):=CR;have HX:=zh hx;have HY:=zh hy;obtain⟨b1,o1,rfl,-,zX,oO,-,mY⟩:=HA.out q x hx;obtain⟨b2,o2,rfl,-,zW,sE,-,qA⟩:=HB.out q y hy;obtain⟨oM,rfl,-,hf⟩:=id oO;obtain⟨jV,jU,rfl,-⟩:=id hf;clear hf;obtain⟨vf2,rfl,-,hf⟩:=id sE;obtain⟨uG,uF,rfl,-⟩:=id hf;clear hf;have p1a:wr.cell? ⟨b1,o1+q*2,none⟩=_:=aD HW.out (mY 0 _ rfl);have p1b:wr.cell? ⟨b1,o1+q*2+1,none⟩=_:=aD HW.out (mY 1 _ rfl);have p2a:wr.cell? ⟨b2,o2+q*2,none⟩=_:=aD HW.out (qA 0 _ rfl);have p2b:wr.cell? ⟨b2,o2+q*2+1,none⟩=_:=aD HW.out (qA 1 _ rfl);have yG:=zh (fun W(hb:Below wr.heap.size wr W)=>sameFt_any x y (w:=W) (encFt_ok _ _ _ _ _ _ (aM.later (aA HW.out hb)) oO) (encFt_ok _ _ _ _ _ _ (aM.later (aA HW.out hb)) sE));have qM:=zh (sameFt_iff x y);clear mY qA hx hy oO sE;have jO:=zh (aB wr (.cells #[.string x.name,.slice jV x.implies.length jU] 73));have qY:=zh (aA jO.out (aB (wr.alloc (.cells #[.string x.name,.slice jV x.implies.length jU] 73)) (.cells #[.string y.name,.slice uG y.implies.length uF] 73)));have t2a:=aD jO.out p2a;have t2b:=aD jO.out p2b;have lF:(wr.alloc (.cells #[.string x.name,.slice jV x.implies.length jU] 73)).heap.size=wr.heap.size+1:=C0;have qE:=bY (wr.alloc (.cells #[.string x.name,.slice jV x.implies.length jU] 73)) (.cells #[.string y.name,.slice uG y.implies.length uF] 73);rw[lF] at qE;obtain⟨x0,x1⟩:=cf2 (aC (aB (wr.alloc (.cells #[.string x.name,.slice jV x.implies.length jU] 73)) (.cells #[.string y.name,.slice uG y.implies.length uF] 73)) (bY wr (.cells #[.string x.name,.slice jV x.implies.length jU] 73)));obtain⟨y0,y1⟩:=cf2 qE;clear qE;go_wp2_with fail;go_at_call 129;refine(yG.out _ qY.out).mono ?_;rintro e w8 ⟨rfl,rF⟩;have pN:=zh (aA HW.out (aA qY.out rF));generalize sameFt x y=sr at *;exact AY
   exact BG
 have HE:Hid (eqL a b=false):=zh (cH (fun e=>hl (by rw[e])));have tP:((a.length:Int)==(b.length:Int))=false:=DN;go_enter Tryz.func128,Tryz.ntmps128;exact B7
theorem sameRl_any(x y:Rl){N N':Nat->Prop}{vn vf vp vn' vf' vp':Value}{w:World}(hx:RlV N w x vn vf vp)(hy:RlV N' w y vn' vf' vp'):
  Calls Tryz.prog 72 #[.agg (rlC x vn vf vp).toArray,.agg (rlC y vn' vf' vp').toArray] w fun e w'=>e=.returned (.bool (sameRl x y))/\Below w.heap.size w w':=by
 have HN:=zh (fun W(hb:Below w.heap.size w W)=>sameNds_any x.needs y.needs (w:=W) (hx.needs.moves fC (aM.later hb) CX) (hy.needs.moves fC (aM.later hb) CX));have HF:=zh (fun W(hb:Below w.heap.size w W)=>sameFts_any x.feats y.feats (w:=W) (hx.feats.moves encFt_ok (aM.later hb) CX) (hy.feats.moves encFt_ok (aM.later hb) CX));have HP:=zh (fun W(hb:Below w.heap.size w W)=>names_any x.plats y.plats _ _ W (aK.strs (hx.plats.moves aT (aM.later hb) CX)) (aK.strs (hy.plats.moves aT (aM.later hb) CX)));obtain⟨anx,cnx,rfl,-⟩:=id hx.needs;obtain⟨afx,cfx,rfl,-⟩:=id hx.feats;obtain⟨apx,cpx,rfl,-⟩:=id hx.plats;obtain⟨any,cny,rfl,-⟩:=id hy.needs;obtain⟨afy,cfy,rfl,-⟩:=id hy.feats;obtain⟨apy,cpy,rfl,-⟩:=id hy.plats;clear hx hy;have nD:=fun W=>eqVer x.ver y.ver W;obtain⟨nx,vx,sx,dx,fx,px,lx⟩:=x;obtain⟨ny,vy,sy,dy,fy,py,ly⟩:=y;dsimp only at *;have HR:Hid (sameRl ⟨nx,vx,sx,dx,fx,px,lx⟩ ⟨ny,vy,sy,dy,fy,py,ly⟩=(eqL dx dy&&eqL fx fy&&decide (nx=ny)&&decide (vx=vy)&&decide (sx=sy)&&eqL px py&&decide (lx=ly))):=zh rfl;generalize sameRl ⟨nx,vx,sx,dx,fx,px,lx⟩ ⟨ny,vy,sy,dy,fy,py,ly⟩=rr at *;generalize eqL dx dy=q1 at *;generalize eqL fx fy=q2 at *;generalize eqL px py=q6 at *;show Calls Tryz.prog 72 #[.agg #[.string nx,.int .i64 vx.a,.int .i64 vx.b,.int .i64 vx.c,.string sx,.slice anx dx.length cnx,.slice afx fx.length cfx,.slice apx px.length cpx,.string lx],.agg #[.string ny,.int .i64 vy.a,.int .i64 vy.b,.int .i64 vy.c,.string sy,.slice any dy.length cny,.slice afy fy.length cfy,.slice apy py.length cpy,.string ly]] w _;generalize dx.length=nnx at *;generalize fx.length=nfx at *;generalize px.length=npx at *;generalize dy.length=nny at *;generalize fy.length=nfy at *;generalize py.length=npy at *;have jD:=zh (aA (aB w (.cells #[.string nx,.int .i64 vx.a,.int .i64 vx.b,.int .i64 vx.c,.string sx,.slice anx nnx cnx,.slice afx nfx cfx,.slice apx npx cpx,.string lx] 28)) (aB (w.alloc (.cells #[.string nx,.int .i64 vx.a,.int .i64 vx.b,.int .i64 vx.c,.string sx,.slice anx nnx cnx,.slice afx nfx cfx,.slice apx npx cpx,.string lx] 28)) (.cells #[.string ny,.int .i64 vy.a,.int .i64 vy.b,.int .i64 vy.c,.string sy,.slice any nny cny,.slice afy nfy cfy,.slice apy npy cpy,.string ly] 28)));have iN:=zh (aC (aB (w.alloc (.cells #[.string nx,.int .i64 vx.a,.int .i64 vx.b,.int .i64 vx.c,.string sx,.slice anx nnx cnx,.slice afx nfx cfx,.slice apx npx cpx,.string lx] 28)) (.cells #[.string ny,.int .i64 vy.a,.int .i64 vy.b,.int .i64 vy.c,.string sy,.slice any nny cny,.slice afy nfy cfy,.slice apy npy cpy,.string ly] 28)) (bY w (.cells #[.string nx,.int .i64 vx.a,.int .i64 vx.b,.int .i64 vx.c,.string sx,.slice anx nnx cnx,.slice afx nfx cfx,.slice apx npx cpx,.string lx] 28)));have jE:=bY (w.alloc (.cells #[.string nx,.int .i64 vx.a,.int .i64 vx.b,.int .i64 vx.c,.string sx,.slice anx nnx cnx,.slice afx nfx cfx,.slice apx npx cpx,.string lx] 28)) (.cells #[.string ny,.int .i64 vy.a,.int .i64 vy.b,.int .i64 vy.c,.string sy,.slice any nny cny,.slice afy nfy cfy,.slice apy npy cpy,.string ly] 28);rw[show(w.alloc (.cells #[.string nx,.int .i64 vx.a,.int .i64 vx.b,.int .i64 vx.c,.string sx,.slice anx nnx cnx,.slice afx nfx cfx,.slice apx npx cpx,.string lx] 28)).heap.size=w.heap.size+1 by simp] at jE;have jI:=zh jE;clear jE;go_enter Tryz.func72,Tryz.ntmps72;obtain⟨x0,x1,x2,x3,x4,x5,x6,x7,x8⟩:=cf9 iN.out;obtain⟨y0,y1,y2,y3,y4,y5,y6,y7,y8⟩:=cf9 jI.out;go_wp2_with fail;clear x0 x1 x2 x3 x4 x5 x6 x7 x8 y0 y1 y2 y3 y4 y5 y6 y7 y8;go_at_call 126;refine(HN.out _ jD.out).mono ?_;rintro e tU ⟨rfl,hb⟩;have kW:=zh hb;have jL:=zh (aA jD.out kW.out);obtain⟨x0,x1,x2,x3,x4,x5,x6,x7,x8⟩:=cf9 (aC kW.out iN.out);obtain⟨y0,y1,y2,y3,y4,y5,y6,y7,y8⟩:=cf9 (aC kW.out jI.out);clear hb;go_wp2_with fail;clear x0 x1 x2 x3 x4 x5 x6 x7 x8 y0 y1 y2 y3 y4 y5 y6 y7 y8;go_at_call 128;refine(HF.out _ jL.out).mono ?_;rintro e vD ⟨rfl,hb⟩;have kY:=zh (aA kW.out hb);have jF:=zh (aA jD.out kY.out);obtain⟨x0,x1,x2,x3,x4,x5,x6,x7,x8⟩:=cf9 (aC kY.out iN.out);obtain⟨y0,y1,y2,y3,y4,y5,y6,y7,y8⟩:=cf9 (aC kY.out jI.out);clear hb
 cases q1 with
 |false=>
  exact AX
 |true=>
  cases q2 with
  |false=>
   exact AX
  |true=>
   by_cases h1:nx=ny
   ·subst h1;by_cases h2:vx=vy
    ·clear nD;subst h2;have nD:=fun W=>eqVer vx vx W;rw[decide_eq_true (rfl:vx=vx)] at nD;by_cases h3:sx=sy
     ·subst h3;go_wp2_with fail;clear x0 x1 x2 x3 x4 x5 x6 x7 x8 y0 y1 y2 y3 y4 y5 y6 y7 y8;go_at_call 124;refine(HP.out _ jF.out).mono ?_;rintro e wv3 ⟨rfl,hb⟩;have mL:=zh (aA kY.out hb);have kH:=zh (aA jD.out mL.out);obtain⟨x0,x1,x2,x3,x4,x5,x6,x7,x8⟩:=cf9 (aC mL.out iN.out);obtain⟨y0,y1,y2,y3,y4,y5,y6,y7,y8⟩:=cf9 (aC mL.out jI.out);clear hb
      cases q6 with
      |false=>
       exact BP
      |true=>
       by_cases h7:lx=ly
       ·subst h7;exact BP
       have g:(lx.toList==ly.toList)=false:=cO h7;go_wp2_with fail;go_ret;exact⟨aF (by rw[HR.out];simp[h7]),kH.out⟩
     have g:(sx.toList==sy.toList)=false:=cO h3;go_wp2_with fail;go_ret;exact⟨aF (by rw[HR.out];simp[h3]),jF.out⟩
    have g:decide (vx=vy)=false:=decide_eq_false h2;rw[g] at nD;go_wp2_with fail;go_ret;exact⟨aF (by rw[HR.out];simp[h2]),jF.out⟩
   have g:(nx.toList==ny.toList)=false:=cO h1;go_wp2_with fail;go_ret;exact⟨aF (by rw[HR.out];simp[h1]),jF.out⟩
end Go.Proofs.YtmpopphjaggeoaaGreatDoor
