/- Texts of this seat, joined. -/
import Derived.Test.YtiionicikdnnpaaGreatDoorPAH
set_option maxHeartbeats 32000000
set_option maxRecDepth 100000
set_option linter.unusedVariables false
set_option linter.unusedSimpArgs false
set_option linter.constructorNameAsVariable false
namespace Go.Proofs.YtiionicikdnnpaaGreatDoor
open Go.RowKit
theorem TV{p:Prop}(h:p:=by
 have HR:=zh (lZ HT.out VS);by_cases hf:(fs.length:Int)<=10
 ·have BI:fs.length<=10:=VS;have HF2:=zh BI;clear BI;go_wp2_with fail;go_ret;exact⟨⟨true,rfl,fun _=>⟨HR.out,HF2.out⟩⟩,HW.out⟩
 go_wp2_with fail;go_ret
 exact⟨⟨false,rfl,fun h=>WV⟩,HW.out⟩):p:=h
theorem TX{p:Prop}(h:p:=by
 go_wp2_with fail;go_ret
 exact⟨⟨false,rfl,fun h=>WV⟩,HW.out⟩):p:=h
theorem oE(fs:List Fld){N:Nat->Prop}{v:Value}{w:World}(ha:aO 3 wF N w v fs):
  Calls Tryz.prog 64 #[v] w fun e w'=>SaysB ((∀y∈fs,y.1.size<=30/\shT y.2)/\fs.length<=10) e/\Below w.heap.size w w':=by
 obtain⟨a1,c1,rfl,vD,vC,qB⟩:=ha.at;have HA:=zh qB;clear qB ha;go_enter Tryz.func64,Tryz.ntmps64;go_wp2_with fail;go_loopw [3] (fun iv wr=>∃q:Nat,q<=fs.length/\iv=.int .i64 (q:Int)/\Hid (Below w.heap.size w wr)/\Hid (∀y∈fs.take q,y.1.size<=30/\shT y.2)) (fun iv _=>fs.length-(intOf iv).toNat)
 case atStart=>exact⟨0,Nat.zero_le _,rfl,zh (Below.refl _ _),zh VY⟩
 case round=>
  obtain⟨q,hq,rfl,HW,HT⟩:=hrel;rename World=>wr
  by_cases pS:q<fs.length
  ·by_cases hk:(q:Int)<=10
   ·obtain⟨x,hx,-⟩:=getElem?_of_lt pS;have sL:(0:Int)<=(q:Int)/\(q:Int)<(fs.length:Int):=VS;have uT:=zh hx;obtain⟨nm,x⟩:=x;obtain⟨b1,o1,rfl,-,uG,⟨K0,rfl,FI,qF⟩,-,pO⟩:=HA.out q (nm,x) hx;obtain⟨k1,i1,j1,z1,rfl⟩:=wT_form qF;have rG:wr.cell? ⟨b1,o1+q*3,none⟩=some (.string nm):=aB HW.out (pO 0 _ rfl);have rF:wr.cell? ⟨b1,o1+q*3+1,none⟩=some (.int .i64 k1):=aB HW.out (pO 1 _ rfl);have rI:wr.cell? ⟨b1,o1+q*3+1+1,none⟩=some (.slice i1 j1 z1):=aB HW.out (pO 2 _ rfl);by_cases hz:(30:Int)<(nm.size:Int)
    ·clear pO hx qF;exact TX
    have vE:=zh (fun W(hb:Below wr.heap.size wr W)=>fewType_any x (wT_ok _ _ _ _ _ _ (aK.later (aA HW.out hb)) qF));clear pO hx qF;go_wp2_with fail;refine(vE.out _ (Below.refl _ _)).mono ?_;rintro e w8 ⟨⟨sr,rfl,ES⟩,qM⟩;have rR:=zh (aA HW.out qM);clear qM vE rG rF rI
    cases sr with
    |true=>
     have uF:=zh (iK uT.out HT.out ⟨by show nm.size<=30;omega,ES rfl⟩);clear ES;exact SH
    |false=>
     go_wp2_with fail;go_ret;exact⟨⟨false,rfl,fun h=>WV⟩,rR.out⟩
   have hf:¬(fs.length:Int)<=10:=VS;exact TX
  exact TV
theorem fewExps_any(fs:List Xp){N:Nat->Prop}{v:Value}{w:World}(ha:aO 6 wX N w v fs):
  Calls Tryz.prog 66 #[v] w fun e w'=>SaysB ((∀y∈fs,shX y)/\fs.length<=10) e/\Below w.heap.size w w':=by
 obtain⟨a1,c1,rfl,vD,vC,qB⟩:=ha.at;have HA:=zh qB;clear qB ha;go_enter Tryz.func66,Tryz.ntmps66;go_wp2_with fail;go_loopw [3] (fun iv wr=>∃q:Nat,q<=fs.length/\iv=.int .i64 (q:Int)/\Hid (Below w.heap.size w wr)/\Hid (∀y∈fs.take q,shX y)) (fun iv _=>fs.length-(intOf iv).toNat)
 case atStart=>exact⟨0,Nat.zero_le _,rfl,zh (Below.refl _ _),zh VY⟩
 case round=>
  obtain⟨q,hq,rfl,HW,HT⟩:=hrel;rename World=>wr
  by_cases pS:q<fs.length
  ·by_cases hk:(q:Int)<=10
   ·obtain⟨x,hx,-⟩:=getElem?_of_lt pS;have sL:(0:Int)<=(q:Int)/\(q:Int)<(fs.length:Int):=VS;have uT:=zh hx;obtain⟨b1,o1,rfl,-,uG,qF,-,pO⟩:=HA.out q x hx;obtain⟨rW,n1,s1,m1,i1,j1,k1,u1,z1,t1,rfl⟩:=wX_form qF;have rG:wr.cell? ⟨b1,o1+q*6,none⟩=some (.int .i64 rW):=aB HW.out (pO 0 _ rfl);have rF:=aB HW.out (pO 1 _ rfl);have rI:=aB HW.out (pO 2 _ rfl);have sG:=aB HW.out (pO 3 _ rfl);have sF:=aB HW.out (pO 4 _ rfl);have sD:=aB HW.out (pO 5 _ rfl);have vE:=zh (fun W(hb:Below wr.heap.size wr W)=>fewExp_any x (oK _ _ _ _ _ _ (aK.later (aA HW.out hb)) qF));clear pO hx qF;go_wp2_with fail;refine(vE.out _ (Below.refl _ _)).mono ?_;rintro e w8 ⟨⟨sr,rfl,ES⟩,qM⟩;have rR:=zh (aA HW.out qM);clear qM vE rG rF rI sG sF sD
    cases sr with
    |true=>
     have uF:=zh (iK uT.out HT.out (ES rfl));clear ES;exact SH
    |false=>
     go_wp2_with fail;go_ret;exact⟨⟨false,rfl,fun h=>WV⟩,rR.out⟩
   have hf:¬(fs.length:Int)<=10:=VS;exact TX
  exact TV
theorem wM_form{N:Nat->Prop}{w:World}{m:Mdl}{cs:List Value}(h:wM N w m cs):∃au du av dv ai di af df ao do_ aw dw ab db,cs=[.string m.name,.slice au m.uses.length du,.slice av m.vars.length dv,.slice ai m.init.length di,.slice af m.funcs.length df,.bool m.moves,.slice ao m.old.length do_,.slice aw m.forward.length dw,.slice ab m.back.length db]:=by
 obtain⟨vu,vv,vi,vf,vo,vw,vb,h1,h2,h3,h4,h5,h6,h7,h8,h9⟩:=h;obtain⟨au,du,rfl,-⟩:=h3.at;obtain⟨av,dv,rfl,-⟩:=h4.at;obtain⟨ai,di,rfl,-⟩:=h5.at;obtain⟨af,df,rfl,-⟩:=h6.at;obtain⟨ao,do_,rfl,-⟩:=h7.at;obtain⟨aw,dw,rfl,-⟩:=h8.at;obtain⟨ab,db,rfl,-⟩:=h9.at;exact⟨au,du,av,dv,ai,di,af,df,ao,do_,aw,dw,ab,db,h1⟩
theorem few_any(m:Mdl){N:Nat->Prop}{cs:List Value}{w:World}(hm:wM N w m cs):
  Calls Tryz.prog 19 #[.agg cs.toArray] w fun e w'=>SaysB (shM m) e/\Below w.heap.size w w':=by
 obtain⟨vu,vv,vi,vf,vo,vw,vb,rfl,FI,h3,h4,h5,h6,h7,h8,h9⟩:=hm;obtain⟨au,du,rfl,lu1,lu2,HU0⟩:=h3.at;obtain⟨av,dv,rfl,lv1,lv2,-⟩:=h4.at;obtain⟨ai,di,rfl,li1,li2,-⟩:=h5.at;obtain⟨af,df,rfl,lf1,lf2,qB⟩:=h6.at;obtain⟨ao,do_,rfl,lo1,lo2,-⟩:=h7.at;obtain⟨aw,dw,rfl,lw1,lw2,-⟩:=h8.at;obtain⟨ab,db,rfl,AV,FA,-⟩:=h9.at;have HU:=zh HU0;have HA:=zh qB;have pK:=zh (aC w (dX m.name au m.uses.length du av m.vars.length dv ai m.init.length di af m.funcs.length df m.moves ao m.old.length do_ aw m.forward.length dw ab m.back.length db));have HX:=zh (bY w (dX m.name au m.uses.length du av m.vars.length dv ai m.init.length di af m.funcs.length df m.moves ao m.old.length do_ aw m.forward.length dw ab m.back.length db));have hX:=HX.out;obtain⟨⟨x0,x1,x2,x3,x4,x5,x6,x7,x8⟩,-⟩:=bx9 hX;have HV:=zh (fun W(hb:Below (w.alloc (dX m.name au m.uses.length du av m.vars.length dv ai m.init.length di af m.funcs.length df m.moves ao m.old.length do_ aw m.forward.length dw ab m.back.length db)).heap.size (w.alloc (dX m.name au m.uses.length du av m.vars.length dv ai m.init.length di af m.funcs.length df m.moves ao m.old.length do_ aw m.forward.length dw ab m.back.length db)) W)=>h4.moves wF_ok (aK.later (aA pK.out hb)) VU);have HI:=zh (fun W(hb:Below (w.alloc (dX m.name au m.uses.length du av m.vars.length dv ai m.init.length di af m.funcs.length df m.moves ao m.old.length do_ aw m.forward.length dw ab m.back.length db)).heap.size (w.alloc (dX m.name au m.uses.length du av m.vars.length dv ai m.init.length di af m.funcs.length df m.moves ao m.old.length do_ aw m.forward.length dw ab m.back.length db)) W)=>h5.moves oK (aK.later (aA pK.out hb)) VU);have HO:=zh (fun W(hb:Below (w.alloc (dX m.name au m.uses.length du av m.vars.length dv ai m.init.length di af m.funcs.length df m.moves ao m.old.length do_ aw m.forward.length dw ab m.back.length db)).heap.size (w.alloc (dX m.name au m.uses.length du av m.vars.length dv ai m.init.length di af m.funcs.length df m.moves ao m.old.length do_ aw m.forward.length dw ab m.back.length db)) W)=>h7.moves wF_ok (aK.later (aA pK.out hb)) VU);have HFw:=zh (fun W(hb:Below (w.alloc (dX m.name au m.uses.length du av m.vars.length dv ai m.init.length di af m.funcs.length df m.moves ao m.old.length do_ aw m.forward.length dw ab m.back.length db)).heap.size (w.alloc (dX m.name au m.uses.length du av m.vars.length dv ai m.init.length di af m.funcs.length df m.moves ao m.old.length do_ aw m.forward.length dw ab m.back.length db)) W)=>h8.moves oK (aK.later (aA pK.out hb)) VU);have RR:=zh (fun W(hb:Below (w.alloc (dX m.name au m.uses.length du av m.vars.length dv ai m.init.length di af m.funcs.length df m.moves ao m.old.length do_ aw m.forward.length dw ab m.back.length db)).heap.size (w.alloc (dX m.name au m.uses.length du av m.vars.length dv ai m.init.length di af m.funcs.length df m.moves ao m.old.length do_ aw m.forward.length dw ab m.back.length db)) W)=>h9.moves oK (aK.later (aA pK.out hb)) VU);clear hX HU0 qB h3 h4 h5 h6 h7 h8 h9;go_enter Tryz.func19,Tryz.ntmps19;go_wp2_with fail;go_loopw [3] (fun iv wr=>∃q:Nat,q<=m.funcs.length/\iv=.int .i64 (q:Int)/\Hid (Below (w.alloc (dX m.name au m.uses.length du av m.vars.length dv ai m.init.length di af m.funcs.length df m.moves ao m.old.length do_ aw m.forward.length dw ab m.back.length db)).heap.size (w.alloc (dX m.name au m.uses.length du av m.vars.length dv ai m.init.length di af m.funcs.length df m.moves ao m.old.length do_ aw m.forward.length dw ab m.back.length db)) wr)/\Hid (∀y∈m.funcs.take q,shFn y)) (fun iv _=>m.funcs.length-(intOf iv).toNat)
 case atStart=>exact⟨0,Nat.zero_le _,rfl,zh (Below.refl _ _),zh VY⟩
 case round=>
  obtain⟨q,hq,rfl,HW,HT⟩:=hrel;rename World=>wr
  have pW:=aD HW.out HX.out;clear x0 x1 x2 x3 x4 x5 x6 x7 x8;obtain⟨⟨x0,x1,x2,x3,x4,x5,x6,x7,x8⟩,-⟩:=bx9 pW;clear pW;by_cases pS:q<m.funcs.length
  focus
   by_cases hk:(q:Int)<=8
   focus
    obtain⟨x,hx,-⟩:=getElem?_of_lt pS;have sL:(0:Int)<=(q:Int)/\(q:Int)<(m.funcs.length:Int):=VS;have uT:=zh hx;obtain⟨nm,pb,ps,rs,ef,bd⟩:=x;obtain⟨b1,o1,rfl,-,uG,⟨vp,kk,vf,op,n,s,q1,vn,va,rfl,KX,-,-,hp,ht,vB⟩,-,pO⟩:=HA.out q _ hx;obtain⟨ap,cp,rfl,-⟩:=hp.at;obtain⟨kz,at_,nt,ct,ez⟩:=wT_form ht;cases ez;obtain⟨oz,nz,sz,mz,an,ln,cn,ag,lg,cg,ez⟩:=wX_form vB;cases ez;dsimp only at *;have qZ:=zh (aA pK.out HW.out);have p0:wr.cell? ⟨b1,o1+q*12,none⟩=some (.string nm):=aB qZ.out (pO 0 _ rfl);have p1:=aB qZ.out (pO 1 _ rfl);have p2:=aB qZ.out (pO 2 _ rfl);have p3:=aB qZ.out (pO 3 _ rfl);have p4:=aB qZ.out (pO 4 _ rfl);have p5:=aB qZ.out (pO 5 _ rfl);have p6:=aB qZ.out (pO 6 _ rfl);have p7:=aB qZ.out (pO 7 _ rfl);have p8:=aB qZ.out (pO 8 _ rfl);have p9:=aB qZ.out (pO 9 _ rfl);have pA:=aB qZ.out (pO 10 _ rfl);have pB:=aB qZ.out (pO 11 _ rfl);have HP:=zh (fun W(hb:Below w.heap.size w W)=>hp.moves wF_ok (aK.later hb) VU);have HTy:=zh (fun W(hb:Below w.heap.size w W)=>wT_ok _ _ _ _ _ _ (aK.later hb) ht);have GO:=zh (fun W(hb:Below w.heap.size w W)=>oK _ _ _ _ _ _ (aK.later hb) vB);have HWf:=zh (aA HW.out (aC wr (dU nm pb ap ps.length cp kk at_ nt ct ef op n s q1 an ln cn ag lg cg)));have OO:=zh (bY wr (dU nm pb ap ps.length cp kk at_ nt ct ef op n s q1 an ln cn ag lg cg));have hFb:=OO.out;obtain⟨⟨f0,f1,f2,f3,f4,f5,f6,f7,f8,f9,fA,fB⟩,-⟩:=cY hFb;clear hFb pO hx hp ht vB KX;by_cases hz:(30:Int)<(nm.size:Int)
    ·go_wp2_with fail;go_ret;exact⟨⟨false,rfl,fun h=>WV⟩,aA pK.out HWf.out⟩
    go_wp2_with fail;refine(oE ps (HP.out _ (aA pK.out HWf.out))).mono ?_;rintro e w2 ⟨⟨b,rfl,hb⟩,pM⟩;have qN:=zh hb;have xN:=zh (aA HWf.out pM);have pW:=aD pM OO.out;clear f0 f1 f2 f3 f4 f5 f6 f7 f8 f9 fA fB;obtain⟨⟨f0,f1,f2,f3,f4,f5,f6,f7,f8,f9,fA,fB⟩,-⟩:=cY pW;clear pW;have HFb2:=zh (aD pM OO.out);clear hb pM
    cases b with
    |false=>
     go_wp2_with fail;go_ret;exact⟨⟨false,rfl,fun h=>WV⟩,aA pK.out xN.out⟩
    |true=>
     go_wp2_with fail;refine(fewType_any rs (HTy.out _ (aA pK.out xN.out))).mono ?_;rintro e w3 ⟨⟨b,rfl,hb⟩,pR⟩;have pQ:=zh hb;have MS:=zh (aA xN.out pR);have pW:=aD pR HFb2.out;clear f0 f1 f2 f3 f4 f5 f6 f7 f8 f9 fA fB;obtain⟨⟨f0,f1,f2,f3,f4,f5,f6,f7,f8,f9,fA,fB⟩,-⟩:=cY pW;clear pW;have HFb3:=zh (aD pR HFb2.out);clear hb pR
     cases b with
     |false=>
      go_wp2_with fail;go_ret;exact⟨⟨false,rfl,fun h=>WV⟩,aA pK.out MS.out⟩
     |true=>
      go_wp2_with fail;refine(fewExp_any bd (GO.out _ (aA pK.out MS.out))).mono ?_;rintro e w4 ⟨⟨b,rfl,hb⟩,qE⟩;have qG:=zh hb;have HW4:=zh (aA MS.out qE);clear hb qE
      cases b with
      |false=>
       go_wp2_with fail;go_ret;exact⟨⟨false,rfl,fun h=>WV⟩,aA pK.out HW4.out⟩
      |true=>
       have uF:=zh (iK uT.out HT.out (show shFn ⟨nm,pb,ps,rs,ef,bd⟩ from⟨by show nm.size<=30;omega,(qN.out WU).1,pQ.out WU,qG.out WU⟩));go_wp2_with fail;go_roundw;(case rel=>exact⟨q+1,VS,WH,HW4,uF⟩);case measure=>simp[intOf];omega
   have HF:Hid (m.funcs.length<=8->∀y∈m.funcs,shFn y):=zh (fun h=>VS);clear HT;go_wp2_with fail;clear pS hk
  rotate_right
  focus
   have HF:Hid (m.funcs.length<=8->∀y∈m.funcs,shFn y):=zh (fun _=>lZ HT.out VS);clear HT;go_wp2_with fail;clear pS
  all_goals
   (go_loopw [5] (fun iv wr=>∃q:Nat,q<=m.uses.length/\iv=.int .i64 (q:Int)/\Hid (Below (w.alloc (dX m.name au m.uses.length du av m.vars.length dv ai m.init.length di af m.funcs.length df m.moves ao m.old.length do_ aw m.forward.length dw ab m.back.length db)).heap.size (w.alloc (dX m.name au m.uses.length du av m.vars.length dv ai m.init.length di af m.funcs.length df m.moves ao m.old.length do_ aw m.forward.length dw ab m.back.length db)) wr)) (fun iv _=>m.uses.length-(intOf iv).toNat));case atStart=>exact⟨0,Nat.zero_le _,rfl,HW⟩
   case round=>
    clear HW hq;obtain⟨q,hq,rfl,HW⟩:=hrel;(rename World=>wr);have pW:=aD HW.out HX.out;clear x0 x1 x2 x3 x4 x5 x6 x7 x8;obtain⟨⟨x0,x1,x2,x3,x4,x5,x6,x7,x8⟩,-⟩:=bx9 pW;clear pW;by_cases pS:q<m.uses.length
    focus
     by_cases hk:(q:Int)<=14
     focus
      obtain⟨x,hx,-⟩:=getElem?_of_lt pS;have sL:(0:Int)<=(q:Int)/\(q:Int)<(m.uses.length:Int):=VS;obtain⟨b1,o1,rfl,-,uG,⟨rfl,-⟩,-,pO⟩:=HU.out q x hx;(have p0:wr.cell? ⟨b1,o1+q,none⟩=some (.string x):=by have h:=aB (aA pK.out HW.out) (pO 0 _ rfl);simpa using h);clear pO hx;by_cases hz:(30:Int)<(x.size:Int)
      ·exact SM
      exact VP
     focus
      have g2:¬(m.uses.length:Int)<=14:=VS;by_cases g1:(m.name.size:Int)<=30
      ·exact SM
      exact SM
    focus
     by_cases g1:(m.name.size:Int)<=30
     ·by_cases g2:(m.uses.length:Int)<=14
      ·by_cases g3:(m.funcs.length:Int)<=8
       ·have HXr:=zh (aD HW.out HX.out);go_wp2_with fail;refine(oE m.vars (HV.out _ HW.out)).mono ?_;rintro e v1 ⟨⟨b,rfl,hb⟩,pN⟩;have HK1:=zh hb;have HV1:=zh (aA HW.out pN);have HXv1:=zh (aD pN HXr.out);have pW:=HXv1.out;clear x0 x1 x2 x3 x4 x5 x6 x7 x8 hb pN;obtain⟨⟨x0,x1,x2,x3,x4,x5,x6,x7,x8⟩,-⟩:=bx9 pW;clear pW
        cases b with
        |false=>
         go_wp2_with fail;go_ret;exact⟨⟨false,rfl,fun h=>WV⟩,aA pK.out HV1.out⟩
        |true=>
         go_wp2_with fail;refine(fewExps_any m.init (HI.out _ HV1.out)).mono ?_;rintro e v2 ⟨⟨b,rfl,hb⟩,pM⟩;have HK2:=zh hb;have HV2:=zh (aA HV1.out pM);have HXv2:=zh (aD pM HXv1.out);have pW:=HXv2.out;clear x0 x1 x2 x3 x4 x5 x6 x7 x8 hb pM;obtain⟨⟨x0,x1,x2,x3,x4,x5,x6,x7,x8⟩,-⟩:=bx9 pW;clear pW
         cases b with
         |false=>
          go_wp2_with fail;go_ret;exact⟨⟨false,rfl,fun h=>WV⟩,aA pK.out HV2.out⟩
         |true=>
          go_wp2_with fail;refine(oE m.old (HO.out _ HV2.out)).mono ?_;rintro e v3 ⟨⟨b,rfl,hb⟩,pR⟩;have HK3:=zh hb;have HV3:=zh (aA HV2.out pR);have HXv3:=zh (aD pR HXv2.out);have pW:=HXv3.out;clear x0 x1 x2 x3 x4 x5 x6 x7 x8 hb pR;obtain⟨⟨x0,x1,x2,x3,x4,x5,x6,x7,x8⟩,-⟩:=bx9 pW;clear pW
          cases b with
          |false=>
           go_wp2_with fail;go_ret;exact⟨⟨false,rfl,fun h=>WV⟩,aA pK.out HV3.out⟩
          |true=>
           go_wp2_with fail;refine(fewExps_any m.forward (HFw.out _ HV3.out)).mono ?_;rintro e v4 ⟨⟨b,rfl,hb⟩,qE⟩;have HK4:=zh hb;have HV4:=zh (aA HV3.out qE);have HXv4:=zh (aD qE HXv3.out);have pW:=HXv4.out;clear x0 x1 x2 x3 x4 x5 x6 x7 x8 hb qE;obtain⟨⟨x0,x1,x2,x3,x4,x5,x6,x7,x8⟩,-⟩:=bx9 pW;clear pW
           cases b with
           |false=>
            go_wp2_with fail;go_ret;exact⟨⟨false,rfl,fun h=>WV⟩,aA pK.out HV4.out⟩
           |true=>
            go_wp2_with fail;refine(fewExps_any m.back (RR.out _ HV4.out)).mono ?_;rintro e v5 ⟨⟨b,rfl,hb⟩,hb5⟩;have HK5:=zh hb;have HV5:=zh (aA HV4.out hb5);have HXv5:=zh (aD hb5 HXv4.out);have pW:=HXv5.out;clear x0 x1 x2 x3 x4 x5 x6 x7 x8 hb hb5;obtain⟨⟨x0,x1,x2,x3,x4,x5,x6,x7,x8⟩,-⟩:=bx9 pW;clear pW
            cases b with
            |false=>
             go_wp2_with fail;go_ret;exact⟨⟨false,rfl,fun h=>WV⟩,aA pK.out HV5.out⟩
            |true=>
             have HR:Hid (shM m):=zh ⟨VS,HF.out VS,(HK1.out WU).1,(HK2.out WU).1,(HK3.out WU).1,(HK4.out WU).1,(HK5.out WU).1,(HK3.out WU).2,(HK4.out WU).2,(HK5.out WU).2⟩;go_wp2_with fail;go_ret;exact⟨⟨true,rfl,fun _=>HR.out⟩,aA pK.out HV5.out⟩
       exact SM
      exact SM
     exact SM
structure RunXAt (p:Prs) (w:World) (pv mb:Nat):Prop where
 at_:p.At w 0
 hpv:w.heap[pv]? =some (.cells #[.pointer (some ⟨p.pb,0,none⟩)] 74)
 hmb:w.heap[mb]? =some (.cells bG 35)
 ne:mb≠p.pb/\pv≠p.pb/\pv≠mb
 nb:p.b≠mb/\11<=mb
theorem RunXAt.later{p:Prs}{w w':World}{pv mb:Nat}(h:RunXAt p w pv mb)(hb:Below w.heap.size w w'):RunXAt p w' pv mb:=⟨h.at_.later hb,aD hb h.hpv,aD hb h.hmb,h.ne,h.nb⟩
def XpIn(B:Nat)(w:World)(mb:Nat)(x:Xp):Prop:=∃op n s m a1 n1 c1 a2 n2 c2,
 w.heap[mb]? =some (aH op n s m a1 n1 c1 a2 n2 c2)/\aU (bP B) w x [.int .i64 op,.int .i64 n,.string s,.string m,.slice a1 n1 c1,.slice a2 n2 c2]
theorem XpIn.later{B:Nat}{w w':World}{mb:Nat}{x:Xp}(h:XpIn B w mb x)(hb:Below w.heap.size w w'):XpIn B w' mb x:=by
 obtain⟨op,n,s,m,a1,n1,c1,a2,n2,c2,h1,h2⟩:=h;exact⟨op,n,s,m,a1,n1,c1,a2,n2,c2,aD hb h1,aG _ _ _ _ _ _ (aK.later hb) h2⟩
theorem XpIn.off{B B':Nat}{w w':World}{mb:Nat}{x:Xp}{S:Nat->Prop}(h:XpIn B w mb x)(ho:Off S w w')(h1:¬S mb)(h2:∀b,S b->¬B<=b)(hB:B'<=B):XpIn B' w' mb x:=by
 obtain⟨op,n,s,m,a1,n1,c1,a2,n2,c2,e1,e2⟩:=h;exact⟨op,n,s,m,a1,n1,c1,a2,n2,c2,ho.heap h1 e1,aG.wide (aG.off e2 ho (fun b hb hn=>h2 b hb hn)) (fun b hb _=>Nat.le_trans hB hb)⟩
theorem set6_heap{w:World}{b:Nat}{z0 z1 z2 z3 z4 z5 x0 x1 x2 x3 x4 x5:Value}{t:TypeId}(h:w.heap[b]? =some (.cells #[z0,z1,z2,z3,z4,z5] t)):(fP w b x0 x1 x2 x3 x4 x5).heap[b]? =some (.cells #[x0,x1,x2,x3,x4,x5] t):=by
 unfold fP;rw[aW (aW (aW (aW (aW (aW h _) _) _) _) _) _];rfl
theorem parseXP_kind{l:List Tok}{x:Xp}{j:Nat}(h:nW l 0 0=.ok (x,j))(hk:(aM l j).kind≠3):gB l=gK l j 11:=by
 unfold gB;rw[h,bnd_ok,if_neg hk]
theorem parseXP_deep{l:List Tok}{x:Xp}{j:Nat}(h:nW l 0 0=.ok (x,j))(hk:(aM l j).kind=3)(hd:¬bI x<=12):gB l=gK l j 6:=by
 unfold gB;rw[h,bnd_ok,if_pos hk,if_neg hd]
theorem parseXP_ok{l:List Tok}{x:Xp}{j:Nat}(h:nW l 0 0=.ok (x,j))(hk:(aM l j).kind=3)(hd:bI x<=12):gB l=.ok (x,j):=by
 unfold gB;rw[h,bnd_ok,if_pos hk,if_pos hd]
theorem parsex1_any(p:Prs)(w:World)(pv mb:Nat)(h:RunXAt p w pv mb):Calls Tryz.prog 47 #[.pointer (some ⟨pv,0,none⟩),.pointer (some ⟨mb,0,none⟩)] w
  (Ran (fun k=>k=p.pb\/k=mb) w (gB p.l) fun x _ e w'=>e=.returned (.tuple #[])/\XpIn w.heap.size w' mb x):=by
 obtain⟨v0,v1⟩:=bx h.hpv 0 (u:=.pointer (some ⟨p.pb,0,none⟩)) rfl;have HM:=zh (exp_all p 0 0 w h.at_ VS);have HB:=zh h.hmb;have HV:=zh h.hpv;have hmb:=(Array.getElem?_eq_some_iff.1 h.hmb).1;have HNe:=zh h.ne;have HNb:=zh h.nb;have OM:=zh h.at_.len;have F0:=tokF0;clear h;go_enter Tryz.func47,Tryz.ntmps47;go_wp2_with fail;go_at_call 48;refine HM.out.mono ?_;rintro e w2 (⟨x,hx,rfl,ho⟩|⟨xa,j,hx,⟨⟨op,n,s,m,a1,n1,c1,a2,n2,c2,rfl,NX⟩,ha,DP⟩,ho⟩)
 ·go_wp2_with fail;exact⟨rfl,Ran.bad' (by unfold gB;rw[hx];rfl) (ho.mono fun _ h=>.inl h)⟩
 have pQ:=zh (ho.heap HNe.out.1 HB.out);have HV2:=ho.heap HNe.out.2.1 HV.out;obtain⟨⟨c0,c1_,c2_,c3,c4,c5⟩,f0,f1,f2,f3,f4,f5⟩:=bx6 pQ.out;have pY:=jQ w2 mb (.int .i64 op) (.int .i64 n) (.string s) (.string m) (.slice a1 n1 c1) (.slice a2 n2 c2);have hh:=set6_heap (x0:=.int .i64 op) (x1:=.int .i64 n) (x2:=.string s) (x3:=.string m) (x4:=.slice a1 n1 c1) (x5:=.slice a2 n2 c2) pQ.out;have he:=aG.off NX pY (fun b hb hn=>by have hb:b=mb:=hb;have hn:w.heap.size<=b:=hn;omega);have NF:=zh (ha.off pY (fun e=>HNe.out.1 (Eq.symm e)) (fun e=>HNb.out.1 e) (fun k hk e=>by have e:k=mb:=e;have:=HNb.out.2;omega));have hv3:=pY.heap (fun e=>HNe.out.2.2 e) HV2;have J8:=zh ((ho.mono (S':=fun k=>k=p.pb\/k=mb) fun _ h=>.inl h).trans (pY.mono fun _ h=>.inr h));have HHx:=zh hx;unfold fP at hh he NF hv3 J8;clear ho ha NX pY HV2 hx DP;go_wp2_with fail;generalize (((((w2.setCell ⟨mb,0,none⟩ (.int .i64 op)).setCell ⟨mb,1,none⟩ (.int .i64 n)).setCell ⟨mb,2,none⟩ (.string s)).setCell ⟨mb,3,none⟩ (.string m)).setCell ⟨mb,4,none⟩ (.slice a1 n1 c1)).setCell ⟨mb,5,none⟩ (.slice a2 n2 c2)=w3 at *;have HE3:=zh he;have HH3:=zh hh;obtain⟨v3,-⟩:=bx hv3 0 (u:=.pointer (some ⟨p.pb,0,none⟩)) rfl;have HV3:=zh hv3;clear c0 c1_ c2_ c3 c4 c5 f0 f1 f2 f3 f4 f5 he hh hv3 v0 v1;by_cases hk:(aM p.l j).kind=3
 ·have hkb:((aM p.l j).kind==3)=true:=by rw[hk];rfl
  have HK:=zh hk;clear hk;refine wp_region_held_drew (S:=fun W=>Below w3.heap.size w3 W) VT (aE w3) fun hS=>?_;refine zt 0 (.pointer (some ⟨p.pb,0,none⟩)) rfl (fun W hW=>YR) ?_;refine zt 1 (.pointer (some ⟨p.pb,0,none⟩)) rfl (fun W hW=>YR) ?_;try simp only[zn]
  refine zr 2 rfl (fun K hK=>?_);try simp only[z1,z2,z3]
  go_simp;refine(cJ p _ j (NF.out.later (aE w3))).mono ?_;rintro e w4 ⟨rfl,L1⟩;have qE:=aA (aE w3) L1;refine hK.out _ _ qE (fun hS=>?_);clear hK K;try simp only[zn]
  generalize uB:aM p.l j=t at *;refine zq 3 (.int .i64 t.kind) rfl ?_;refine zq 4 (.bool true) rfl ?_;try simp only[zn]
  refine zr 5 rfl (fun K hK=>?_);try simp only[z1,z2,z3]
  go_simp;refine(lH p _ 11).mono ?_;rintro e w5 ⟨rfl,rfl⟩;refine hK.out _ _ qE (fun hS=>?_);clear hK K;try simp only[zn]
  refine wpAnyH_done VT ?_ _;have tH:=zh qE;have NE:=zh (NF.out.later qE);have E7:=zh (J8.out.trans (Ba (S:=fun k=>k=p.pb\/k=mb) qE));have HE4:=zh (aG _ _ _ _ _ _ (aK.later qE) HE3.out);have KH:=zh (aD qE HH3.out);obtain⟨v5,-⟩:=bx (aD qE HV3.out) 0 (u:=.pointer (some ⟨p.pb,0,none⟩)) rfl;obtain⟨⟨y0,y1,y2,y3,y4,y5⟩,-⟩:=bx6 KH.out;have yV:bI xa<=9000000000000000000:=by have h:=expAllP_depth HHx.out OM.out;omega
  have BD:=zh (fun W(hb:Below w4.heap.size w4 W)=>depth_any _ xa _ op n s m _ _ W (Nat.le_refl _) yV (aG _ _ _ _ _ _ (aK.later hb) HE4.out));clear hS qE L1 v3;go_wp2_with fail;by_cases hd:bI xa<=12
  ·have HOk:Hid (gB p.l=.ok (xa,j)):=zh (parseXP_ok HHx.out (by rw[uB];exact HK.out) hd);have hdd:(bI xa:Int)<=12:=VS;clear hd yV;refine wp_region_held_drew (S:=fun W=>Below w4.heap.size w4 W) VT (aE w4) fun hS=>?_;refine zt 0 (.pointer (some ⟨p.pb,0,none⟩)) rfl (fun W hW=>by have q0:=aB hW v5;go_simp) ?_;refine zt 1 (bW op n s m a1 n1 c1 a2 n2 c2) rfl (fun W hW=>XX) ?_;(try simp only[zn]);refine zr 2 rfl (fun K hK=>?_);(try simp only[z1,z2,z3]);go_simp;refine(BD.out _ (aE w4)).mono ?_;rintro e w6 ⟨rfl,P1⟩;have rV:=aA (aE w4) P1;refine hK.out _ _ rV (fun hS=>?_);clear hK K;(try simp only[zn]);generalize bI xa=dx at *;refine zq 3 (.bool true) rfl ?_;(try simp only[zn]);refine zr 4 rfl (fun K hK=>?_);(try simp only[z1,z2,z3]);go_simp;refine(lH p _ 6).mono ?_;rintro e w7 ⟨rfl,rfl⟩;refine hK.out _ _ rV (fun hS=>?_);clear hK K;(try simp only[zn]);refine wpAnyH_done VT ?_ _;go_wp2_with fail;go_end0;exact Ran.good HOk.out ⟨rfl,op,n,s,m,a1,n1,c1,a2,n2,c2,aD rV KH.out,aG _ _ _ _ _ _ (aK.later rV) HE4.out⟩ (E7.out.trans (Ba rV))
  have HNd:Hid (gB p.l=gK p.l j 6):=zh (parseXP_deep HHx.out (by rw[uB];exact HK.out) hd);have hdd:¬(bI xa:Int)<=12:=VS;have hdd2:(12:Int)<(bI xa:Int):=VS;clear hd yV;refine wp_region_held_drew (S:=fun W=>Below w4.heap.size w4 W) VT (aE w4) fun hS=>?_;refine zt 0 (.pointer (some ⟨p.pb,0,none⟩)) rfl (fun W hW=>by have q0:=aB hW v5;go_simp) ?_;refine zt 1 (bW op n s m a1 n1 c1 a2 n2 c2) rfl (fun W hW=>XX) ?_;try simp only[zn]
  refine zr 2 rfl (fun K hK=>?_);try simp only[z1,z2,z3]
  go_simp;refine(BD.out _ (aE w4)).mono ?_;rintro e w6 ⟨rfl,P1⟩;have rV:=aA (aE w4) P1;refine hK.out _ _ rV (fun hS=>?_);clear hK K;try simp only[zn]
  generalize bI xa=dx at *;refine zq 3 (.bool false) rfl ?_;try simp only[zn]
  refine zr 4 rfl (fun K hK=>?_);try simp only[z1,z2,z3]
  go_simp;refine(lY p _ j 6 (NE.out.later rV)).mono ?_;rintro e w7 ⟨rfl,uN⟩;go_wp2_with fail;exact⟨rfl,Ran.bad (by rw[HNd.out,gK,uB]) ((E7.out.trans (Ba rV)).trans (Ba uN))⟩
 have hkb:((aM p.l j).kind==3)=false:=by rw[beq_eq_false_iff_ne];exact hk
 have HNo:Hid (gB p.l=gK p.l j 11):=zh (parseXP_kind HHx.out hk);clear hk;refine wp_region_held_drew (S:=fun W=>Below w3.heap.size w3 W) VT (aE w3) fun hS=>?_;refine zt 0 (.pointer (some ⟨p.pb,0,none⟩)) rfl (fun W hW=>YR) ?_;refine zt 1 (.pointer (some ⟨p.pb,0,none⟩)) rfl (fun W hW=>YR) ?_;try simp only[zn]
 refine zr 2 rfl (fun K hK=>?_);try simp only[z1,z2,z3]
 go_simp;refine(cJ p _ j (NF.out.later (aE w3))).mono ?_;rintro e w4 ⟨rfl,L1⟩;have qE:=aA (aE w3) L1;refine hK.out _ _ qE (fun hS=>?_);clear hK K;try simp only[zn]
 generalize uB:aM p.l j=t at *;refine zq 3 (.int .i64 t.kind) rfl ?_;refine zq 4 (.bool false) rfl ?_;try simp only[zn]
 refine zr 5 rfl (fun K hK=>?_);try simp only[z1,z2,z3]
 go_simp;refine(lY p _ j 11 (NF.out.later qE)).mono ?_;rintro e w5 ⟨rfl,hb5⟩;go_wp2_with fail;exact⟨rfl,Ran.bad (by rw[HNo.out,gK,uB]) ((J8.out.trans (Ba qE)).trans (Ba hb5))⟩
def RunXV(p:Prs)(w:World)(mb:Nat)(e:Ending)(w':World):Prop:=
 (∃x,gB p.l=.error x/\e=.returned (.tuple #[.int .i64 x.1,.int .i64 x.2])/\Off (fun k=>k=p.pb\/k=mb) w w')\/
 (∃m j,gB p.l=.ok (m,j)/\e=.returned (.tuple #[.int .i64 0,.int .i64 0])/\XpIn w.heap.size w' mb m/\Off (fun k=>k=p.pb\/k=mb) w w')
theorem runx_any(p:Prs)(w:World)(pv mb:Nat)(h:RunXAt p w pv mb):Calls Tryz.prog 42 #[.pointer (some ⟨p.pb,0,none⟩),.func (.func 47) #[] #[.pointer (some ⟨pv,0,none⟩),.pointer (some ⟨mb,0,none⟩)]] w (RunXV p w mb):=by
 have hmf:∀(fn:Fn)(first cap:Array Value)(w:World),(Instr.makeFunc fn first cap).run Tryz.prog w=.ok (.func fn first cap) w:=fun _ _ _ _=>rfl;have hz:(w.alloc (jS 0)).heap.size=w.heap.size+1:=VY;have h2:=h.later (aA (aC w (jS 0)) (aC (w.alloc (jS 0)) (oU 0)));have HA:=zh (aD (aC (w.alloc (jS 0)) (oU 0)) (bY w (jS 0)));have P8:=bY (w.alloc (jS 0)) (oU 0);rw[hz] at P8;have HB:=zh P8;have HO:=zh (Ba (S:=fun k=>k=p.pb\/k=mb) (aA (aC w (jS 0)) (aC (w.alloc (jS 0)) (oU 0))));have HP:=zh (parsex1_any p _ pv mb h2);have uS:=h.at_.blt;have hmb:=(Array.getElem?_eq_some_iff.1 h.hmb).1;clear h2 P8 h
 go_enter_defers Tryz.func42,Tryz.ntmps42
 go_wp2_with(go_at_call 47;refine HP.out.mono ?_;rintro e w2 (⟨x,hx,rfl,ho⟩|⟨m,j,hx,⟨rfl,hm⟩,ho⟩)<;>have yM:=zh (ho.heap (fun e=>V4) HA.out)<;>have pQ:=zh (ho.heap (fun e=>V4) HB.out)<;>obtain⟨a0,a1⟩:=bx yM.out 0 (u:=.int .i64 0) rfl<;>obtain⟨b0,b1⟩:=bx pQ.out 0 (u:=.int .i64 0) rfl)
 ·exact SY
 exact SN
def parseXV(B:Nat)(r:Except (Int×Int) Xp)(e:Ending)(w':World):Prop:=match r with
 | .error x=>e=.returned (.tuple #[.agg bG,.int .i64 x.1,.int .i64 x.2])
 | .ok x=>∃op n sx mx a1 n1 c1 a2 n2 c2,e=.returned (.tuple #[bW op n sx mx a1 n1 c1 a2 n2 c2,.int .i64 0,.int .i64 0])/\aU (bP B) w' x [.int .i64 op,.int .i64 n,.string sx,.string mx,.slice a1 n1 c1,.slice a2 n2 c2]
theorem parseX_lex{s:bA}{x:Int×Int}(h:lexL s=.error x):nB s=.error x:=by unfold nB;rw[h]
theorem parseX_bad{s:bA}{l:List Tok}{x:Int×Int}(h:lexL s=.ok l)(hm:gB l=.error x):nB s=.error x:=by unfold nB;rw[h];simp only[hm]
theorem parseX_ok{s:bA}{l:List Tok}{m:Xp}{j:Nat}(h:lexL s=.ok l)(hm:gB l=.ok (m,j)):nB s=.ok m:=by unfold nB;rw[h];simp only[hm]
theorem parseXP_nz{l:List Tok}:Nz (gB l):=by
 unfold gB;exact .bnd (exp_nz _ _ _) fun _ _=>.ite (.ite .ok (.stop VU)) (.stop VU)
theorem parsex_any(s:bA)(w:World)(hs:s.size<=140737488355328)(hg:hZ w)(hsg:SignsAt w)(DJ:Lib.TabIs Tryz.prog w "strings.asciiSpace" .u8 Lib.asciiSpaceTab):
  Calls Tryz.prog 13 #[.string s] w fun e w'=>parseXV w.heap.size (nB s) e w'/\Below w.heap.size w w':=by
 have hmf:∀(fn:Fn)(first cap:Array Value)(w:World),(Instr.makeFunc fn first cap).run Tryz.prog w=.ok (.func fn first cap) w:=fun _ _ _ _=>rfl;have h11:=hg.big;have RQ:=zh (aC w (.cells bG 35));have M6:=zh (lex_any s (w.alloc (.cells bG 35)) hs (hsg.later RQ.out));have HG:=zh (fun w'(hb:Below w.heap.size w w')=>hg.later hb);have qO:=zh (fun w'(hb:Below w.heap.size w w')=>spc_off DJ hg.big (Ba (S:=fun _=>False) hb) (fun _ _ h=>h));have rX:(w.alloc (.cells bG 35)).heap.size=w.heap.size+1:=VY;clear hg hsg DJ
 cases hl:lexL s with
 |error x=>
  have qD:(x.2 != 0)=true:=by rw[bne_iff_ne];exact lexL_nz hl
  have HR:=zh (parseX_lex hl);rw[hl] at M6;clear hl;go_enter Tryz.func13,Tryz.ntmps13;go_wp2_with(go_at_call 36;refine M6.out.mono ?_;rintro e w2 ⟨he,pM⟩;obtain rfl:e=.returned (.tuple #[.slice none 0 0,.int .i64 x.1,.int .i64 x.2]):=he;obtain⟨⟨c0,c1,c2,c3,c4,c5⟩,f0,f1,f2,f3,f4,f5⟩:=bx6 (aD pM (bY w (.cells bG 35))));refine bodyPost_ret (v:=.tuple #[.agg bG,.int .i64 x.1,.int .i64 x.2]) (by simp[results,Tryz.results13,go_sem,c0,c1,c2,c3,c4,c5]) rfl ⟨WP,?_⟩;have ho:=jQ w2 w.heap.size (.int .i64 0) (.int .i64 0) (.string ⟨#[]⟩) (.string ⟨#[]⟩) (.slice none 0 0) (.slice none 0 0);unfold fP at ho;exact iO (aA RQ.out pM) (ho.mono fun k hk=>Nat.le_of_eq (Eq.symm hk))
 |ok l=>
  have hs8:=lexL_size hl;have HE:=zh (fun x hx=>parseX_bad (x:=x) hl hx);have HK:=zh (fun m j hx=>parseX_ok (m:=m) (j:=j) hl hx);rw[hl] at M6;clear hl;go_enter Tryz.func13,Tryz.ntmps13;go_wp2_with(first|(go_at_call 42;refine(runx_any ⟨l,b,o,c,w2.heap.size+1⟩ ((((w2.alloc (.cells bG 35)).alloc (mH (some ⟨b,o,none⟩) l.length c 0)).alloc (.cells #[.pointer (some ⟨w2.heap.size+1,0,none⟩)] 74))) (w2.heap.size+2) w2.heap.size QN.out).mono ?_;rintro e w6 (⟨x,hx,rfl,ho⟩|⟨m,j,hx,rfl,hm,ho⟩)<;>have GI:=zh (ho.heap (fun e=>Or.elim e (fun e=>by have e:w.heap.size=w2.heap.size+1:=e;omega) (fun e=>by have e:w.heap.size=w2.heap.size:=e;omega)) QO.out)<;>obtain⟨⟨r0,r1,r2,r3,r4,r5⟩,g0,g1,g2,g3,g4,g5⟩:=bx6 GI.out<;>first|(have qD:(x.2 != 0)=true:=by rw[bne_iff_ne];exact parseXP_nz x hx)|(obtain⟨op,n,sx,mx,a1,n1,c1,a2,n2,c2,tA,NX⟩:=hm;obtain⟨⟨d0,d1,d2,d3,d4,d5⟩,e0,e1,e2,e3,e4,e5⟩:=bx6 tA))|(go_at_call 36;refine M6.out.mono ?_;rintro e w2 ⟨he,pM⟩;obtain⟨v,rfl,sN,sC⟩:=he;obtain⟨b,o,c,rfl,EV,tJ,hb,AB⟩:=sN.pos VU sC.pos;have rY:=pM.size;have B3:=aC w2 (.cells bG 35);have B4:=aC (w2.alloc (.cells bG 35)) (mH (some ⟨b,o,none⟩) l.length c 0);have B5:=aC ((w2.alloc (.cells bG 35)).alloc (mH (some ⟨b,o,none⟩) l.length c 0)) (.cells #[.pointer (some ⟨w2.heap.size+1,0,none⟩)] 74);have z3:(w2.alloc (.cells bG 35)).heap.size=w2.heap.size+1:=VY;have z4:((w2.alloc (.cells bG 35)).alloc (mH (some ⟨b,o,none⟩) l.length c 0)).heap.size=w2.heap.size+2:=VY;have GY:=zh (aA B3 (aA B4 B5));have KY:=zh (aA (aA RQ.out pM) GY.out);have IM:=bY (w2.alloc (.cells bG 35)) (mH (some ⟨b,o,none⟩) l.length c 0);have PB:=bY ((w2.alloc (.cells bG 35)).alloc (mH (some ⟨b,o,none⟩) l.length c 0)) (.cells #[.pointer (some ⟨w2.heap.size+1,0,none⟩)] 74);rw[z3] at IM;rw[z4] at PB;have QN:Hid (RunXAt ⟨l,b,o,c,w2.heap.size+1⟩ (((w2.alloc (.cells bG 35)).alloc (mH (some ⟨b,o,none⟩) l.length c 0)).alloc (.cells #[.pointer (some ⟨w2.heap.size+1,0,none⟩)] 74)) (w2.heap.size+2) w2.heap.size):=zh ⟨prs_made sC hs8 ⟨EV,tJ⟩ hb AB GY.out (aD B5 IM) VS (HG.out _ KY.out) (qO.out _ KY.out) VS,PB,aD (aA B4 B5) (bY w2 _),⟨by show w2.heap.size≠w2.heap.size+1;omega,by show w2.heap.size+2≠w2.heap.size+1;omega,VS⟩,⟨by show b≠w2.heap.size;omega,VS⟩⟩;have QO:=zh (aD (aA pM GY.out) (bY w (.cells bG 35)));clear IM PB B3 B4 B5 z3 z4 AB sN sC))
  ·have KZ:=iO KY.out (ho.mono (S':=fun k=>w.heap.size<=k) fun k hk=>Or.elim hk (fun e=>X9) (fun e=>YF));refine bodyPost_ret (v:=.tuple #[.agg bG,.int .i64 x.1,.int .i64 x.2]) (by simp[results,Tryz.results13,go_sem,r0,r1,r2,r3,r4,r5]) rfl ⟨by rw[HE.out x hx];rfl,?_⟩;have uR:=jQ w6 w.heap.size (.int .i64 0) (.int .i64 0) (.string ⟨#[]⟩) (.string ⟨#[]⟩) (.slice none 0 0) (.slice none 0 0);unfold fP at uR;exact iO KZ (uR.mono fun k hk=>Nat.le_of_eq (Eq.symm hk))
  have KZ:=iO KY.out (ho.mono (S':=fun k=>w.heap.size<=k) fun k hk=>Or.elim hk (fun e=>X9) (fun e=>YF));have yS:=GY.out.size;have uR:=jQ w6 w.heap.size (.int .i64 op) (.int .i64 n) (.string sx) (.string mx) (.slice a1 n1 c1) (.slice a2 n2 c2);have I6:=aG.wide (N':=bP w.heap.size) (aG.off NX uR (fun b' L3 hn=>ZJ)) (fun b' L3 _=>by have hn:=Nat.le_trans yS L3;show w.heap.size<=b';omega);unfold fP at uR I6;refine bodyPost_ret (v:=.tuple #[bW op n sx mx a1 n1 c1 a2 n2 c2,.int .i64 0,.int .i64 0]) (by simp[results,Tryz.results13,go_sem,r0,r1,r2,r3,r4,r5]) rfl ⟨?_,iO KZ (uR.mono fun k hk=>Nat.le_of_eq (Eq.symm hk))⟩;rw[HK.out m j hx];exact⟨op,n,sx,mx,a1,n1,c1,a2,n2,c2,rfl,I6⟩
theorem rfn_any(x y:Fnc){N N':Nat->Prop}{cx cy:List Value}{w:World}(hx:hO N w x cx)(hy:hO N' w y cy):
  Calls Tryz.prog 55 #[.agg cx.toArray,.agg cy.toArray] w fun e w'=>e=.returned (.bool (mY x y))/\Below w.heap.size w w':=by
 obtain⟨nm,pb,ps,rs,ef,bd⟩:=x;obtain⟨nm',pb',ps',rs',ef',bd'⟩:=y;have hR:mY ⟨nm,pb,ps,rs,ef,bd⟩ ⟨nm',pb',ps',rs',ef',bd'⟩=(decide (nm=nm')&&decide (pb=pb')&&eO ps ps'&&iP rs rs'&&decide (ef=ef')&&jR bd bd'):=rfl;obtain⟨vp,k,vf,op,n,s,m,vn,va,rfl,-,hp,ht,he⟩:=hx;obtain⟨a1,c1,rfl,-⟩:=id hp;obtain⟨kz,a2,l2,c2,ez⟩:=cI ht;cases ez;obtain⟨oz,nz,sz,mz,a3,l3,c3,a4,l4,c4,ez⟩:=aZ he;cases ez;obtain⟨vp',k',vf',op',n',s',m',vn',va',rfl,-,PC,O0,LX⟩:=hy;obtain⟨zB,xC,rfl,-⟩:=id PC;obtain⟨kz,D2,OT,BJ,ez⟩:=cI O0;cases ez;obtain⟨oz,nz,sz,mz,N8,OS,QE,N7,OR,QD,ez⟩:=aZ LX;cases ez;dsimp only at *;have wJ:=aA (aC w (dU nm pb a1 ps.length c1 k a2 l2 c2 ef op n s m a3 l3 c3 a4 l4 c4)) (aC (w.alloc (dU nm pb a1 ps.length c1 k a2 l2 c2 ef op n s m a3 l3 c3 a4 l4 c4)) (dU nm' pb' zB ps'.length xC k' D2 OT BJ ef' op' n' s' m' N8 OS QE N7 OR QD));have pK:=zh wJ;have tK:=aD (aC (w.alloc (dU nm pb a1 ps.length c1 k a2 l2 c2 ef op n s m a3 l3 c3 a4 l4 c4)) (dU nm' pb' zB ps'.length xC k' D2 OT BJ ef' op' n' s' m' N8 OS QE N7 OR QD)) (bY w (dU nm pb a1 ps.length c1 k a2 l2 c2 ef op n s m a3 l3 c3 a4 l4 c4));have qX:=bY (w.alloc (dU nm pb a1 ps.length c1 k a2 l2 c2 ef op n s m a3 l3 c3 a4 l4 c4)) (dU nm' pb' zB ps'.length xC k' D2 OT BJ ef' op' n' s' m' N8 OS QE N7 OR QD);rw[show(w.alloc (dU nm pb a1 ps.length c1 k a2 l2 c2 ef op n s m a3 l3 c3 a4 l4 c4)).heap.size=w.heap.size+1 by simp] at qX;obtain⟨⟨x0,x1,x2,x3,x4,x5,x6,x7,x8,x9,x10,x11⟩,-⟩:=cY tK;obtain⟨⟨y0,y1,y2,y3,y4,y5,y6,y7,y8,y9,NH,NG⟩,-⟩:=cY qX;have pV:=zh tK;have qA:=zh qX;have HP:=zh (fun W(hb:Below w.heap.size w W)=>rfields_any ps ps' (w:=W) (hp.moves aS (aK.later hb) VU) (PC.moves aS (aK.later hb) VU));have HT:=zh (fun W(hb:Below w.heap.size w W)=>rtype_any rs rs' (w:=W) (cB _ _ _ _ _ _ (aK.later hb) ht) (cB _ _ _ _ _ _ (aK.later hb) O0));have HX:=zh (fun W(hb:Below w.heap.size w W)=>rexp_any bd bd' (w:=W) (aG _ _ _ _ _ _ (aK.later hb) he) (aG _ _ _ _ _ _ (aK.later hb) LX));have HR:=zh hR;clear hp ht he PC O0 LX tK qX wJ hR;rw[lC] at HP;generalize mY ⟨nm,pb,ps,rs,ef,bd⟩ ⟨nm',pb',ps',rs',ef',bd'⟩=rr at *;generalize eO ps ps'=q3 at *;generalize iP rs rs'=q4 at *;generalize jR bd bd'=q6 at *;generalize ps.length=l1 at *;generalize ps'.length=l1' at *;by_cases h1:nm=nm'
 ·subst h1;by_cases h2:pb=pb'
  ·subst h2;have sS:Hid (rr=(q3&&q4&&decide (ef=ef')&&q6)):=zh WC;clear HR
   cases q3 with
   |false=>
    go_enter Tryz.func55,Tryz.ntmps55;go_wp2_with(go_at_call 56;refine(HP.out _ pK.out).mono ?_;rintro e w3 ⟨rfl,pR⟩);go_ret;exact⟨aF X4,aA pK.out pR⟩
   |true=>
    cases q4 with
    |false=>
     go_enter Tryz.func55,Tryz.ntmps55;go_wp2_with(go_at_call 56;refine(HP.out _ pK.out).mono ?_;rintro e w3 ⟨rfl,pR⟩;have pZ:=zh pR;have qG:=zh (aA pK.out pZ.out);(try clear z0 z1 z2 z3 z4 z5 z6 z7 z8 z9 z10 z11 t0 t1 t2 t3 t4 t5 t6 t7 t8 t9 zU zT);obtain⟨⟨z0,z1,z2,z3,z4,z5,z6,z7,z8,z9,z10,z11⟩,-⟩:=cY (aD pZ.out pV.out);obtain⟨⟨t0,t1,t2,t3,t4,t5,t6,t7,t8,t9,zU,zT⟩,-⟩:=cY (aD pZ.out qA.out);clear pR);go_wp2_with(go_at_call 33;refine(HT.out _ qG.out).mono ?_;rintro e w4 ⟨rfl,qE⟩);go_ret;exact⟨aF X4,aA qG.out qE⟩
    |true=>
     by_cases h3:ef=ef'
     ·subst h3;go_enter Tryz.func55,Tryz.ntmps55;go_wp2_with(go_at_call 56;refine(HP.out _ pK.out).mono ?_;rintro e w3 ⟨rfl,pR⟩;have pZ:=zh pR;have qG:=zh (aA pK.out pZ.out);(try clear z0 z1 z2 z3 z4 z5 z6 z7 z8 z9 z10 z11 t0 t1 t2 t3 t4 t5 t6 t7 t8 t9 zU zT);obtain⟨⟨z0,z1,z2,z3,z4,z5,z6,z7,z8,z9,z10,z11⟩,-⟩:=cY (aD pZ.out pV.out);obtain⟨⟨t0,t1,t2,t3,t4,t5,t6,t7,t8,t9,zU,zT⟩,-⟩:=cY (aD pZ.out qA.out);clear pR);go_wp2_with(go_at_call 33;refine(HT.out _ qG.out).mono ?_;rintro e w4 ⟨rfl,qE⟩;have qK:=zh (aA pZ.out qE);have rB:=zh (aA pK.out qK.out);(try clear z0 z1 z2 z3 z4 z5 z6 z7 z8 z9 z10 z11 t0 t1 t2 t3 t4 t5 t6 t7 t8 t9 zU zT);obtain⟨⟨z0,z1,z2,z3,z4,z5,z6,z7,z8,z9,z10,z11⟩,-⟩:=cY (aD qK.out pV.out);obtain⟨⟨t0,t1,t2,t3,t4,t5,t6,t7,t8,t9,zU,zT⟩,-⟩:=cY (aD qK.out qA.out);clear qE);go_wp2_with(go_at_call 16;refine(HX.out _ rB.out).mono ?_;rintro e w5 ⟨rfl,hb5⟩);go_ret;exact⟨aF W3,aA rB.out hb5⟩
     have g:(ef==ef')=false:=beq_eq_false_iff_ne.2 h3;go_enter Tryz.func55,Tryz.ntmps55;go_wp2_with(go_at_call 56;refine(HP.out _ pK.out).mono ?_;rintro e w3 ⟨rfl,pR⟩;have pZ:=zh pR;have qG:=zh (aA pK.out pZ.out);(try clear z0 z1 z2 z3 z4 z5 z6 z7 z8 z9 z10 z11 t0 t1 t2 t3 t4 t5 t6 t7 t8 t9 zU zT);obtain⟨⟨z0,z1,z2,z3,z4,z5,z6,z7,z8,z9,z10,z11⟩,-⟩:=cY (aD pZ.out pV.out);obtain⟨⟨t0,t1,t2,t3,t4,t5,t6,t7,t8,t9,zU,zT⟩,-⟩:=cY (aD pZ.out qA.out);clear pR);go_wp2_with(go_at_call 33;refine(HT.out _ qG.out).mono ?_;rintro e w4 ⟨rfl,qE⟩;have qK:=zh (aA pZ.out qE);have rB:=zh (aA pK.out qK.out);(try clear z0 z1 z2 z3 z4 z5 z6 z7 z8 z9 z10 z11 t0 t1 t2 t3 t4 t5 t6 t7 t8 t9 zU zT);obtain⟨⟨z0,z1,z2,z3,z4,z5,z6,z7,z8,z9,z10,z11⟩,-⟩:=cY (aD qK.out pV.out);obtain⟨⟨t0,t1,t2,t3,t4,t5,t6,t7,t8,t9,zU,zT⟩,-⟩:=cY (aD qK.out qA.out);clear qE);go_wp2_with fail;go_ret;exact⟨aF (by rw[sS.out];simp[h3]),rB.out⟩
  have g:(pb==pb')=false:=beq_eq_false_iff_ne.2 h2;go_enter Tryz.func55,Tryz.ntmps55;exact UJ
 have g:(nm.toList==nm'.toList)=false:=iS h1;go_enter Tryz.func55,Tryz.ntmps55;exact TL
end Go.Proofs.YtiionicikdnnpaaGreatDoor
