/- Texts of this seat, joined. -/
import Derived.Test.YtiionicikdnnpaaGreatDoorPAS
set_option maxHeartbeats 64000000
set_option maxRecDepth 100000
set_option linter.unusedVariables false
set_option linter.unusedSimpArgs false
set_option linter.constructorNameAsVariable false
namespace Go.Proofs.YtiionicikdnnpaaGreatDoor
open Go.RowKit
theorem UY{p:Prop}(h:p:=by
 have HF:Hid (R=false):=zh YE;go_wp2_with fail;go_ret
 exact⟨aF WI,aA vK.out HWc.out⟩):p:=h
theorem VD{p:Prop}(h:p:=by
 go_wp2_with fail;go_ret
 exact⟨aF WC,AJ.out⟩):p:=h
def fnR(f:Fnc):Bool:=bO f.params 6&&aQ 4 f.result&&(decide (0<=f.effects)&&decide (f.effects<=15))&&aJ 12 f.body
theorem fnR_eq{f:Fnc}(h: -9223372036854775808<=f.effects/\f.effects<=9223372036854775807):gL f=fnR f:=by
 unfold gL fnR
 have he:effOk f.effects=(decide (0<=f.effects)&&decide (f.effects<=15)):=by
  rw[Bool.eq_iff_iff,Bool.and_eq_true,decide_eq_true_eq,decide_eq_true_eq];constructor
  ·intro h1;exact eff_range h1 h.1 h.2
  rintro⟨h1,h2⟩;exact effOk_le h1 h2
 rw[he];cases bO f.params 6<;>cases aQ 4 f.result<;>cases aJ 12 f.body<;>simp
theorem funcs_uses:∀(l:List Fnc)(known:List bA),dP l known=(bM (l.map (·.name)) known&&l.all gL)
 |[],known=>rfl
 |f::r,known=>by
  rw[dP,List.map_cons,bM,List.all_cons,funcs_uses r (f.name::known)];cases (known.any fun x=>decide (x=f.name))<;>cases aP f.name<;>cases gL f<;>simp
theorem all_same{α:Type}{p q:α->Bool}{l:List α}(h:∀x∈l,p x=q x):l.all p=l.all q:=by
 induction l with
 |nil=>rfl
 |cons x r ih=>rw[List.all_cons,List.all_cons,h x VY,ih (fun y hy=>h y (by simp[hy]))]
def movR(m:Mdl):Bool:=if m.moves then bO m.old 8&&decide (m.forward.length=m.vars.length)&&decide (m.back.length=m.old.length)&&m.forward.all (aJ 12)&&m.back.all (aJ 12) else decide (m.old.length+m.forward.length+m.back.length=0)
theorem right_ref{m:Mdl}(h:∀f∈m.funcs,-9223372036854775808<=f.effects/\f.effects<=9223372036854775807):
  gS m=(aP m.name&&decide (m.uses.length<=12)&&bM m.uses []&&bO m.vars 8&&decide (m.init.length=m.vars.length)&&m.init.all (aJ 12)&&decide (m.funcs.length<=30)&&m.funcs.all fnR&&bM (m.funcs.map (·.name)) []&&movR m):=by
 unfold gS movR dE;rw[funcs_uses,all_same (fun f hf=>fnR_eq (h f hf))]
 cases xB:m.moves with
 |true=>
  simp only[if_true];rw[Bool.eq_iff_iff];simp only[Bool.and_eq_true,Bool.or_eq_true,Bool.true_or];grind
 |false=>
  simp only[if_false,Bool.false_or,Bool.false_eq_true];rw[Bool.eq_iff_iff];simp only[Bool.and_eq_true,Bool.or_eq_true,decide_eq_true_eq];constructor
  ·rintro⟨⟨⟨⟨⟨⟨⟨⟨⟨⟨h1,h2⟩,h3⟩,h4⟩,h5⟩,h6⟩,h7⟩,h8⟩,h9⟩,xM⟩,h11⟩;refine⟨⟨⟨⟨⟨⟨⟨⟨⟨h3,h4⟩,h1⟩,h6⟩,h7.2⟩,h7.1⟩,h5⟩,h2.2⟩,h2.1⟩,?_⟩;have:=xM.2;have:=h11.2;omega
  rintro⟨⟨⟨⟨⟨⟨⟨⟨⟨h3,h4⟩,h1⟩,h6⟩,h7⟩,L8⟩,h5⟩,h2⟩,JT⟩,hs⟩;have e1:m.old=[]:=List.eq_nil_of_length_eq_zero VS;have e2:m.forward=[]:=List.eq_nil_of_length_eq_zero VS;have e3:m.back=[]:=List.eq_nil_of_length_eq_zero VS;refine⟨⟨⟨⟨⟨⟨⟨⟨⟨⟨h1,JT,h2⟩,h3⟩,h4⟩,h5⟩,h6⟩,L8,h7⟩,by rw[e1];rfl⟩,by rw[e1];rfl⟩,by rw[e2];exact⟨rfl,rfl⟩⟩,by rw[e1,e3];exact⟨rfl,rfl⟩⟩
theorem map_stepF{l:List Fnc}{q:Nat}{x:Fnc}(hx:l[q]? =some x):(l.take (q+1)).map (·.name)=(l.take q).map (·.name)++[x.name]:=by
 rw[List.take_add_one,hx,List.map_append];rfl
theorem rright_any(m:Mdl)(DQ:∀f∈m.funcs,-9223372036854775808<=f.effects/\f.effects<=9223372036854775807){N:Nat->Prop}{cs:List Value}{w:World}(hm:encM N w m cs)(hlO:m.old.length<=10)(hlF:m.forward.length<=10)(hlB:m.back.length<=10):
  Calls Tryz.prog 23 #[.agg cs.toArray] w fun e w'=>e=.returned (.bool (gS m))/\Below w.heap.size w w':=by
 obtain⟨i0,wO,tS,rZ,rY⟩:=info_parts strInfo1;obtain⟨vu,vv,vi,vf,vo,vw,vb,rfl,FI,h3,h4,h5,h6,h7,h8,h9⟩:=hm;obtain⟨au,du,rfl,lu1,lu2,-⟩:=h3.at;obtain⟨av,dv,rfl,lv1,lv2,-⟩:=h4.at;obtain⟨ai,di,rfl,li1,li2,-⟩:=h5.at;obtain⟨af,df,rfl,lf1,lf2,qB⟩:=h6.at;obtain⟨ao,do_,rfl,lo1,lo2,-⟩:=h7.at;obtain⟨aw,dw,rfl,lw1,lw2,-⟩:=h8.at;obtain⟨ab,db,rfl,AV,FA,-⟩:=h9.at;have hnz':m.name.size<=140737488355328:=Nat.le_trans FI VU;have HA:=zh qB;have pK:=zh (aC w (dX m.name au m.uses.length du av m.vars.length dv ai m.init.length di af m.funcs.length df m.moves ao m.old.length do_ aw m.forward.length dw ab m.back.length db));have rQ:=zh (bY w (dX m.name au m.uses.length du av m.vars.length dv ai m.init.length di af m.funcs.length df m.moves ao m.old.length do_ aw m.forward.length dw ab m.back.length db));have hX:=rQ.out;obtain⟨⟨x0,x1,x2,x3,x4,x5,x6,x7,x8⟩,-⟩:=bx9 hX;have HU:=zh (fun W(hb:Below w.heap.size w W)=>h3.moves aT (aK.later hb) VU);have HV:=zh (fun W(hb:Below w.heap.size w W)=>h4.moves aS (aK.later hb) VU);have HI:=zh (fun W(hb:Below w.heap.size w W)=>h5.moves aG (aK.later hb) VU);have HOr:=zh (fun W(hb:Below w.heap.size w W)=>h7.moves aS (aK.later hb) VU);have HFw:=zh (fun W(hb:Below w.heap.size w W)=>h8.moves aG (aK.later hb) VU);have RR:=zh (fun W(hb:Below w.heap.size w W)=>h9.moves aG (aK.later hb) VU);have HR:=zh (right_ref DQ);clear hX qB h3 h4 h5 h6 h7 h8 h9 DQ;generalize gS m=R at *;go_enter Tryz.func23,Tryz.ntmps23;go_wp2_with fail;refine(fV m.name _ VS).mono ?_;rintro e w2 ⟨rfl,pM⟩;have pQ:=zh (aA pK.out pM);have qX:=zh (aD pM rQ.out);have pW:=qX.out;clear x0 x1 x2 x3 x4 x5 x6 x7 x8 pM;obtain⟨⟨x0,x1,x2,x3,x4,x5,x6,x7,x8⟩,-⟩:=bx9 pW;clear pW;generalize aP m.name=b2 at HR ⊢
 cases b2 with
 |false=>
  go_wp2_with fail;go_ret;exact⟨aF WC,pQ.out⟩
 |true=>
  by_cases hd:m.uses.length<=12
  ·have HR:=zh (HR.out.trans X2);have hdi:¬(12:Int)<(m.uses.length:Int):=VS;clear hd;go_wp2_with fail;refine(runiq_any m.uses (HU.out _ pQ.out)).mono ?_;rintro e w3 ⟨rfl,pR⟩;have qG:=zh (aA pQ.out pR);have sW:=zh (aD pR qX.out);have pW:=sW.out;clear x0 x1 x2 x3 x4 x5 x6 x7 x8 pR;obtain⟨⟨x0,x1,x2,x3,x4,x5,x6,x7,x8⟩,-⟩:=bx9 pW;clear pW;generalize bM m.uses []=b3 at HR ⊢
   cases b3 with
   |false=>
    go_wp2_with fail;go_ret;exact⟨aF WC,qG.out⟩
   |true=>
    go_wp2_with fail;refine(kY m.vars 8 VU (HV.out _ qG.out)).mono ?_;rintro e w4 ⟨rfl,qE⟩;have rB:=zh (aA qG.out qE);have tF:=zh (aD qE sW.out);have pW:=tF.out;clear x0 x1 x2 x3 x4 x5 x6 x7 x8 qE;obtain⟨⟨x0,x1,x2,x3,x4,x5,x6,x7,x8⟩,-⟩:=bx9 pW;clear pW;generalize bO m.vars 8=b4 at HR ⊢
    cases b4 with
    |false=>
     go_wp2_with fail;go_ret;exact⟨aF WC,rB.out⟩
    |true=>
     by_cases hd:m.init.length=m.vars.length
     ·have HR:=zh (HR.out.trans X2);have FM:((m.init.length:Int)==(m.vars.length:Int))=true:=cU VS;have hdn:((m.init.length:Int) != (m.vars.length:Int))=false:=YY;clear hd;go_wp2_with fail;refine(rall_any m.init (HI.out _ rB.out)).mono ?_;rintro e w7 ⟨rfl,uN⟩;have vK:=zh (aA rB.out uN);have HX7:=zh (aD uN tF.out);have pW:=HX7.out;clear x0 x1 x2 x3 x4 x5 x6 x7 x8 uN;obtain⟨⟨x0,x1,x2,x3,x4,x5,x6,x7,x8⟩,-⟩:=bx9 pW;clear pW;generalize m.init.all (aJ 12)=b7 at HR ⊢
      cases b7 with
      |false=>
       go_wp2_with fail;go_ret;exact⟨aF WC,vK.out⟩
      |true=>
       by_cases hd:m.funcs.length<=30
       ·have HR:=zh (HR.out.trans X2);have hdi:¬(30:Int)<(m.funcs.length:Int):=VS;have hL30:m.funcs.length<=30:=hd;clear hd;go_wp2_with fail;have HR:=zh (HR.out.trans (show _=(m.funcs.all fnR&&(bM (m.funcs.map (·.name)) []&&movR m)) by simp[Bool.and_assoc]));(go_loopw [3,4] (fun pv iv wr=>∃(q:Nat)(out:List bA)(css:List (List Value)),q<=m.funcs.length/\iv=.int .i64 (q:Int)/\Hid (Below w7.heap.size w7 wr)/\Hid (out=(m.funcs.take q).map (·.name))/\out.length<=q/\Hid (Gro 1 9 eT w7.heap.size out css pv wr)/\Hid (∀y∈m.funcs.take q,fnR y=true)) (fun _ iv _=>m.funcs.length-(intOf iv).toNat));case atStart=>exact⟨0,[],[],Nat.zero_le _,rfl,zh (Below.refl _ _),zh rfl,Nat.le_refl _,zh (Gro.first _ _ _ _),zh VY⟩
        case round=>
         obtain⟨q,out,css,hq,rfl,HW,HO,IN,HG,HT⟩:=hrel;(rename World=>wr);have pW:=aD HW.out HX7.out;clear x0 x1 x2 x3 x4 x5 x6 x7 x8;obtain⟨⟨x0,x1,x2,x3,x4,x5,x6,x7,x8⟩,-⟩:=bx9 pW;clear pW;by_cases pS:q<m.funcs.length
         ·obtain⟨x,hx,-⟩:=getElem?_of_lt pS;have sL:(0:Int)<=(q:Int)/\(q:Int)<(m.funcs.length:Int):=VS;have uT:=zh hx;obtain⟨nm,pb,ps,rs,ef,bd⟩:=x;obtain⟨b1,o1,rfl,-,uG,⟨vp,kk,vf,op,n,s,q1,vn,va,rfl,KX,hp,ht,vB⟩,-,pO⟩:=HA.out q _ hx;obtain⟨ap,cp,rfl,-⟩:=hp.at;obtain⟨kz,at_,nt,ct,ez⟩:=cI ht;cases ez;obtain⟨oz,nz,sz,mz,an,ln,cn,ag,lg,cg,ez⟩:=aZ vB;cases ez;dsimp only at *;have hfz':nm.size<=140737488355328:=Nat.le_trans KX VU;have qZ:=zh (aA vK.out HW.out);have p0:wr.cell? ⟨b1,o1+q*12,none⟩=some (.string nm):=aB qZ.out (pO 0 _ rfl);have p1:=aB qZ.out (pO 1 _ rfl);have p2:=aB qZ.out (pO 2 _ rfl);have p3:=aB qZ.out (pO 3 _ rfl);have p4:=aB qZ.out (pO 4 _ rfl);have p5:=aB qZ.out (pO 5 _ rfl);have p6:=aB qZ.out (pO 6 _ rfl);have p7:=aB qZ.out (pO 7 _ rfl);have p8:=aB qZ.out (pO 8 _ rfl);have p9:=aB qZ.out (pO 9 _ rfl);have pA:=aB qZ.out (pO 10 _ rfl);have pB:=aB qZ.out (pO 11 _ rfl);have HP:=zh (fun W(hb:Below w.heap.size w W)=>hp.moves aS (aK.later hb) VU);have HTy:=zh (fun W(hb:Below w.heap.size w W)=>cB _ _ _ _ _ _ (aK.later hb) ht);have GO:=zh (fun W(hb:Below w.heap.size w W)=>aG _ _ _ _ _ _ (aK.later hb) vB);have OO:=zh (aD (aC _ (kF nm)) (bY wr (dU nm pb ap ps.length cp kk at_ nt ct ef op n s q1 an ln cn ag lg cg)));have hFb:=bY wr (dU nm pb ap ps.length cp kk at_ nt ct ef op n s q1 an ln cn ag lg cg);obtain⟨⟨f0,f1,f2,f3,f4,f5,f6,f7,f8,f9,fA,fB⟩,-⟩:=cY hFb;have KJ:=zh ((HG.out.later aT (aC wr (dU nm pb ap ps.length cp kk at_ nt ct ef op n s q1 an ln cn ag lg cg))).later aT (aC _ (kF nm)));have rK:=KJ.out.big;have G0:Hid (out++[nm]=(m.funcs.take (q+1)).map (·.name)):=zh (by rw[map_stepF uT.out,HO.out]);have M1:Hid (fnR ⟨nm,pb,ps,rs,ef,bd⟩=(bO ps 6&&aQ 4 rs&&(decide (0<=ef)&&decide (ef<=15))&&aJ 12 bd)):=zh rfl;clear hFb pO hx hp ht vB KX;go_wp2_with(at_builtin;refine wpList_append_lies _ rfl _ _ 23 rfl w7.heap.size 9 i0 (.string ByteArray.empty) 1 16 Tryz.underlying23 wO tS rZ rY rfl VS _ out.length css.flatten W7 KJ.out.own ⟨wr.heap.size+1,0,none⟩ 1 1 [.string nm] W7 rfl (World.news_of_block (cs:=#[.string nm]) (t:=9) (fr:=(0,0)) (by simpa using bY (wr.alloc (dU nm pb ap ps.length cp kk at_ nt ct ef op n s q1 an ln cn ag lg cg)) _)) WF VS WL VS rK (wr.heap.size+1+1) VY ?_);intro g cap wa pT pL qW _;have EC:=zh (KJ.out.added aT (x:=nm) ⟨rfl,hfz'⟩ rfl pT pL YH);have BK:=zh (mO (aA HW.out (aA (aC wr (dU nm pb ap ps.length cp kk at_ nt ct ef op n s q1 an ln cn ag lg cg)) (aC _ (kF nm)))) pL (fun b hb=>(KJ.out.lt b hb).1));have HFa:=zh ((pL.block wr.heap.size XJ (fun e=>by have h:=(HG.out.lt _ e.symm).2;omega)).trans OO.out);have pW:=HFa.out;clear f0 f1 f2 f3 f4 f5 f6 f7 f8 f9 fA fB pT pL qW KJ HG;obtain⟨⟨f0,f1,f2,f3,f4,f5,f6,f7,f8,f9,fA,fB⟩,-⟩:=cY pW;clear pW p0 p1 p2 p3 p4 p5 p6 p7 p8 p9 pA pB;go_wp2_with fail;refine(kY ps 6 VU (HP.out _ (aA vK.out BK.out))).mono ?_;rintro e wb ⟨rfl,hb⟩;have CJ:=zh (aA BK.out hb);have OO:=zh (aD hb HFa.out);have HNb:=zh (EC.out.later aT hb);have pW:=OO.out;clear f0 f1 f2 f3 f4 f5 f6 f7 f8 f9 fA fB hb;obtain⟨⟨f0,f1,f2,f3,f4,f5,f6,f7,f8,f9,fA,fB⟩,-⟩:=cY pW;clear pW;generalize bO ps 6=cb at M1 ⊢
          cases cb with
          |false=>
           have HF:Hid (R=false):=zh YE;go_wp2_with fail;go_ret;exact⟨aF WI,aA vK.out CJ.out⟩
          |true=>
           go_wp2_with fail;refine(mZ rs (HTy.out _ (aA vK.out CJ.out))).mono ?_;rintro e wc ⟨rfl,hb⟩;have HWc:=zh (aA CJ.out hb);have HFc:=zh (aD hb OO.out);have HNc:=zh (HNb.out.later aT hb);have pW:=HFc.out;clear f0 f1 f2 f3 f4 f5 f6 f7 f8 f9 fA fB hb;obtain⟨⟨f0,f1,f2,f3,f4,f5,f6,f7,f8,f9,fA,fB⟩,-⟩:=cY pW;clear pW;generalize aQ 4 rs=cc at M1 ⊢
           cases cc with
           |false=>
            exact UY
           |true=>
            go_wp2_with fail;refine(nR ef 0 15 _).mono ?_;rintro e wz ⟨rfl,rfl⟩;generalize (decide (0<=ef)&&decide (ef<=15))=cw at M1 ⊢
            cases cw with
            |false=>
             exact UY
            |true=>
             go_wp2_with fail;refine(lL bd (GO.out _ (aA vK.out HWc.out))).mono ?_;rintro e wd ⟨rfl,hb⟩;have C5:=zh (aA HWc.out hb);have HFd:=zh (aD hb HFc.out);have HNd:=zh (HNc.out.later aT hb);have pW:=HFd.out;clear f0 f1 f2 f3 f4 f5 f6 f7 f8 f9 fA fB hb;obtain⟨⟨f0,f1,f2,f3,f4,f5,f6,f7,f8,f9,fA,fB⟩,-⟩:=cY pW;clear pW;generalize aJ 12 bd=cd at M1 ⊢
             cases cd with
             |false=>
              have HF:Hid (R=false):=zh YE;go_wp2_with fail;go_ret;exact⟨aF WI,aA vK.out C5.out⟩
             |true=>
              have uF:=zh (iK uT.out HT.out (show fnR ⟨nm,pb,ps,rs,ef,bd⟩=true by rw[M1.out];rfl));go_wp2_with fail;go_roundw;(case rel=>exact⟨q+1,out++[nm],css++[[.string nm]],VS,WH,C5,G0,by rw[List.length_append,List.length_singleton];omega,HNd,uF⟩);case measure=>simp[intOf];omega
         have HRw:=zh (HG.out.row aT);have HOut:Hid (out=m.funcs.map (·.name)):=zh (by rw[HO.out,List.take_of_length_le VS]);have HAll:=zh (allX_ok HT.out (show m.funcs.length<=q by omega));have HR:=zh (HR.out.trans (by rw[HAll.out,<-HOut.out,Bool.true_and]));have rU:=HW.out;clear HT HAll HO;go_wp2_with fail;refine(runiq_any out HRw.out).mono ?_;rintro e w9 ⟨rfl,B0⟩;have rT:=aA HW.out B0;have DB:=zh (aA vK.out rT);have MQ:=zh (aD rT HX7.out);have pW:=MQ.out;clear x0 x1 x2 x3 x4 x5 x6 x7 x8 rT B0 rU;obtain⟨⟨x0,x1,x2,x3,x4,x5,x6,x7,x8⟩,-⟩:=bx9 pW;clear pW;generalize bM out []=b9 at HR ⊢
         cases b9 with
         |false=>
          go_wp2_with fail;go_ret;exact⟨aF WC,DB.out⟩
         |true=>
          have HR:=zh (HR.out.trans (Bool.true_and _))
          cases xB:m.moves with
          |true=>
           have HR:=zh (HR.out.trans (show movR m=_ by unfold movR;rw[if_pos xB]));rw[xB] at x5;go_wp2_with fail;refine(kY m.old 8 VU (HOr.out _ DB.out)).mono ?_;rintro e rH ⟨rfl,xG⟩;have AJ:=zh (aA DB.out xG);have D6:=zh (aD xG MQ.out);have pW:=D6.out;clear x0 x1 x2 x3 x4 x5 x6 x7 x8 xG;obtain⟨⟨x0,x1,x2,x3,x4,x5,x6,x7,x8⟩,-⟩:=bx9 pW;clear pW;generalize bO m.old 8=b10 at HR ⊢
           cases b10 with
           |false=>
            exact VD
           |true=>
            by_cases hd:m.forward.length=m.vars.length
            ·have HR:=zh (HR.out.trans X2);have FM:((m.forward.length:Int)==(m.vars.length:Int))=true:=cU VS;have hdn:((m.forward.length:Int) != (m.vars.length:Int))=false:=YY;clear hd;by_cases hd:m.back.length=m.old.length
             ·have HR:=zh (HR.out.trans X2);have FM:((m.back.length:Int)==(m.old.length:Int))=true:=cU VS;have hdn:((m.back.length:Int) != (m.old.length:Int))=false:=YY;clear hd;go_wp2_with fail;refine(rall_any m.forward (HFw.out _ AJ.out)).mono ?_;rintro e vL ⟨rfl,DX⟩;have GP:=zh (aA AJ.out DX);have MR:=zh (aD DX D6.out);have pW:=MR.out;clear x0 x1 x2 x3 x4 x5 x6 x7 x8 DX;obtain⟨⟨x0,x1,x2,x3,x4,x5,x6,x7,x8⟩,-⟩:=bx9 pW;clear pW;generalize m.forward.all (aJ 12)=b11 at HR ⊢
              cases b11 with
              |false=>
               go_wp2_with fail;go_ret;exact⟨aF WC,GP.out⟩
              |true=>
               go_wp2_with fail;refine(rall_any m.back (RR.out _ GP.out)).mono ?_;rintro e rO ⟨rfl,DW⟩;have KO:=zh (aA GP.out DW);have HX12:=zh (aD DW MR.out);have pW:=HX12.out;clear x0 x1 x2 x3 x4 x5 x6 x7 x8 DW;obtain⟨⟨x0,x1,x2,x3,x4,x5,x6,x7,x8⟩,-⟩:=bx9 pW;clear pW;generalize m.back.all (aJ 12)=b12 at HR ⊢
               cases b12 with
               |false=>
                go_wp2_with fail;go_ret;exact⟨aF WC,KO.out⟩
               |true=>
                go_wp2_with fail;go_ret;exact⟨aF WP,KO.out⟩
             have HR:=zh (HR.out.trans XZ);have FM:((m.back.length:Int)==(m.old.length:Int))=false:=aL VS;have hdn:((m.back.length:Int) != (m.old.length:Int))=true:=YY;clear hd;exact VD
            have HR:=zh (HR.out.trans XZ);have FM:((m.forward.length:Int)==(m.vars.length:Int))=false:=aL VS;have hdn:((m.forward.length:Int) != (m.vars.length:Int))=true:=YY;clear hd;exact VD
          |false=>
           have HR:=zh (HR.out.trans (show movR m=_ by unfold movR;rw[if_neg (by rw[xB];decide)]));rw[xB] at x5;have qQ:IntKind.i64.wrap ((m.old.length:Int)+(m.forward.length:Int))=(m.old.length:Int)+(m.forward.length:Int):=dK VS VS;have uA:IntKind.i64.wrap ((m.old.length:Int)+(m.forward.length:Int)+(m.back.length:Int))=(m.old.length:Int)+(m.forward.length:Int)+(m.back.length:Int):=dK VS VS;by_cases hd:m.old.length+m.forward.length+m.back.length=0
           ·have HR:=zh (HR.out.trans X2);have FM:((m.old.length:Int)+(m.forward.length:Int)+(m.back.length:Int)==0)=true:=cU VS;clear hd;go_wp2_with fail;go_ret;exact⟨aF ZD,DB.out⟩
           have HR:=zh (HR.out.trans XZ);have FM:((m.old.length:Int)+(m.forward.length:Int)+(m.back.length:Int)==0)=false:=aL VS;clear hd;go_wp2_with fail;go_ret;exact⟨aF ZD,DB.out⟩
       have HR:=zh (HR.out.trans XZ);have hdi:(30:Int)<(m.funcs.length:Int):=VS;clear hd;go_wp2_with fail;go_ret;exact⟨aF WC,vK.out⟩
     have HR:=zh (HR.out.trans XZ);have FM:((m.init.length:Int)==(m.vars.length:Int))=false:=aL VS;have hdn:((m.init.length:Int) != (m.vars.length:Int))=true:=YY;clear hd;go_wp2_with fail;go_ret;exact⟨aF WC,rB.out⟩
  have HR:=zh (HR.out.trans XZ);have hdi:(12:Int)<(m.uses.length:Int):=VS;clear hd;go_wp2_with fail;go_ret;exact⟨aF WC,pQ.out⟩
theorem RU{p:Prop}(h:p:=by
 clear rX;refine wp_region_held_drew (S:=fun W=>Below w0.heap.size w0 W) VT (aE w0) fun hS=>?_;refine tk 0 (.string s1) (y:=fun W hW=>VV) (s:=hS) (h:=?_);refine tk 1 (.string (s1++⟨#[102,110,32]⟩)) (y:=fun W hW=>VX) (s:=hS) (h:=?_);refine tk 2 (.pointer (some ⟨w.heap.size,0,none⟩)) (y:=fun W hW=>VV) (s:=hS) (h:=?_);refine tk 3 (.string nm) (y:=fun W hW=>by have q0:=aB hW f0;go_simp) (s:=hS) (h:=?_);refine tk 4 (.string (s1++⟨#[102,110,32]⟩++nm)) (y:=fun W hW=>VX) (s:=hS) (h:=?_);refine tk 5 (.string (s1++⟨#[102,110,32]⟩++nm++⟨#[32,40,32]⟩)) (y:=fun W hW=>VX) (s:=hS) (h:=?_);refine tk 6 (.pointer (some ⟨w.heap.size,2,none⟩)) (y:=fun W hW=>VV) (s:=hS) (h:=?_);refine tk 7 (.slice ap ps.length cp) (y:=fun W hW=>by have q0:=aB hW f2;go_simp) (s:=hS) (h:=?_);refine tk 11 (.pointer (some ⟨w.heap.size,3,none⟩)) (y:=fun W hW=>VV) (s:=hS) (h:=?_);refine tk 12 (.agg #[.int .i64 kk,.slice at_ nt ct]) (y:=fun W hW=>by have q0:=aB hW f3;have q1:=aB hW f4;go_simp) (s:=hS) (h:=?_);refine zr 8 rfl (fun K hK=>?_);try simp only[z1,z2,z3]
 go_simp;refine(HP.out _ (aE w0)).mono ?_;rintro e wa ⟨rfl,qR⟩;have qQ:=aA (aE w0) qR;refine hK.out _ _ qQ (fun hS=>?_);clear hK K;try simp only[zn]
 refine tk 9 (.string (s1++⟨#[102,110,32]⟩++nm++⟨#[32,40,32]⟩++pt)) (y:=fun W hW=>VX) (s:=hS) (h:=?_);refine tk 10 (.string (s1++⟨#[102,110,32]⟩++nm++⟨#[32,40,32]⟩++pt++⟨#[41,32]⟩)) (y:=fun W hW=>VX) (s:=hS) (h:=?_);refine zr 13 rfl (fun K hK=>?_);try simp only[z1,z2,z3]
 go_simp;refine(HT.out _ qQ).mono ?_;rintro e w4 ⟨rfl,IF⟩;have LJ:=aA qQ IF;refine hK.out _ _ LJ (fun hS=>?_);clear hK K;try simp only[zn]
 refine tk 14 (.string (s1++⟨#[102,110,32]⟩++nm++⟨#[32,40,32]⟩++pt++⟨#[41,32]⟩++rt)) (y:=fun W hW=>VX) (s:=hS) (h:=?_);refine tk 15 (.string (s1++⟨#[102,110,32]⟩++nm++⟨#[32,40,32]⟩++pt++⟨#[41,32]⟩++rt++⟨#[32]⟩)) (y:=fun W hW=>VX) (s:=hS) (h:=?_);refine tk 16 (.string (s1++⟨#[102,110,32]⟩++nm++⟨#[32,40,32]⟩++pt++⟨#[41,32]⟩++rt++⟨#[32]⟩)) (y:=fun W hW=>VV) (s:=hS) (h:=?_);refine wpAnyH_done VT ?_ _
 have hzA:fa.size<=3000000:=by
  rw[MO.out];simp only[ByteArray.size_append];have e1:(⟨#[102,110,32]⟩:bA).size=3:=rfl;have e2:(⟨#[32,40,32]⟩:bA).size=3:=rfl;have e3:(⟨#[41,32]⟩:bA).size=2:=rfl;have e4:(⟨#[32]⟩:bA).size=1:=rfl;omega
 rw[<-MO.out];have rB:=zh (aA pK.out LJ);have RH:=zh (aD LJ C9.out);have pW:=RH.out;clear f0 f1 f2 f3 f4 f5 f6 f7 f8 f9 fA fB;obtain⟨⟨f0,f1,f2,f3,f4,f5,f6,f7,f8,f9,fA,fB⟩,-⟩:=cY pW;clear pW;have GO:=zh (fun W(hb:Below w4.heap.size w4 W)=>HBp.out W (aA rB.out hb));clear qQ LJ qR IF hS MO HP HT C9 pK HPp HTp HBp;by_cases tS:ef=0
 ·have HB:Hid (fb=fa):=zh (by rw[MN.out,if_pos tS]);have HL:=zh (HL.out.trans (by rw[HB.out]));have g1:(ef==0)=true:=cU tS;have g2:(ef != 0)=false:=by rw[bne,g1];rfl
  clear tS HB MN;go_wp2_with fail;go_loopw [3,4] (fun sv iv wr=>∃q:Nat,q<=4/\sv=.string (fa++Ew ef q)/\iv=.int .i64 (q:Int)/\Hid (Below w4.heap.size w4 wr)) (fun _ iv _=>4-(intOf iv).toNat)
  case atStart=>exact⟨0,Nat.zero_le _,by rw[show Ew ef 0=⟨#[]⟩ from rfl];exact congrArg Value.string (app_nil fa).symm,rfl,zh (Below.refl _ _)⟩
  case round=>
   obtain⟨q,hq,rfl,rfl,HW⟩:=hrel;(rename World=>wr);have RE:=zh (aD HW.out RH.out);have pW:=RE.out;clear f0 f1 f2 f3 f4 f5 f6 f7 f8 f9 fA fB;obtain⟨⟨f0,f1,f2,f3,f4,f5,f6,f7,f8,f9,fA,fB⟩,-⟩:=cY pW;clear pW;have hze:=ew_size ef q hq;by_cases pS:q<4
   ·have hq4:(0:Int)<=(q:Int)/\(q:Int)<4:=VS;have uL:=zh (fun W=>rbit_any q pS W);have wP:=bit_pos pS;obtain⟨d,PV,hdv,yV⟩:=eff_at zM qF pS;have C5:=zh (eff_word pS);have hzw:=@eff_wsz q;have hdw:IntKind.i64.wrap (d:Int)=(d:Int):=dK VS VS;have BC:Hid (Ew ef (q+1)=if Go.bits .and .i64 ef (bit4 q)≠0 then(Ew ef q++eff4.getD q noB)++⟨#[32]⟩ else Ew ef q):=zh (by rw[Ew]);have AN:(d:Int).tmod 2=((d % 2:Nat):Int):=YC;have zL:(d:Int) % 2=((d % 2:Nat):Int):=VS;generalize bitN q=bt at *;have hbf:(bt==0)=false:=aL wP;generalize eff4.getD q noB=wd at *;by_cases pN:d % 2=1
    ·have HE:Hid (Ew ef (q+1)=(Ew ef q++wd)++⟨#[32]⟩):=zh (by rw[BC.out,if_pos (yV.2 pN)]);rw[pN] at AN zL;generalize Ew ef q=eq at *;have EO:(fa++eq).size<=4000000:=WJ;clear yV BC pN;go_wp2_with fail;refine wp_region_held_drew (S:=fun W=>Below wr.heap.size wr W) VT (aE wr) fun hS=>?_;refine tk 0 (.pointer (some ⟨w.heap.size,5,none⟩)) (y:=fun W hW=>VV) (s:=hS) (h:=?_);refine tk 1 (.int .i64 ef) (y:=fun W hW=>YS) (s:=hS) (h:=?_);refine tk 2 (.int .i64 (q:Int)) (y:=fun W hW=>VV) (s:=hS) (h:=?_);refine zr 3 rfl (fun K hK=>?_);(try simp only[z1,z2,z3]);go_simp;refine(uL.out _).mono ?_;rintro e wa ⟨rfl,qR⟩;have qQ:=aA (aE wr) qR;refine hK.out _ _ qQ (fun hS=>?_);clear hK K;(try simp only[zn]);refine tk 4 (.int .i64 (d:Int)) (y:=fun W hW=>VV) (s:=hS) (h:=?_);refine tk 5 (.int .i64 1) (y:=fun W hW=>VV) (s:=hS) (h:=?_);refine tk 6 (.bool true) (y:=fun W hW=>VV) (s:=hS) (h:=?_);refine wpAnyH_done VT ?_ _;have BK:=zh (aA HW.out qQ);clear qQ hS uL;go_wp2_with fail;refine(kJ wa).mono ?_;rintro e wb ⟨⟨b,rfl,tA⟩,pR⟩;have CJ:=zh (aA BK.out pR);have hc:=tA q wd C5.out;have DI:(fa++eq++wd).size<=5000000:=WJ;clear pR tA f0 f1 f2 f3 f4 f5 f6 f7 f8 f9 fA fB;go_wp2_with fail;go_roundw;(case rel=>exact⟨q+1,VS,by rw[HE.out];exact congrArg Value.string (by rw[fO,fO]),WH,CJ⟩);case measure=>simp[intOf];omega
    have HE:Hid (Ew ef (q+1)=Ew ef q):=zh (by rw[BC.out,if_neg (fun h=>pN (yV.1 h))]);rw[show d % 2=0 by omega] at AN zL;clear yV BC pN;go_wp2_with fail;refine wp_region_held_drew (S:=fun W=>Below wr.heap.size wr W) VT (aE wr) fun hS=>?_;refine tk 0 (.pointer (some ⟨w.heap.size,5,none⟩)) (y:=fun W hW=>VV) (s:=hS) (h:=?_);refine tk 1 (.int .i64 ef) (y:=fun W hW=>YS) (s:=hS) (h:=?_);refine tk 2 (.int .i64 (q:Int)) (y:=fun W hW=>VV) (s:=hS) (h:=?_);refine zr 3 rfl (fun K hK=>?_);(try simp only[z1,z2,z3]);go_simp;refine(uL.out _).mono ?_;rintro e wa ⟨rfl,qR⟩;have qQ:=aA (aE wr) qR;refine hK.out _ _ qQ (fun hS=>?_);clear hK K;(try simp only[zn]);refine tk 4 (.int .i64 (d:Int)) (y:=fun W hW=>VV) (s:=hS) (h:=?_);refine tk 5 (.int .i64 0) (y:=fun W hW=>VV) (s:=hS) (h:=?_);refine tk 6 (.bool false) (y:=fun W hW=>VV) (s:=hS) (h:=?_);refine wpAnyH_done VT ?_ _;have BK:=zh (aA HW.out qQ);clear qQ hS uL f0 f1 f2 f3 f4 f5 f6 f7 f8 f9 fA fB;go_wp2_with fail;go_roundw;(case rel=>exact⟨q+1,VS,X8,WH,BK⟩);case measure=>simp[intOf];omega
   have HQ:Hid (Ew ef q=Ew ef 4):=zh (by rw[show q=4 by omega]);generalize Ew ef q=eq at *;have EO:(fa++eq).size<=4000000:=WJ;have O8:¬(q:Int)<4:=VS;have rY:(fa++eq++⟨#[61,32]⟩).size<=4000002:=ZB;go_wp2_with fail;refine(GO.out _ HW.out).mono ?_;rintro e w9 ⟨rfl,rT⟩;have QF:=zh (aA rB.out (aA HW.out rT));have zV:(fa++eq++⟨#[61,32]⟩++tb).size<=3000000000000:=WJ;clear rT f0 f1 f2 f3 f4 f5 f6 f7 f8 f9 fA fB;go_wp2_with fail;go_ret;exact⟨by rw[HL.out,<-HQ.out];rfl,QF.out⟩
 have HB:Hid (fb=fa++⟨#[33,32]⟩):=zh (by rw[MN.out,if_neg tS]);have HL:=zh (HL.out.trans (by rw[HB.out]));have g1:(ef==0)=false:=aL tS;have g2:(ef != 0)=true:=by rw[bne,g1];rfl
 clear tS HB MN;go_wp2_with fail;have hzB:(fa++⟨#[33,32]⟩).size<=3000002:=by rw[ByteArray.size_append];have e4:(⟨#[33,32]⟩:bA).size=2:=rfl;omega
 generalize fa++⟨#[33,32]⟩=sB at *;go_loopw [3,4] (fun sv iv wr=>∃q:Nat,q<=4/\sv=.string (sB++Ew ef q)/\iv=.int .i64 (q:Int)/\Hid (Below w4.heap.size w4 wr)) (fun _ iv _=>4-(intOf iv).toNat)
 case atStart=>exact⟨0,Nat.zero_le _,by rw[show Ew ef 0=⟨#[]⟩ from rfl];exact congrArg Value.string (app_nil sB).symm,rfl,zh (Below.refl _ _)⟩
 case round=>
  obtain⟨q,hq,rfl,rfl,HW⟩:=hrel;rename World=>wr
  have RE:=zh (aD HW.out RH.out);have pW:=RE.out;clear f0 f1 f2 f3 f4 f5 f6 f7 f8 f9 fA fB;obtain⟨⟨f0,f1,f2,f3,f4,f5,f6,f7,f8,f9,fA,fB⟩,-⟩:=cY pW;clear pW;have hze:=ew_size ef q hq;by_cases pS:q<4
  ·have hq4:(0:Int)<=(q:Int)/\(q:Int)<4:=VS;have uL:=zh (fun W=>rbit_any q pS W);have wP:=bit_pos pS;obtain⟨d,PV,hdv,yV⟩:=eff_at zM qF pS;have C5:=zh (eff_word pS);have hzw:=@eff_wsz q;have hdw:IntKind.i64.wrap (d:Int)=(d:Int):=dK VS VS;have BC:Hid (Ew ef (q+1)=if Go.bits .and .i64 ef (bit4 q)≠0 then(Ew ef q++eff4.getD q noB)++⟨#[32]⟩ else Ew ef q):=zh (by rw[Ew]);have AN:(d:Int).tmod 2=((d % 2:Nat):Int):=YC;have zL:(d:Int) % 2=((d % 2:Nat):Int):=VS;generalize bitN q=bt at *;have hbf:(bt==0)=false:=aL wP;generalize eff4.getD q noB=wd at *;by_cases pN:d % 2=1
   ·have HE:Hid (Ew ef (q+1)=(Ew ef q++wd)++⟨#[32]⟩):=zh (by rw[BC.out,if_pos (yV.2 pN)]);rw[pN] at AN zL;generalize Ew ef q=eq at *;have EO:(sB++eq).size<=4000000:=WJ;clear yV BC pN;go_wp2_with fail;refine wp_region_held_drew (S:=fun W=>Below wr.heap.size wr W) VT (aE wr) fun hS=>?_;refine tk 0 (.pointer (some ⟨w.heap.size,5,none⟩)) (y:=fun W hW=>VV) (s:=hS) (h:=?_);refine tk 1 (.int .i64 ef) (y:=fun W hW=>YS) (s:=hS) (h:=?_);refine tk 2 (.int .i64 (q:Int)) (y:=fun W hW=>VV) (s:=hS) (h:=?_);refine zr 3 rfl (fun K hK=>?_);(try simp only[z1,z2,z3]);go_simp;refine(uL.out _).mono ?_;rintro e wa ⟨rfl,qR⟩;have qQ:=aA (aE wr) qR;refine hK.out _ _ qQ (fun hS=>?_);clear hK K;(try simp only[zn]);refine tk 4 (.int .i64 (d:Int)) (y:=fun W hW=>VV) (s:=hS) (h:=?_);refine tk 5 (.int .i64 1) (y:=fun W hW=>VV) (s:=hS) (h:=?_);refine tk 6 (.bool true) (y:=fun W hW=>VV) (s:=hS) (h:=?_);refine wpAnyH_done VT ?_ _;have BK:=zh (aA HW.out qQ);clear qQ hS uL;go_wp2_with fail;refine(kJ wa).mono ?_;rintro e wb ⟨⟨b,rfl,tA⟩,pR⟩;have CJ:=zh (aA BK.out pR);have hc:=tA q wd C5.out;have DI:(sB++eq++wd).size<=5000000:=WJ;clear pR tA f0 f1 f2 f3 f4 f5 f6 f7 f8 f9 fA fB;go_wp2_with fail;go_roundw;(case rel=>exact⟨q+1,VS,by rw[HE.out];exact congrArg Value.string (by rw[fO,fO]),WH,CJ⟩);case measure=>simp[intOf];omega
   have HE:Hid (Ew ef (q+1)=Ew ef q):=zh (by rw[BC.out,if_neg (fun h=>pN (yV.1 h))]);rw[show d % 2=0 by omega] at AN zL;clear yV BC pN;go_wp2_with fail;refine wp_region_held_drew (S:=fun W=>Below wr.heap.size wr W) VT (aE wr) fun hS=>?_;refine tk 0 (.pointer (some ⟨w.heap.size,5,none⟩)) (y:=fun W hW=>VV) (s:=hS) (h:=?_);refine tk 1 (.int .i64 ef) (y:=fun W hW=>YS) (s:=hS) (h:=?_);refine tk 2 (.int .i64 (q:Int)) (y:=fun W hW=>VV) (s:=hS) (h:=?_);refine zr 3 rfl (fun K hK=>?_);(try simp only[z1,z2,z3]);go_simp;refine(uL.out _).mono ?_;rintro e wa ⟨rfl,qR⟩;have qQ:=aA (aE wr) qR;refine hK.out _ _ qQ (fun hS=>?_);clear hK K;(try simp only[zn]);refine tk 4 (.int .i64 (d:Int)) (y:=fun W hW=>VV) (s:=hS) (h:=?_);refine tk 5 (.int .i64 0) (y:=fun W hW=>VV) (s:=hS) (h:=?_);refine tk 6 (.bool false) (y:=fun W hW=>VV) (s:=hS) (h:=?_);refine wpAnyH_done VT ?_ _;have BK:=zh (aA HW.out qQ);clear qQ hS uL f0 f1 f2 f3 f4 f5 f6 f7 f8 f9 fA fB;go_wp2_with fail;go_roundw;(case rel=>exact⟨q+1,VS,X8,WH,BK⟩);case measure=>simp[intOf];omega
  have HQ:Hid (Ew ef q=Ew ef 4):=zh (by rw[show q=4 by omega]);generalize Ew ef q=eq at *;have EO:(sB++eq).size<=4000000:=WJ;have O8:¬(q:Int)<4:=VS;have rY:(sB++eq++⟨#[61,32]⟩).size<=4000002:=ZB;go_wp2_with fail;refine(GO.out _ HW.out).mono ?_;rintro e w9 ⟨rfl,rT⟩;have QF:=zh (aA rB.out (aA HW.out rT));have zV:(sB++eq++⟨#[61,32]⟩++tb).size<=3000000000000:=WJ;clear rT f0 f1 f2 f3 f4 f5 f6 f7 f8 f9 fA fB;go_wp2_with fail;go_ret
  exact⟨by rw[HL.out,<-HQ.out];rfl,QF.out⟩):p:=h
theorem eff_tab:∀e:Fin 16,∀q:Fin 4,((e.val:Int).tdiv (bitN q.val)=((e.val / 2 ^ q.val:Nat):Int))/\(decide (Go.bits .and .i64 (e.val:Int) (bit4 q.val)≠0)=decide (e.val / 2 ^ q.val % 2=1)):=XQ
theorem eff_at{e:Int}(h0:0<=e)(h1:e<=15){q:Nat}(hq:q<4):∃d:Nat,d<=15/\e.tdiv (bitN q)=(d:Int)/\(Go.bits .and .i64 e (bit4 q)≠0↔d % 2=1):=by
 obtain⟨k,rfl⟩:=Int.eq_ofNat_of_zero_le h0;have h:=eff_tab ⟨k,VS⟩ ⟨q,hq⟩;refine⟨k / 2 ^ q,Nat.le_trans (Nat.div_le_self _ _) VS,h.1,?_⟩;have h2:=h.2;rw[decide_eq_decide] at h2;exact h2
theorem bit_pos{q:Nat}(hq:q<4):bitN q≠0:=by
 have h:q=0\/q=1\/q=2\/q=3:=VS;rcases h with rfl|rfl|rfl|rfl<;>decide
theorem eff_word{q:Nat}(hq:q<4):effL4[q]? =some (eff4.getD q noB):=by
 have h:q=0\/q=1\/q=2\/q=3:=VS;rcases h with rfl|rfl|rfl|rfl<;>rfl
theorem eff_wsz{q:Nat}:(eff4.getD q noB).size<=8:=by
 match q with
 |0=>decide
 |1=>decide
 |2=>decide
 |3=>decide
 |q+4=>show(noB:bA).size<=8;decide
theorem rprintExp_any(x:Xp){N:Nat->Prop}{cx:List Value}{w:World}(hx:aU N w x cx):
  Calls Tryz.prog 26 #[.agg cx.toArray] w fun e w'=>e=.returned (doneV (jZ x))/\Below w.heap.size w w':=by
 have xY:=zh (fun W(h:Below w.heap.size w W)=>lL x (aG _ _ _ _ _ _ (aK.later h) hx));have zQ:=zh (fun(hr:aJ 12 x=true)W(h:Below w.heap.size w W)=>rshow_any x hr 0 VU (aG _ _ _ _ _ _ (aK.later h) hx));have HT:Hid (Tx x 0=bs (dJ (aI x))):=zh (tx_zero x);obtain⟨op,n,s,m,i1,j1,k1,u1,z1,t1,rfl⟩:=aZ hx;have pK:=zh (aC w (aH op n s m i1 j1 k1 u1 z1 t1));have HX:=zh (bY w (aH op n s m i1 j1 k1 u1 z1 t1));have hX:=HX.out;obtain⟨⟨x0,x1,x2,x3,x4,x5⟩,-⟩:=bx6 hX;clear hX hx
 cases hr:aJ 12 x with
 |false=>
  have HV:Hid (doneV (jZ x)=.tuple #[.string ⟨#[]⟩,.int .i64 1]):=zh (by unfold jZ;rw[hr];rfl);rw[hr] at xY;clear hr zQ;go_enter Tryz.func26,Tryz.ntmps26;go_wp2_with fail;refine(xY.out _ pK.out).mono ?_;rintro e w2 ⟨rfl,pM⟩;have pQ:=zh (aA pK.out pM);clear pM x0 x1 x2 x3 x4 x5;go_wp2_with fail;go_ret2;exact⟨YI,pQ.out⟩
 |true=>
  have tS:=dG (show(12:Nat)<=12 by decide) hr 0;have QG:Hid (jZ x=kT (Tx x 0)):=zh (by unfold jZ;rw[hr,HT.out];rfl);rw[hr] at xY;have zQ:=zh (zQ.out hr);clear hr HT;generalize Tx x 0=tt at *;generalize jZ x=px at *;go_enter Tryz.func26,Tryz.ntmps26;go_wp2_with fail;refine(xY.out _ pK.out).mono ?_;rintro e w2 ⟨rfl,pM⟩;have pQ:=zh (aA pK.out pM);have pW:=aD pM HX.out;clear pM x0 x1 x2 x3 x4 x5;obtain⟨⟨x0,x1,x2,x3,x4,x5⟩,-⟩:=bx6 pW;clear pW;go_wp2_with fail;refine(zQ.out _ pQ.out).mono ?_;rintro e w3 ⟨rfl,pR⟩;have qG:=zh (aA pQ.out pR);clear pR x0 x1 x2 x3 x4 x5;by_cases rK:8000<tt.size
  ·have HV:Hid (px=.error 6):=zh (by rw[QG.out,kT,if_pos rK]);have NY:(8000:Int)<(tt.size:Int):=VS;go_wp2_with fail;go_ret2;exact⟨YI,qG.out⟩
  have HV:Hid (px=.ok tt):=zh (by rw[QG.out,kT,if_neg rK]);have NY:¬(8000:Int)<(tt.size:Int):=VS;go_wp2_with fail;go_ret2;exact⟨YI,qG.out⟩
theorem rshowFunc_any(f:Fnc)(hn:aP f.name=true)(hp:∀x∈f.params,aP x.1=true/\aQ 4 x.2=true)(hpl:f.params.length<=6)(ht:aQ 4 f.result=true)(zM:0<=f.effects)(qF:f.effects<=15)(hb:aJ 12 f.body=true){N:Nat->Prop}{cs:List Value}{w:World}(hf:hO N w f cs):
  Calls Tryz.prog 77 #[.agg cs.toArray] w fun e w'=>e=.returned (.string (Jf f))/\Below w.heap.size w w':=by
 obtain⟨nm,pb,ps,rs,ef,bd⟩:=f;obtain⟨vp,kk,vf,op,n,s,q1,vn,va,rfl,KX,KT,II,vB⟩:=hf;dsimp only at *;obtain⟨ap,cp,rfl,-⟩:=KT.at;obtain⟨kz,at_,nt,ct,ez⟩:=cI II;cases ez;obtain⟨oz,nz,sz,mz,an,ln,cn,ag,lg,cg,ez⟩:=aZ vB;cases ez;have HPp:=zh (fun W(h:Below w.heap.size w W)=>rtyped_any ps hp VS (KT.moves aS (aK.later h) VU));have HTp:=zh (fun W(h:Below w.heap.size w W)=>rshowType_any rs ht (cB _ _ _ _ _ _ (aK.later h) II));have HBp:=zh (fun W(h:Below w.heap.size w W)=>rshow_any bd hb 0 VU (aG _ _ _ _ _ _ (aK.later h) vB));have hzp:(Fl ps).size<=1100030:=fl_size (fun g hg=>⟨(hp g hg).1,mW (hp g hg).2⟩) VS;have hzt:(Jt rs).size<=109980:=jt_size (mW ht);have hzb:(Tx bd 0).size<=2041950165844:=dG VU hb 0;have hzn:=eL hn;clear hp KT ht II hb vB hn
 cases pb with
 |true=>
  have pK:=zh (aC w (dU nm true ap ps.length cp kk at_ nt ct ef op n s q1 an ln cn ag lg cg));have C9:=zh (bY w (dU nm true ap ps.length cp kk at_ nt ct ef op n s q1 an ln cn ag lg cg));have pW:=C9.out;obtain⟨⟨f0,f1,f2,f3,f4,f5,f6,f7,f8,f9,fA,fB⟩,-⟩:=cY pW;clear pW;have MO:Hid (fnA ⟨nm,true,ps,rs,ef,bd⟩=((((((⟨#[112,117,98,32]⟩++⟨#[102,110,32]⟩)++nm)++⟨#[32,40,32]⟩)++Fl ps)++⟨#[41,32]⟩)++Jt rs)++⟨#[32]⟩):=zh rfl;have HL:=zh (law_fn ⟨nm,true,ps,rs,ef,bd⟩);have MN:Hid (fnB ⟨nm,true,ps,rs,ef,bd⟩=if ef=0 then fnA ⟨nm,true,ps,rs,ef,bd⟩ else fnA ⟨nm,true,ps,rs,ef,bd⟩++⟨#[33,32]⟩):=zh rfl;have HL:Hid (Jf ⟨nm,true,ps,rs,ef,bd⟩=(((fnB ⟨nm,true,ps,rs,ef,bd⟩++Ew ef 4)++⟨#[61,32]⟩)++Tx bd 0)++⟨#[32,59,10]⟩):=HL;generalize Jf ⟨nm,true,ps,rs,ef,bd⟩=jf at *;generalize fnB ⟨nm,true,ps,rs,ef,bd⟩=fb at *;generalize fnA ⟨nm,true,ps,rs,ef,bd⟩=fa at *;generalize Fl ps=pt at *;generalize Jt rs=rt at *;generalize Tx bd 0=tb at *;have HP:=zh (fun W(hb:Below (w.alloc (dU nm true ap ps.length cp kk at_ nt ct ef op n s q1 an ln cn ag lg cg)).heap.size (w.alloc (dU nm true ap ps.length cp kk at_ nt ct ef op n s q1 an ln cn ag lg cg)) W)=>HPp.out W (aA pK.out hb));have HT:=zh (fun W(hb:Below (w.alloc (dU nm true ap ps.length cp kk at_ nt ct ef op n s q1 an ln cn ag lg cg)).heap.size (w.alloc (dU nm true ap ps.length cp kk at_ nt ct ef op n s q1 an ln cn ag lg cg)) W)=>HTp.out W (aA pK.out hb));go_enter Tryz.func77,Tryz.ntmps77;go_wp2_with fail;generalize w.alloc (dU nm true ap ps.length cp kk at_ nt ct ef op n s q1 an ln cn ag lg cg)=w0 at *;obtain⟨s1,rX⟩:∃s:bA,s=⟨#[112,117,98,32]⟩:=⟨_,rfl⟩;rw[<-rX] at MO ⊢;have rZ:s1.size<=4:=by rw[rX];decide
  exact RU
 |false=>
  have pK:=zh (aC w (dU nm false ap ps.length cp kk at_ nt ct ef op n s q1 an ln cn ag lg cg));have C9:=zh (bY w (dU nm false ap ps.length cp kk at_ nt ct ef op n s q1 an ln cn ag lg cg));have pW:=C9.out;obtain⟨⟨f0,f1,f2,f3,f4,f5,f6,f7,f8,f9,fA,fB⟩,-⟩:=cY pW;clear pW;have MO:Hid (fnA ⟨nm,false,ps,rs,ef,bd⟩=((((((⟨#[]⟩++⟨#[102,110,32]⟩)++nm)++⟨#[32,40,32]⟩)++Fl ps)++⟨#[41,32]⟩)++Jt rs)++⟨#[32]⟩):=zh rfl;have HL:=zh (law_fn ⟨nm,false,ps,rs,ef,bd⟩);have MN:Hid (fnB ⟨nm,false,ps,rs,ef,bd⟩=if ef=0 then fnA ⟨nm,false,ps,rs,ef,bd⟩ else fnA ⟨nm,false,ps,rs,ef,bd⟩++⟨#[33,32]⟩):=zh rfl;have HL:Hid (Jf ⟨nm,false,ps,rs,ef,bd⟩=(((fnB ⟨nm,false,ps,rs,ef,bd⟩++Ew ef 4)++⟨#[61,32]⟩)++Tx bd 0)++⟨#[32,59,10]⟩):=HL;generalize Jf ⟨nm,false,ps,rs,ef,bd⟩=jf at *;generalize fnB ⟨nm,false,ps,rs,ef,bd⟩=fb at *;generalize fnA ⟨nm,false,ps,rs,ef,bd⟩=fa at *;generalize Fl ps=pt at *;generalize Jt rs=rt at *;generalize Tx bd 0=tb at *;have HP:=zh (fun W(hb:Below (w.alloc (dU nm false ap ps.length cp kk at_ nt ct ef op n s q1 an ln cn ag lg cg)).heap.size (w.alloc (dU nm false ap ps.length cp kk at_ nt ct ef op n s q1 an ln cn ag lg cg)) W)=>HPp.out W (aA pK.out hb));have HT:=zh (fun W(hb:Below (w.alloc (dU nm false ap ps.length cp kk at_ nt ct ef op n s q1 an ln cn ag lg cg)).heap.size (w.alloc (dU nm false ap ps.length cp kk at_ nt ct ef op n s q1 an ln cn ag lg cg)) W)=>HTp.out W (aA pK.out hb));go_enter Tryz.func77,Tryz.ntmps77;go_wp2_with fail;generalize w.alloc (dU nm false ap ps.length cp kk at_ nt ct ef op n s q1 an ln cn ag lg cg)=w0 at *;obtain⟨s1,rX⟩:∃s:bA,s=⟨#[]⟩:=⟨_,rfl⟩;rw[<-rX] at MO;have rZ:s1.size<=4:=by rw[rX];decide
  rw[<-rX];exact RU
end Go.Proofs.YtiionicikdnnpaaGreatDoor
