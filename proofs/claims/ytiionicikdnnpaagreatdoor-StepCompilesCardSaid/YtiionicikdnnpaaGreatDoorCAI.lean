/- Texts of this seat, joined. -/
import Derived.Test.YtiionicikdnnpaaGreatDoorCAH
set_option maxHeartbeats 16000000
set_option maxRecDepth 100000
set_option linter.unusedVariables false
set_option linter.unusedSimpArgs false
namespace Go.Proofs.YtiionicikdnnpaaGreatDoor
open Go.RowKit
theorem VW{p:Prop}(h:p:=by
 go_wp2_with(go_at_call 81;refine(ET.out _ DU.out).mono ?_;rintro e v2 ⟨rfl,rQ⟩;have DF:=zh (aC DU.out rQ);have sL:=zh (aH rQ PJ.out);obtain⟨⟨q20,q21,QI,q23,q24,q25,q26,q27,q28⟩,-⟩:=bx9 sL.out);go_quiet(fail)
 go_wp2_with(go_at_call 80;refine(HFO.out _ (aS DF.out _)).mono ?_;rintro e v3 ⟨rfl,tI⟩;have H3:=zh (aC (aS DF.out _) tI);have uT:=zh (aH tI sL.out);obtain⟨⟨q30,q31,q32,q33,q34,q35,q36,q37,q38⟩,-⟩:=bx9 uT.out)
 cases rw with
 |false=>
  go_at_call 81;refine(GG.out _ H3.out).mono ?_;rintro e v4 ⟨rfl,wO⟩;have M3:=zh (aC H3.out wO);have uH:=zh (aH wO uT.out);obtain⟨⟨q40,q41,q42,q43,q44,q45,q46,q47,q48⟩,-⟩:=bx9 uH.out;go_wp2_with fail;go_ret;exact⟨aF ZE,M3.out⟩
 |true=>
  go_at_call 81;refine(GG.out _ H3.out).mono ?_;rintro e v4 ⟨rfl,wO⟩;have M3:=zh (aC H3.out wO);have uH:=zh (aH wO uT.out);obtain⟨⟨q40,q41,q42,q43,q44,q45,q46,q47,q48⟩,-⟩:=bx9 uH.out;go_wp2_with fail;go_wp2_with(go_at_call 81;refine(PK.out _ M3.out).mono ?_;rintro e v5 ⟨rfl,hb5⟩;have HD5:=zh (aC M3.out hb5);have DR:=zh (aH hb5 uH.out);obtain⟨⟨q50,q51,q52,q53,q54,q55,q56,q57,q58⟩,-⟩:=bx9 DR.out);go_ret
  exact⟨aF ZE,HD5.out⟩):p:=h
theorem VZ{p:Prop}(h:p:=by
 go_wp2_with(first|(at_lookup;refine bZ (MQ.out.alloc _) s2 HK.out rfl rfl rfl rfl ?_)|(go_at_call 17;refine HS.out.mono ?_;rintro e w5 ⟨rfl,rfl⟩)|(go_at_call 80;refine(HFP.out _ tB.out).mono ?_;rintro e w6 ⟨rfl,uB⟩;have yX:=zh (aC tB.out uB);obtain⟨⟨x0,x1,x2,x3,x4,x5,x6,x7,x8,x9,x10,x11⟩,-⟩:=iS (aH uB uJ.out))|(go_at_call 29;refine(HT.out _ yX.out).mono ?_;rintro e w7 ⟨rfl,yF⟩;have BN:=zh (aC yX.out yF);obtain⟨⟨y0,y1,y2,y3,y4,y5,y6,y7,y8,y9,y10,y11⟩,-⟩:=iS (aH (aC uB yF) uJ.out))|(go_at_call 27;refine(HE.out _ BN.out).mono ?_;rintro e w8 ⟨rfl,uI⟩;have zM:=zh (aC BN.out uI);obtain⟨⟨z0,z1,z2,z3,z4,z5,z6,z7,z8,z9,z10,z11⟩,-⟩:=iS (aH (aC (aC uB yF) uI) uJ.out);have HM8:=zh ((MQ.out.alloc (jQ f.name f.pub ap f.params.length cp kd ar lr cr f.effects op n sx mx an ln cn aa la ca)).later (aC (aC uB yF) uI))));go_ret
 exact⟨aF ZL,zM.out⟩):p:=h
theorem WA{p:Prop}(h:p:=by
 go_wp2_with(go_at_call 81;refine(ET.out _ DU.out).mono ?_;rintro e v2 ⟨rfl,rQ⟩;have DF:=zh (aC DU.out rQ);have sL:=zh (aH rQ PJ.out);obtain⟨⟨q20,q21,QI,q23,q24,q25,q26,q27,q28⟩,-⟩:=bx9 sL.out);go_quiet(fail)
 go_wp2_with(go_at_call 80;refine(HFO.out _ (aS DF.out _)).mono ?_;rintro e v3 ⟨rfl,tI⟩;have H3:=zh (aC (aS DF.out _) tI);have uT:=zh (aH tI sL.out);obtain⟨⟨q30,q31,q32,q33,q34,q35,q36,q37,q38⟩,-⟩:=bx9 uT.out);go_ret
 exact⟨aF ZE,H3.out⟩):p:=h
theorem WN{p:Prop}(h:p:=by
 go_wp2_with(go_at_call 17;refine HN1.out.mono ?_;rintro e w5 ⟨rfl,rfl⟩);go_ret
 exact⟨aF ZE,DW.out⟩):p:=h
theorem WR{p:Prop}(h:p:=by
 clear OL;go_wp2_with(go_at_call 81;refine(ET.out _ DU.out).mono ?_;rintro e v2 ⟨rfl,rQ⟩;have DF:=zh (aC DU.out rQ);have sL:=zh (aH rQ PJ.out);obtain⟨⟨q20,q21,QI,q23,q24,q25,q26,q27,q28⟩,-⟩:=bx9 sL.out);go_quiet(fail)
 go_wp2_with fail;go_ret
 exact⟨aF (by rw[HM.out]),aS DF.out _⟩):p:=h
theorem uses_bad'{l:List bA}{k:Nat}{x:bA}{known:List bA}{r:Bool}(hx:l[k]? =some x)(h:(known.any fun y=>decide (y=x))=true\/aK x=false)
  (hr:r=dN (l.drop k) known):r=false:=by
 obtain⟨hk,rfl⟩:=Yb.1 hx;rw[hr,List.drop_eq_getElem_cons hk,dN];rcases h with h|h<;>simp[h]
theorem uses_good'{l:List bA}{k:Nat}{x:bA}{known:List bA}{r:Bool}(hx:l[k]? =some x)(h1:(known.any fun y=>decide (y=x))=false)(h2:aK x=true)
  (hr:r=dN (l.drop k) known):r=dN (l.drop (k+1)) (x::known):=by
 obtain⟨hk,rfl⟩:=Yb.1 hx;rw[hr,List.drop_eq_getElem_cons hk,dN,h1,h2];rfl
theorem uses_end'{l:List bA}{k:Nat}{known:List bA}{r:Bool}(hk:l.length<=k)(hr:r=dN (l.drop k) known):r=true:=by
 rw[hr,List.drop_of_length_le hk,dN]
theorem fns_bad{l:List Fnc}{k:Nat}{x:Fnc}{known:List bA}{r:Bool}(hx:l[k]? =some x)(h:(known.any fun y=>decide (y=x.name))=true\/aK x.name=false\/fG x=false)
  (hr:r=cI (l.drop k) known):r=false:=by
 obtain⟨hk,rfl⟩:=Yb.1 hx;rw[hr,List.drop_eq_getElem_cons hk,cI];rcases h with h|h|h<;>simp[h]
theorem fns_good{l:List Fnc}{k:Nat}{x:Fnc}{known:List bA}{r:Bool}(hx:l[k]? =some x)(h1:(known.any fun y=>decide (y=x.name))=false)(h2:aK x.name=true)(h3:fG x=true)
  (hr:r=cI (l.drop k) known):r=cI (l.drop (k+1)) (x.name::known):=by
 obtain⟨hk,rfl⟩:=Yb.1 hx;rw[hr,List.drop_eq_getElem_cons hk,cI,h1,h2,h3];rfl
theorem fns_end{l:List Fnc}{k:Nat}{known:List bA}{r:Bool}(hk:l.length<=k)(hr:r=cI (l.drop k) known):r=true:=by
 rw[hr,List.drop_of_length_le hk,cI]
theorem rightFn_eq(f:Fnc):fG f=(bL f.params 6&&aR 4 f.result&&aJ 12 f.body&&effOk f.effects):=rfl
theorem modRight_any(m:Mdl)(N:Nat->Prop)(vu vv vi vf vo vw vb:Value)(w:World)(hg:eJ w)(hu:aO 1 dD N w vu m.uses)(hv:aO 3 gS N w vv m.vars)(hi:aO 6 bN N w vi m.init)(hf:aO 12 mK N w vf m.funcs)
  (ho:aO 3 gS N w vo m.old) (hw:aO 6 bN N w vw m.forward) (hb:aO 6 bN N w vb m.back) (hn:m.name.size<=8000):
  Calls Tryz.prog 22 #[.agg #[.string m.name,vu,vv,vi,vf,.bool m.moves,vo,vw,vb]] w fun e w'=>e=.returned (.bool (gI m))/\Below w.heap.size w w':=by
 have HG:=zh (fun W(hb:Below w.heap.size w W)=>hg.later hb);have HM:Hid (gI m=(dN m.uses []&&cI m.funcs []&&aK m.name&&decide (m.uses.length<=12)&&decide (m.funcs.length<=30)&&bL m.vars 8&&cK m.init m.vars.length&&(m.moves||decide (m.old.length=0))&&bL m.old 8&&cK m.forward (if m.moves then m.vars.length else 0)&&cK m.back m.old.length)):=zh rfl;generalize gI m=res at HM ⊢;obtain⟨au,cu,rfl,lu1,lu2,hcu⟩:=hu.at;obtain⟨af,cf,rfl,lf1,lf2,hcf⟩:=hf.at;have HFV:=zh (fun W(h:Below w.heap.size w W)=>nP m.vars 8 N vv W YO (HG.out W h) (hv.moves aZ (bU.later h) YO));have HFO:=zh (fun W(h:Below w.heap.size w W)=>nP m.old 8 N vo W YO (HG.out W h) (ho.moves aZ (bU.later h) YO));have HXI:=zh (fun k W(hk:k<=1000)(h:Below w.heap.size w W)=>qC mB m.init k N vi W hk (HG.out W h) (hi.moves aI (bU.later h) YO));have HXW:=zh (fun k W(hk:k<=1000)(h:Below w.heap.size w W)=>qC mB m.forward k N vw W hk (HG.out W h) (hw.moves aI (bU.later h) YO));have HXB:=zh (fun k W(hk:k<=1000)(h:Below w.heap.size w W)=>qC mB m.back k N vb W hk (HG.out W h) (hb.moves aI (bU.later h) YO));obtain⟨av,cv,rfl,lv1,lv2,-⟩:=hv.at;obtain⟨ai,ci,rfl,li1,li2,-⟩:=hi.at;obtain⟨ao,co,rfl,lo1,lo2,-⟩:=ho.at;obtain⟨aw,cw,rfl,lw1,lw2,-⟩:=hw.at;obtain⟨ab,cb,rfl,lb1,lb2,-⟩:=hb.at;have HCU:=zh hcu;have HCF:=zh hcf;have GV:=zh (fun W(h:Below w.heap.size w W)=>fB m.name W YM (HG.out W h));have NY:=zh (bY w (mQ m.name au m.uses.length cu av m.vars.length cv ai m.init.length ci af m.funcs.length cf m.moves ao m.old.length co aw m.forward.length cw ab m.back.length cb));have sT:=zh (aA w (mQ m.name au m.uses.length cu av m.vars.length cv ai m.init.length ci af m.funcs.length cf m.moves ao m.old.length co aw m.forward.length cw ab m.back.length cb));have H8:=@run_makeMap Tryz.prog;clear hg hu hv hi hf ho hw hb hcu hcf;go_enter Tryz.func22,Tryz.ntmps22;go_wp2_with fail;go_loopw [15] (fun iv wr=>∃(q:Nat)(known:List bA),q<=m.uses.length/\iv=.int .i64 (q:Int)/\Hid (Below (w.alloc (mQ m.name au m.uses.length cu av m.vars.length cv ai m.init.length ci af m.funcs.length cf m.moves ao m.old.length co aw m.forward.length cw ab m.back.length cb)).heap.size (w.alloc (mQ m.name au m.uses.length cu av m.vars.length cv ai m.init.length ci af m.funcs.length cf m.moves ao m.old.length co aw m.forward.length cw ab m.back.length cb)) wr)/\Hid (dN m.uses []=dN (m.uses.drop q) known)/\Hid (bV kG fZ wr (w.heap.size+1) q (nD known))) (fun iv _=>m.uses.length-(intOf iv).toNat)
 case atStart=>exact⟨0,[],Nat.zero_le _,rfl,zh (aA _ _),zh rfl,zh (by have h:=(bV.made (K:=kG) (V:=fZ) (w.alloc (mQ m.name au m.uses.length cu av m.vars.length cv ai m.init.length ci af m.funcs.length cf m.moves ao m.old.length co aw m.forward.length cw ab m.back.length cb))).ext (m':=nD []) (fun _=>rfl);simpa using h)⟩
 case round=>
  obtain⟨q,known,hq,rfl,HB,sA,UZ⟩:=hrel;rename World=>wr
  have vR:=zh (aC sT.out HB.out);obtain⟨⟨t0,t1,t2,t3,t4,t5,t6,t7,t8⟩,-⟩:=bx9 (aH HB.out NY.out);have hb9':(w.alloc (mQ m.name au m.uses.length cu av m.vars.length cv ai m.init.length ci af m.funcs.length cf m.moves ao m.old.length co aw m.forward.length cw ab m.back.length cb)).heap.size=w.heap.size+1:=YR;by_cases rU:q<m.uses.length
  ·obtain⟨x,hx,-⟩:=getElem?_of_lt rU;obtain⟨b,o,rfl,-,cs,⟨rfl,s1⟩,-,hj⟩:=HCU.out q x hx;have p0:wr.cell? ⟨b,o+q,none⟩=some (.string x):=aD vR.out ZR;have HX:=zh hx;have HK:=zh (mG known x);have HS:=zh (fB x wr s1 (HG.out _ vR.out));clear hj hx H8;generalize AJ:(known.any fun y=>decide (y=x))=r1 at HK;generalize BR:aK x=r2 at HS;have RY:=zh AJ;have RX:=zh BR;clear AJ BR
   cases r1 with
   |true=>
    have HF:Hid (res=false):=zh (by rw[HM.out,uses_bad' HX.out (.inl RY.out) sA.out];simp);go_wp2_with(at_lookup;refine bZ UZ.out s1 HK.out rfl rfl rfl rfl ?_);go_ret;exact⟨aF ZL,vR.out⟩
   |false=>
    cases r2 with
    |false=>
     have HF:Hid (res=false):=zh (by rw[HM.out,uses_bad' HX.out (.inr RX.out) sA.out];simp);go_wp2_with(first|(at_lookup;refine bZ UZ.out s1 HK.out rfl rfl rfl rfl ?_)|(go_at_call 17;refine HS.out.mono ?_;rintro e w5 ⟨rfl,rfl⟩));go_ret;exact⟨aF ZL,vR.out⟩
    |true=>
     have yG:=zh (uses_good' HX.out RY.out RX.out sA.out);have vG:=HB.out.size;go_wp2_with(first|(at_lookup;refine bZ UZ.out s1 HK.out rfl rfl rfl rfl ?_)|(go_at_call 17;refine HS.out.mono ?_;rintro e w5 ⟨rfl,rfl⟩)|(at_mapUpdate;refine lF UZ.out YM s1 rfl rfl rfl rfl rfl ?_;intro w3 hm3 TC));go_roundw;(case rel=>exact⟨q+1,x::known,YM,YZ,zh (HB.out.grown TC vG (fun i hi=>by cases hi;omega)),yG,zh (hm3.ext (fun z=>congrFun (oD known x) z))⟩);case measure=>simp[intOf];omega
  have HU:Hid (dN m.uses []=true):=zh (uses_end' YM sA.out);rw[HU.out,Bool.true_and] at HM;have hwr:=HB.out.size;have SK:(w.alloc (mQ m.name au m.uses.length cu av m.vars.length cv ai m.init.length ci af m.funcs.length cf m.moves ao m.old.length co aw m.forward.length cw ab m.back.length cb)).heap.size=w.heap.size+1:=YR;have hlt0:w.heap.size<wr.heap.size:=YM;have HwM:=zh (aA wr (.map #[] 0));clear sA UZ HCU;go_wp2_with fail;clear H8;clear t0 t1 t2 t3 t4 t5 t6 t7 t8;go_loopw [34] (fun iv wz=>∃(z:Nat)(known:List bA),z<=m.funcs.length/\iv=.int .i64 (z:Int)/\Hid (Below wr.heap.size wr wz)/\Hid (cI m.funcs []=cI (m.funcs.drop z) known)/\Hid (bV kG fZ wz wr.heap.size z (nD known))) (fun iv _=>m.funcs.length-(intOf iv).toNat)
  case atStart=>exact⟨0,[],Nat.zero_le _,rfl,HwM,zh rfl,zh ((bV.made wr).ext (fun _=>rfl))⟩
  case round=>
   obtain⟨z,kn,hz,rfl,vQ,PO,MQ⟩:=hrel;(rename World=>wz);have HBy:=zh (aC HB.out vQ.out);have DW:=zh (aC sT.out HBy.out);obtain⟨⟨t0,t1,t2,t3,t4,t5,t6,t7,t8⟩,-⟩:=bx9 (aH HBy.out NY.out);by_cases hlz:z<m.funcs.length
   ·obtain⟨f,hx,-⟩:=getElem?_of_lt hlz;obtain⟨b,o,rfl,-,cs,LN,-,hj⟩:=HCF.out z f hx;obtain⟨vp,kd,vr,op,n,sx,mx,vn,va,rfl,s1,hp,ht,he⟩:=LN;have HFP:=zh (fun W(h:Below w.heap.size w W)=>nP f.params 6 N vp W YO (HG.out W h) (hp.moves aZ (bU.later h) YO));have HT:=zh (fun W(h:Below w.heap.size w W)=>RightType_any rightType_any f.result N kd vr W (HG.out W h) (fU _ _ _ _ _ _ (bU.later h) ht));have HE:=zh (fun W(h:Below w.heap.size w W)=>RightExp_any mB f.body N op n sx mx vn va W (HG.out W h) (aI _ _ _ _ _ _ (bU.later h) he));obtain⟨ap,cp,rfl,-⟩:=hp.at;obtain⟨ar,lr,cr,rfl⟩:=encT_slice ht;obtain⟨⟨an,ln,cn,rfl⟩,aa,la,ca,rfl⟩:=hZ he;have c0:wz.cell? ⟨b,o+z*12,none⟩=some (.string f.name):=aD DW.out (hj 0 _ rfl);have c1:=aD DW.out (hj 1 _ rfl);have c2:=aD DW.out (hj 2 _ rfl);have c3:=aD DW.out (hj 3 _ rfl);have c4:=aD DW.out (hj 4 _ rfl);have c5:=aD DW.out (hj 5 _ rfl);have c6:=aD DW.out (hj 6 _ rfl);have c7:=aD DW.out (hj 7 _ rfl);have c8:=aD DW.out (hj 8 _ rfl);have c9:=aD DW.out (hj 9 _ rfl);have BK:=aD DW.out (hj 10 _ rfl);have BJ:=aD DW.out (hj 11 _ rfl);have s2:f.name.size<=140737488355328:=YM;have HX:=zh hx;have HK:=zh (mG kn f.name);have tB:=zh (aC DW.out (aA wz (jQ f.name f.pub ap f.params.length cp kd ar lr cr f.effects op n sx mx an ln cn aa la ca)));have uJ:=zh (bY wz (jQ f.name f.pub ap f.params.length cp kd ar lr cr f.effects op n sx mx an ln cn aa la ca));have HS:=zh (fB f.name _ s2 (HG.out _ tB.out));have HR:=zh (rightFn_eq f);clear hj hx hp ht he HCF;generalize AJ:(kn.any fun y=>decide (y=f.name))=r1 at HK;generalize BR:aK f.name=r2 at HS;generalize bL f.params 6=r3 at HFP HR;generalize aR 4 f.result=r4 at HT HR;generalize aJ 12 f.body=r5 at HE HR;have HEf:Hid (effOk f.effects=decide (Go.bits .andNot .i64 f.effects 15=0)):=zh rfl;have RY:=zh AJ;have RX:=zh BR;clear AJ BR
    cases r1 with
    |true=>
     have HF:Hid (res=false):=zh (by rw[HM.out,fns_bad HX.out (.inl RY.out) PO.out];simp);go_wp2_with(at_lookup;refine bZ (MQ.out.alloc _) s2 HK.out rfl rfl rfl rfl ?_);exact YC
    |false=>
     cases r2 with
     |false=>
      have HF:Hid (res=false):=zh (by rw[HM.out,fns_bad HX.out (.inr (.inl RX.out)) PO.out];simp);go_wp2_with(first|(at_lookup;refine bZ (MQ.out.alloc _) s2 HK.out rfl rfl rfl rfl ?_)|(go_at_call 17;refine HS.out.mono ?_;rintro e w5 ⟨rfl,rfl⟩));exact YC
     |true=>
      cases r3 with
      |false=>
       have HF:Hid (res=false):=zh Z4;go_wp2_with(first|(at_lookup;refine bZ (MQ.out.alloc _) s2 HK.out rfl rfl rfl rfl ?_)|(go_at_call 17;refine HS.out.mono ?_;rintro e w5 ⟨rfl,rfl⟩)|(go_at_call 80;refine(HFP.out _ tB.out).mono ?_;rintro e w6 ⟨rfl,uB⟩;have yX:=zh (aC tB.out uB);obtain⟨⟨x0,x1,x2,x3,x4,x5,x6,x7,x8,x9,x10,x11⟩,-⟩:=iS (aH uB uJ.out)));go_ret;exact⟨aF ZL,yX.out⟩
      |true=>
       cases r4 with
       |false=>
        have HF:Hid (res=false):=zh Z4;go_wp2_with(first|(at_lookup;refine bZ (MQ.out.alloc _) s2 HK.out rfl rfl rfl rfl ?_)|(go_at_call 17;refine HS.out.mono ?_;rintro e w5 ⟨rfl,rfl⟩)|(go_at_call 80;refine(HFP.out _ tB.out).mono ?_;rintro e w6 ⟨rfl,uB⟩;have yX:=zh (aC tB.out uB);obtain⟨⟨x0,x1,x2,x3,x4,x5,x6,x7,x8,x9,x10,x11⟩,-⟩:=iS (aH uB uJ.out))|(go_at_call 29;refine(HT.out _ yX.out).mono ?_;rintro e w7 ⟨rfl,yF⟩;have BN:=zh (aC yX.out yF);obtain⟨⟨y0,y1,y2,y3,y4,y5,y6,y7,y8,y9,y10,y11⟩,-⟩:=iS (aH (aC uB yF) uJ.out)));go_ret;exact⟨aF ZL,BN.out⟩
       |true=>
        cases r5 with
        |false=>
         have HF:Hid (res=false):=zh Z4;exact VZ
        |true=>
         by_cases EC:Go.bits .andNot .i64 f.effects 15=0
         ·(have hef':(Go.bits .andNot .i64 f.effects 15 != 0)=false:=by rw[bne_eq_false_iff_eq];exact EC);have yG:=zh (fns_good HX.out RY.out RX.out (by rw[HR.out,HEf.out,decide_eq_true EC];rfl) PO.out);have vG:=vQ.out.size;clear EC;go_wp2_with(first|(at_lookup;refine bZ (MQ.out.alloc _) s2 HK.out rfl rfl rfl rfl ?_)|(go_at_call 17;refine HS.out.mono ?_;rintro e w5 ⟨rfl,rfl⟩)|(go_at_call 80;refine(HFP.out _ tB.out).mono ?_;rintro e w6 ⟨rfl,uB⟩;have yX:=zh (aC tB.out uB);obtain⟨⟨x0,x1,x2,x3,x4,x5,x6,x7,x8,x9,x10,x11⟩,-⟩:=iS (aH uB uJ.out))|(go_at_call 29;refine(HT.out _ yX.out).mono ?_;rintro e w7 ⟨rfl,yF⟩;have BN:=zh (aC yX.out yF);obtain⟨⟨y0,y1,y2,y3,y4,y5,y6,y7,y8,y9,y10,y11⟩,-⟩:=iS (aH (aC uB yF) uJ.out))|(go_at_call 27;refine(HE.out _ BN.out).mono ?_;rintro e w8 ⟨rfl,uI⟩;have zM:=zh (aC BN.out uI);obtain⟨⟨z0,z1,z2,z3,z4,z5,z6,z7,z8,z9,z10,z11⟩,-⟩:=iS (aH (aC (aC uB yF) uI) uJ.out);have HM8:=zh ((MQ.out.alloc (jQ f.name f.pub ap f.params.length cp kd ar lr cr f.effects op n sx mx an ln cn aa la ca)).later (aC (aC uB yF) uI)))|(at_mapUpdate;refine lF HM8.out YM s2 rfl rfl rfl rfl rfl ?_;intro w9 hm9 hg9));go_roundw;(case rel=>exact⟨z+1,f.name::kn,YM,YZ,zh ((aC vQ.out (aC (aA _ _) (aC (aC uB yF) uI))).grown hg9 (by have:=(aC vQ.out (aC (aA wz (jQ f.name f.pub ap f.params.length cp kd ar lr cr f.effects op n sx mx an ln cn aa la ca)) (aC (aC uB yF) uI))).size;exact this) (fun i hi=>by cases hi;exact Nat.le_refl _)),yG,zh (hm9.ext (fun z=>congrFun (oD kn f.name) z))⟩);case measure=>simp[intOf];omega
         (have hef':(Go.bits .andNot .i64 f.effects 15 != 0)=true:=by rw[bne_iff_ne];exact EC);(have uZ:fG f=false:=by rw[HR.out,HEf.out,decide_eq_false EC];simp);clear EC;have HF:Hid (res=false):=zh (by rw[HM.out,fns_bad HX.out (.inr (.inr uZ)) PO.out];simp);exact VZ
   have HF2:Hid (cI m.funcs []=true):=zh (fns_end YM PO.out);rw[HF2.out,Bool.true_and] at HM;clear PO MQ HCF HU HF2;have HD0:=DW;have sN:=zh (aH HBy.out NY.out);have HN1:=zh (GV.out _ DW.out);generalize yD:aK m.name=rn at HM HN1;clear yD GV
   cases rn with
   |false=>
    exact WN
   |true=>
    by_cases AG:m.uses.length<=12
    ·by_cases J5:m.funcs.length<=30
     ·rw[decide_eq_true AG,decide_eq_true J5] at HM;have g12:¬(12:Int)<(m.uses.length:Int):=YM;have g30:¬(30:Int)<(m.funcs.length:Int):=YM;clear AG J5;simp only[Bool.true_and] at HM;go_wp2_with(go_at_call 17;refine HN1.out.mono ?_;rintro e w5 ⟨rfl,rfl⟩);generalize hrv:bL m.vars 8=rv at HM HFV
      cases rv with
      |false=>
       clear hrv;go_wp2_with(go_at_call 80;refine(HFV.out _ HD0.out).mono ?_;rintro e v1 ⟨rfl,rR⟩;have DU:=zh (aC HD0.out rR);have A8:=zh (aH rR sN.out);obtain⟨⟨q10,q11,q12,q13,q14,q15,q16,q17,q18⟩,-⟩:=bx9 A8.out);go_ret;exact⟨aF ZE,DU.out⟩
      |true=>
       (have Q8:m.vars.length<=1000:=by unfold bL at hrv;simp at hrv;omega);clear hrv;have ET:=zh (fun W hb=>HXI.out m.vars.length W Q8 hb);generalize cK m.init m.vars.length=ri at HM ET;simp only[Bool.true_and] at HM;go_wp2_with(go_at_call 80;refine(HFV.out _ HD0.out).mono ?_;rintro e v1 ⟨rfl,rR⟩;have DU:=zh (aC HD0.out rR);have A8:=zh (aH rR sN.out);obtain⟨⟨q10,q11,q12,q13,q14,q15,q16,q17,q18⟩,-⟩:=bx9 A8.out)
       cases ri with
       |false=>
        go_wp2_with(go_at_call 81;refine(ET.out _ DU.out).mono ?_;rintro e v2 ⟨rfl,rQ⟩;have DF:=zh (aC DU.out rQ);have sL:=zh (aH rQ A8.out);obtain⟨⟨q20,q21,QI,q23,q24,q25,q26,q27,q28⟩,-⟩:=bx9 sL.out);go_ret;exact⟨aF ZE,DF.out⟩
       |true=>
        simp only[Bool.true_and] at HM;(have FZ:∀k,bL m.old 8=true->k=m.old.length->k<=1000:=fun k h e=>by subst e;unfold bL at h;simp at h;omega);by_cases NE:bL m.old 8=true
        ·have hk3':m.old.length<=1000:=FZ _ NE rfl;have PK:=zh (fun W hb=>HXB.out m.old.length W hk3' hb);have HRO:=zh NE;rw[NE] at HM HFO;clear FZ NE hk3'
         cases DN:m.moves with
         |true=>
          rw[DN] at HM;have U0:=zh DN;clear DN;simp only[if_true,Bool.true_or,Bool.and_true,Bool.true_and] at HM;have GG:=zh (fun W hb=>HXW.out m.vars.length W Q8 hb);generalize cK m.forward m.vars.length=rw at HM GG;generalize cK m.back m.old.length=rb at HM PK;have PJ:Hid (v1.heap[w.heap.size]? =some (mQ m.name au m.uses.length cu av m.vars.length cv ai m.init.length ci af m.funcs.length cf true ao m.old.length co aw m.forward.length cw ab m.back.length cb)):=zh aAh;exact VW
         |false=>
          rw[DN] at HM;have U0:=zh DN;clear DN;simp only[Bool.false_eq_true,if_false,Bool.false_or,Bool.true_and] at HM;have PJ:Hid (v1.heap[w.heap.size]? =some (mQ m.name au m.uses.length cu av m.vars.length cv ai m.init.length ci af m.funcs.length cf false ao m.old.length co aw m.forward.length cw ab m.back.length cb)):=zh aAh;by_cases OL:m.old.length=0
          ·rw[decide_eq_true OL] at HM;simp only[Bool.true_and] at HM;have hol0:¬(0:Int)<(m.old.length:Int):=YM;clear OL;have GG:Hid (∀W,Below w.heap.size w W->Calls Tryz.prog 81 #[.slice aw m.forward.length cw,.int .i64 0] W fun e w'=>e=.returned (.bool (cK m.forward 0))/\Below W.heap.size W w'):=zh (fun W hb=>HXW.out 0 W YO hb);generalize cK m.forward 0=rw at HM GG;generalize cK m.back m.old.length=rb at HM PK;exact VW
          have hol1:(0:Int)<(m.old.length:Int):=YM;rw[decide_eq_false OL] at HM;simp only[Bool.false_and] at HM;exact WR
        (have hro2:bL m.old 8=false:=by simpa using NE);rw[hro2] at HM HFO;clear FZ NE hro2;simp only[Bool.and_false,Bool.false_and] at HM
        cases DN:m.moves with
        |true=>
         have U0:=zh DN;clear DN;have PJ:Hid (v1.heap[w.heap.size]? =some (mQ m.name au m.uses.length cu av m.vars.length cv ai m.init.length ci af m.funcs.length cf true ao m.old.length co aw m.forward.length cw ab m.back.length cb)):=zh aAh;exact WA
        |false=>
         have U0:=zh DN;clear DN;have PJ:Hid (v1.heap[w.heap.size]? =some (mQ m.name au m.uses.length cu av m.vars.length cv ai m.init.length ci af m.funcs.length cf false ao m.old.length co aw m.forward.length cw ab m.back.length cb)):=zh aAh;by_cases OL:m.old.length=0
         ·have hol0:¬(0:Int)<(m.old.length:Int):=YM;clear OL;exact WA
         have hol1:(0:Int)<(m.old.length:Int):=YM;exact WR
     rw[decide_eq_false J5] at HM;have g12:¬(12:Int)<(m.uses.length:Int):=YM;have g30:(30:Int)<(m.funcs.length:Int):=YM;clear AG J5;exact WN
    rw[decide_eq_false AG] at HM;have g12:(12:Int)<(m.uses.length:Int):=YM;clear AG;exact WN
theorem cexp_all:∀d,ExpAt d
 |0=>fun x B cb vars vv v c css names vns op n s m vn va w hr=>by simp[aJ] at hr
 |d+1=>by
  have HX:=cexp_all d;intro x B cb vars vv v c css names vns op n s m vn va w hr h hlen yD vZ he
  cases x with
  |mk op' n' s' m' ns args=>
   have AP:=he;rw[aU] at AP;obtain⟨v1,v2,e,-⟩:=AP;simp only[List.cons.injEq,Value.int.injEq,Value.string.injEq,and_true,true_and] at e;obtain⟨e1,e2,e3,e4,-,-⟩:=e;subst e1 e2 e3 e4;by_cases h0:op=0
   ·subst h0;exact exp_0 HX n s m ns args hr h hlen yD vZ he
   by_cases h1:op=1
   ·subst h1;exact exp_1 HX n s m ns args hr h hlen yD vZ he
   by_cases h2:op=2
   ·subst h2;exact exp_2 HX n s m ns args hr h hlen yD vZ he
   by_cases h17:op=17
   ·subst h17;exact exp_17 HX n s m ns args hr h hlen yD vZ he
   by_cases h8:op=8
   ·exact exp_89 HX op (.inl h8) n s m ns args hr h hlen yD vZ he
   by_cases h9:op=9
   ·exact exp_89 HX op (.inr h9) n s m ns args hr h hlen yD vZ he
   by_cases h11:op=11
   ·subst h11;exact exp_11 HX n s m ns args hr h hlen yD vZ he
   by_cases AG:op=12
   ·subst AG;exact exp_12 HX n s m ns args hr h hlen yD vZ he
   exact exp_else HX op ⟨h0,h1,h2,h17,h8,h9,h11,AG⟩ n s m ns args hr h hlen yD vZ he
theorem rightFuncs_all:∀{l:List Fnc}{known:List bA},cI l known=true->∀f∈l,fG f=true/\aK f.name=true
 |[],_,_,f,h=>aAW
 |x::r,known,h,f,hf=>by
  rw[cI] at h;split at h
  ·cases h
  rename_i hh;simp only[Bool.or_eq_true,not_or,Bool.not_eq_true',Bool.not_eq_true,Bool.not_eq_false] at hh;rcases List.mem_cons.1 hf with rfl|hf
  ·refine⟨?_,?_⟩
   ·cases hr:fG f with
    |true=>rfl
    |false=>rw[hr] at hh;simp at hh
   cases hr:aK f.name with
   |true=>rfl
   |false=>rw[hr] at hh;simp at hh
  exact rightFuncs_all h f hf
theorem rightM_parts{m:Mdl}(h:gI m=true):m.vars.length<=8/\m.funcs.length<=30/\∀f∈m.funcs,f.params.length<=6/\aJ 12 f.body=true/\aK f.name=true:=by
 unfold gI at h;simp only[Bool.and_eq_true,decide_eq_true_eq] at h;obtain⟨⟨⟨⟨⟨⟨⟨⟨⟨⟨-,h2⟩,-⟩,-⟩,h5⟩,h6⟩,-⟩,-⟩,-⟩,-⟩,-⟩:=h;unfold bL at h6;simp only[Bool.and_eq_true,decide_eq_true_eq] at h6;refine⟨h6.2,h5,fun f hf=>?_⟩;obtain⟨h7,h8⟩:=rightFuncs_all h2 f hf;unfold fG bL at h7;simp only[Bool.and_eq_true,decide_eq_true_eq] at h7;exact⟨h7.1.1.1.2,h7.1.2,h8⟩
theorem compile_any(m:Mdl)(N:Nat->Prop)(vu vv vi vf vo vw vb:Value)(w:World)(hg:eJ w)(hM:encM N w m [.string m.name,vu,vv,vi,vf,.bool m.moves,vo,vw,vb]):
  Calls Tryz.prog 180 #[.agg #[.string m.name,vu,vv,vi,vf,.bool m.moves,vo,vw,vb]] w fun e w'=>∃v,e=.returned v/\aO 4 encCod (bQ w.heap.size) w' v (jG m)/\Below w.heap.size w w':=by
 obtain⟨x1,x2,x3,x4,x5,x6,x7,hMe,hn,hu,hv,hi,hf,ho,hw,hb⟩:=hM;cases hMe;have sT:=zh (aA w (.cells #[.string m.name,vu,vv,vi,vf,.bool m.moves,vo,vw,vb] 30));have J6:=zh (modRight_any m N vu vv vi vf vo vw vb _ (hg.later sT.out) (hu.moves aV (bU.later sT.out) YO) (hv.moves aZ (bU.later sT.out) YO) (hi.moves aI (bU.later sT.out) YO) (hf.moves bK (bU.later sT.out) YO) (ho.moves aZ (bU.later sT.out) YO) (hw.moves aI (bU.later sT.out) YO) (hb.moves aI (bU.later sT.out) YO) hn);have HVR:=zh hv;obtain⟨au,cu,rfl,-⟩:=hu.at;obtain⟨av,cv,rfl,lv1,lv2,-⟩:=hv.at;obtain⟨ai,ci,rfl,-⟩:=hi.at;obtain⟨af,cf,rfl,lf1,lf2,hcf⟩:=hf.at;obtain⟨ao,co,rfl,-⟩:=ho.at;obtain⟨aw,cw,rfl,-⟩:=hw.at;obtain⟨ab,cb0,rfl,-⟩:=hb.at;have HCF:=zh hcf;have HG:=zh (fun W(hb:Below w.heap.size w W)=>hg.later hb);have h11:=hg.big;generalize m.uses.length=nu at *;generalize m.init.length=ni at *;generalize m.old.length=no at *;generalize m.forward.length=nw at *;generalize m.back.length=nb at *;have NY:=zh (bY w (mQ m.name au nu cu av m.vars.length cv ai ni ci af m.funcs.length cf m.moves ao no co aw nw cw ab nb cb0));clear hu hi hf ho hw hb hcf hv hg
 cases SO:gI m with
 |false=>
  rw[SO] at J6;have HE:Hid (jG m=[]):=zh (by unfold jG;rw[SO];rfl);clear SO;go_enter Tryz.func180,Tryz.ntmps180;go_wp2_with(go_at_call 22;refine J6.out.mono ?_;rintro e w1 ⟨rfl,rR⟩);go_ret;exact⟨_,rfl,by rw[HE.out];exact aO.nil _ _ _ _,aC sT.out rR⟩
 |true=>
  rw[SO] at J6;have HE:Hid (jG m=m.funcs.map (compF (m.vars.map (·.1)))):=zh (by unfold jG;rw[SO];rfl);obtain⟨ND,JA,HPt⟩:=rightM_parts SO;have HP:=zh HPt;obtain⟨i0,xK,vA,tF,sY⟩:=info_parts codInfo;obtain⟨i1,I8,H5,H4,FD⟩:=info_parts strInfo;clear SO HPt;go_enter Tryz.func180,Tryz.ntmps180;go_wp2_with(go_at_call 22;refine J6.out.mono ?_;rintro e w1 ⟨rfl,rR⟩;obtain⟨⟨s0,s1,s2,s3,s4,s5,s6,s7,s8⟩,-⟩:=bx9 (aH rR NY.out);have HBa:=zh (aC sT.out rR);have HBx1:=zh (aH rR NY.out));clear s0 s1 s2 s3 s4 s5 s6 s7 s8;have QS:=HBa.out.size;go_loopw [3,16] (fun ov iv wr=>∃(q:Nat)(css:List (List Value)),q<=m.funcs.length/\iv=.int .i64 (q:Int)/\Hid (Gro 4 219 encCod w1.heap.size ((m.funcs.take q).map (compF (m.vars.map (·.1)))) css ov wr)/\Hid (Below w1.heap.size w1 wr)) (fun _ iv _=>m.funcs.length-(intOf iv).toNat)
  case atStart=>exact⟨0,[],Nat.zero_le _,rfl,zh (Gro.first_at _ _ _ (Nat.le_refl _)),zh (Below.refl _ _)⟩
  case round=>
   obtain⟨q,css,hq,rfl,NX,HB⟩:=hrel;(rename World=>wr);have CO:=zh (aC HBa.out HB.out);have hwr:=CO.out.size;obtain⟨⟨t0,t1,t2,t3,t4,t5,t6,t7,t8⟩,-⟩:=bx9 (aH HB.out HBx1.out);by_cases rU:q<m.funcs.length
   ·obtain⟨f,hx,tD⟩:=getElem?_of_lt rU;obtain⟨b,o,rfl,hNb,cs,LN,-,hj⟩:=HCF.out q f hx;obtain⟨vp,kd,vr,op,n,sx,mx,vn,va,rfl,hsz0,hp,ht,he⟩:=LN;obtain⟨hp6,RJ,uY⟩:=HP.out f tD;obtain⟨ap,cp,rfl,lp1,lp2,hcp⟩:=hp.at;have HCP:=zh hcp;have HEX:=zh he;obtain⟨ar,lr,cr,rfl⟩:=encT_slice ht;obtain⟨⟨an,ln,cn,rfl⟩,aa,la,ca,rfl⟩:=hZ he;have HBD:=zh RJ;have c0:wr.cell? ⟨b,o+q*12,none⟩=some (.string f.name):=aD CO.out (hj 0 _ rfl);have c1:=aD CO.out (hj 1 _ rfl);have c2:=aD CO.out (hj 2 _ rfl);have c3:=aD CO.out (hj 3 _ rfl);have c4:=aD CO.out (hj 4 _ rfl);have c5:=aD CO.out (hj 5 _ rfl);have c6:=aD CO.out (hj 6 _ rfl);have c7:=aD CO.out (hj 7 _ rfl);have c8:=aD CO.out (hj 8 _ rfl);have c9:=aD CO.out (hj 9 _ rfl);have BK:=aD CO.out (hj 10 _ rfl);have BJ:=aD CO.out (hj 11 _ rfl);have C2:b<w.heap.size:=dS (hj 0 _ rfl);have HFx:=zh (bY wr (jQ f.name f.pub ap f.params.length cp kd ar lr cr f.effects op n sx mx an ln cn aa la ca));have HCx:=zh (bY (wr.alloc (jQ f.name f.pub ap f.params.length cp kd ar lr cr f.effects op n sx mx an ln cn aa la ca)) (oBx18 av m.vars.length cv none 0 0 (f.params.length:Int)));have hw2:((wr.alloc (jQ f.name f.pub ap f.params.length cp kd ar lr cr f.effects op n sx mx an ln cn aa la ca)).alloc (oBx18 av m.vars.length cv none 0 0 (f.params.length:Int))).heap.size=wr.heap.size+2:=YR;have rZ:=zh (aC (aA wr (jQ f.name f.pub ap f.params.length cp kd ar lr cr f.effects op n sx mx an ln cn aa la ca)) (aA (wr.alloc (jQ f.name f.pub ap f.params.length cp kd ar lr cr f.effects op n sx mx an ln cn aa la ca)) (oBx18 av m.vars.length cv none 0 0 (f.params.length:Int))));have tC:=(iS (aH (aA (wr.alloc (jQ f.name f.pub ap f.params.length cp kd ar lr cr f.effects op n sx mx an ln cn aa la ca)) (oBx18 av m.vars.length cv none 0 0 (f.params.length:Int))) HFx.out)).1;obtain⟨⟨g0,g1,g2,g3,g4,g5,g6,g7,g8,g9,RU,g11⟩,-⟩:=iS HFx.out;obtain⟨⟨m0,m1,m2,m3,m4,m5,m6,m7,m8⟩,-⟩:=bx9 (aH (aA wr (jQ f.name f.pub ap f.params.length cp kd ar lr cr f.effects op n sx mx an ln cn aa la ca)) (aH HB.out HBx1.out));have wG:Hid ((m.funcs.take (q+1)).map (compF (m.vars.map (·.1)))=(m.funcs.take q).map (compF (m.vars.map (·.1)))++[compF (m.vars.map (·.1)) f]):=zh (by rw[List.take_add_one,hx];simp);clear hj hx hp ht he hcp tD RJ;go_wp2_with fail;clear c0 c1 c2 c3 c4 c5 c6 c7 c8 c9 BK BJ t0 t1 t2 t3 t4 t5 t6 t7 t8 g0 g1 g2 g3 g4 g5 g6 g7 g8 g9 RU g11 m0 m1 m2 m3 m4 m5 m6 m7 m8;(go_loopw [7,30] (fun nv iv wz=>∃(z:Nat)(css7:List (List Value)),z<=f.params.length/\iv=.int .i64 (z:Int)/\Hid (Gro 1 9 dD (wr.heap.size+2) ((f.params.take z).map (·.1)) css7 nv wz)/\Hid (Below ((wr.alloc (jQ f.name f.pub ap f.params.length cp kd ar lr cr f.effects op n sx mx an ln cn aa la ca)).alloc (oBx18 av m.vars.length cv none 0 0 (f.params.length:Int))).heap.size ((wr.alloc (jQ f.name f.pub ap f.params.length cp kd ar lr cr f.effects op n sx mx an ln cn aa la ca)).alloc (oBx18 av m.vars.length cv none 0 0 (f.params.length:Int))) wz)) (fun _ iv _=>f.params.length-(intOf iv).toNat));case atStart=>exact⟨0,[],Nat.zero_le _,rfl,zh (Gro.first_at _ _ _ (by rw[hw2];exact Nat.le_refl _)),zh (Below.refl _ _)⟩
    case round=>
     obtain⟨z,css7,hz,rfl,MY,vQ⟩:=hrel;(rename World=>wz);have HBz2:=zh (aC rZ.out vQ.out);have JU:=zh (aC CO.out HBz2.out);have SJ:=vQ.out.size;rw[hw2] at SJ;obtain⟨⟨e0,e1,e2,e3,e4,e5,e6,e7,e8,e9,e10,e11⟩,-⟩:=iS (aH (aC (aA (wr.alloc (jQ f.name f.pub ap f.params.length cp kd ar lr cr f.effects op n sx mx an ln cn aa la ca)) (oBx18 av m.vars.length cv none 0 0 (f.params.length:Int))) vQ.out) HFx.out);by_cases hlz:z<f.params.length
     ·obtain⟨x,hx,-⟩:=getElem?_of_lt hlz;obtain⟨b9,o9,rfl,-,cs9,hen9,-,hj9⟩:=HCP.out z x hx;obtain⟨nm,ty⟩:=x;obtain⟨ct,rfl,tK,IT⟩:=hen9
      cases ty with
      |mk kd9 fs9=>
       rw[gV] at IT;obtain⟨vf9,rfl,hr9⟩:=IT;obtain⟨a9,c9,rfl,-⟩:=hr9.at;have d0:wz.cell? ⟨b9,o9+z*3,none⟩=some (.string nm):=aD JU.out (hj9 0 _ rfl);have d1:=aD JU.out (hj9 1 _ rfl);have d2:=aD JU.out (hj9 2 _ rfl);have PN:Hid ((f.params.take (z+1)).map (·.1)=(f.params.take z).map (·.1)++[nm]):=zh (by rw[List.take_add_one,hx];simp);have NI:((f.params.take z).map (·.1)).length=z:=by rw[List.length_map,List.length_take];omega
       have hfo:∃q8 q9,u7=.slice q8 z q9:=by
        rcases MY.out.val with⟨h1,h2⟩|⟨g,cap,h1,-⟩
        ·exact⟨none,0,by rw[h1];rw[h2] at NI;simp at NI;rw[<-NI]⟩
        exact⟨_,_,by rw[h1,NI]⟩
       obtain⟨q8,q9,rfl⟩:=hfo;clear hj9 hx hr9;generalize fs9.length=k9 at *;have vG:=aC (aA wz (dB nm kd9 a9 k9 c9)) (aA _ (iH nm));have U7:=zh (MY.out.later aV vG);have sW:=U7.out.own;rw[NI] at sW;have tV:=U7.out.big;have IP:=zh vG;clear vG;go_wp2_with(at_builtin;refine wpList_append_lies _ rfl _ _ 23 rfl (wr.heap.size+2) 9 i1 (.string ByteArray.empty) 1 16 Tryz.underlying23 I8 H5 H4 FD rfl YM (.slice q8 z q9) z css7.flatten ZV sW ⟨wz.heap.size+1,0,none⟩ 1 1 [.string nm] ZV rfl (World.news_of_block (cs:=#[.string nm]) (t:=9) (fr:=(0,0)) (by simpa using bY (wz.alloc (dB nm kd9 a9 k9 c9)) (iH nm))) Y3 YM Y7 YM tV (wz.heap.size+2) YR ?_);intro g7 cap7 w9 rP rN sD _;have JG:=U7.out.added aV (x:=nm) ⟨rfl,YM⟩ rfl (by rw[NI];exact rP) rN aAm;rw[NI,<-PN.out] at JG;have E7:=zh ((aC vQ.out IP.out).grown rN (by have:=(aC vQ.out IP.out).size;exact this) (fun k hk=>by have h:=(U7.out.lt k hk).1;rw[hw2];exact h));clear rP rN sD sW;go_wp2_with fail;go_roundw;(case rel=>exact⟨z+1,_,YM,YZ,zh JG,E7⟩);case measure=>simp[intOf];omega
     have hz':f.params.take z=f.params:=List.take_of_length_le YM;rw[hz'] at MY;(have NI:(f.params.map (·.1)).length=f.params.length:=by rw[List.length_map]);have hcb:∀b,b<w.heap.size->cE (wr.heap.size+1) (.slice none 0 0) b:=fun b hb=>⟨YM,by intro e;cases e⟩;have HROW:Hid (aO 1 dD (cE (wr.heap.size+1) (.slice none 0 0)) wz u7 (f.params.map (·.1))):=zh ((MY.out.row aV).moves aV (fun b hb rU=>⟨⟨by have:wr.heap.size+2<=b:=hb;omega,by intro e;cases e⟩,fun _ _ h=>h⟩) YO);have HXE:=zh (aI _ _ (cE (wr.heap.size+1) (.slice none 0 0)) wz _ _ (fun b hb rU=>⟨hcb b rU,fun _ _ h=>aD JU.out h⟩) HEX.out);(have hbx0:wz.heap[wr.heap.size+1]? =some (oBx18 av m.vars.length cv none 0 0 (f.params.length:Int)):=by have h:=aH vQ.out HCx.out;simpa using h);have HCP0:Hid (Cp (wr.heap.size+2) (wr.heap.size+1) m.vars (.slice av m.vars.length cv) ⟨[],f.params.length⟩ [] (.slice none 0 0) wz):=zh ⟨hbx0,Gro.first_at _ _ _ SJ,HVR.out.moves aZ (fun b hb rU=>⟨hcb b rU,fun _ _ h=>aD JU.out h⟩) YO,YM,YM,YM,HG.out _ JU.out⟩;have HFz:Hid (wz.heap[wr.heap.size]? =some (jQ f.name f.pub ap f.params.length cp kd ar lr cr f.effects op n sx mx an ln cn aa la ca)/\cE (wr.heap.size+1) (.slice none 0 0) wr.heap.size):=zh ⟨aH (aC (aA (wr.alloc (jQ f.name f.pub ap f.params.length cp kd ar lr cr f.effects op n sx mx an ln cn aa la ca)) (oBx18 av m.vars.length cv none 0 0 (f.params.length:Int))) vQ.out) HFx.out,YM,by intro e;cases e⟩;have HQ:=zh (cexp_all 12 f.body _ _ m.vars _ _ ⟨[],f.params.length⟩ [] (f.params.map (·.1)) u7 op n sx mx _ _ wz HBD.out HCP0.out (by rw[lenB_12];show 0+9817068105<=_;omega) YM HROW.out HXE.out)
     have Q5:(bJ (m.vars.map (·.1)) 12 (f.params.map (·.1)) f.body ⟨[],f.params.length⟩).code.length<=100000000000:=by
      have h:=jH (m.vars.map (·.1)) 12 (f.params.map (·.1)) f.body ⟨[],f.params.length⟩ HBD.out;rw[lenB_12] at h;have h0:(⟨[],f.params.length⟩:Cmp).code.length=0:=rfl;omega
     have HCE:Hid (compF (m.vars.map (·.1)) f=⟨f.name,f.params.length,((bJ (m.vars.map (·.1)) 12 (f.params.map (·.1)) f.body ⟨[],f.params.length⟩).put (ins 18 0)).locals,((bJ (m.vars.map (·.1)) 12 (f.params.map (·.1)) f.body ⟨[],f.params.length⟩).put (ins 18 0)).code⟩):=zh rfl;generalize bJ (m.vars.map (·.1)) 12 (f.params.map (·.1)) f.body ⟨[],f.params.length⟩=c8 at HQ HCE Q5;clear hbx0;go_wp2_with(go_at_call 214;refine HQ.out.mono ?_;rintro e w8 ⟨css8,v8,rfl,JD,uD⟩);have R4:=zh (nZ (ins 18 0) (.slice none 0 0) JD Q5 (kS _ _ 18 0 YO YO));have FG:=zh uD;clear JD uD HQ e0 e1 e2 e3 e4 e5 e6 e7 e8 e9 e10 e11;go_wp2_with(go_at_call 215;refine R4.out.mono ?_;rintro e w9 ⟨css9,v9,rfl,hc9,CU⟩);have HX9:=zh (FG.out.trans CU)
     have hbelow:Below wr.heap.size wr w9:=Off.below (B:=wr.heap.size) (aC rZ.out vQ.out) HX9.out.off (fun k hk=>by
      rcases hk with h|h
      ·omega
      simp[Value.ownBlock] at h) YM
     have HF9:Hid (w9.heap[wr.heap.size]? =some (jQ f.name f.pub ap f.params.length cp kd ar lr cr f.effects op n sx mx an ln cn aa la ca)):=zh (HX9.out.off.heap (fun hk=>by
      rcases hk with h|h
      ·omega
      simp[Value.ownBlock] at h) HFz.out.1)
     generalize c8.put (ins 18 0)=c9 at hc9 HCE;have KS:=hc9.gro.row iM;obtain⟨a9,k9,rfl,-⟩:=KS.at;have HRow9:=zh KS;have HC9:=zh hc9.box;have U6:=zh (NX.out.later oQ hbelow);have HB9x:=zh (aC HB.out hbelow);have hs9:=hbelow.size;have hlt9:wr.heap.size+1<w9.heap.size:=(Array.getElem?_eq_some_iff.1 hc9.box).1;clear hbelow hc9 CU KS;have I6:((m.funcs.take q).map (compF (m.vars.map (·.1)))).length=q:=by rw[List.length_map,List.length_take];omega
     have hfo3:∃q3 q4,u3=.slice q3 q q4:=by
      rcases U6.out.val with⟨h1,h2⟩|⟨g,cap,h1,-⟩
      ·exact⟨none,0,by rw[h1];rw[h2] at I6;simp at I6;rw[<-I6]⟩
      exact⟨_,_,by rw[h1,I6]⟩
     obtain⟨q3,q4,rfl⟩:=hfo3;have HH:=zh (U6.out.later oQ (aE (w9)));have EI:Below w9.heap.size w9 (w9.drew.alloc (iK f.name (f.params.length:Int) (c9.locals:Int) a9 c9.code.length k9)):=aC (aE w9) (aA w9.drew (iK f.name (f.params.length:Int) (c9.locals:Int) a9 c9.code.length k9));have QA:=zh (U6.out.later oQ EI);have HB16:=zh (aC HB9x.out EI);have FU:=QA.out.own;rw[I6] at FU;have TM:=QA.out.big
     have SB:Hid (encCod (mO w1.heap.size (.slice q3 q q4)) (w9.drew.alloc (iK f.name (f.params.length:Int) (c9.locals:Int) a9 c9.code.length k9)) (compF (m.vars.map (·.1)) f) [.string f.name,.int .i64 (f.params.length:Int),.int .i64 (c9.locals:Int),.slice a9 c9.code.length k9]):=zh (by
      rw[HCE.out]
      refine⟨_,rfl,hsz0,HRow9.out.moves iM (fun b hb rU=>⟨⟨by have:wr.heap.size+2<=b:=hb;have:=NX.out.big;omega,fun e=>by
       have:wr.heap.size+2<=b:=hb;have:=(NX.out.lt b e).2
       omega⟩,fun _ _ h=>aD EI h⟩) YO⟩)
     have HSa:Hid ((w9.drew.alloc (iK f.name (f.params.length:Int) (c9.locals:Int) a9 c9.code.length k9)).heap[wr.heap.size]? =some (jQ f.name f.pub ap f.params.length cp kd ar lr cr f.effects op n sx mx an ln cn aa la ca)/\(w9.drew.alloc (iK f.name (f.params.length:Int) (c9.locals:Int) a9 c9.code.length k9)).heap[wr.heap.size+1]? =some (oBx18 av m.vars.length cv a9 c9.code.length k9 (c9.locals:Int))):=zh ⟨aH EI HF9.out,aH EI HC9.out⟩;clear EI;have HT16:Hid ((m.funcs.take (q+1)).map (compF (m.vars.map (·.1)))=(m.funcs.take q).map (compF (m.vars.map (·.1)))++[compF (m.vars.map (·.1)) f]):=wG;refine wp_region_held_drew (S:=fun W=>W.heap[wr.heap.size]? =some (jQ f.name f.pub ap f.params.length cp kd ar lr cr f.effects op n sx mx an ln cn aa la ca)/\W.heap[wr.heap.size+1]? =some (oBx18 av m.vars.length cv a9 c9.code.length k9 (c9.locals:Int))) YN ⟨HF9.out,HC9.out⟩ fun hS=>?_;refine zq 0 (.slice q3 q q4) rfl ?_;refine zq 1 (.pointer (some ⟨wr.heap.size,0,none⟩)) rfl ?_;refine zt 2 (.string f.name) rfl (fun W hW=>aA4) ?_;refine zq 3 (.pointer (some ⟨wr.heap.size,2,none⟩)) rfl ?_;refine zt 4 (.slice ap f.params.length cp) rfl (fun W hW=>aA4) ?_;refine zq 5 (.int .i64 (f.params.length:Int)) rfl ?_;refine zq 6 (.pointer (some ⟨wr.heap.size+1,0,none⟩)) rfl ?_;refine zq 7 (.pointer (some ⟨wr.heap.size+1,0,none⟩)) rfl ?_;refine zq 8 (.pointer (some ⟨wr.heap.size+1,2,none⟩)) rfl ?_;refine zt 9 (.int .i64 (c9.locals:Int)) rfl (fun W hW=>by obtain⟨⟨z0,z1,z2⟩,-⟩:=bx3 hW.2;go_simp) ?_;refine zq 10 (.pointer (some ⟨wr.heap.size+1,0,none⟩)) rfl ?_;refine zq 11 (.pointer (some ⟨wr.heap.size+1,0,none⟩)) rfl ?_;refine zq 12 (.pointer (some ⟨wr.heap.size+1,1,none⟩)) rfl ?_;refine zt 13 (.slice a9 c9.code.length k9) rfl (fun W hW=>by obtain⟨⟨z0,z1,z2⟩,-⟩:=bx3 hW.2;go_simp) ?_;refine zq 14 (oBx22 f.name (f.params.length:Int) (c9.locals:Int) a9 c9.code.length k9) rfl ?_;(try simp only[zn]);refine zr 15 rfl (fun K hK=>?_);(try simp only[z1,z2,z3]);go_simp;refine hK.out _ _ HSa.out (fun hS=>?_);clear hK K;(try simp only[zn]);refine wpAnyH_ready (rs:=[16]) YN YR ?_;refine AllReadyH.cons rfl (fun K hK=>?_) AllReadyH.nil;refine step_append_lies (w9.drew.alloc (iK f.name (f.params.length:Int) (c9.locals:Int) a9 c9.code.length k9)) rfl _ _ 197 rfl w1.heap.size 219 i0 (oBx22 ByteArray.empty 0 0 none 0 0) 4 56 Tryz.underlying197 xK vA tF sY rfl YM (.slice q3 q q4) q css.flatten ZV FU ⟨w9.heap.size,0,none⟩ 1 1 [.string f.name,.int .i64 (f.params.length:Int),.int .i64 (c9.locals:Int),.slice a9 c9.code.length k9] ZV rfl (World.news_of_block (cs:=#[.string f.name,.int .i64 (f.params.length:Int),.int .i64 (c9.locals:Int),.slice a9 c9.code.length k9]) (t:=219) (fr:=(0,0)) (by simpa using bY w9.drew (iK f.name (f.params.length:Int) (c9.locals:Int) a9 c9.code.length k9))) Y3 YM Y7 YM TM (w9.heap.size+1) YR ?_;intro g3 cap3 w17 rP rN sD hg17;have JG:=QA.out.added oQ SB.out rfl (by rw[I6];exact rP) rN aAm;rw[I6,<-HT16.out] at JG;have HG17:=zh JG;have HB17:=zh (HB16.out.grown rN (by have:=HB16.out.size;exact this) (fun k hk=>(QA.out.lt k hk).1));have HS17:Hid (w17.heap[wr.heap.size]? =some (jQ f.name f.pub ap f.params.length cp kd ar lr cr f.effects op n sx mx an ln cn aa la ca)/\w17.heap[wr.heap.size+1]? =some (oBx18 av m.vars.length cv a9 c9.code.length k9 (c9.locals:Int))):=zh ⟨by rw[rN.block _ (Array.getElem?_eq_some_iff.1 HSa.out.1).1 (fun e=>by have:=(NX.out.lt _ e.symm).2;omega)];exact HSa.out.1,by rw[rN.block _ (Array.getElem?_eq_some_iff.1 HSa.out.2).1 (fun e=>by have:=(NX.out.lt _ e.symm).2;omega)];exact HSa.out.2⟩;clear rP rN sD hg17 JG FU;refine hK.out _ _ HS17.out (fun hS=>?_);clear hK K;refine zq 17 (.slice (some ⟨g3,0,none⟩) (q+1) cap3) rfl ?_;(try simp only[zn]);refine wpAnyH_done YN ?_ _;clear hS;go_wp2_with fail;go_roundw;(case rel=>exact⟨q+1,_,YM,YZ,HG17,HB17⟩);case measure=>simp[intOf];omega
   have wK:m.funcs.take q=m.funcs:=List.take_of_length_le YM;rw[wK] at NX;have hval:=NX.out.val;go_wp2_with fail;go_ret;exact⟨_,rfl,by rw[HE.out];exact(NX.out.row oQ).moves oQ (fun b hb rU=>⟨Nat.le_trans QS hb,fun _ _ h=>h⟩) YO,CO.out⟩
end Go.Proofs.YtiionicikdnnpaaGreatDoor
namespace Go.Proofs.YtiionicikdnnpaaGreatDoor
theorem choice_loc{yes no:Cmp->Cmp}{M:Nat}(hy:∀c,c.locals<=M->(yes c).locals<=M)(hn:∀c,c.locals<=M->(no c).locals<=M)(c:Cmp)(h:c.locals<=M):(iR yes no c).locals<=M:=hn _ (hy _ h)
theorem fold_loc{f:Cmp->Xp->Cmp}{M:Nat}(hf:∀c x,c.locals<=M->(f c x).locals<=M):∀(args:List Xp)(c:Cmp),c.locals<=M->(args.foldl f c).locals<=M
 |[],_,h=>h
 |x::args,c,h=>fold_loc hf args (f c x) (hf c x h)
theorem compX_loc(vars:List bA):∀(d:Nat)(names:List bA)(x:Xp)(c:Cmp)(M:Nat),c.locals<=M->names.length+d<=M->(bJ vars d names x c).locals<=M
 |0,_,_,c,M,h,_=>by simpa[bJ] using h
 |d+1,names,.mk op n s m ns args,c,M,h,hM=>by
  have ih:∀(names:List bA)(x:Xp)(c:Cmp),names.length+d<=M->c.locals<=M->(bJ vars d names x c).locals<=M:=fun names x c hn h=>compX_loc vars d names x c M h hn;have ihn:∀(x:Xp)(c:Cmp),c.locals<=M->(bJ vars d names x c).locals<=M:=fun x c=>ih names x c YM;rw[gT];generalize bJ vars d=F at ih ihn ⊢;split
  ·exact h
  split
  ·exact h
  split
  ·exact h
  split
  ·exact h
  split
  ·split
   ·rename_i x y;exact choice_loc (yes:=F names y) (no:=fun c=>c.put (ins 1 0)) (fun c h=>ihn y c h) (fun c h=>h) _ (ihn x c h)
   exact h
  split
  ·split
   ·rename_i x y;exact choice_loc (yes:=fun c=>c.put (ins 1 1)) (no:=F names y) (fun c h=>h) (fun c h=>ihn y c h) _ (ihn x c h)
   exact h
  split
  ·split
   ·rename_i x y z;exact choice_loc (yes:=F names y) (no:=F names z) (fun c h=>ihn y c h) (fun c h=>ihn z c h) _ (ihn x c h)
   exact h
  split
  ·split
   ·rename_i x y;exact ih (names++[s]) y _ (by rw[List.length_append,List.length_singleton];omega) (Nat.max_le.2 ⟨ihn x c h,YM⟩)
   exact h
  exact fold_loc (f:=fun c x=>F names x c) (fun c x h=>ihn x c h) args c h
theorem mL(m:Mdl):(jG m).length<=30/\∀c∈jG m,CodSmall c:=by
 unfold jG
 cases hr:gI m with
 |false=>exact⟨YR,fun c hc=>by simp at hc⟩
 |true=>
  rw[if_pos rfl];obtain⟨h8,J5,hp⟩:=rightM_parts hr;refine⟨by rw[List.length_map];exact J5,fun c hc=>?_⟩;obtain⟨f,hf,rfl⟩:=List.mem_map.1 hc;obtain⟨h6,hb,-⟩:=hp f hf;have h1:=jH (m.vars.map (·.1)) 12 (f.params.map (·.1)) f.body ⟨[],f.params.length⟩ hb;rw[lenB_12] at h1;have h2:=compX_loc (m.vars.map (·.1)) 12 (f.params.map (·.1)) f.body ⟨[],f.params.length⟩ 1000 (by show f.params.length<=1000;omega) (by rw[List.length_map];omega);refine⟨?_,by show f.params.length<=_;omega,?_⟩
  ·show((bJ (m.vars.map (·.1)) 12 (f.params.map (·.1)) f.body ⟨[],f.params.length⟩).put (ins 18 0)).code.length<=_;rw[Cmp.put_len];have h0:(⟨[],f.params.length⟩:Cmp).code.length=0:=rfl;omega
  show(bJ (m.vars.map (·.1)) 12 (f.params.map (·.1)) f.body ⟨[],f.params.length⟩).locals<=_;omega
end Go.Proofs.YtiionicikdnnpaaGreatDoor
namespace Go.Proofs.YtiionicikdnnpaaGreatDoor
open Go.RowKit
theorem listC_size{l:List Cod}{N:Nat->Prop}{v:Value}{w:World}(hr:aO 4 encCod N w v l)(hsm:∀c∈l,CodSmall c)(hl:l.length<=30):(listC l).size<=140737488355328:=by
 have hf:=row_fit hr hsm;unfold listC;split
 ·rename_i h;have h1:=cods_len l (fun c hc=>⟨hf c hc,List.all_eq_true.1 h c hc⟩);have h2:l.length*1750000000100<=30*1750000000100:=Nat.mul_le_mul_right _ hl;rw[size_toArray];omega
 decide
theorem parseL_nz{s:bA}{x:Int×Int}(h:iG s=.error x):x.2≠0:=by
 unfold iG at h;split at h
 ·rename_i y hy;cases h;exact lexL_nz hy
 rename_i l hl;split at h
 ·rename_i y hy;cases h;exact module_nz _ hy
 cases h
theorem write_compile(b:Nat)(text:bA)(vs clk ord nxt:Value)(u0 u1:Int)(vf:Value)(tn:bA)(sorted:Bool)(w:World)(hG:eJ w)(hs:Sbx w b vs clk ord nxt u0 u1)(hsaw:Strs w vs [text])
  (hf:∃a n c,vf=.slice a n c) (ht:text.size<=1000000):
  Calls Tryz.prog 107 #[.pointer (some ⟨b,0,none⟩),pA 5 vf tn sorted] w fun e w'=>
   e=.returned (.tuple #[.string (bP text).2,.int .i64 (bP text).1])/\Sbx w' b vs clk ord nxt u0 u1/\dU b w w'/\(bP text).2.size<=140737488355328:=by
 obtain⟨a,n,c,rfl⟩:=hf;have c0:=hs.cell 0;have vK:=hs.lt;simp only[List.getElem?_toArray,List.getElem?_cons_zero] at c0;have HS:=zh hs;clear hs;rcases hsaw.cases with⟨h,-⟩|⟨bl,o,c1,rfl,h0,h1,h2,hb,hc⟩
 ·cases h
 have c2:=(hc 0 text rfl).1;simp only[Nat.add_zero,List.length_cons,List.length_nil,Nat.zero_add] at c2 c0 h1 ⊢;have rQ:bl<w.heap.size:=hb;have HP:=zh (fun W(hb:Below w.heap.size w W)=>parse_any text W YM (hG.later hb) (hG.later hb).signs (hG.later hb).spc);have HG:=zh (fun W(hb:Below w.heap.size w W)=>hG.later hb);clear hsaw hc hG hb;go_enter Tryz.func107,Tryz.ntmps107;go_wp2_with fail;refine(HP.out _ (aA _ _)).mono ?_;rintro e w1 ⟨hpv,rR⟩;have sT:=zh (aC (aA _ _) rR);clear rR
 cases hp:iG text with
 |error x=>
  rw[hp] at hpv;have e1:e=.returned (.tuple #[.agg eT,.int .i64 x.1,.int .i64 x.2]):=hpv;subst e1;have HF:Hid (bP text=(x.2,noB)):=zh (by unfold bP;rw[hp]);have e0:(x.2==0)=false:=by rw[beq_eq_false_iff_ne];exact parseL_nz hp
  clear hp hpv;dsimp only[eT];go_wp2_with fail;go_ret2;rw[HF.out];exact⟨rfl,HS.out.later (aC sT.out (aA _ _)),dU.of_below (aC sT.out (aA _ _)),(show noB.size<=140737488355328 from YO)⟩
 |ok m=>
  rw[hp] at hpv;obtain⟨au,nu,du,av,nv,dv,ai,ni,di,af,nf,df,ao,no,do_,aw,nw,dw,ab,nb,db,rfl,hM⟩:=hpv;have HF:Hid (bP text=(0,listC (jG m))):=zh (by unfold bP;rw[hp]);clear hp;have rZ:=zh (aC sT.out (aA w1 (mQ m.name au nu du av nv dv ai ni di af nf df m.moves ao no do_ aw nw dw ab nb db)));have HC:=zh (compile_any m _ _ _ _ _ _ _ _ _ (HG.out _ rZ.out) (mJ _ _ _ _ _ _ (bU.later (aA w1 (mQ m.name au nu du av nv dv ai ni di af nf df m.moves ao no do_ aw nw dw ab nb db))) hM));have HX:=zh (bY w1 (mQ m.name au nu du av nv dv ai ni di af nf df m.moves ao no do_ aw nw dw ab nb db));obtain⟨⟨x0,x1,x2,x3,x4,x5,x6,x7,x8⟩,-⟩:=bx9 HX.out;clear hM;go_wp2_with(go_at_call 180;refine HC.out.mono ?_;rintro e w2 ⟨v,rfl,sJ,rQ⟩);have tX:=zh (aC rZ.out rQ);have HL:=zh (list_any (jG m) _ v w2 (HG.out _ tX.out) sJ (mL m).1 (mL m).2);have HSz:=zh (listC_size sJ (mL m).2 (mL m).1);obtain⟨a9,c9,rfl,-⟩:=sJ.at;clear sJ rQ;go_wp2_with(go_at_call 179;refine HL.out.mono ?_;rintro e w3 ⟨rfl,tI⟩);go_ret2;rw[HF.out];exact⟨rfl,HS.out.later (aC tX.out tI),dU.of_below (aC tX.out tI),HSz.out⟩
theorem do_far5(s:Stp)(files:List Fil)(clock order:List Int)(vf vl vc vo vn:Value)(u0 u1:Int)(w:World)(h:DoIn s files clock order vf vl vc vo vn u0 u1 w)(h5:s.kind=5):
  Calls Tryz.prog 40 (mW s vf vl vc vo vn u0 u1) w (DoFar w s files u0 u1 (fT bP s files clock order u0 u1)):=by
 by_cases uZ:cW s=false\/cX files=false\/min u0 u1<0
 ·have e:fT bP s files clock order u0 u1=.error 1:=by
   unfold fT;rw[if_pos];rcases uZ with h|h|h<;>simp[h]
  rw[e];refine(do_arg s files clock order vf vl vc vo vn u0 u1 w h uZ).mono ?_;exact XG
 have xQ:cW s=true:=aBs;have wB:cX files=true:=aAT;have zB:¬min u0 u1<0:=fun hh=>uZ (.inr (.inr hh))
 have e0:fT bP s files clock order u0 u1=if(dK files s.out).isSome then .error 5 else if 60<=files.length then .error 6
   else match nF files s.src with|none=>.error 4|some saw=>if(bP (saw.headD ByteArray.empty)).1≠0 then .error (bP (saw.headD ByteArray.empty)).1
    else if 65536<(bP (saw.headD ByteArray.empty)).2.size then .error 6 else .ok ((bP (saw.headD ByteArray.empty)).2,saw,u0,u1):=by
  unfold fT;rw[if_neg (by simp[xQ,wB,decide_eq_false zB])];split
  ·rfl
  split
  ·rfl
  cases nF files s.src with
  |none=>rfl
  |some saw=>simp only[h5,if_true]
 rw[e0]
 cases hf:dK files s.out with
 |some t=>
  simp only[Option.isSome_some,if_true];refine(do_twice s files clock order vf vl vc vo vn u0 u1 w h xQ wB zB t hf).mono ?_;exact XG
 |none=>
  simp only[Option.isSome_none,Bool.false_eq_true,if_false];by_cases xS:60<=files.length
  ·rw[if_pos xS];refine(do_full s files clock order vf vl vc vo vn u0 u1 w h xQ wB zB hf xS).mono ?_;exact XG
  rw[if_neg xS]
  refine do_main s files clock order vf vl vc vo vn u0 u1 w h xQ wB zB hf xS _ (fun hs W' hW=>?_)
   (fun saw text err saw' a b=>err=(bP (saw.headD ByteArray.empty)).1/\text=(bP (saw.headD ByteArray.empty)).2/\saw'=saw/\a=u0/\b=u1/\text.size<=140737488355328) (fun saw hs bx vs W JH=>?_) (fun saw hs text err saw' a b hP=>?_)
  ·rw[hs];exact⟨hW,rfl⟩
  ·have hone:∃t,saw=[t]:=by
    obtain⟨hn,hout,hl,hk⟩:=lK JH.hright;have h1:=JH.hlen;have h2:saw.length=1:=YM;exact List.length_eq_one_iff.1 h2
   obtain⟨t,rfl⟩:=hone;have ht:=JH.htexts t YR;(have hvf:∃a n c,vf=.slice a n c:=by obtain⟨a,c,hv,-⟩:=JH.hsrc;exact⟨a,_,c,hv⟩);rw[h5];refine(write_compile bx t vs vc vo vn u0 u1 vf s.out s.sorted W JH.hglob JH.hsbx JH.hsaw.1 hvf YM).mono ?_;rintro e w' ⟨rfl,h1,h2,h3⟩;exact⟨vs,_,_,[t],_,_,rfl,h1,JH.hsaw.only h2,h2,rfl,rfl,rfl,rfl,rfl,h3⟩
  obtain⟨rfl,rfl,rfl,rfl,rfl,tK⟩:=hP;rw[hs];simp only;refine⟨tK,fun rO W' hW=>?_,fun he tQ W' hW=>?_,fun he tQ W' vfl vsaw hW h1 h2 h3 h4=>?_⟩
  ·rw[if_pos rO];exact⟨hW,rfl⟩
  ·rw[if_neg (fun hn=>hn he),if_pos tQ];exact⟨hW,rfl⟩
  rw[if_neg (fun hn=>hn he),if_neg tQ];exact⟨hW,vfl,vsaw,rfl,h1,h2,h3,h4⟩
theorem doAll_any(s:Stp):DoAll bP s:=by
 by_cases h5:s.kind=5
 ·exact fun files clock order vf vl vc vo vn u0 u1 w h=>do_far5 s files clock order vf vl vc vo vn u0 u1 w h h5
 exact doAll_plain h5
end Go.Proofs.YtiionicikdnnpaaGreatDoor
