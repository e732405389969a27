/- -/
import Derived.Test.YtacgopankhpnbaaGreatDoorTQAG
set_option maxHeartbeats 16000000
set_option maxRecDepth 100000
set_option linter.unusedVariables false
set_option linter.unusedSimpArgs false
namespace Go.Proofs.YtacgopankhpnbaaGreatDoor
open Go.RowKit
theorem YC{p:Prop}(h:p:=by
 go_wp2_with(go_at_call 151;refine(FW.out _ GX.out).mono ?_;rintro e v2 ⟨rfl,sD⟩;have BK:=zh (aB GX.out sD);have uM:=zh (aD sD RU.out);obtain⟨⟨q20,q21,SO,q23,q24,q25,q26,q27,q28⟩,-⟩:=bx9 uM.out);go_quiet(fail)
 go_wp2_with(go_at_call 148;refine(HFO.out _ (aN BK.out _)).mono ?_;rintro e v3 ⟨rfl,uA⟩;have GH:=zh (aB (aN BK.out _) uA);have FX:=zh (aD uA uM.out);obtain⟨⟨q30,q31,q32,q33,q34,q35,q36,q37,q38⟩,-⟩:=bx9 FX.out)
 cases rw with
 |false=>
  go_at_call 151;refine(II.out _ GH.out).mono ?_;rintro e v4 ⟨rfl,yM⟩;have SJ:=zh (aB GH.out yM);have xE:=zh (aD yM FX.out);obtain⟨⟨q40,q41,q42,q43,q44,q45,q46,q47,q48⟩,-⟩:=bx9 xE.out;go_wp2_with fail;go_ret;exact⟨aF aBd,SJ.out⟩
 |true=>
  go_at_call 151;refine(II.out _ GH.out).mono ?_;rintro e v4 ⟨rfl,yM⟩;have SJ:=zh (aB GH.out yM);have xE:=zh (aD yM FX.out);obtain⟨⟨q40,q41,q42,q43,q44,q45,q46,q47,q48⟩,-⟩:=bx9 xE.out;go_wp2_with fail;go_wp2_with(go_at_call 151;refine(RV.out _ SJ.out).mono ?_;rintro e v5 ⟨rfl,hb5⟩;have XQ:=zh (aB SJ.out hb5);have UA:=zh (aD hb5 xE.out);obtain⟨⟨q50,q51,q52,q53,q54,q55,q56,q57,q58⟩,-⟩:=bx9 UA.out);go_ret
  exact⟨aF aBd,XQ.out⟩):p:=h
theorem YI{p:Prop}(h:p:=by
 go_wp2_with(first|(at_lookup;refine bR (OK.out.alloc _) s2 HK.out rfl rfl rfl rfl ?_)|(go_at_call 147;refine HS.out.mono ?_;rintro e w5 ⟨rfl,rfl⟩)|(go_at_call 148;refine(HFP.out _ uS.out).mono ?_;rintro e w6 ⟨rfl,vI⟩;have GK:=zh (aB uS.out vI);obtain⟨⟨x0,x1,x2,x3,x4,x5,x6,x7,x8,x9,x10,x11⟩,-⟩:=mJ (aD vI sH.out))|(go_at_call 149;refine(HT.out _ GK.out).mono ?_;rintro e w7 ⟨rfl,yL⟩;have AC:=zh (aB GK.out yL);obtain⟨⟨y0,y1,y2,y3,y4,y5,y6,y7,y8,y9,y10,y11⟩,-⟩:=mJ (aD (aB vI yL) sH.out))|(go_at_call 150;refine(HE.out _ AC.out).mono ?_;rintro e w8 ⟨rfl,vD⟩;have AO:=zh (aB AC.out vD);obtain⟨⟨z0,z1,z2,z3,z4,z5,z6,z7,z8,z9,z10,z11⟩,-⟩:=mJ (aD (aB (aB vI yL) vD) sH.out);have HM8:=zh ((OK.out.alloc (lG f.name f.pub ap f.params.length cp kd ar lr cr f.effects op n sx mx an ln cn aa la ca)).later (aB (aB vI yL) vD))));go_ret
 exact⟨aF aBk,AO.out⟩):p:=h
theorem YS{p:Prop}(h:p:=by
 go_wp2_with(go_at_call 151;refine(FW.out _ GX.out).mono ?_;rintro e v2 ⟨rfl,sD⟩;have BK:=zh (aB GX.out sD);have uM:=zh (aD sD RU.out);obtain⟨⟨q20,q21,SO,q23,q24,q25,q26,q27,q28⟩,-⟩:=bx9 uM.out);go_quiet(fail)
 go_wp2_with(go_at_call 148;refine(HFO.out _ (aN BK.out _)).mono ?_;rintro e v3 ⟨rfl,uA⟩;have GH:=zh (aB (aN BK.out _) uA);have FX:=zh (aD uA uM.out);obtain⟨⟨q30,q31,q32,q33,q34,q35,q36,q37,q38⟩,-⟩:=bx9 FX.out);go_ret
 exact⟨aF aBd,GH.out⟩):p:=h
theorem ZA{p:Prop}(h:p:=by
 go_wp2_with(go_at_call 147;refine PU.out.mono ?_;rintro e w5 ⟨rfl,rfl⟩);go_ret
 exact⟨aF aBd,EV.out⟩):p:=h
theorem ZC{p:Prop}(h:p:=by
 clear PH;go_wp2_with(go_at_call 151;refine(FW.out _ GX.out).mono ?_;rintro e v2 ⟨rfl,sD⟩;have BK:=zh (aB GX.out sD);have uM:=zh (aD sD RU.out);obtain⟨⟨q20,q21,SO,q23,q24,q25,q26,q27,q28⟩,-⟩:=bx9 uM.out);go_quiet(fail)
 go_wp2_with fail;go_ret
 exact⟨aF (by rw[HM.out]),aN BK.out _⟩):p:=h
theorem uses_bad'{l:List bA}{k:Nat}{x:bA}{known:List bA}{r:Bool}(hx:l[k]? =some x)(h:(known.any fun y=>decide (y=x))=true\/aR x=false)
  (hr:r=gH (l.drop k) known):r=false:=by
 obtain⟨hk,rfl⟩:=Yb.1 hx;rw[hr,Qd hk,gH];rcases h with h|h<;>simp[h]
theorem uses_good'{l:List bA}{k:Nat}{x:bA}{known:List bA}{r:Bool}(hx:l[k]? =some x)(h1:(known.any fun y=>decide (y=x))=false)(h2:aR x=true)
  (hr:r=gH (l.drop k) known):r=gH (l.drop (k+1)) (x::known):=by
 obtain⟨hk,rfl⟩:=Yb.1 hx;rw[hr,Qd hk,gH,h1,h2];rfl
theorem uses_end'{l:List bA}{k:Nat}{known:List bA}{r:Bool}(hk:l.length<=k)(hr:r=gH (l.drop k) known):r=true:=by
 rw[hr,List.drop_of_length_le hk,gH]
theorem fns_bad{l:List Fnc}{k:Nat}{x:Fnc}{known:List bA}{r:Bool}(hx:l[k]? =some x)(h:(known.any fun y=>decide (y=x.name))=true\/aR x.name=false\/qJ x=false)
  (hr:r=eK (l.drop k) known):r=false:=by
 obtain⟨hk,rfl⟩:=Yb.1 hx;rw[hr,Qd hk,eK];rcases h with h|h|h<;>simp[h]
theorem fns_good{l:List Fnc}{k:Nat}{x:Fnc}{known:List bA}{r:Bool}(hx:l[k]? =some x)(h1:(known.any fun y=>decide (y=x.name))=false)(h2:aR x.name=true)(h3:qJ x=true)
  (hr:r=eK (l.drop k) known):r=eK (l.drop (k+1)) (x.name::known):=by
 obtain⟨hk,rfl⟩:=Yb.1 hx;rw[hr,Qd hk,eK,h1,h2,h3];rfl
theorem fns_end{l:List Fnc}{k:Nat}{known:List bA}{r:Bool}(hk:l.length<=k)(hr:r=eK (l.drop k) known):r=true:=by
 rw[hr,List.drop_of_length_le hk,eK]
theorem rightFn_eq(f:Fnc):qJ f=(eH f.params 6&&cK 4 f.result&&aW 12 f.body&&effOk f.effects):=rfl
theorem modRight_any(m:Mdl)(N:Nat->Prop)(vu vv vi vf vo vw vb:Value)(w:World)(hg:dL w)(hu:aL 1 cZ N w vu m.uses)(hv:aL 3 gR N w vv m.vars)(hi:aL 6 cJ N w vi m.init)(hf:aL 12 qP N w vf m.funcs)
  (ho:aL 3 gR N w vo m.old) (hw:aL 6 cJ N w vw m.forward) (hb:aL 6 cJ N w vb m.back) (hn:m.name.size<=8000):
  Calls Tryz.prog 113 #[.agg #[.string m.name,vu,vv,vi,vf,.bool m.moves,vo,vw,vb]] w fun e w'=>e=.returned (.bool (rightM m))/\Below w.heap.size w w':=by
 have HG:=zh (fun W(hb:Below w.heap.size w W)=>hg.later hb);have HM:Hid (rightM m=(gH m.uses []&&eK m.funcs []&&aR m.name&&decide (m.uses.length<=12)&&decide (m.funcs.length<=30)&&eH m.vars 8&&fZ m.init m.vars.length&&(m.moves||decide (m.old.length=0))&&eH m.old 8&&fZ m.forward (if m.moves then m.vars.length else 0)&&fZ m.back m.old.length)):=zh rfl;generalize rightM m=res at HM ⊢;obtain⟨au,cu,rfl,lu1,lu2,hcu⟩:=hu.at;obtain⟨af,cf,rfl,lf1,lf2,NL⟩:=hf.at;have HFV:=zh (fun W(h:Below w.heap.size w W)=>nV m.vars 8 N vv W aAO (HG.out W h) (hv.moves bB (bU.later h) aAO));have HFO:=zh (fun W(h:Below w.heap.size w W)=>nV m.old 8 N vo W aAO (HG.out W h) (ho.moves bB (bU.later h) aAO));have HXI:=zh (fun k W(hk:k<=1000)(h:Below w.heap.size w W)=>qT oF m.init k N vi W hk (HG.out W h) (hi.moves aG (bU.later h) aAO));have HXW:=zh (fun k W(hk:k<=1000)(h:Below w.heap.size w W)=>qT oF m.forward k N vw W hk (HG.out W h) (hw.moves aG (bU.later h) aAO));have HXB:=zh (fun k W(hk:k<=1000)(h:Below w.heap.size w W)=>qT oF m.back k N vb W hk (HG.out W h) (hb.moves aG (bU.later h) aAO));obtain⟨av,cv,rfl,lv1,lv2,-⟩:=hv.at;obtain⟨ai,ci,rfl,li1,li2,-⟩:=hi.at;obtain⟨ao,co,rfl,lo1,lo2,-⟩:=ho.at;obtain⟨aw,cw,rfl,lw1,lw2,-⟩:=hw.at;obtain⟨ab,cb,rfl,lb1,lb2,-⟩:=hb.at;have HCU:=zh hcu;have PW:=zh NL;have DL:=zh (fun W(h:Below w.heap.size w W)=>eN m.name W aAM (HG.out W h));have uV:=zh (bY w (oBx9 m.name au m.uses.length cu av m.vars.length cv ai m.init.length ci af m.funcs.length cf m.moves ao m.old.length co aw m.forward.length cw ab m.back.length cb));have sV:=zh (aA w (oBx9 m.name au m.uses.length cu av m.vars.length cv ai m.init.length ci af m.funcs.length cf m.moves ao m.old.length co aw m.forward.length cw ab m.back.length cb));have yV:=@run_makeMap Tryz.prog;clear hg hu hv hi hf ho hw hb hcu NL;go_enter Tryz.func113,Tryz.ntmps113;go_wp2_with fail;go_loopw [15] (fun iv wr=>∃(q:Nat)(known:List bA),q<=m.uses.length/\iv=.int .i64 (q:Int)/\Hid (Below (w.alloc (oBx9 m.name au m.uses.length cu av m.vars.length cv ai m.init.length ci af m.funcs.length cf m.moves ao m.old.length co aw m.forward.length cw ab m.back.length cb)).heap.size (w.alloc (oBx9 m.name au m.uses.length cu av m.vars.length cv ai m.init.length ci af m.funcs.length cf m.moves ao m.old.length co aw m.forward.length cw ab m.back.length cb)) wr)/\Hid (gH m.uses []=gH (m.uses.drop q) known)/\Hid (aX eQ dS wr (w.heap.size+1) q (nP known))) (fun iv _=>m.uses.length-(intOf iv).toNat)
 case atStart=>exact⟨0,[],Nat.zero_le _,rfl,zh (aA _ _),zh rfl,zh (by have h:=(aX.made (K:=eQ) (V:=dS) (w.alloc (oBx9 m.name au m.uses.length cu av m.vars.length cv ai m.init.length ci af m.funcs.length cf m.moves ao m.old.length co aw m.forward.length cw ab m.back.length cb))).ext (m':=nP []) (fun _=>rfl);simpa using h)⟩
 case round=>
  obtain⟨q,known,hq,rfl,HB,sK,XD⟩:=hrel;rename World=>wr
  have tP:=zh (aB sV.out HB.out);obtain⟨⟨t0,t1,t2,t3,t4,t5,t6,t7,t8⟩,-⟩:=bx9 (aD HB.out uV.out);have hb9':(w.alloc (oBx9 m.name au m.uses.length cu av m.vars.length cv ai m.init.length ci af m.funcs.length cf m.moves ao m.old.length co aw m.forward.length cw ab m.back.length cb)).heap.size=w.heap.size+1:=aAQ;by_cases sE:q<m.uses.length
  ·obtain⟨x,hx,-⟩:=getElem?_of_lt sE;obtain⟨b,o,rfl,-,cs,⟨rfl,s1⟩,-,hj⟩:=HCU.out q x hx;have p0:wr.cell? ⟨b,o+q,none⟩=some (.string x):=aC tP.out aB1;have HX:=zh hx;have HK:=zh (mR known x);have HS:=zh (eN x wr s1 (HG.out _ tP.out));clear hj hx yV;generalize AQ:(known.any fun y=>decide (y=x))=r1 at HK;generalize DW:aR x=r2 at HS;have T7:=zh AQ;have T6:=zh DW;clear AQ DW
   cases r1 with
   |true=>
    have HF:Hid (res=false):=zh (by rw[HM.out,uses_bad' HX.out (.inl T7.out) sK.out];simp);go_wp2_with(at_lookup;refine bR XD.out s1 HK.out rfl rfl rfl rfl ?_);go_ret;exact⟨aF aBk,tP.out⟩
   |false=>
    cases r2 with
    |false=>
     have HF:Hid (res=false):=zh (by rw[HM.out,uses_bad' HX.out (.inr T6.out) sK.out];simp);go_wp2_with(first|(at_lookup;refine bR XD.out s1 HK.out rfl rfl rfl rfl ?_)|(go_at_call 147;refine HS.out.mono ?_;rintro e w5 ⟨rfl,rfl⟩));go_ret;exact⟨aF aBk,tP.out⟩
    |true=>
     have xS:=zh (uses_good' HX.out T7.out T6.out sK.out);have xP:=HB.out.size;go_wp2_with(first|(at_lookup;refine bR XD.out s1 HK.out rfl rfl rfl rfl ?_)|(go_at_call 147;refine HS.out.mono ?_;rintro e w5 ⟨rfl,rfl⟩)|(at_mapUpdate;refine lE XD.out aAM s1 rfl rfl rfl rfl rfl ?_;intro w3 Q0 PL));go_roundw;(case rel=>exact⟨q+1,x::known,aAM,aAV,zh (HB.out.grown PL xP (fun i hi=>by cases hi;omega)),xS,zh (Q0.ext (fun z=>congrFun (oM known x) z))⟩);case measure=>simp[intOf];omega
  have HU:Hid (gH m.uses []=true):=zh (uses_end' aAM sK.out);rw[HU.out,Bool.true_and] at HM;have yU:=HB.out.size;have UX:(w.alloc (oBx9 m.name au m.uses.length cu av m.vars.length cv ai m.init.length ci af m.funcs.length cf m.moves ao m.old.length co aw m.forward.length cw ab m.back.length cb)).heap.size=w.heap.size+1:=aAQ;have hlt0:w.heap.size<wr.heap.size:=aAM;have HwM:=zh (aA wr (.map #[] 0));clear sK XD HCU;go_wp2_with fail;clear yV;clear t0 t1 t2 t3 t4 t5 t6 t7 t8;go_loopw [34] (fun iv wz=>∃(z:Nat)(known:List bA),z<=m.funcs.length/\iv=.int .i64 (z:Int)/\Hid (Below wr.heap.size wr wz)/\Hid (eK m.funcs []=eK (m.funcs.drop z) known)/\Hid (aX eQ dS wz wr.heap.size z (nP known))) (fun iv _=>m.funcs.length-(intOf iv).toNat)
  case atStart=>exact⟨0,[],Nat.zero_le _,rfl,HwM,zh rfl,zh ((aX.made wr).ext (fun _=>rfl))⟩
  case round=>
   obtain⟨z,kn,hz,rfl,wH,RY,OK⟩:=hrel;(rename World=>wz);have HBy:=zh (aB HB.out wH.out);have EV:=zh (aB sV.out HBy.out);obtain⟨⟨t0,t1,t2,t3,t4,t5,t6,t7,t8⟩,-⟩:=bx9 (aD HBy.out uV.out);by_cases TC:z<m.funcs.length
   ·obtain⟨f,hx,-⟩:=getElem?_of_lt TC;obtain⟨b,o,rfl,-,cs,NJ,-,hj⟩:=PW.out z f hx;obtain⟨vp,kd,vr,op,n,sx,mx,vn,va,rfl,s1,hp,ht,he⟩:=NJ;have HFP:=zh (fun W(h:Below w.heap.size w W)=>nV f.params 6 N vp W aAO (HG.out W h) (hp.moves bB (bU.later h) aAO));have HT:=zh (fun W(h:Below w.heap.size w W)=>RightType_any rightType_any f.result N kd vr W (HG.out W h) (fO _ _ _ _ _ _ (bU.later h) ht));have HE:=zh (fun W(h:Below w.heap.size w W)=>RightExp_any oF f.body N op n sx mx vn va W (HG.out W h) (aG _ _ _ _ _ _ (bU.later h) he));obtain⟨ap,cp,rfl,-⟩:=hp.at;obtain⟨ar,lr,cr,rfl⟩:=encT_slice ht;obtain⟨⟨an,ln,cn,rfl⟩,aa,la,ca,rfl⟩:=mH he;have c0:wz.cell? ⟨b,o+z*12,none⟩=some (.string f.name):=aC EV.out (hj 0 _ rfl);have c1:=aC EV.out (hj 1 _ rfl);have c2:=aC EV.out (hj 2 _ rfl);have c3:=aC EV.out (hj 3 _ rfl);have c4:=aC EV.out (hj 4 _ rfl);have c5:=aC EV.out (hj 5 _ rfl);have c6:=aC EV.out (hj 6 _ rfl);have c7:=aC EV.out (hj 7 _ rfl);have c8:=aC EV.out (hj 8 _ rfl);have c9:=aC EV.out (hj 9 _ rfl);have CJ:=aC EV.out (hj 10 _ rfl);have CI:=aC EV.out (hj 11 _ rfl);have s2:f.name.size<=140737488355328:=aAM;have HX:=zh hx;have HK:=zh (mR kn f.name);have uS:=zh (aB EV.out (aA wz (lG f.name f.pub ap f.params.length cp kd ar lr cr f.effects op n sx mx an ln cn aa la ca)));have sH:=zh (bY wz (lG f.name f.pub ap f.params.length cp kd ar lr cr f.effects op n sx mx an ln cn aa la ca));have HS:=zh (eN f.name _ s2 (HG.out _ uS.out));have HR:=zh (rightFn_eq f);clear hj hx hp ht he PW;generalize AQ:(kn.any fun y=>decide (y=f.name))=r1 at HK;generalize DW:aR f.name=r2 at HS;generalize eH f.params 6=r3 at HFP HR;generalize cK 4 f.result=r4 at HT HR;generalize aW 12 f.body=r5 at HE HR;have HEf:Hid (effOk f.effects=decide (Go.bits .andNot .i64 f.effects 15=0)):=zh rfl;have T7:=zh AQ;have T6:=zh DW;clear AQ DW
    cases r1 with
    |true=>
     have HF:Hid (res=false):=zh (by rw[HM.out,fns_bad HX.out (.inl T7.out) RY.out];simp);go_wp2_with(at_lookup;refine bR (OK.out.alloc _) s2 HK.out rfl rfl rfl rfl ?_);exact aAA
    |false=>
     cases r2 with
     |false=>
      have HF:Hid (res=false):=zh (by rw[HM.out,fns_bad HX.out (.inr (.inl T6.out)) RY.out];simp);go_wp2_with(first|(at_lookup;refine bR (OK.out.alloc _) s2 HK.out rfl rfl rfl rfl ?_)|(go_at_call 147;refine HS.out.mono ?_;rintro e w5 ⟨rfl,rfl⟩));exact aAA
     |true=>
      cases r3 with
      |false=>
       have HF:Hid (res=false):=zh aBz;go_wp2_with(first|(at_lookup;refine bR (OK.out.alloc _) s2 HK.out rfl rfl rfl rfl ?_)|(go_at_call 147;refine HS.out.mono ?_;rintro e w5 ⟨rfl,rfl⟩)|(go_at_call 148;refine(HFP.out _ uS.out).mono ?_;rintro e w6 ⟨rfl,vI⟩;have GK:=zh (aB uS.out vI);obtain⟨⟨x0,x1,x2,x3,x4,x5,x6,x7,x8,x9,x10,x11⟩,-⟩:=mJ (aD vI sH.out)));go_ret;exact⟨aF aBk,GK.out⟩
      |true=>
       cases r4 with
       |false=>
        have HF:Hid (res=false):=zh aBz;go_wp2_with(first|(at_lookup;refine bR (OK.out.alloc _) s2 HK.out rfl rfl rfl rfl ?_)|(go_at_call 147;refine HS.out.mono ?_;rintro e w5 ⟨rfl,rfl⟩)|(go_at_call 148;refine(HFP.out _ uS.out).mono ?_;rintro e w6 ⟨rfl,vI⟩;have GK:=zh (aB uS.out vI);obtain⟨⟨x0,x1,x2,x3,x4,x5,x6,x7,x8,x9,x10,x11⟩,-⟩:=mJ (aD vI sH.out))|(go_at_call 149;refine(HT.out _ GK.out).mono ?_;rintro e w7 ⟨rfl,yL⟩;have AC:=zh (aB GK.out yL);obtain⟨⟨y0,y1,y2,y3,y4,y5,y6,y7,y8,y9,y10,y11⟩,-⟩:=mJ (aD (aB vI yL) sH.out)));go_ret;exact⟨aF aBk,AC.out⟩
       |true=>
        cases r5 with
        |false=>
         have HF:Hid (res=false):=zh aBz;exact YI
        |true=>
         by_cases LP:Go.bits .andNot .i64 f.effects 15=0
         ·(have hef':(Go.bits .andNot .i64 f.effects 15 != 0)=false:=by rw[bne_eq_false_iff_eq];exact LP);have xS:=zh (fns_good HX.out T7.out T6.out (by rw[HR.out,HEf.out,decide_eq_true LP];rfl) RY.out);have xP:=wH.out.size;clear LP;go_wp2_with(first|(at_lookup;refine bR (OK.out.alloc _) s2 HK.out rfl rfl rfl rfl ?_)|(go_at_call 147;refine HS.out.mono ?_;rintro e w5 ⟨rfl,rfl⟩)|(go_at_call 148;refine(HFP.out _ uS.out).mono ?_;rintro e w6 ⟨rfl,vI⟩;have GK:=zh (aB uS.out vI);obtain⟨⟨x0,x1,x2,x3,x4,x5,x6,x7,x8,x9,x10,x11⟩,-⟩:=mJ (aD vI sH.out))|(go_at_call 149;refine(HT.out _ GK.out).mono ?_;rintro e w7 ⟨rfl,yL⟩;have AC:=zh (aB GK.out yL);obtain⟨⟨y0,y1,y2,y3,y4,y5,y6,y7,y8,y9,y10,y11⟩,-⟩:=mJ (aD (aB vI yL) sH.out))|(go_at_call 150;refine(HE.out _ AC.out).mono ?_;rintro e w8 ⟨rfl,vD⟩;have AO:=zh (aB AC.out vD);obtain⟨⟨z0,z1,z2,z3,z4,z5,z6,z7,z8,z9,z10,z11⟩,-⟩:=mJ (aD (aB (aB vI yL) vD) sH.out);have HM8:=zh ((OK.out.alloc (lG f.name f.pub ap f.params.length cp kd ar lr cr f.effects op n sx mx an ln cn aa la ca)).later (aB (aB vI yL) vD)))|(at_mapUpdate;refine lE HM8.out aAM s2 rfl rfl rfl rfl rfl ?_;intro w9 hm9 hg9));go_roundw;(case rel=>exact⟨z+1,f.name::kn,aAM,aAV,zh ((aB wH.out (aB (aA _ _) (aB (aB vI yL) vD))).grown hg9 (by have:=(aB wH.out (aB (aA wz (lG f.name f.pub ap f.params.length cp kd ar lr cr f.effects op n sx mx an ln cn aa la ca)) (aB (aB vI yL) vD))).size;exact this) (fun i hi=>by cases hi;exact Nat.le_refl _)),xS,zh (hm9.ext (fun z=>congrFun (oM kn f.name) z))⟩);case measure=>simp[intOf];omega
         (have hef':(Go.bits .andNot .i64 f.effects 15 != 0)=true:=by rw[bne_iff_ne];exact LP);(have tL:qJ f=false:=by rw[HR.out,HEf.out,Qb LP];simp);clear LP;have HF:Hid (res=false):=zh (by rw[HM.out,fns_bad HX.out (.inr (.inr tL)) RY.out];simp);exact YI
   have HF2:Hid (eK m.funcs []=true):=zh (fns_end aAM RY.out);rw[HF2.out,Bool.true_and] at HM;clear RY OK PW HU HF2;have HD0:=EV;have yR:=zh (aD HBy.out uV.out);have PU:=zh (DL.out _ EV.out);generalize xY:aR m.name=rn at HM PU;clear xY DL
   cases rn with
   |false=>
    exact ZA
   |true=>
    by_cases CT:m.uses.length<=12
    ·by_cases h30:m.funcs.length<=30
     ·rw[decide_eq_true CT,decide_eq_true h30] at HM;have g12:¬(12:Int)<(m.uses.length:Int):=aAM;have g30:¬(30:Int)<(m.funcs.length:Int):=aAM;clear CT h30;simp only[Bool.true_and] at HM;go_wp2_with(go_at_call 147;refine PU.out.mono ?_;rintro e w5 ⟨rfl,rfl⟩);generalize hrv:eH m.vars 8=rv at HM HFV
      cases rv with
      |false=>
       clear hrv;go_wp2_with(go_at_call 148;refine(HFV.out _ HD0.out).mono ?_;rintro e v1 ⟨rfl,sF⟩;have GX:=zh (aB HD0.out sF);have JL:=zh (aD sF yR.out);obtain⟨⟨q10,q11,q12,q13,q14,q15,q16,q17,q18⟩,-⟩:=bx9 JL.out);go_ret;exact⟨aF aBd,GX.out⟩
      |true=>
       (have BF:m.vars.length<=1000:=by unfold eH at hrv;simp at hrv;omega);clear hrv;have FW:=zh (fun W hb=>HXI.out m.vars.length W BF hb);generalize fZ m.init m.vars.length=ri at HM FW;simp only[Bool.true_and] at HM;go_wp2_with(go_at_call 148;refine(HFV.out _ HD0.out).mono ?_;rintro e v1 ⟨rfl,sF⟩;have GX:=zh (aB HD0.out sF);have JL:=zh (aD sF yR.out);obtain⟨⟨q10,q11,q12,q13,q14,q15,q16,q17,q18⟩,-⟩:=bx9 JL.out)
       cases ri with
       |false=>
        go_wp2_with(go_at_call 151;refine(FW.out _ GX.out).mono ?_;rintro e v2 ⟨rfl,sD⟩;have BK:=zh (aB GX.out sD);have uM:=zh (aD sD JL.out);obtain⟨⟨q20,q21,SO,q23,q24,q25,q26,q27,q28⟩,-⟩:=bx9 uM.out);go_ret;exact⟨aF aBd,BK.out⟩
       |true=>
        simp only[Bool.true_and] at HM;(have C9:∀k,eH m.old 8=true->k=m.old.length->k<=1000:=fun k h e=>by subst e;unfold eH at h;simp at h;omega);by_cases PG:eH m.old 8=true
        ·have hk3':m.old.length<=1000:=C9 _ PG rfl;have RV:=zh (fun W hb=>HXB.out m.old.length W hk3' hb);have HRO:=zh PG;rw[PG] at HM HFO;clear C9 PG hk3'
         cases M4:m.moves with
         |true=>
          rw[M4] at HM;have XE:=zh M4;clear M4;simp only[if_true,Bool.true_or,Bool.and_true,Bool.true_and] at HM;have II:=zh (fun W hb=>HXW.out m.vars.length W BF hb);generalize fZ m.forward m.vars.length=rw at HM II;generalize fZ m.back m.old.length=rb at HM RV;have RU:Hid (v1.heap[w.heap.size]? =some (oBx9 m.name au m.uses.length cu av m.vars.length cv ai m.init.length ci af m.funcs.length cf true ao m.old.length co aw m.forward.length cw ab m.back.length cb)):=zh aBP;exact YC
         |false=>
          rw[M4] at HM;have XE:=zh M4;clear M4;simp only[Bool.false_eq_true,if_false,Bool.false_or,Bool.true_and] at HM;have RU:Hid (v1.heap[w.heap.size]? =some (oBx9 m.name au m.uses.length cu av m.vars.length cv ai m.init.length ci af m.funcs.length cf false ao m.old.length co aw m.forward.length cw ab m.back.length cb)):=zh aBP;by_cases PH:m.old.length=0
          ·rw[decide_eq_true PH] at HM;simp only[Bool.true_and] at HM;have hol0:¬(0:Int)<(m.old.length:Int):=aAM;clear PH;have II:Hid (∀W,Below w.heap.size w W->Calls Tryz.prog 151 #[.slice aw m.forward.length cw,.int .i64 0] W fun e w'=>e=.returned (.bool (fZ m.forward 0))/\Below W.heap.size W w'):=zh (fun W hb=>HXW.out 0 W aAO hb);generalize fZ m.forward 0=rw at HM II;generalize fZ m.back m.old.length=rb at HM RV;exact YC
          have hol1:(0:Int)<(m.old.length:Int):=aAM;rw[Qb PH] at HM;simp only[Bool.false_and] at HM;exact ZC
        (have hro2:eH m.old 8=false:=by simpa using PG);rw[hro2] at HM HFO;clear C9 PG hro2;simp only[Bool.and_false,Bool.false_and] at HM
        cases M4:m.moves with
        |true=>
         have XE:=zh M4;clear M4;have RU:Hid (v1.heap[w.heap.size]? =some (oBx9 m.name au m.uses.length cu av m.vars.length cv ai m.init.length ci af m.funcs.length cf true ao m.old.length co aw m.forward.length cw ab m.back.length cb)):=zh aBP;exact YS
        |false=>
         have XE:=zh M4;clear M4;have RU:Hid (v1.heap[w.heap.size]? =some (oBx9 m.name au m.uses.length cu av m.vars.length cv ai m.init.length ci af m.funcs.length cf false ao m.old.length co aw m.forward.length cw ab m.back.length cb)):=zh aBP;by_cases PH:m.old.length=0
         ·have hol0:¬(0:Int)<(m.old.length:Int):=aAM;clear PH;exact YS
         have hol1:(0:Int)<(m.old.length:Int):=aAM;exact ZC
     rw[Qb h30] at HM;have g12:¬(12:Int)<(m.uses.length:Int):=aAM;have g30:(30:Int)<(m.funcs.length:Int):=aAM;clear CT h30;exact ZA
    rw[Qb CT] at HM;have g12:(12:Int)<(m.uses.length:Int):=aAM;clear CT;exact ZA
theorem cexp_all:∀d,ExpAt d
 |0=>fun x B cb vars vv v c css names vns op n s m vn va w hr=>by simp[aW] at hr
 |d+1=>by
  have HX:=cexp_all d;intro x B cb vars vv v c css names vns op n s m vn va w hr h hlen xY vS he
  cases x with
  |mk op' n' s' m' ns args=>
   have BS:=he;rw[bG] at BS;obtain⟨v1,v2,e,-⟩:=BS;simp only[List.cons.injEq,Value.int.injEq,Value.string.injEq,and_true,true_and] at e;obtain⟨e1,e2,e3,e4,-,-⟩:=e;subst e1 e2 e3 e4;by_cases h0:op=0
   ·subst h0;exact exp_0 HX n s m ns args hr h hlen xY vS he
   by_cases h1:op=1
   ·subst h1;exact exp_1 HX n s m ns args hr h hlen xY vS he
   by_cases h2:op=2
   ·subst h2;exact exp_2 HX n s m ns args hr h hlen xY vS he
   by_cases h17:op=17
   ·subst h17;exact exp_17 HX n s m ns args hr h hlen xY vS he
   by_cases h8:op=8
   ·exact exp_89 HX op (.inl h8) n s m ns args hr h hlen xY vS he
   by_cases h9:op=9
   ·exact exp_89 HX op (.inr h9) n s m ns args hr h hlen xY vS he
   by_cases h11:op=11
   ·subst h11;exact exp_11 HX n s m ns args hr h hlen xY vS he
   by_cases CT:op=12
   ·subst CT;exact exp_12 HX n s m ns args hr h hlen xY vS he
   exact exp_else HX op ⟨h0,h1,h2,h17,h8,h9,h11,CT⟩ n s m ns args hr h hlen xY vS he
theorem rightFuncs_all:∀{l:List Fnc}{known:List bA},eK l known=true->∀f∈l,qJ f=true/\aR f.name=true
 |[],_,_,f,h=>aBx
 |x::r,known,h,f,hf=>by
  rw[eK] at h;split at h
  ·cases h
  rename_i hh;simp only[Bool.or_eq_true,not_or,Bool.not_eq_true',Bool.not_eq_true,Bool.not_eq_false] at hh;rcases List.mem_cons.1 hf with rfl|hf
  ·refine⟨?_,?_⟩
   ·cases hr:qJ f with
    |true=>rfl
    |false=>rw[hr] at hh;simp at hh
   cases hr:aR f.name with
   |true=>rfl
   |false=>rw[hr] at hh;simp at hh
  exact rightFuncs_all h f hf
theorem rightM_parts{m:Mdl}(h:rightM m=true):m.vars.length<=8/\m.funcs.length<=30/\∀f∈m.funcs,f.params.length<=6/\aW 12 f.body=true/\aR f.name=true:=by
 unfold rightM at h;simp only[Bool.and_eq_true,decide_eq_true_eq] at h;obtain⟨⟨⟨⟨⟨⟨⟨⟨⟨⟨-,h2⟩,-⟩,-⟩,h5⟩,h6⟩,-⟩,-⟩,-⟩,-⟩,-⟩:=h;unfold eH at h6;simp only[Bool.and_eq_true,decide_eq_true_eq] at h6;refine⟨h6.2,h5,fun f hf=>?_⟩;obtain⟨h7,h8⟩:=rightFuncs_all h2 f hf;unfold qJ eH at h7;simp only[Bool.and_eq_true,decide_eq_true_eq] at h7;exact⟨h7.1.1.1.2,h7.1.2,h8⟩
theorem compile_any(m:Mdl)(N:Nat->Prop)(vu vv vi vf vo vw vb:Value)(w:World)(hg:dL w)(hM:encM N w m [.string m.name,vu,vv,vi,vf,.bool m.moves,vo,vw,vb]):
  Calls Tryz.prog 86 #[.agg #[.string m.name,vu,vv,vi,vf,.bool m.moves,vo,vw,vb]] w fun e w'=>∃v,e=.returned v/\aL 4 encCod (bM w.heap.size) w' v (kM m)/\Below w.heap.size w w':=by
 obtain⟨x1,x2,x3,x4,x5,x6,x7,hMe,hn,hu,hv,hi,hf,ho,hw,hb⟩:=hM;cases hMe;have sV:=zh (aA w (.cells #[.string m.name,vu,vv,vi,vf,.bool m.moves,vo,vw,vb] 132));have GU:=zh (modRight_any m N vu vv vi vf vo vw vb _ (hg.later sV.out) (hu.moves aS (bU.later sV.out) aAO) (hv.moves bB (bU.later sV.out) aAO) (hi.moves aG (bU.later sV.out) aAO) (hf.moves cQ (bU.later sV.out) aAO) (ho.moves bB (bU.later sV.out) aAO) (hw.moves aG (bU.later sV.out) aAO) (hb.moves aG (bU.later sV.out) aAO) hn);have HVR:=zh hv;obtain⟨au,cu,rfl,-⟩:=hu.at;obtain⟨av,cv,rfl,lv1,lv2,-⟩:=hv.at;obtain⟨ai,ci,rfl,-⟩:=hi.at;obtain⟨af,cf,rfl,lf1,lf2,NL⟩:=hf.at;obtain⟨ao,co,rfl,-⟩:=ho.at;obtain⟨aw,cw,rfl,-⟩:=hw.at;obtain⟨ab,cb0,rfl,-⟩:=hb.at;have PW:=zh NL;have HG:=zh (fun W(hb:Below w.heap.size w W)=>hg.later hb);have h11:=hg.big;generalize m.uses.length=nu at *;generalize m.init.length=ni at *;generalize m.old.length=no at *;generalize m.forward.length=nw at *;generalize m.back.length=nb at *;have uV:=zh (bY w (oBx9 m.name au nu cu av m.vars.length cv ai ni ci af m.funcs.length cf m.moves ao no co aw nw cw ab nb cb0));clear hu hi hf ho hw hb NL hv hg
 cases U2:rightM m with
 |false=>
  rw[U2] at GU;have HE:Hid (kM m=[]):=zh (by unfold kM;rw[U2];rfl);clear U2;go_enter Tryz.func86,Tryz.ntmps86;go_wp2_with(go_at_call 113;refine GU.out.mono ?_;rintro e w1 ⟨rfl,sF⟩);go_ret;exact⟨_,rfl,by rw[HE.out];exact aL.nil _ _ _ _,aB sV.out sF⟩
 |true=>
  rw[U2] at GU;have HE:Hid (kM m=m.funcs.map (compF (m.vars.map (·.1)))):=zh (by unfold kM;rw[U2];rfl);obtain⟨hv8,hf30,HPt⟩:=rightM_parts U2;have HP:=zh HPt;obtain⟨i0,vA,tM,sY,sX⟩:=info_parts codInfo;obtain⟨i1,DD,I6,I5,EP⟩:=info_parts strInfo;clear U2 HPt;go_enter Tryz.func86,Tryz.ntmps86;go_wp2_with(go_at_call 113;refine GU.out.mono ?_;rintro e w1 ⟨rfl,sF⟩;obtain⟨⟨s0,s1,s2,s3,s4,s5,s6,s7,s8⟩,-⟩:=bx9 (aD sF uV.out);have JZ:=zh (aB sV.out sF);have HBx1:=zh (aD sF uV.out));clear s0 s1 s2 s3 s4 s5 s6 s7 s8;have zH:=JZ.out.size;go_loopw [3,16] (fun ov iv wr=>∃(q:Nat)(css:List (List Value)),q<=m.funcs.length/\iv=.int .i64 (q:Int)/\Hid (Gro 4 168 encCod w1.heap.size ((m.funcs.take q).map (compF (m.vars.map (·.1)))) css ov wr)/\Hid (Below w1.heap.size w1 wr)) (fun _ iv _=>m.funcs.length-(intOf iv).toNat)
  case atStart=>exact⟨0,[],Nat.zero_le _,rfl,zh (Gro.first_at _ _ _ (Nat.le_refl _)),zh (Below.refl _ _)⟩
  case round=>
   obtain⟨q,css,hq,rfl,L1,HB⟩:=hrel;(rename World=>wr);have xA:=zh (aB JZ.out HB.out);have yU:=xA.out.size;obtain⟨⟨t0,t1,t2,t3,t4,t5,t6,t7,t8⟩,-⟩:=bx9 (aD HB.out HBx1.out);by_cases sE:q<m.funcs.length
   ·obtain⟨f,hx,vW⟩:=getElem?_of_lt sE;obtain⟨b,o,rfl,hNb,cs,NJ,-,hj⟩:=PW.out q f hx;obtain⟨vp,kd,vr,op,n,sx,mx,vn,va,rfl,hsz0,hp,ht,he⟩:=NJ;obtain⟨hp6,TV,tT⟩:=HP.out f vW;obtain⟨ap,cp,rfl,lp1,lp2,hcp⟩:=hp.at;have HCP:=zh hcp;have HEX:=zh he;obtain⟨ar,lr,cr,rfl⟩:=encT_slice ht;obtain⟨⟨an,ln,cn,rfl⟩,aa,la,ca,rfl⟩:=mH he;have HBD:=zh TV;have c0:wr.cell? ⟨b,o+q*12,none⟩=some (.string f.name):=aC xA.out (hj 0 _ rfl);have c1:=aC xA.out (hj 1 _ rfl);have c2:=aC xA.out (hj 2 _ rfl);have c3:=aC xA.out (hj 3 _ rfl);have c4:=aC xA.out (hj 4 _ rfl);have c5:=aC xA.out (hj 5 _ rfl);have c6:=aC xA.out (hj 6 _ rfl);have c7:=aC xA.out (hj 7 _ rfl);have c8:=aC xA.out (hj 8 _ rfl);have c9:=aC xA.out (hj 9 _ rfl);have CJ:=aC xA.out (hj 10 _ rfl);have CI:=aC xA.out (hj 11 _ rfl);have IB:b<w.heap.size:=cT (hj 0 _ rfl);have UM:=zh (bY wr (lG f.name f.pub ap f.params.length cp kd ar lr cr f.effects op n sx mx an ln cn aa la ca));have HCx:=zh (bY (wr.alloc (lG f.name f.pub ap f.params.length cp kd ar lr cr f.effects op n sx mx an ln cn aa la ca)) (oBx20 av m.vars.length cv none 0 0 (f.params.length:Int)));have hw2:((wr.alloc (lG f.name f.pub ap f.params.length cp kd ar lr cr f.effects op n sx mx an ln cn aa la ca)).alloc (oBx20 av m.vars.length cv none 0 0 (f.params.length:Int))).heap.size=wr.heap.size+2:=aAQ;have sW:=zh (aB (aA wr (lG f.name f.pub ap f.params.length cp kd ar lr cr f.effects op n sx mx an ln cn aa la ca)) (aA (wr.alloc (lG f.name f.pub ap f.params.length cp kd ar lr cr f.effects op n sx mx an ln cn aa la ca)) (oBx20 av m.vars.length cv none 0 0 (f.params.length:Int))));have tS:=(mJ (aD (aA (wr.alloc (lG f.name f.pub ap f.params.length cp kd ar lr cr f.effects op n sx mx an ln cn aa la ca)) (oBx20 av m.vars.length cv none 0 0 (f.params.length:Int))) UM.out)).1;obtain⟨⟨g0,g1,g2,g3,g4,g5,g6,g7,g8,g9,g10,g11⟩,-⟩:=mJ UM.out;obtain⟨⟨m0,m1,m2,m3,m4,m5,m6,m7,m8⟩,-⟩:=bx9 (aD (aA wr (lG f.name f.pub ap f.params.length cp kd ar lr cr f.effects op n sx mx an ln cn aa la ca)) (aD HB.out HBx1.out));have wU:Hid ((m.funcs.take (q+1)).map (compF (m.vars.map (·.1)))=(m.funcs.take q).map (compF (m.vars.map (·.1)))++[compF (m.vars.map (·.1)) f]):=zh (by rw[List.take_add_one,hx];simp);clear hj hx hp ht he hcp vW TV;go_wp2_with fail;clear c0 c1 c2 c3 c4 c5 c6 c7 c8 c9 CJ CI t0 t1 t2 t3 t4 t5 t6 t7 t8 g0 g1 g2 g3 g4 g5 g6 g7 g8 g9 g10 g11 m0 m1 m2 m3 m4 m5 m6 m7 m8;(go_loopw [7,30] (fun nv iv wz=>∃(z:Nat)(css7:List (List Value)),z<=f.params.length/\iv=.int .i64 (z:Int)/\Hid (Gro 1 9 cZ (wr.heap.size+2) ((f.params.take z).map (·.1)) css7 nv wz)/\Hid (Below ((wr.alloc (lG f.name f.pub ap f.params.length cp kd ar lr cr f.effects op n sx mx an ln cn aa la ca)).alloc (oBx20 av m.vars.length cv none 0 0 (f.params.length:Int))).heap.size ((wr.alloc (lG f.name f.pub ap f.params.length cp kd ar lr cr f.effects op n sx mx an ln cn aa la ca)).alloc (oBx20 av m.vars.length cv none 0 0 (f.params.length:Int))) wz)) (fun _ iv _=>f.params.length-(intOf iv).toNat));case atStart=>exact⟨0,[],Nat.zero_le _,rfl,zh (Gro.first_at _ _ _ (by rw[hw2];exact Nat.le_refl _)),zh (Below.refl _ _)⟩
    case round=>
     obtain⟨z,css7,hz,rfl,OS,wH⟩:=hrel;(rename World=>wz);have HBz2:=zh (aB sW.out wH.out);have LD:=zh (aB xA.out HBz2.out);have UW:=wH.out.size;rw[hw2] at UW;obtain⟨⟨e0,e1,e2,e3,e4,e5,e6,e7,e8,e9,e10,e11⟩,-⟩:=mJ (aD (aB (aA (wr.alloc (lG f.name f.pub ap f.params.length cp kd ar lr cr f.effects op n sx mx an ln cn aa la ca)) (oBx20 av m.vars.length cv none 0 0 (f.params.length:Int))) wH.out) UM.out);by_cases TC:z<f.params.length
     ·obtain⟨x,hx,-⟩:=getElem?_of_lt TC;obtain⟨b9,o9,rfl,-,cs9,hen9,-,hj9⟩:=HCP.out z x hx;obtain⟨nm,ty⟩:=x;obtain⟨ct,rfl,tI,E0⟩:=hen9
      cases ty with
      |mk kd9 fs9=>
       rw[iF] at E0;obtain⟨vf9,rfl,hr9⟩:=E0;obtain⟨a9,c9,rfl,-⟩:=hr9.at;have d0:wz.cell? ⟨b9,o9+z*3,none⟩=some (.string nm):=aC LD.out (hj9 0 _ rfl);have d1:=aC LD.out (hj9 1 _ rfl);have d2:=aC LD.out (hj9 2 _ rfl);have D7:Hid ((f.params.take (z+1)).map (·.1)=(f.params.take z).map (·.1)++[nm]):=zh (by rw[List.take_add_one,hx];simp);have PK:((f.params.take z).map (·.1)).length=z:=by rw[List.length_map,List.length_take];omega
       have hfo:∃q8 q9,u7=.slice q8 z q9:=by
        rcases OS.out.val with⟨h1,h2⟩|⟨g,cap,h1,-⟩
        ·exact⟨none,0,by rw[h1];rw[h2] at PK;simp at PK;rw[<-PK]⟩
        exact⟨_,_,by rw[h1,PK]⟩
       obtain⟨q8,q9,rfl⟩:=hfo;clear hj9 hx hr9;generalize fs9.length=k9 at *;have xP:=aB (aA wz (cX nm kd9 a9 k9 c9)) (aA _ (eP nm));have SG:=zh (OS.out.later aS xP);have tE:=SG.out.own;rw[PK] at tE;have uL:=SG.out.big;have DO:=zh xP;clear xP;go_wp2_with(at_builtin;refine wpList_append_lies _ rfl _ _ 22 rfl (wr.heap.size+2) 9 i1 (.string ByteArray.empty) 1 16 Tryz.underlying22 DD I6 I5 EP rfl aAM (.slice q8 z q9) z css7.flatten aBm tE ⟨wz.heap.size+1,0,none⟩ 1 1 [.string nm] aBm rfl (World.news_of_block (cs:=#[.string nm]) (t:=9) (fr:=(0,0)) (by simpa using bY (wz.alloc (cX nm kd9 a9 k9 c9)) (eP nm))) aA1 aAM aAY aAM uL (wz.heap.size+2) aAQ ?_);intro g7 cap7 w9 sB sA sM _;have KZ:=SG.out.added aS (x:=nm) ⟨rfl,aAM⟩ rfl (by rw[PK];exact sB) sA aCb;rw[PK,<-D7.out] at KZ;have tR:=zh ((aB wH.out DO.out).grown sA (by have:=(aB wH.out DO.out).size;exact this) (fun k hk=>by have h:=(SG.out.lt k hk).1;rw[hw2];exact h));clear sB sA sM tE;go_wp2_with fail;go_roundw;(case rel=>exact⟨z+1,_,aAM,aAV,zh KZ,tR⟩);case measure=>simp[intOf];omega
     have LI:f.params.take z=f.params:=List.take_of_length_le aAM;rw[LI] at OS;(have PK:(f.params.map (·.1)).length=f.params.length:=by rw[List.length_map]);have hcb:∀b,b<w.heap.size->iK (wr.heap.size+1) (.slice none 0 0) b:=fun b hb=>⟨aAM,by intro e;cases e⟩;have HROW:Hid (aL 1 cZ (iK (wr.heap.size+1) (.slice none 0 0)) wz u7 (f.params.map (·.1))):=zh ((OS.out.row aS).moves aS (fun b hb sE=>⟨⟨by have:wr.heap.size+2<=b:=hb;omega,by intro e;cases e⟩,fun _ _ h=>h⟩) aAO);have HXE:=zh (aG _ _ (iK (wr.heap.size+1) (.slice none 0 0)) wz _ _ (fun b hb sE=>⟨hcb b sE,fun _ _ h=>aC LD.out h⟩) HEX.out);(have hbx0:wz.heap[wr.heap.size+1]? =some (oBx20 av m.vars.length cv none 0 0 (f.params.length:Int)):=by have h:=aD wH.out HCx.out;simpa using h);have HCP0:Hid (Cp (wr.heap.size+2) (wr.heap.size+1) m.vars (.slice av m.vars.length cv) ⟨[],f.params.length⟩ [] (.slice none 0 0) wz):=zh ⟨hbx0,Gro.first_at _ _ _ UW,HVR.out.moves bB (fun b hb sE=>⟨hcb b sE,fun _ _ h=>aC LD.out h⟩) aAO,aAM,aAM,aAM,HG.out _ LD.out⟩;have HFz:Hid (wz.heap[wr.heap.size]? =some (lG f.name f.pub ap f.params.length cp kd ar lr cr f.effects op n sx mx an ln cn aa la ca)/\iK (wr.heap.size+1) (.slice none 0 0) wr.heap.size):=zh ⟨aD (aB (aA (wr.alloc (lG f.name f.pub ap f.params.length cp kd ar lr cr f.effects op n sx mx an ln cn aa la ca)) (oBx20 av m.vars.length cv none 0 0 (f.params.length:Int))) wH.out) UM.out,aAM,by intro e;cases e⟩;have HQ:=zh (cexp_all 12 f.body _ _ m.vars _ _ ⟨[],f.params.length⟩ [] (f.params.map (·.1)) u7 op n sx mx _ _ wz HBD.out HCP0.out (by rw[lenB_12];show 0+9817068105<=_;omega) aAM HROW.out HXE.out)
     have TH:(bH (m.vars.map (·.1)) 12 (f.params.map (·.1)) f.body ⟨[],f.params.length⟩).code.length<=100000000000:=by
      have h:=iZ (m.vars.map (·.1)) 12 (f.params.map (·.1)) f.body ⟨[],f.params.length⟩ HBD.out;rw[lenB_12] at h;have h0:(⟨[],f.params.length⟩:Cmp).code.length=0:=rfl;omega
     have HCE:Hid (compF (m.vars.map (·.1)) f=⟨f.name,f.params.length,((bH (m.vars.map (·.1)) 12 (f.params.map (·.1)) f.body ⟨[],f.params.length⟩).put (ins 18 0)).locals,((bH (m.vars.map (·.1)) 12 (f.params.map (·.1)) f.body ⟨[],f.params.length⟩).put (ins 18 0)).code⟩):=zh rfl;generalize bH (m.vars.map (·.1)) 12 (f.params.map (·.1)) f.body ⟨[],f.params.length⟩=c8 at HQ HCE TH;clear hbx0;go_wp2_with(go_at_call 114;refine HQ.out.mono ?_;rintro e w8 ⟨css8,v8,rfl,KX,vJ⟩);have HP8:=zh (oI (ins 18 0) (.slice none 0 0) KX TH (kK _ _ 18 0 aAO aAO));have HX8:=zh vJ;clear KX vJ HQ e0 e1 e2 e3 e4 e5 e6 e7 e8 e9 e10 e11;go_wp2_with(go_at_call 115;refine HP8.out.mono ?_;rintro e w9 ⟨css9,v9,rfl,hc9,MI⟩);have HX9:=zh (HX8.out.trans MI)
     have hbelow:Below wr.heap.size wr w9:=Off.below (B:=wr.heap.size) (aB sW.out wH.out) HX9.out.off (fun k hk=>by
      rcases hk with h|h
      ·omega
      simp[Value.ownBlock] at h) aAM
     have HF9:Hid (w9.heap[wr.heap.size]? =some (lG f.name f.pub ap f.params.length cp kd ar lr cr f.effects op n sx mx an ln cn aa la ca)):=zh (HX9.out.off.heap (fun hk=>by
      rcases hk with h|h
      ·omega
      simp[Value.ownBlock] at h) HFz.out.1)
     generalize c8.put (ins 18 0)=c9 at hc9 HCE;have MO:=hc9.gro.row hZ;obtain⟨a9,k9,rfl,-⟩:=MO.at;have HRow9:=zh MO;have HC9:=zh hc9.box;have XI:=zh (L1.out.later oW hbelow);have HB9x:=zh (aB HB.out hbelow);have hs9:=hbelow.size;have hlt9:wr.heap.size+1<w9.heap.size:=(Array.getElem?_eq_some_iff.1 hc9.box).1;clear hbelow hc9 MI MO;have M9:((m.funcs.take q).map (compF (m.vars.map (·.1)))).length=q:=by rw[List.length_map,List.length_take];omega
     have hfo3:∃q3 q4,u3=.slice q3 q q4:=by
      rcases XI.out.val with⟨h1,h2⟩|⟨g,cap,h1,-⟩
      ·exact⟨none,0,by rw[h1];rw[h2] at M9;simp at M9;rw[<-M9]⟩
      exact⟨_,_,by rw[h1,M9]⟩
     obtain⟨q3,q4,rfl⟩:=hfo3;have HH:=zh (XI.out.later oW (aE (w9)));have FJ:Below w9.heap.size w9 (w9.drew.alloc (gY f.name (f.params.length:Int) (c9.locals:Int) a9 c9.code.length k9)):=aB (aE w9) (aA w9.drew (gY f.name (f.params.length:Int) (c9.locals:Int) a9 c9.code.length k9));have SI:=zh (XI.out.later oW FJ);have HB16:=zh (aB HB9x.out FJ);have G5:=SI.out.own;rw[M9] at G5;have VV:=SI.out.big
     have UN:Hid (encCod (nA w1.heap.size (.slice q3 q q4)) (w9.drew.alloc (gY f.name (f.params.length:Int) (c9.locals:Int) a9 c9.code.length k9)) (compF (m.vars.map (·.1)) f) [.string f.name,.int .i64 (f.params.length:Int),.int .i64 (c9.locals:Int),.slice a9 c9.code.length k9]):=zh (by
      rw[HCE.out]
      refine⟨_,rfl,hsz0,HRow9.out.moves hZ (fun b hb sE=>⟨⟨by have:wr.heap.size+2<=b:=hb;have:=L1.out.big;omega,fun e=>by
       have:wr.heap.size+2<=b:=hb;have:=(L1.out.lt b e).2
       omega⟩,fun _ _ h=>aC FJ h⟩) aAO⟩)
     have HSa:Hid ((w9.drew.alloc (gY f.name (f.params.length:Int) (c9.locals:Int) a9 c9.code.length k9)).heap[wr.heap.size]? =some (lG f.name f.pub ap f.params.length cp kd ar lr cr f.effects op n sx mx an ln cn aa la ca)/\(w9.drew.alloc (gY f.name (f.params.length:Int) (c9.locals:Int) a9 c9.code.length k9)).heap[wr.heap.size+1]? =some (oBx20 av m.vars.length cv a9 c9.code.length k9 (c9.locals:Int))):=zh ⟨aD FJ HF9.out,aD FJ HC9.out⟩;clear FJ;have HT16:Hid ((m.funcs.take (q+1)).map (compF (m.vars.map (·.1)))=(m.funcs.take q).map (compF (m.vars.map (·.1)))++[compF (m.vars.map (·.1)) f]):=wU;refine wp_region_held_drew (S:=fun W=>W.heap[wr.heap.size]? =some (lG f.name f.pub ap f.params.length cp kd ar lr cr f.effects op n sx mx an ln cn aa la ca)/\W.heap[wr.heap.size+1]? =some (oBx20 av m.vars.length cv a9 c9.code.length k9 (c9.locals:Int))) aAN ⟨HF9.out,HC9.out⟩ fun hS=>?_;refine zq 0 (.slice q3 q q4) rfl ?_;refine zq 1 (.pointer (some ⟨wr.heap.size,0,none⟩)) rfl ?_;refine zt 2 (.string f.name) rfl (fun W hW=>aCK) ?_;refine zq 3 (.pointer (some ⟨wr.heap.size,2,none⟩)) rfl ?_;refine zt 4 (.slice ap f.params.length cp) rfl (fun W hW=>aCK) ?_;refine zq 5 (.int .i64 (f.params.length:Int)) rfl ?_;refine zq 6 (.pointer (some ⟨wr.heap.size+1,0,none⟩)) rfl ?_;refine zq 7 (.pointer (some ⟨wr.heap.size+1,0,none⟩)) rfl ?_;refine zq 8 (.pointer (some ⟨wr.heap.size+1,2,none⟩)) rfl ?_;refine zt 9 (.int .i64 (c9.locals:Int)) rfl (fun W hW=>by obtain⟨⟨z0,z1,z2⟩,-⟩:=bx3 hW.2;go_simp) ?_;refine zq 10 (.pointer (some ⟨wr.heap.size+1,0,none⟩)) rfl ?_;refine zq 11 (.pointer (some ⟨wr.heap.size+1,0,none⟩)) rfl ?_;refine zq 12 (.pointer (some ⟨wr.heap.size+1,1,none⟩)) rfl ?_;refine zt 13 (.slice a9 c9.code.length k9) rfl (fun W hW=>by obtain⟨⟨z0,z1,z2⟩,-⟩:=bx3 hW.2;go_simp) ?_;refine zq 14 (oBx28 f.name (f.params.length:Int) (c9.locals:Int) a9 c9.code.length k9) rfl ?_;(try simp only[zn]);refine zr 15 rfl (fun K hK=>?_);(try simp only[z1,z2,z3]);go_simp;refine hK.out _ _ HSa.out (fun hS=>?_);clear hK K;(try simp only[zn]);refine wpAnyH_ready (rs:=[16]) aAN aAQ ?_;refine AllReadyH.cons rfl (fun K hK=>?_) AllReadyH.nil;refine step_append_lies (w9.drew.alloc (gY f.name (f.params.length:Int) (c9.locals:Int) a9 c9.code.length k9)) rfl _ _ 136 rfl w1.heap.size 168 i0 (oBx28 ByteArray.empty 0 0 none 0 0) 4 56 Tryz.underlying136 vA tM sY sX rfl aAM (.slice q3 q q4) q css.flatten aBm G5 ⟨w9.heap.size,0,none⟩ 1 1 [.string f.name,.int .i64 (f.params.length:Int),.int .i64 (c9.locals:Int),.slice a9 c9.code.length k9] aBm rfl (World.news_of_block (cs:=#[.string f.name,.int .i64 (f.params.length:Int),.int .i64 (c9.locals:Int),.slice a9 c9.code.length k9]) (t:=168) (fr:=(0,0)) (by simpa using bY w9.drew (gY f.name (f.params.length:Int) (c9.locals:Int) a9 c9.code.length k9))) aA1 aAM aAY aAM VV (w9.heap.size+1) aAQ ?_;intro g3 cap3 w17 sB sA sM hg17;have KZ:=SI.out.added oW UN.out rfl (by rw[M9];exact sB) sA aCb;rw[M9,<-HT16.out] at KZ;have HG17:=zh KZ;have HB17:=zh (HB16.out.grown sA (by have:=HB16.out.size;exact this) (fun k hk=>(SI.out.lt k hk).1));have HS17:Hid (w17.heap[wr.heap.size]? =some (lG f.name f.pub ap f.params.length cp kd ar lr cr f.effects op n sx mx an ln cn aa la ca)/\w17.heap[wr.heap.size+1]? =some (oBx20 av m.vars.length cv a9 c9.code.length k9 (c9.locals:Int))):=zh ⟨by rw[sA.block _ (Array.getElem?_eq_some_iff.1 HSa.out.1).1 (fun e=>by have:=(L1.out.lt _ e.symm).2;omega)];exact HSa.out.1,by rw[sA.block _ (Array.getElem?_eq_some_iff.1 HSa.out.2).1 (fun e=>by have:=(L1.out.lt _ e.symm).2;omega)];exact HSa.out.2⟩;clear sB sA sM hg17 KZ G5;refine hK.out _ _ HS17.out (fun hS=>?_);clear hK K;refine zq 17 (.slice (some ⟨g3,0,none⟩) (q+1) cap3) rfl ?_;(try simp only[zn]);refine wpAnyH_done aAN ?_ _;clear hS;go_wp2_with fail;go_roundw;(case rel=>exact⟨q+1,_,aAM,aAV,HG17,HB17⟩);case measure=>simp[intOf];omega
   have AR:m.funcs.take q=m.funcs:=List.take_of_length_le aAM;rw[AR] at L1;have wP:=L1.out.val;go_wp2_with fail;go_ret;exact⟨_,rfl,by rw[HE.out];exact(L1.out.row oW).moves oW (fun b hb sE=>⟨Nat.le_trans zH hb,fun _ _ h=>h⟩) aAO,xA.out⟩
end Go.Proofs.YtacgopankhpnbaaGreatDoor
namespace Go.Proofs.YtacgopankhpnbaaGreatDoor
theorem choice_loc{yes no:Cmp->Cmp}{M:Nat}(hy:∀c,c.locals<=M->(yes c).locals<=M)(hn:∀c,c.locals<=M->(no c).locals<=M)(c:Cmp)(h:c.locals<=M):(iG yes no c).locals<=M:=hn _ (hy _ h)
theorem fold_loc{f:Cmp->Xp->Cmp}{M:Nat}(hf:∀c x,c.locals<=M->(f c x).locals<=M):∀(args:List Xp)(c:Cmp),c.locals<=M->(args.foldl f c).locals<=M
 |[],_,h=>h
 |x::args,c,h=>fold_loc hf args (f c x) (hf c x h)
theorem compX_loc(vars:List bA):∀(d:Nat)(names:List bA)(x:Xp)(c:Cmp)(M:Nat),c.locals<=M->names.length+d<=M->(bH vars d names x c).locals<=M
 |0,_,_,c,M,h,_=>by simpa[bH] using h
 |d+1,names,.mk op n s m ns args,c,M,h,hM=>by
  have ih:∀(names:List bA)(x:Xp)(c:Cmp),names.length+d<=M->c.locals<=M->(bH vars d names x c).locals<=M:=fun names x c hn h=>compX_loc vars d names x c M h hn;have ihn:∀(x:Xp)(c:Cmp),c.locals<=M->(bH vars d names x c).locals<=M:=fun x c=>ih names x c aAM;rw[fY];generalize bH vars d=F at ih ihn ⊢;split
  ·exact h
  split
  ·exact h
  split
  ·exact h
  split
  ·exact h
  split
  ·split
   ·rename_i x y;exact choice_loc (yes:=F names y) (no:=fun c=>c.put (ins 1 0)) (fun c h=>ihn y c h) (fun c h=>h) _ (ihn x c h)
   exact h
  split
  ·split
   ·rename_i x y;exact choice_loc (yes:=fun c=>c.put (ins 1 1)) (no:=F names y) (fun c h=>h) (fun c h=>ihn y c h) _ (ihn x c h)
   exact h
  split
  ·split
   ·rename_i x y z;exact choice_loc (yes:=F names y) (no:=F names z) (fun c h=>ihn y c h) (fun c h=>ihn z c h) _ (ihn x c h)
   exact h
  split
  ·split
   ·rename_i x y;exact ih (names++[s]) y _ (by rw[List.length_append,List.length_singleton];omega) (Nat.max_le.2 ⟨ihn x c h,aAM⟩)
   exact h
  exact fold_loc (f:=fun c x=>F names x c) (fun c x h=>ihn x c h) args c h
theorem mV(m:Mdl):(kM m).length<=30/\∀c∈kM m,CodSmall c:=by
 unfold kM
 cases hr:rightM m with
 |false=>exact⟨aAQ,fun c hc=>by simp at hc⟩
 |true=>
  rw[if_pos rfl];obtain⟨h8,h30,hp⟩:=rightM_parts hr;refine⟨by rw[List.length_map];exact h30,fun c hc=>?_⟩;obtain⟨f,hf,rfl⟩:=List.mem_map.1 hc;obtain⟨h6,hb,-⟩:=hp f hf;have h1:=iZ (m.vars.map (·.1)) 12 (f.params.map (·.1)) f.body ⟨[],f.params.length⟩ hb;rw[lenB_12] at h1;have h2:=compX_loc (m.vars.map (·.1)) 12 (f.params.map (·.1)) f.body ⟨[],f.params.length⟩ 1000 (by show f.params.length<=1000;omega) (by rw[List.length_map];omega);refine⟨?_,by show f.params.length<=_;omega,?_⟩
  ·show((bH (m.vars.map (·.1)) 12 (f.params.map (·.1)) f.body ⟨[],f.params.length⟩).put (ins 18 0)).code.length<=_;rw[Cmp.put_len];have h0:(⟨[],f.params.length⟩:Cmp).code.length=0:=rfl;omega
  show(bH (m.vars.map (·.1)) 12 (f.params.map (·.1)) f.body ⟨[],f.params.length⟩).locals<=_;omega
end Go.Proofs.YtacgopankhpnbaaGreatDoor
namespace Go.Proofs.YtacgopankhpnbaaGreatDoor
open Go.RowKit
theorem listC_size{l:List Cod}{N:Nat->Prop}{v:Value}{w:World}(hr:aL 4 encCod N w v l)(hsm:∀c∈l,CodSmall c)(hl:l.length<=30):(listC l).size<=140737488355328:=by
 have hf:=row_fit hr hsm;unfold listC;split
 ·rename_i h;have h1:=cods_len l (fun c hc=>⟨hf c hc,List.all_eq_true.1 h c hc⟩);have h2:l.length*1750000000100<=30*1750000000100:=Nat.mul_le_mul_right _ hl;rw[size_toArray];omega
 decide
theorem parseL_nz{s:bA}{x:Int×Int}(h:pF s=.error x):x.2≠0:=by
 unfold pF at h;split at h
 ·rename_i y hy;cases h;exact lexL_nz hy
 rename_i l hl;split at h
 ·rename_i y hy;cases h;exact module_nz _ hy
 cases h
theorem write_compile(b:Nat)(text:bA)(vs clk ord nxt:Value)(u0 u1:Int)(vf:Value)(tn:bA)(sorted:Bool)(w:World)(hG:dL w)(hs:Sbx w b vs clk ord nxt u0 u1)(hsaw:Strs w vs [text])
  (hf:∃a n c,vf=.slice a n c) (ht:text.size<=1000000):
  Calls Tryz.prog 52 #[.pointer (some ⟨b,0,none⟩),nY 5 vf tn sorted] w fun e w'=>
   e=.returned (.tuple #[.string (bC text).2,.int .i64 (bC text).1])/\Sbx w' b vs clk ord nxt u0 u1/\bS b w w'/\(bC text).2.size<=140737488355328:=by
 obtain⟨a,n,c,rfl⟩:=hf;have c0:=hs.cell 0;have uZ:=hs.lt;simp only[List.getElem?_toArray,List.getElem?_cons_zero] at c0;have HS:=zh hs;clear hs;rcases hsaw.cases with⟨h,-⟩|⟨bl,o,c1,rfl,h0,h1,h2,hb,hc⟩
 ·cases h
 have c2:=(hc 0 text rfl).1;simp only[Nat.add_zero,List.length_cons,List.length_nil,Nat.zero_add] at c2 c0 h1 ⊢;have sD:bl<w.heap.size:=hb;have HP:=zh (fun W(hb:Below w.heap.size w W)=>parse_any text W aAM (hG.later hb) (hG.later hb).signs (hG.later hb).spc);have HG:=zh (fun W(hb:Below w.heap.size w W)=>hG.later hb);clear hsaw hc hG hb;go_enter Tryz.func52,Tryz.ntmps52;go_wp2_with fail;refine(HP.out _ (aA _ _)).mono ?_;rintro e w1 ⟨hpv,sF⟩;have sV:=zh (aB (aA _ _) sF);clear sF
 cases hp:pF text with
 |error x=>
  rw[hp] at hpv;have e1:e=.returned (.tuple #[.agg eE,.int .i64 x.1,.int .i64 x.2]):=hpv;subst e1;have HF:Hid (bC text=(x.2,noB)):=zh (by unfold bC;rw[hp]);have e0:(x.2==0)=false:=by rw[Qa];exact parseL_nz hp
  clear hp hpv;dsimp only[eE];go_wp2_with fail;go_ret2;rw[HF.out];exact⟨rfl,HS.out.later (aB sV.out (aA _ _)),bS.of_below (aB sV.out (aA _ _)),(show noB.size<=140737488355328 from aAO)⟩
 |ok m=>
  rw[hp] at hpv;obtain⟨au,nu,du,av,nv,dv,ai,ni,di,af,nf,df,ao,no,do_,aw,nw,dw,ab,nb,db,rfl,hM⟩:=hpv;have HF:Hid (bC text=(0,listC (kM m))):=zh (by unfold bC;rw[hp]);clear hp;have sW:=zh (aB sV.out (aA w1 (oBx9 m.name au nu du av nv dv ai ni di af nf df m.moves ao no do_ aw nw dw ab nb db)));have HC:=zh (compile_any m _ _ _ _ _ _ _ _ _ (HG.out _ sW.out) (encM_ok _ _ _ _ _ _ (bU.later (aA w1 (oBx9 m.name au nu du av nv dv ai ni di af nf df m.moves ao no do_ aw nw dw ab nb db))) hM));have HX:=zh (bY w1 (oBx9 m.name au nu du av nv dv ai ni di af nf df m.moves ao no do_ aw nw dw ab nb db));obtain⟨⟨x0,x1,x2,x3,x4,x5,x6,x7,x8⟩,-⟩:=bx9 HX.out;clear hM;go_wp2_with(go_at_call 86;refine HC.out.mono ?_;rintro e w2 ⟨v,rfl,tF,sD⟩);have wL:=zh (aB sW.out sD);have HL:=zh (list_any (kM m) _ v w2 (HG.out _ wL.out) tF (mV m).1 (mV m).2);have DH:=zh (listC_size tF (mV m).2 (mV m).1);obtain⟨a9,c9,rfl,-⟩:=tF.at;clear tF sD;go_wp2_with(go_at_call 85;refine HL.out.mono ?_;rintro e w3 ⟨rfl,uA⟩);go_ret2;rw[HF.out];exact⟨rfl,HS.out.later (aB wL.out uA),bS.of_below (aB wL.out uA),DH.out⟩
theorem do_far5(s:Stp)(files:List Fil)(clock order:List Int)(vf vl vc vo vn:Value)(u0 u1:Int)(w:World)(h:DoIn s files clock order vf vl vc vo vn u0 u1 w)(h5:s.kind=5):
  Calls Tryz.prog 17 (pR s vf vl vc vo vn u0 u1) w (DoFar w s files u0 u1 (cH bC s files clock order u0 u1)):=by
 by_cases tL:aM s=false\/aT files=false\/min u0 u1<0
 ·have e:cH bC s files clock order u0 u1=.error 1:=by
   unfold cH;rw[if_pos];rcases tL with h|h|h<;>simp[h]
  rw[e];refine(do_arg s files clock order vf vl vc vo vn u0 u1 w h tL).mono ?_;exact Z3
 have yC:aM s=true:=aDb;have yB:aT files=true:=aCD;have zP:¬min u0 u1<0:=fun hh=>tL (.inr (.inr hh))
 have e0:cH bC s files clock order u0 u1=if(aI files s.out).isSome then .error 5 else if 60<=files.length then .error 6
   else match fT files s.src with|none=>.error 4|some saw=>if(bC (saw.headD ByteArray.empty)).1≠0 then .error (bC (saw.headD ByteArray.empty)).1
    else if 65536<(bC (saw.headD ByteArray.empty)).2.size then .error 6 else .ok ((bC (saw.headD ByteArray.empty)).2,saw,u0,u1):=by
  unfold cH;rw[if_neg (by simp[yC,yB,Qb zP])];split
  ·rfl
  split
  ·rfl
  cases fT files s.src with
  |none=>rfl
  |some saw=>simp only[h5,if_true]
 rw[e0]
 cases hf:aI files s.out with
 |some t=>
  simp only[Option.isSome_some,if_true];refine(do_twice s files clock order vf vl vc vo vn u0 u1 w h yC yB zP t hf).mono ?_;exact Z3
 |none=>
  simp only[Option.isSome_none,Bool.false_eq_true,if_false];by_cases yD:60<=files.length
  ·rw[if_pos yD];refine(do_full s files clock order vf vl vc vo vn u0 u1 w h yC yB zP hf yD).mono ?_;exact Z3
  rw[if_neg yD]
  refine do_main s files clock order vf vl vc vo vn u0 u1 w h yC yB zP hf yD _ (fun hs W' hW=>?_)
   (fun saw text err saw' a b=>err=(bC (saw.headD ByteArray.empty)).1/\text=(bC (saw.headD ByteArray.empty)).2/\saw'=saw/\a=u0/\b=u1/\text.size<=140737488355328) (fun saw hs bx vs W K0=>?_) (fun saw hs text err saw' a b hP=>?_)
  ·rw[hs];exact⟨hW,rfl⟩
  ·have MV:∃t,saw=[t]:=by
    obtain⟨hn,hout,hl,hk⟩:=dI K0.hright;have h1:=K0.hlen;have h2:saw.length=1:=aAM;exact List.length_eq_one_iff.1 h2
   obtain⟨t,rfl⟩:=MV;have ht:=K0.htexts t aAQ;(have hvf:∃a n c,vf=.slice a n c:=by obtain⟨a,c,hv,-⟩:=K0.hsrc;exact⟨a,_,c,hv⟩);rw[h5];refine(write_compile bx t vs vc vo vn u0 u1 vf s.out s.sorted W K0.hglob K0.hsbx K0.hsaw.1 hvf aAM).mono ?_;rintro e w' ⟨rfl,h1,h2,h3⟩;exact⟨vs,_,_,[t],_,_,rfl,h1,K0.hsaw.only h2,h2,rfl,rfl,rfl,rfl,rfl,h3⟩
  obtain⟨rfl,rfl,rfl,rfl,rfl,tI⟩:=hP;rw[hs];simp only;refine⟨tI,fun sC W' hW=>?_,fun he tC W' hW=>?_,fun he tC W' vfl vsaw hW h1 h2 h3 h4=>?_⟩
  ·rw[if_pos sC];exact⟨hW,rfl⟩
  ·rw[if_neg (fun hn=>hn he),if_pos tC];exact⟨hW,rfl⟩
  rw[if_neg (fun hn=>hn he),if_neg tC];exact⟨hW,vfl,vsaw,rfl,h1,h2,h3,h4⟩
theorem rS(s:Stp):DoAll bC s:=by
 by_cases h5:s.kind=5
 ·exact fun files clock order vf vl vc vo vn u0 u1 w h=>do_far5 s files clock order vf vl vc vo vn u0 u1 w h h5
 exact doAll_plain h5
end Go.Proofs.YtacgopankhpnbaaGreatDoor
