/- Texts of this seat, joined. -/
import Derived.Test.YtacgopankhpnbaaGreatDoorSAP
set_option maxHeartbeats 16000000
set_option maxRecDepth 100000
set_option linter.unusedVariables false
set_option linter.unusedSimpArgs false
namespace Go.Proofs.YtacgopankhpnbaaGreatDoor
open Go.RowKit
theorem SV{p:Prop}(h:p:=by
 go_wp2_with(go_at_call 151;refine(CT.out _ DM.out).mono ?_;rintro e v2 ⟨rfl,pR⟩;have DA:=zh (aB DM.out pR);have rW:=zh (aF pR MG.out);obtain⟨⟨q20,q21,M9,q23,q24,q25,q26,q27,q28⟩,-⟩:=bx9 rW.out);go_quiet(fail)
 go_wp2_with(go_at_call 148;refine(HFO.out _ (aL DA.out _)).mono ?_;rintro e v3 ⟨rfl,rD⟩;have GE:=zh (aB (aL DA.out _) rD);have CU:=zh (aF rD rW.out);obtain⟨⟨q30,q31,q32,q33,q34,q35,q36,q37,q38⟩,-⟩:=bx9 CU.out)
 cases rw with
 |false=>
  go_at_call 151;refine(D6.out _ GE.out).mono ?_;rintro e v4 ⟨rfl,vG⟩;have M5:=zh (aB GE.out vG);have uC:=zh (aF vG CU.out);obtain⟨⟨q40,q41,q42,q43,q44,q45,q46,q47,q48⟩,-⟩:=bx9 uC.out;go_wp2_with fail;go_ret;exact⟨aD V7,M5.out⟩
 |true=>
  go_at_call 151;refine(D6.out _ GE.out).mono ?_;rintro e v4 ⟨rfl,vG⟩;have M5:=zh (aB GE.out vG);have uC:=zh (aF vG CU.out);obtain⟨⟨q40,q41,q42,q43,q44,q45,q46,q47,q48⟩,-⟩:=bx9 uC.out;go_wp2_with fail;go_wp2_with(go_at_call 151;refine(MH.out _ M5.out).mono ?_;rintro e v5 ⟨rfl,hb5⟩;have HD5:=zh (aB M5.out hb5);have OK:=zh (aF hb5 uC.out);obtain⟨⟨q50,q51,q52,q53,q54,q55,q56,q57,q58⟩,-⟩:=bx9 OK.out);go_ret
  exact⟨aD V7,HD5.out⟩):p:=h
theorem SY{p:Prop}(h:p:=by
 go_wp2_with(first|(at_lookup;refine bI (JV.out.alloc _) s2 HK.out rfl rfl rfl rfl ?_)|(go_at_call 147;refine HS.out.mono ?_;rintro e w5 ⟨rfl,rfl⟩)|(go_at_call 148;refine(HFP.out _ rT.out).mono ?_;rintro e w6 ⟨rfl,sL⟩;have A3:=zh (aB rT.out sL);obtain⟨⟨x0,x1,x2,x3,x4,x5,x6,x7,x8,x9,x10,x11⟩,-⟩:=kQ (aF sL sG.out))|(go_at_call 149;refine(HT.out _ A3.out).mono ?_;rintro e w7 ⟨rfl,vR⟩;have xO:=zh (aB A3.out vR);obtain⟨⟨y0,y1,y2,y3,y4,y5,y6,y7,y8,y9,y10,y11⟩,-⟩:=kQ (aF (aB sL vR) sG.out))|(go_at_call 150;refine(HE.out _ xO.out).mono ?_;rintro e w8 ⟨rfl,sC⟩;have zH:=zh (aB xO.out sC);obtain⟨⟨z0,z1,z2,z3,z4,z5,z6,z7,z8,z9,z10,z11⟩,-⟩:=kQ (aF (aB (aB sL vR) sC) sG.out);have HM8:=zh ((JV.out.alloc (.cells #[.string f.name,.bool f.pub,.slice ap f.params.length cp,.int .i64 kd,.slice ar lr cr,.int .i64 f.effects,.int .i64 op,.int .i64 n,.string sx,.string mx,.slice an ln cn,.slice aa la ca] 179)).later (aB (aB sL vR) sC))));go_ret
 exact⟨aD WG,zH.out⟩):p:=h
theorem TA{p:Prop}(h:p:=by
 go_wp2_with(go_at_call 151;refine(CT.out _ DM.out).mono ?_;rintro e v2 ⟨rfl,pR⟩;have DA:=zh (aB DM.out pR);have rW:=zh (aF pR MG.out);obtain⟨⟨q20,q21,M9,q23,q24,q25,q26,q27,q28⟩,-⟩:=bx9 rW.out);go_quiet(fail)
 go_wp2_with(go_at_call 148;refine(HFO.out _ (aL DA.out _)).mono ?_;rintro e v3 ⟨rfl,rD⟩;have GE:=zh (aB (aL DA.out _) rD);have CU:=zh (aF rD rW.out);obtain⟨⟨q30,q31,q32,q33,q34,q35,q36,q37,q38⟩,-⟩:=bx9 CU.out);go_ret
 exact⟨aD V7,GE.out⟩):p:=h
theorem TQ{p:Prop}(h:p:=by
 go_wp2_with(go_at_call 147;refine HN1.out.mono ?_;rintro e w5 ⟨rfl,rfl⟩);go_ret
 exact⟨aD V7,BI.out⟩):p:=h
theorem TT{p:Prop}(h:p:=by
 clear KI;go_wp2_with(go_at_call 151;refine(CT.out _ DM.out).mono ?_;rintro e v2 ⟨rfl,pR⟩;have DA:=zh (aB DM.out pR);have rW:=zh (aF pR MG.out);obtain⟨⟨q20,q21,M9,q23,q24,q25,q26,q27,q28⟩,-⟩:=bx9 rW.out);go_quiet(fail)
 go_wp2_with fail;go_ret
 exact⟨aD (by rw[HM.out]),aL DA.out _⟩):p:=h
theorem uses_bad'{l:List ByteArray}{k:Nat}{x:ByteArray}{aI:List ByteArray}{r:Bool}(hx:l[k]? =some x)(h:(aI.any fun y=>decide (y=x))=true\/aP x=false)
  (hr:r=fJ (l.drop k) aI):r=false:=by
 obtain⟨hk,rfl⟩:=List.getElem?_eq_some_iff.1 hx;rw[hr,List.drop_eq_getElem_cons hk,fJ];rcases h with h|h<;>simp[h]
theorem uses_good'{l:List ByteArray}{k:Nat}{x:ByteArray}{aI:List ByteArray}{r:Bool}(hx:l[k]? =some x)(h1:(aI.any fun y=>decide (y=x))=false)(h2:aP x=true)
  (hr:r=fJ (l.drop k) aI):r=fJ (l.drop (k+1)) (x::aI):=by
 obtain⟨hk,rfl⟩:=List.getElem?_eq_some_iff.1 hx;rw[hr,List.drop_eq_getElem_cons hk,fJ,h1,h2];rfl
theorem uses_end'{l:List ByteArray}{k:Nat}{aI:List ByteArray}{r:Bool}(hk:l.length<=k)(hr:r=fJ (l.drop k) aI):r=true:=by
 rw[hr,List.drop_of_length_le hk,fJ]
theorem fns_bad{l:List Fnc}{k:Nat}{x:Fnc}{aI:List ByteArray}{r:Bool}(hx:l[k]? =some x)(h:(aI.any fun y=>decide (y=x.name))=true\/aP x.name=false\/nU x=false)
  (hr:r=dU (l.drop k) aI):r=false:=by
 obtain⟨hk,rfl⟩:=List.getElem?_eq_some_iff.1 hx;rw[hr,List.drop_eq_getElem_cons hk,dU];rcases h with h|h|h<;>simp[h]
theorem fns_good{l:List Fnc}{k:Nat}{x:Fnc}{aI:List ByteArray}{r:Bool}(hx:l[k]? =some x)(h1:(aI.any fun y=>decide (y=x.name))=false)(h2:aP x.name=true)(h3:nU x=true)
  (hr:r=dU (l.drop k) aI):r=dU (l.drop (k+1)) (x.name::aI):=by
 obtain⟨hk,rfl⟩:=List.getElem?_eq_some_iff.1 hx;rw[hr,List.drop_eq_getElem_cons hk,dU,h1,h2,h3];rfl
theorem fns_end{l:List Fnc}{k:Nat}{aI:List ByteArray}{r:Bool}(hk:l.length<=k)(hr:r=dU (l.drop k) aI):r=true:=by
 rw[hr,List.drop_of_length_le hk,dU]
theorem rightFn_eq(f:Fnc):nU f=(dQ f.params 6&&bX 4 f.result&&aT 12 f.body&&effOk f.effects):=rfl
theorem modRight_any(m:Mdl)(N:Nat->Prop)(vu vv vi vf vo vw vb:Value)(w:World)(hg:dH w)(hu:aK 1 cK N w vu m.uses)(hv:aK 3 fR N w vv m.vars)(hi:aK 6 bV N w vi m.init)(hf:aK 12 oC N w vf m.funcs)
  (ho:aK 3 fR N w vo m.old) (hw:aK 6 bV N w vw m.forward) (hb:aK 6 bV N w vb m.back) (hn:m.name.size<=8000):
  Calls Tryz.prog 113 #[.agg #[.string m.name,vu,vv,vi,vf,.bool m.moves,vo,vw,vb]] w fun e w'=>e=.returned (.bool (rightM m))/\Below w.heap.size w w':=by
 have HG:=zh (fun W(hb:Below w.heap.size w W)=>hg.later hb);have HM:Hid (rightM m=(fJ m.uses []&&dU m.funcs []&&aP m.name&&decide (m.uses.length<=12)&&decide (m.funcs.length<=30)&&dQ m.vars 8&&fD m.init m.vars.length&&(m.moves||decide (m.old.length=0))&&dQ m.old 8&&fD m.forward (if m.moves then m.vars.length else 0)&&fD m.back m.old.length)):=zh rfl;generalize rightM m=res at HM ⊢;obtain⟨au,cu,rfl,lu1,lu2,hcu⟩:=hu.at;obtain⟨af,cf,rfl,lf1,lf2,N6⟩:=hf.at;have HFV:=zh (fun W(h:Below w.heap.size w W)=>lX m.vars 8 N vv W VI (HG.out W h) (hv.moves aV (bM.later h) VI));have HFO:=zh (fun W(h:Below w.heap.size w W)=>lX m.old 8 N vo W VI (HG.out W h) (ho.moves aV (bM.later h) VI));have HXI:=zh (fun k W(hk:k<=1000)(h:Below w.heap.size w W)=>oI mF m.init k N vi W hk (HG.out W h) (hi.moves aG (bM.later h) VI));have HXW:=zh (fun k W(hk:k<=1000)(h:Below w.heap.size w W)=>oI mF m.forward k N vw W hk (HG.out W h) (hw.moves aG (bM.later h) VI));have HXB:=zh (fun k W(hk:k<=1000)(h:Below w.heap.size w W)=>oI mF m.back k N vb W hk (HG.out W h) (hb.moves aG (bM.later h) VI));obtain⟨av,cv,rfl,lv1,lv2,-⟩:=hv.at;obtain⟨ai,ci,rfl,li1,li2,-⟩:=hi.at;obtain⟨ao,co,rfl,lo1,lo2,-⟩:=ho.at;obtain⟨aw,cw,rfl,lw1,lw2,-⟩:=hw.at;obtain⟨ab,cb,rfl,lb1,lb2,-⟩:=hb.at;have HCU:=zh hcu;have KV:=zh N6;have EK:=zh (fun W(h:Below w.heap.size w W)=>dX m.name W VG (HG.out W h));have DN:=zh (heap_alloc_new w (.cells #[.string m.name,.slice au m.uses.length cu,.slice av m.vars.length cv,.slice ai m.init.length ci,.slice af m.funcs.length cf,.bool m.moves,.slice ao m.old.length co,.slice aw m.forward.length cw,.slice ab m.back.length cb] 132));have qQ:=zh (aA w (.cells #[.string m.name,.slice au m.uses.length cu,.slice av m.vars.length cv,.slice ai m.init.length ci,.slice af m.funcs.length cf,.bool m.moves,.slice ao m.old.length co,.slice aw m.forward.length cw,.slice ab m.back.length cb] 132));have vZ:=@run_makeMap Tryz.prog;clear hg hu hv hi hf ho hw hb hcu N6;go_enter Tryz.func113,Tryz.ntmps113;go_wp2_with fail;go_loopw [15] (fun iv wr=>∃(q:Nat)(aI:List ByteArray),q<=m.uses.length/\iv=.int .i64 (q:Int)/\Hid (Below (w.alloc (.cells #[.string m.name,.slice au m.uses.length cu,.slice av m.vars.length cv,.slice ai m.init.length ci,.slice af m.funcs.length cf,.bool m.moves,.slice ao m.old.length co,.slice aw m.forward.length cw,.slice ab m.back.length cb] 132)).heap.size (w.alloc (.cells #[.string m.name,.slice au m.uses.length cu,.slice av m.vars.length cv,.slice ai m.init.length ci,.slice af m.funcs.length cf,.bool m.moves,.slice ao m.old.length co,.slice aw m.forward.length cw,.slice ab m.back.length cb] 132)) wr)/\Hid (fJ m.uses []=fJ (m.uses.drop q) aI)/\Hid (aW eI dD wr (w.heap.size+1) q (lS aI))) (fun iv _=>m.uses.length-(intOf iv).toNat)
 case atStart=>exact⟨0,[],Nat.zero_le _,rfl,zh (aA _ _),zh rfl,zh (by have h:=(aW.made (K:=eI) (V:=dD) (w.alloc (.cells #[.string m.name,.slice au m.uses.length cu,.slice av m.vars.length cv,.slice ai m.init.length ci,.slice af m.funcs.length cf,.bool m.moves,.slice ao m.old.length co,.slice aw m.forward.length cw,.slice ab m.back.length cb] 132))).ext (m':=lS []) (fun _=>rfl);simpa using h)⟩
 case round=>
  obtain⟨q,aI,hq,rfl,HB,pZ,R0⟩:=hrel;rename World=>wr
  have sA:=zh (aB qQ.out HB.out);obtain⟨⟨t0,t1,t2,t3,t4,t5,t6,t7,t8⟩,-⟩:=bx9 (aF HB.out DN.out);have hb9':(w.alloc (.cells #[.string m.name,.slice au m.uses.length cu,.slice av m.vars.length cv,.slice ai m.init.length ci,.slice af m.funcs.length cf,.bool m.moves,.slice ao m.old.length co,.slice aw m.forward.length cw,.slice ab m.back.length cb] 132)).heap.size=w.heap.size+1:=VL;by_cases pT:q<m.uses.length
  ·obtain⟨x,hx,-⟩:=getElem?_of_lt pT;obtain⟨b,o,rfl,-,cs,⟨rfl,s1⟩,-,hj⟩:=HCU.out q x hx;have p0:wr.cell? ⟨b,o+q,none⟩=some (.string x):=aC sA.out XH;have HX:=zh hx;have HK:=zh (kX aI x);have HS:=zh (dX x wr s1 (HG.out _ sA.out));clear hj hx vZ;generalize yV:(aI.any fun y=>decide (y=x))=r1 at HK;generalize DR:aP x=r2 at HS;have OI:=zh yV;have OH:=zh DR;clear yV DR
   cases r1 with
   |true=>
    have HF:Hid (res=false):=zh (by rw[HM.out,uses_bad' HX.out (.inl OI.out) pZ.out];simp);go_wp2_with(at_lookup;refine bI R0.out s1 HK.out rfl rfl rfl rfl ?_);go_ret;exact⟨aD WG,sA.out⟩
   |false=>
    cases r2 with
    |false=>
     have HF:Hid (res=false):=zh (by rw[HM.out,uses_bad' HX.out (.inr OH.out) pZ.out];simp);go_wp2_with(first|(at_lookup;refine bI R0.out s1 HK.out rfl rfl rfl rfl ?_)|(go_at_call 147;refine HS.out.mono ?_;rintro e w5 ⟨rfl,rfl⟩));go_ret;exact⟨aD WG,sA.out⟩
    |true=>
     have uO:=zh (uses_good' HX.out OI.out OH.out pZ.out);have uN:=HB.out.size;go_wp2_with(first|(at_lookup;refine bI R0.out s1 HK.out rfl rfl rfl rfl ?_)|(go_at_call 147;refine HS.out.mono ?_;rintro e w5 ⟨rfl,rfl⟩)|(at_mapUpdate;refine jV R0.out VG s1 rfl rfl rfl rfl rfl ?_;intro w3 hm3 KN));go_roundw;(case rel=>exact⟨q+1,x::aI,VG,VT,zh (HB.out.grown KN uN (fun i hi=>by cases hi;omega)),uO,zh (hm3.ext (fun z=>congrFun (mM aI x) z))⟩);case measure=>simp[intOf];omega
  ·have HU:Hid (fJ m.uses []=true):=zh (uses_end' VG pZ.out);rw[HU.out,Bool.true_and] at HM;have hwr:=HB.out.size;have PB:(w.alloc (.cells #[.string m.name,.slice au m.uses.length cu,.slice av m.vars.length cv,.slice ai m.init.length ci,.slice af m.funcs.length cf,.bool m.moves,.slice ao m.old.length co,.slice aw m.forward.length cw,.slice ab m.back.length cb] 132)).heap.size=w.heap.size+1:=VL;have hlt0:w.heap.size<wr.heap.size:=VG;have HwM:=zh (aA wr (.map #[] 0));clear pZ R0 HCU;go_wp2_with fail;clear vZ;clear t0 t1 t2 t3 t4 t5 t6 t7 t8;(go_loopw [34] (fun iv wz=>∃(z:Nat)(aI:List ByteArray),z<=m.funcs.length/\iv=.int .i64 (z:Int)/\Hid (Below wr.heap.size wr wz)/\Hid (dU m.funcs []=dU (m.funcs.drop z) aI)/\Hid (aW eI dD wz wr.heap.size z (lS aI))) (fun iv _=>m.funcs.length-(intOf iv).toNat));case atStart=>exact⟨0,[],Nat.zero_le _,rfl,HwM,zh rfl,zh ((aW.made wr).ext (fun _=>rfl))⟩
   case round=>
    obtain⟨z,kn,hz,rfl,qV,F4,JV⟩:=hrel;(rename World=>wz);have GG:=zh (aB HB.out qV.out);have BI:=zh (aB qQ.out GG.out);obtain⟨⟨t0,t1,t2,t3,t4,t5,t6,t7,t8⟩,-⟩:=bx9 (aF GG.out DN.out);by_cases IJ:z<m.funcs.length
    ·obtain⟨f,hx,-⟩:=getElem?_of_lt IJ;obtain⟨b,o,rfl,-,cs,IU,-,hj⟩:=KV.out z f hx;obtain⟨vp,kd,vr,op,n,sx,mx,vn,va,rfl,s1,hp,ht,he⟩:=IU;have HFP:=zh (fun W(h:Below w.heap.size w W)=>lX f.params 6 N vp W VI (HG.out W h) (hp.moves aV (bM.later h) VI));have HT:=zh (fun W(h:Below w.heap.size w W)=>RightType_any rightType_any f.result N kd vr W (HG.out W h) (eS _ _ _ _ _ _ (bM.later h) ht));have HE:=zh (fun W(h:Below w.heap.size w W)=>RightExp_any mF f.body N op n sx mx vn va W (HG.out W h) (aG _ _ _ _ _ _ (bM.later h) he));obtain⟨ap,cp,rfl,-⟩:=hp.at;obtain⟨ar,lr,cr,rfl⟩:=encT_slice ht;obtain⟨⟨an,ln,cn,rfl⟩,aa,la,ca,rfl⟩:=kP he;have c0:wz.cell? ⟨b,o+z*12,none⟩=some (.string f.name):=aC BI.out (hj 0 _ rfl);have c1:=aC BI.out (hj 1 _ rfl);have c2:=aC BI.out (hj 2 _ rfl);have c3:=aC BI.out (hj 3 _ rfl);have c4:=aC BI.out (hj 4 _ rfl);have c5:=aC BI.out (hj 5 _ rfl);have c6:=aC BI.out (hj 6 _ rfl);have c7:=aC BI.out (hj 7 _ rfl);have c8:=aC BI.out (hj 8 _ rfl);have c9:=aC BI.out (hj 9 _ rfl);have yR:=aC BI.out (hj 10 _ rfl);have yQ:=aC BI.out (hj 11 _ rfl);have s2:f.name.size<=140737488355328:=VG;have HX:=zh hx;have HK:=zh (kX kn f.name);have rT:=zh (aB BI.out (aA wz (.cells #[.string f.name,.bool f.pub,.slice ap f.params.length cp,.int .i64 kd,.slice ar lr cr,.int .i64 f.effects,.int .i64 op,.int .i64 n,.string sx,.string mx,.slice an ln cn,.slice aa la ca] 179)));have sG:=zh (heap_alloc_new wz (.cells #[.string f.name,.bool f.pub,.slice ap f.params.length cp,.int .i64 kd,.slice ar lr cr,.int .i64 f.effects,.int .i64 op,.int .i64 n,.string sx,.string mx,.slice an ln cn,.slice aa la ca] 179));have HS:=zh (dX f.name _ s2 (HG.out _ rT.out));have HR:=zh (rightFn_eq f);clear hj hx hp ht he KV;generalize yV:(kn.any fun y=>decide (y=f.name))=r1 at HK;generalize DR:aP f.name=r2 at HS;generalize dQ f.params 6=r3 at HFP HR;generalize bX 4 f.result=r4 at HT HR;generalize aT 12 f.body=r5 at HE HR;have HEf:Hid (effOk f.effects=decide (Go.bits .andNot .i64 f.effects 15=0)):=zh rfl;have OI:=zh yV;have OH:=zh DR;clear yV DR
     cases r1 with
     |true=>
      have HF:Hid (res=false):=zh (by rw[HM.out,fns_bad HX.out (.inl OI.out) F4.out];simp);go_wp2_with(at_lookup;refine bI (JV.out.alloc _) s2 HK.out rfl rfl rfl rfl ?_);exact U6
     |false=>
      cases r2 with
      |false=>
       have HF:Hid (res=false):=zh (by rw[HM.out,fns_bad HX.out (.inr (.inl OH.out)) F4.out];simp);go_wp2_with(first|(at_lookup;refine bI (JV.out.alloc _) s2 HK.out rfl rfl rfl rfl ?_)|(go_at_call 147;refine HS.out.mono ?_;rintro e w5 ⟨rfl,rfl⟩));exact U6
      |true=>
       cases r3 with
       |false=>
        have HF:Hid (res=false):=zh WU;go_wp2_with(first|(at_lookup;refine bI (JV.out.alloc _) s2 HK.out rfl rfl rfl rfl ?_)|(go_at_call 147;refine HS.out.mono ?_;rintro e w5 ⟨rfl,rfl⟩)|(go_at_call 148;refine(HFP.out _ rT.out).mono ?_;rintro e w6 ⟨rfl,sL⟩;have A3:=zh (aB rT.out sL);obtain⟨⟨x0,x1,x2,x3,x4,x5,x6,x7,x8,x9,x10,x11⟩,-⟩:=kQ (aF sL sG.out)));go_ret;exact⟨aD WG,A3.out⟩
       |true=>
        cases r4 with
        |false=>
         have HF:Hid (res=false):=zh WU;go_wp2_with(first|(at_lookup;refine bI (JV.out.alloc _) s2 HK.out rfl rfl rfl rfl ?_)|(go_at_call 147;refine HS.out.mono ?_;rintro e w5 ⟨rfl,rfl⟩)|(go_at_call 148;refine(HFP.out _ rT.out).mono ?_;rintro e w6 ⟨rfl,sL⟩;have A3:=zh (aB rT.out sL);obtain⟨⟨x0,x1,x2,x3,x4,x5,x6,x7,x8,x9,x10,x11⟩,-⟩:=kQ (aF sL sG.out))|(go_at_call 149;refine(HT.out _ A3.out).mono ?_;rintro e w7 ⟨rfl,vR⟩;have xO:=zh (aB A3.out vR);obtain⟨⟨y0,y1,y2,y3,y4,y5,y6,y7,y8,y9,y10,y11⟩,-⟩:=kQ (aF (aB sL vR) sG.out)));go_ret;exact⟨aD WG,xO.out⟩
        |true=>
         cases r5 with
         |false=>
          have HF:Hid (res=false):=zh WU;exact SY
         |true=>
          by_cases GQ:Go.bits .andNot .i64 f.effects 15=0
          ·(have hef':(Go.bits .andNot .i64 f.effects 15 != 0)=false:=by rw[bne_eq_false_iff_eq];exact GQ);have uO:=zh (fns_good HX.out OI.out OH.out (by rw[HR.out,HEf.out,decide_eq_true GQ];rfl) F4.out);have uN:=qV.out.size;clear GQ;go_wp2_with(first|(at_lookup;refine bI (JV.out.alloc _) s2 HK.out rfl rfl rfl rfl ?_)|(go_at_call 147;refine HS.out.mono ?_;rintro e w5 ⟨rfl,rfl⟩)|(go_at_call 148;refine(HFP.out _ rT.out).mono ?_;rintro e w6 ⟨rfl,sL⟩;have A3:=zh (aB rT.out sL);obtain⟨⟨x0,x1,x2,x3,x4,x5,x6,x7,x8,x9,x10,x11⟩,-⟩:=kQ (aF sL sG.out))|(go_at_call 149;refine(HT.out _ A3.out).mono ?_;rintro e w7 ⟨rfl,vR⟩;have xO:=zh (aB A3.out vR);obtain⟨⟨y0,y1,y2,y3,y4,y5,y6,y7,y8,y9,y10,y11⟩,-⟩:=kQ (aF (aB sL vR) sG.out))|(go_at_call 150;refine(HE.out _ xO.out).mono ?_;rintro e w8 ⟨rfl,sC⟩;have zH:=zh (aB xO.out sC);obtain⟨⟨z0,z1,z2,z3,z4,z5,z6,z7,z8,z9,z10,z11⟩,-⟩:=kQ (aF (aB (aB sL vR) sC) sG.out);have HM8:=zh ((JV.out.alloc (.cells #[.string f.name,.bool f.pub,.slice ap f.params.length cp,.int .i64 kd,.slice ar lr cr,.int .i64 f.effects,.int .i64 op,.int .i64 n,.string sx,.string mx,.slice an ln cn,.slice aa la ca] 179)).later (aB (aB sL vR) sC)))|(at_mapUpdate;refine jV HM8.out VG s2 rfl rfl rfl rfl rfl ?_;intro w9 hm9 hg9));go_roundw;(case rel=>exact⟨z+1,f.name::kn,VG,VT,zh ((aB qV.out (aB (aA _ _) (aB (aB sL vR) sC))).grown hg9 (by have:=(aB qV.out (aB (aA wz (.cells #[.string f.name,.bool f.pub,.slice ap f.params.length cp,.int .i64 kd,.slice ar lr cr,.int .i64 f.effects,.int .i64 op,.int .i64 n,.string sx,.string mx,.slice an ln cn,.slice aa la ca] 179)) (aB (aB sL vR) sC))).size;exact this) (fun i hi=>by cases hi;exact Nat.le_refl _)),uO,zh (hm9.ext (fun z=>congrFun (mM kn f.name) z))⟩);case measure=>simp[intOf];omega
          ·(have hef':(Go.bits .andNot .i64 f.effects 15 != 0)=true:=by rw[bne_iff_ne];exact GQ);(have rH:nU f=false:=by rw[HR.out,HEf.out,decide_eq_false GQ];simp);clear GQ;have HF:Hid (res=false):=zh (by rw[HM.out,fns_bad HX.out (.inr (.inr rH)) F4.out];simp);exact SY
    ·have HF2:Hid (dU m.funcs []=true):=zh (fns_end VG F4.out);rw[HF2.out,Bool.true_and] at HM;clear F4 JV KV HU HF2;have HD0:=BI;have wI:=zh (aF GG.out DN.out);have HN1:=zh (EK.out _ BI.out);generalize xA:aP m.name=rn at HM HN1;clear xA EK
     cases rn with
     |false=>
      exact TQ
     |true=>
      by_cases CR:m.uses.length<=12
      ·by_cases h30:m.funcs.length<=30
       ·rw[decide_eq_true CR,decide_eq_true h30] at HM;have g12:¬(12:Int)<(m.uses.length:Int):=VG;have g30:¬(30:Int)<(m.funcs.length:Int):=VG;clear CR h30;simp only[Bool.true_and] at HM;go_wp2_with(go_at_call 147;refine HN1.out.mono ?_;rintro e w5 ⟨rfl,rfl⟩);generalize hrv:dQ m.vars 8=rv at HM HFV
        cases rv with
        |false=>
         clear hrv;go_wp2_with(go_at_call 148;refine(HFV.out _ HD0.out).mono ?_;rintro e v1 ⟨rfl,pS⟩;have DM:=zh (aB HD0.out pS);have D9:=zh (aF pS wI.out);obtain⟨⟨q10,q11,q12,q13,q14,q15,q16,q17,q18⟩,-⟩:=bx9 D9.out);go_ret;exact⟨aD V7,DM.out⟩
        |true=>
         (have BB:m.vars.length<=1000:=by unfold dQ at hrv;simp at hrv;omega);clear hrv;have CT:=zh (fun W hb=>HXI.out m.vars.length W BB hb);generalize fD m.init m.vars.length=ri at HM CT;simp only[Bool.true_and] at HM;go_wp2_with(go_at_call 148;refine(HFV.out _ HD0.out).mono ?_;rintro e v1 ⟨rfl,pS⟩;have DM:=zh (aB HD0.out pS);have D9:=zh (aF pS wI.out);obtain⟨⟨q10,q11,q12,q13,q14,q15,q16,q17,q18⟩,-⟩:=bx9 D9.out)
         cases ri with
         |false=>
          go_wp2_with(go_at_call 151;refine(CT.out _ DM.out).mono ?_;rintro e v2 ⟨rfl,pR⟩;have DA:=zh (aB DM.out pR);have rW:=zh (aF pR D9.out);obtain⟨⟨q20,q21,M9,q23,q24,q25,q26,q27,q28⟩,-⟩:=bx9 rW.out);go_ret;exact⟨aD V7,DA.out⟩
         |true=>
          simp only[Bool.true_and] at HM;(have AG:∀k,dQ m.old 8=true->k=m.old.length->k<=1000:=fun k h e=>by subst e;unfold dQ at h;simp at h;omega);by_cases KH:dQ m.old 8=true
          ·have hk3':m.old.length<=1000:=AG _ KH rfl;have MH:=zh (fun W hb=>HXB.out m.old.length W hk3' hb);have HRO:=zh KH;rw[KH] at HM HFO;clear AG KH hk3'
           cases IF:m.moves with
           |true=>
            rw[IF] at HM;have R1:=zh IF;clear IF;simp only[if_true,Bool.true_or,Bool.and_true,Bool.true_and] at HM;have D6:=zh (fun W hb=>HXW.out m.vars.length W BB hb);generalize fD m.forward m.vars.length=rw at HM D6;generalize fD m.back m.old.length=rb at HM MH;have MG:Hid (v1.heap[w.heap.size]? =some (.cells #[.string m.name,.slice au m.uses.length cu,.slice av m.vars.length cv,.slice ai m.init.length ci,.slice af m.funcs.length cf,.bool true,.slice ao m.old.length co,.slice aw m.forward.length cw,.slice ab m.back.length cb] 132)):=zh W6;exact SV
           |false=>
            rw[IF] at HM;have R1:=zh IF;clear IF;simp only[Bool.false_eq_true,if_false,Bool.false_or,Bool.true_and] at HM;have MG:Hid (v1.heap[w.heap.size]? =some (.cells #[.string m.name,.slice au m.uses.length cu,.slice av m.vars.length cv,.slice ai m.init.length ci,.slice af m.funcs.length cf,.bool false,.slice ao m.old.length co,.slice aw m.forward.length cw,.slice ab m.back.length cb] 132)):=zh W6;by_cases KI:m.old.length=0
            ·rw[decide_eq_true KI] at HM;simp only[Bool.true_and] at HM;have hol0:¬(0:Int)<(m.old.length:Int):=VG;clear KI;have D6:Hid (∀W,Below w.heap.size w W->Calls Tryz.prog 151 #[.slice aw m.forward.length cw,.int .i64 0] W fun e w'=>e=.returned (.bool (fD m.forward 0))/\Below W.heap.size W w'):=zh (fun W hb=>HXW.out 0 W VI hb);generalize fD m.forward 0=rw at HM D6;generalize fD m.back m.old.length=rb at HM MH;exact SV
            ·have hol1:(0:Int)<(m.old.length:Int):=VG;rw[decide_eq_false KI] at HM;simp only[Bool.false_and] at HM;exact TT
          ·(have hro2:dQ m.old 8=false:=by simpa using KH);rw[hro2] at HM HFO;clear AG KH hro2;simp only[Bool.and_false,Bool.false_and] at HM
           cases IF:m.moves with
           |true=>
            have R1:=zh IF;clear IF;have MG:Hid (v1.heap[w.heap.size]? =some (.cells #[.string m.name,.slice au m.uses.length cu,.slice av m.vars.length cv,.slice ai m.init.length ci,.slice af m.funcs.length cf,.bool true,.slice ao m.old.length co,.slice aw m.forward.length cw,.slice ab m.back.length cb] 132)):=zh W6;exact TA
           |false=>
            have R1:=zh IF;clear IF;have MG:Hid (v1.heap[w.heap.size]? =some (.cells #[.string m.name,.slice au m.uses.length cu,.slice av m.vars.length cv,.slice ai m.init.length ci,.slice af m.funcs.length cf,.bool false,.slice ao m.old.length co,.slice aw m.forward.length cw,.slice ab m.back.length cb] 132)):=zh W6;by_cases KI:m.old.length=0
            ·have hol0:¬(0:Int)<(m.old.length:Int):=VG;clear KI;exact TA
            ·have hol1:(0:Int)<(m.old.length:Int):=VG;exact TT
       ·rw[decide_eq_false h30] at HM;have g12:¬(12:Int)<(m.uses.length:Int):=VG;have g30:(30:Int)<(m.funcs.length:Int):=VG;clear CR h30;exact TQ
      ·rw[decide_eq_false CR] at HM;have g12:(12:Int)<(m.uses.length:Int):=VG;clear CR;exact TQ
theorem cexp_all:∀d,ExpAt d
 |0=>fun x B cb vars vv v c css names vns op n s m vn va w hr=>by simp[aT] at hr
 |d+1=>by
  have HX:=cexp_all d;intro x B cb vars vv v c css names vns op n s m vn va w hr h hlen xA tR he
  cases x with
  |mk op' n' s' m' ns args=>
   have xY:=he;rw[aZ] at xY;obtain⟨v1,v2,e,-⟩:=xY;simp only[List.cons.injEq,Value.int.injEq,Value.string.injEq,and_true,true_and] at e;obtain⟨e1,e2,e3,e4,-,-⟩:=e;subst e1 e2 e3 e4;by_cases h0:op=0
   ·subst h0;exact exp_0 HX n s m ns args hr h hlen xA tR he
   by_cases h1:op=1
   ·subst h1;exact exp_1 HX n s m ns args hr h hlen xA tR he
   by_cases h2:op=2
   ·subst h2;exact exp_2 HX n s m ns args hr h hlen xA tR he
   by_cases h17:op=17
   ·subst h17;exact exp_17 HX n s m ns args hr h hlen xA tR he
   by_cases h8:op=8
   ·exact exp_89 HX op (.inl h8) n s m ns args hr h hlen xA tR he
   by_cases h9:op=9
   ·exact exp_89 HX op (.inr h9) n s m ns args hr h hlen xA tR he
   by_cases h11:op=11
   ·subst h11;exact exp_11 HX n s m ns args hr h hlen xA tR he
   by_cases CR:op=12
   ·subst CR;exact exp_12 HX n s m ns args hr h hlen xA tR he
   exact exp_else HX op ⟨h0,h1,h2,h17,h8,h9,h11,CR⟩ n s m ns args hr h hlen xA tR he
theorem rightFuncs_all:∀{l:List Fnc}{aI:List ByteArray},dU l aI=true->∀f∈l,nU f=true/\aP f.name=true
 |[],_,_,f,h=>YD
 |x::r,aI,h,f,hf=>by
  rw[dU] at h;split at h
  ·cases h
  ·rename_i hh;simp only[Bool.or_eq_true,not_or,Bool.not_eq_true',Bool.not_eq_true,Bool.not_eq_false] at hh;rcases List.mem_cons.1 hf with rfl|hf
   ·refine⟨?_,?_⟩
    ·cases hr:nU f with
     |true=>rfl
     |false=>rw[hr] at hh;simp at hh
    ·cases hr:aP f.name with
     |true=>rfl
     |false=>rw[hr] at hh;simp at hh
   ·exact rightFuncs_all h f hf
theorem rightM_parts{m:Mdl}(h:rightM m=true):m.vars.length<=8/\m.funcs.length<=30/\∀f∈m.funcs,f.params.length<=6/\aT 12 f.body=true/\aP f.name=true:=by
 unfold rightM at h;simp only[Bool.and_eq_true,decide_eq_true_eq] at h;obtain⟨⟨⟨⟨⟨⟨⟨⟨⟨⟨-,h2⟩,-⟩,-⟩,h5⟩,h6⟩,-⟩,-⟩,-⟩,-⟩,-⟩:=h;unfold dQ at h6;simp only[Bool.and_eq_true,decide_eq_true_eq] at h6;refine⟨h6.2,h5,fun f hf=>?_⟩;obtain⟨h7,h8⟩:=rightFuncs_all h2 f hf;unfold nU dQ at h7;simp only[Bool.and_eq_true,decide_eq_true_eq] at h7;exact⟨h7.1.1.1.2,h7.1.2,h8⟩
theorem compile_any(m:Mdl)(N:Nat->Prop)(vu vv vi vf vo vw vb:Value)(w:World)(hg:dH w)(hM:encM N w m [.string m.name,vu,vv,vi,vf,.bool m.moves,vo,vw,vb]):
  Calls Tryz.prog 86 #[.agg #[.string m.name,vu,vv,vi,vf,.bool m.moves,vo,vw,vb]] w fun e w'=>∃v,e=.returned v/\aK 4 encCod (bD w.heap.size) w' v (jH m)/\Below w.heap.size w w':=by
 obtain⟨x1,x2,x3,x4,x5,x6,x7,hMe,hn,hu,hv,hi,hf,ho,hw,hb⟩:=hM;cases hMe;have qQ:=zh (aA w (.cells #[.string m.name,vu,vv,vi,vf,.bool m.moves,vo,vw,vb] 132));have F6:=zh (modRight_any m N vu vv vi vf vo vw vb _ (hg.later qQ.out) (hu.moves aQ (bM.later qQ.out) VI) (hv.moves aV (bM.later qQ.out) VI) (hi.moves aG (bM.later qQ.out) VI) (hf.moves cD (bM.later qQ.out) VI) (ho.moves aV (bM.later qQ.out) VI) (hw.moves aG (bM.later qQ.out) VI) (hb.moves aG (bM.later qQ.out) VI) hn);have HVR:=zh hv;obtain⟨au,cu,rfl,-⟩:=hu.at;obtain⟨av,cv,rfl,lv1,lv2,-⟩:=hv.at;obtain⟨ai,ci,rfl,-⟩:=hi.at;obtain⟨af,cf,rfl,lf1,lf2,N6⟩:=hf.at;obtain⟨ao,co,rfl,-⟩:=ho.at;obtain⟨aw,cw,rfl,-⟩:=hw.at;obtain⟨ab,cb0,rfl,-⟩:=hb.at;have KV:=zh N6;have HG:=zh (fun W(hb:Below w.heap.size w W)=>hg.later hb);have h11:=hg.big;generalize m.uses.length=nu at *;generalize m.init.length=ni at *;generalize m.old.length=no at *;generalize m.forward.length=nw at *;generalize m.back.length=nb at *;have DN:=zh (heap_alloc_new w (.cells #[.string m.name,.slice au nu cu,.slice av m.vars.length cv,.slice ai ni ci,.slice af m.funcs.length cf,.bool m.moves,.slice ao no co,.slice aw nw cw,.slice ab nb cb0] 132));clear hu hi hf ho hw hb N6 hv hg
 cases PJ:rightM m with
 |false=>
  rw[PJ] at F6;have HE:Hid (jH m=[]):=zh (by unfold jH;rw[PJ];rfl);clear PJ;go_enter Tryz.func86,Tryz.ntmps86;go_wp2_with(go_at_call 113;refine F6.out.mono ?_;rintro e w1 ⟨rfl,pS⟩);go_ret;exact⟨_,rfl,by rw[HE.out];exact aK.nil _ _ _ _,aB qQ.out pS⟩
 |true=>
  rw[PJ] at F6;have HE:Hid (jH m=m.funcs.map (compF (m.vars.map (·.1)))):=zh (by unfold jH;rw[PJ];rfl);obtain⟨hv8,hf30,HPt⟩:=rightM_parts PJ;have HP:=zh HPt;obtain⟨i0,tF,rS,qI,qH⟩:=info_parts codInfo;obtain⟨i1,B8,BM,BL,AA⟩:=info_parts strInfo;clear PJ HPt;go_enter Tryz.func86,Tryz.ntmps86;go_wp2_with(go_at_call 113;refine F6.out.mono ?_;rintro e w1 ⟨rfl,pS⟩;obtain⟨⟨s0,s1,s2,s3,s4,s5,s6,s7,s8⟩,-⟩:=bx9 (aF pS DN.out);have HBa:=zh (aB qQ.out pS);have HBx1:=zh (aF pS DN.out));clear s0 s1 s2 s3 s4 s5 s6 s7 s8;have hw1:=HBa.out.size;go_loopw [3,16] (fun ov iv wr=>∃(q:Nat)(css:List (List Value)),q<=m.funcs.length/\iv=.int .i64 (q:Int)/\Hid (Gro 4 168 encCod w1.heap.size ((m.funcs.take q).map (compF (m.vars.map (·.1)))) css ov wr)/\Hid (Below w1.heap.size w1 wr)) (fun _ iv _=>m.funcs.length-(intOf iv).toNat)
  case atStart=>exact⟨0,[],Nat.zero_le _,rfl,zh (Gro.first_at _ _ _ (Nat.le_refl _)),zh (Below.refl _ _)⟩
  case round=>
   obtain⟨q,css,hq,rfl,GV,HB⟩:=hrel;(rename World=>wr);have uR:=zh (aB HBa.out HB.out);have hwr:=uR.out.size;obtain⟨⟨t0,t1,t2,t3,t4,t5,t6,t7,t8⟩,-⟩:=bx9 (aF HB.out HBx1.out);by_cases pT:q<m.funcs.length
   ·obtain⟨f,hx,tU⟩:=getElem?_of_lt pT;obtain⟨b,o,rfl,hNb,cs,IU,-,hj⟩:=KV.out q f hx;obtain⟨vp,kd,vr,op,n,sx,mx,vn,va,rfl,hsz0,hp,ht,he⟩:=IU;obtain⟨hp6,N8,sT⟩:=HP.out f tU;obtain⟨ap,cp,rfl,lp1,lp2,hcp⟩:=hp.at;have HCP:=zh hcp;have HEX:=zh he;obtain⟨ar,lr,cr,rfl⟩:=encT_slice ht;obtain⟨⟨an,ln,cn,rfl⟩,aa,la,ca,rfl⟩:=kP he;have HBD:=zh N8;have c0:wr.cell? ⟨b,o+q*12,none⟩=some (.string f.name):=aC uR.out (hj 0 _ rfl);have c1:=aC uR.out (hj 1 _ rfl);have c2:=aC uR.out (hj 2 _ rfl);have c3:=aC uR.out (hj 3 _ rfl);have c4:=aC uR.out (hj 4 _ rfl);have c5:=aC uR.out (hj 5 _ rfl);have c6:=aC uR.out (hj 6 _ rfl);have c7:=aC uR.out (hj 7 _ rfl);have c8:=aC uR.out (hj 8 _ rfl);have c9:=aC uR.out (hj 9 _ rfl);have yR:=aC uR.out (hj 10 _ rfl);have yQ:=aC uR.out (hj 11 _ rfl);have D1:b<w.heap.size:=cU (hj 0 _ rfl);have HFx:=zh (heap_alloc_new wr (.cells #[.string f.name,.bool f.pub,.slice ap f.params.length cp,.int .i64 kd,.slice ar lr cr,.int .i64 f.effects,.int .i64 op,.int .i64 n,.string sx,.string mx,.slice an ln cn,.slice aa la ca] 179));have HCx:=zh (heap_alloc_new (wr.alloc (.cells #[.string f.name,.bool f.pub,.slice ap f.params.length cp,.int .i64 kd,.slice ar lr cr,.int .i64 f.effects,.int .i64 op,.int .i64 n,.string sx,.string mx,.slice an ln cn,.slice aa la ca] 179)) (.cells #[.slice av m.vars.length cv,.slice none 0 0,.int .i64 (f.params.length:Int)] 182));have hw2:((wr.alloc (.cells #[.string f.name,.bool f.pub,.slice ap f.params.length cp,.int .i64 kd,.slice ar lr cr,.int .i64 f.effects,.int .i64 op,.int .i64 n,.string sx,.string mx,.slice an ln cn,.slice aa la ca] 179)).alloc (.cells #[.slice av m.vars.length cv,.slice none 0 0,.int .i64 (f.params.length:Int)] 182)).heap.size=wr.heap.size+2:=VL;have qM:=zh (aB (aA wr (.cells #[.string f.name,.bool f.pub,.slice ap f.params.length cp,.int .i64 kd,.slice ar lr cr,.int .i64 f.effects,.int .i64 op,.int .i64 n,.string sx,.string mx,.slice an ln cn,.slice aa la ca] 179)) (aA (wr.alloc (.cells #[.string f.name,.bool f.pub,.slice ap f.params.length cp,.int .i64 kd,.slice ar lr cr,.int .i64 f.effects,.int .i64 op,.int .i64 n,.string sx,.string mx,.slice an ln cn,.slice aa la ca] 179)) (.cells #[.slice av m.vars.length cv,.slice none 0 0,.int .i64 (f.params.length:Int)] 182)));have qY:=(kQ (aF (aA (wr.alloc (.cells #[.string f.name,.bool f.pub,.slice ap f.params.length cp,.int .i64 kd,.slice ar lr cr,.int .i64 f.effects,.int .i64 op,.int .i64 n,.string sx,.string mx,.slice an ln cn,.slice aa la ca] 179)) (.cells #[.slice av m.vars.length cv,.slice none 0 0,.int .i64 (f.params.length:Int)] 182)) HFx.out)).1;obtain⟨⟨g0,g1,g2,g3,g4,g5,g6,g7,g8,g9,g10,g11⟩,-⟩:=kQ HFx.out;obtain⟨⟨m0,m1,m2,m3,m4,m5,m6,m7,m8⟩,-⟩:=bx9 (aF (aA wr (.cells #[.string f.name,.bool f.pub,.slice ap f.params.length cp,.int .i64 kd,.slice ar lr cr,.int .i64 f.effects,.int .i64 op,.int .i64 n,.string sx,.string mx,.slice an ln cn,.slice aa la ca] 179)) (aF HB.out HBx1.out));have tG:Hid ((m.funcs.take (q+1)).map (compF (m.vars.map (·.1)))=(m.funcs.take q).map (compF (m.vars.map (·.1)))++[compF (m.vars.map (·.1)) f]):=zh (by rw[List.take_add_one,hx];simp);clear hj hx hp ht he hcp tU N8;go_wp2_with fail;clear c0 c1 c2 c3 c4 c5 c6 c7 c8 c9 yR yQ t0 t1 t2 t3 t4 t5 t6 t7 t8 g0 g1 g2 g3 g4 g5 g6 g7 g8 g9 g10 g11 m0 m1 m2 m3 m4 m5 m6 m7 m8;(go_loopw [7,30] (fun nv iv wz=>∃(z:Nat)(css7:List (List Value)),z<=f.params.length/\iv=.int .i64 (z:Int)/\Hid (Gro 1 9 cK (wr.heap.size+2) ((f.params.take z).map (·.1)) css7 nv wz)/\Hid (Below ((wr.alloc (.cells #[.string f.name,.bool f.pub,.slice ap f.params.length cp,.int .i64 kd,.slice ar lr cr,.int .i64 f.effects,.int .i64 op,.int .i64 n,.string sx,.string mx,.slice an ln cn,.slice aa la ca] 179)).alloc (.cells #[.slice av m.vars.length cv,.slice none 0 0,.int .i64 (f.params.length:Int)] 182)).heap.size ((wr.alloc (.cells #[.string f.name,.bool f.pub,.slice ap f.params.length cp,.int .i64 kd,.slice ar lr cr,.int .i64 f.effects,.int .i64 op,.int .i64 n,.string sx,.string mx,.slice an ln cn,.slice aa la ca] 179)).alloc (.cells #[.slice av m.vars.length cv,.slice none 0 0,.int .i64 (f.params.length:Int)] 182)) wz)) (fun _ iv _=>f.params.length-(intOf iv).toNat));case atStart=>exact⟨0,[],Nat.zero_le _,rfl,zh (Gro.first_at _ _ _ (by rw[hw2];exact Nat.le_refl _)),zh (Below.refl _ _)⟩
    case round=>
     obtain⟨z,css7,hz,rfl,J4,qV⟩:=hrel;(rename World=>wz);have HBz2:=zh (aB qM.out qV.out);have GF:=zh (aB uR.out HBz2.out);have PA:=qV.out.size;rw[hw2] at PA;obtain⟨⟨e0,e1,e2,e3,e4,e5,e6,e7,e8,e9,e10,e11⟩,-⟩:=kQ (aF (aB (aA (wr.alloc (.cells #[.string f.name,.bool f.pub,.slice ap f.params.length cp,.int .i64 kd,.slice ar lr cr,.int .i64 f.effects,.int .i64 op,.int .i64 n,.string sx,.string mx,.slice an ln cn,.slice aa la ca] 179)) (.cells #[.slice av m.vars.length cv,.slice none 0 0,.int .i64 (f.params.length:Int)] 182)) qV.out) HFx.out);by_cases IJ:z<f.params.length
     ·obtain⟨x,hx,-⟩:=getElem?_of_lt IJ;obtain⟨b9,o9,rfl,-,cs9,hen9,-,hj9⟩:=HCP.out z x hx;obtain⟨nm,ty⟩:=x;obtain⟨ct,rfl,qX,FD⟩:=hen9
      cases ty with
      |mk kd9 fs9=>
       rw[gE] at FD;obtain⟨vf9,rfl,hr9⟩:=FD;obtain⟨a9,c9,rfl,-⟩:=hr9.at;have d0:wz.cell? ⟨b9,o9+z*3,none⟩=some (.string nm):=aC GF.out (hj9 0 _ rfl);have d1:=aC GF.out (hj9 1 _ rfl);have d2:=aC GF.out (hj9 2 _ rfl);have MK:Hid ((f.params.take (z+1)).map (·.1)=(f.params.take z).map (·.1)++[nm]):=zh (by rw[List.take_add_one,hx];simp);have KK:((f.params.take z).map (·.1)).length=z:=by rw[List.length_map,List.length_take];omega
       have hfo:∃q8 q9,u7=.slice q8 z q9:=by
        rcases J4.out.val with⟨h1,h2⟩|⟨g,cap,h1,-⟩
        ·exact⟨none,0,by rw[h1];rw[h2] at KK;simp at KK;rw[<-KK]⟩
        ·exact⟨_,_,by rw[h1,KK]⟩
       obtain⟨q8,q9,rfl⟩:=hfo;clear hj9 hx hr9;generalize fs9.length=k9 at *;have uN:=aB (aA wz (.cells #[.string nm,.int .i64 kd9,.slice a9 k9 c9] 184)) (aA _ (.cells #[.string nm] 9));have R6:=zh (J4.out.later aQ uN);have qN:=R6.out.own;rw[KK] at qN;have rN:=R6.out.big;have E9:=zh uN;clear uN;go_wp2_with(at_builtin;refine wpList_append_lies _ rfl _ _ 22 rfl (wr.heap.size+2) 9 i1 (.string ByteArray.empty) 1 16 Tryz.underlying22 B8 BM BL AA rfl VG (.slice q8 z q9) z css7.flatten WF qN ⟨wz.heap.size+1,0,none⟩ 1 1 [.string nm] WF rfl (World.news_of_block (cs:=#[.string nm]) (t:=9) (fr:=(0,0)) (by simpa using heap_alloc_new (wz.alloc (.cells #[.string nm,.int .i64 kd9,.slice a9 k9 c9] 184)) (.cells #[.string nm] 9))) VX VG VR VG rN (wz.heap.size+2) VL ?_);intro g7 cap7 w9 pP pO qA _;have FW:=R6.out.added aQ (x:=nm) ⟨rfl,VG⟩ rfl (by rw[KK];exact pP) pO XT;rw[KK,<-MK.out] at FW;have GH:=zh ((aB qV.out E9.out).grown pO (by have:=(aB qV.out E9.out).size;exact this) (fun k hk=>by have h:=(R6.out.lt k hk).1;rw[hw2];exact h));clear pP pO qA qN;go_wp2_with fail;go_roundw;(case rel=>exact⟨z+1,_,VG,VT,zh FW,GH⟩);case measure=>simp[intOf];omega
     ·have NG:f.params.take z=f.params:=List.take_of_length_le VG;rw[NG] at J4;(have KK:(f.params.map (·.1)).length=f.params.length:=by rw[List.length_map]);have hcb:∀b,b<w.heap.size->gJ (wr.heap.size+1) (.slice none 0 0) b:=fun b hb=>⟨VG,by intro e;cases e⟩;have HROW:Hid (aK 1 cK (gJ (wr.heap.size+1) (.slice none 0 0)) wz u7 (f.params.map (·.1))):=zh ((J4.out.row aQ).moves aQ (fun b hb pT=>⟨⟨by have:wr.heap.size+2<=b:=hb;omega,by intro e;cases e⟩,fun _ _ h=>h⟩) VI);have HXE:=zh (aG _ _ (gJ (wr.heap.size+1) (.slice none 0 0)) wz _ _ (fun b hb pT=>⟨hcb b pT,fun _ _ h=>aC GF.out h⟩) HEX.out);(have hbx0:wz.heap[wr.heap.size+1]? =some (.cells #[.slice av m.vars.length cv,.slice none 0 0,.int .i64 (f.params.length:Int)] 182):=by have h:=aF qV.out HCx.out;simpa using h);have HCP0:Hid (Cp (wr.heap.size+2) (wr.heap.size+1) m.vars (.slice av m.vars.length cv) ⟨[],f.params.length⟩ [] (.slice none 0 0) wz):=zh ⟨hbx0,Gro.first_at _ _ _ PA,HVR.out.moves aV (fun b hb pT=>⟨hcb b pT,fun _ _ h=>aC GF.out h⟩) VI,VG,VG,VG,HG.out _ GF.out⟩;have HFz:Hid (wz.heap[wr.heap.size]? =some (.cells #[.string f.name,.bool f.pub,.slice ap f.params.length cp,.int .i64 kd,.slice ar lr cr,.int .i64 f.effects,.int .i64 op,.int .i64 n,.string sx,.string mx,.slice an ln cn,.slice aa la ca] 179)/\gJ (wr.heap.size+1) (.slice none 0 0) wr.heap.size):=zh ⟨aF (aB (aA (wr.alloc (.cells #[.string f.name,.bool f.pub,.slice ap f.params.length cp,.int .i64 kd,.slice ar lr cr,.int .i64 f.effects,.int .i64 op,.int .i64 n,.string sx,.string mx,.slice an ln cn,.slice aa la ca] 179)) (.cells #[.slice av m.vars.length cv,.slice none 0 0,.int .i64 (f.params.length:Int)] 182)) qV.out) HFx.out,VG,by intro e;cases e⟩;have HQ:=zh (cexp_all 12 f.body _ _ m.vars _ _ ⟨[],f.params.length⟩ [] (f.params.map (·.1)) u7 op n sx mx _ _ wz HBD.out HCP0.out (by rw[lenB_12];show 0+9817068105<=_;omega) VG HROW.out HXE.out)
      have NT:(bA (m.vars.map (·.1)) 12 (f.params.map (·.1)) f.body ⟨[],f.params.length⟩).code.length<=100000000000:=by
       have h:=hJ (m.vars.map (·.1)) 12 (f.params.map (·.1)) f.body ⟨[],f.params.length⟩ HBD.out;rw[lenB_12] at h;have h0:(⟨[],f.params.length⟩:Cmp).code.length=0:=rfl;omega
      have HCE:Hid (compF (m.vars.map (·.1)) f=⟨f.name,f.params.length,((bA (m.vars.map (·.1)) 12 (f.params.map (·.1)) f.body ⟨[],f.params.length⟩).put (ins 18 0)).locals,((bA (m.vars.map (·.1)) 12 (f.params.map (·.1)) f.body ⟨[],f.params.length⟩).put (ins 18 0)).code⟩):=zh rfl;generalize bA (m.vars.map (·.1)) 12 (f.params.map (·.1)) f.body ⟨[],f.params.length⟩=c8 at HQ HCE NT;clear hbx0;go_wp2_with(go_at_call 114;refine HQ.out.mono ?_;rintro e w8 ⟨css8,v8,rfl,FT,sM⟩);have HP8:=zh (mH (ins 18 0) (.slice none 0 0) FT NT (jF _ _ 18 0 VI VI));have HX8:=zh sM;clear FT sM HQ e0 e1 e2 e3 e4 e5 e6 e7 e8 e9 e10 e11;go_wp2_with(go_at_call 115;refine HP8.out.mono ?_;rintro e w9 ⟨css9,v9,rfl,hc9,G1⟩);have HX9:=zh (HX8.out.trans G1)
      have hbelow:Below wr.heap.size wr w9:=Off.below (B:=wr.heap.size) (aB qM.out qV.out) HX9.out.off (fun k hk=>by
       rcases hk with h|h
       ·omega
       ·simp[Value.ownBlock] at h) VG
      have R8:Hid (w9.heap[wr.heap.size]? =some (.cells #[.string f.name,.bool f.pub,.slice ap f.params.length cp,.int .i64 kd,.slice ar lr cr,.int .i64 f.effects,.int .i64 op,.int .i64 n,.string sx,.string mx,.slice an ln cn,.slice aa la ca] 179)):=zh (HX9.out.off.heap (fun hk=>by
       rcases hk with h|h
       ·omega
       ·simp[Value.ownBlock] at h) HFz.out.1)
      generalize c8.put (ins 18 0)=c9 at hc9 HCE;have G6:=hc9.gro.row fZ;obtain⟨a9,k9,rfl,-⟩:=G6.at;have HRow9:=zh G6;have HC9:=zh hc9.box;have R5:=zh (GV.out.later mW hbelow);have HB9x:=zh (aB HB.out hbelow);have hs9:=hbelow.size;have hlt9:wr.heap.size+1<w9.heap.size:=(Array.getElem?_eq_some_iff.1 hc9.box).1;clear hbelow hc9 G1 G6;have IM:((m.funcs.take q).map (compF (m.vars.map (·.1)))).length=q:=by rw[List.length_map,List.length_take];omega
      have hfo3:∃q3 q4,u3=.slice q3 q q4:=by
       rcases R5.out.val with⟨h1,h2⟩|⟨g,cap,h1,-⟩
       ·exact⟨none,0,by rw[h1];rw[h2] at IM;simp at IM;rw[<-IM]⟩
       ·exact⟨_,_,by rw[h1,IM]⟩
      obtain⟨q3,q4,rfl⟩:=hfo3;have HH:=zh (R5.out.later mW (aE (w9)));have CF:Below w9.heap.size w9 (w9.drew.alloc (.cells #[.string f.name,.int .i64 (f.params.length:Int),.int .i64 (c9.locals:Int),.slice a9 c9.code.length k9] 168)):=aB (aE w9) (aA w9.drew (.cells #[.string f.name,.int .i64 (f.params.length:Int),.int .i64 (c9.locals:Int),.slice a9 c9.code.length k9] 168));have M3:=zh (R5.out.later mW CF);have HB16:=zh (aB HB9x.out CF);have DS:=M3.out.own;rw[IM] at DS;have QK:=M3.out.big
      have OU:Hid (encCod (lC w1.heap.size (.slice q3 q q4)) (w9.drew.alloc (.cells #[.string f.name,.int .i64 (f.params.length:Int),.int .i64 (c9.locals:Int),.slice a9 c9.code.length k9] 168)) (compF (m.vars.map (·.1)) f) [.string f.name,.int .i64 (f.params.length:Int),.int .i64 (c9.locals:Int),.slice a9 c9.code.length k9]):=zh (by
       rw[HCE.out]
       refine⟨_,rfl,hsz0,HRow9.out.moves fZ (fun b hb pT=>⟨⟨by have:wr.heap.size+2<=b:=hb;have:=GV.out.big;omega,fun e=>by
        have:wr.heap.size+2<=b:=hb;have:=(GV.out.lt b e).2
        omega⟩,fun _ _ h=>aC CF h⟩) VI⟩)
      have HSa:Hid ((w9.drew.alloc (.cells #[.string f.name,.int .i64 (f.params.length:Int),.int .i64 (c9.locals:Int),.slice a9 c9.code.length k9] 168)).heap[wr.heap.size]? =some (.cells #[.string f.name,.bool f.pub,.slice ap f.params.length cp,.int .i64 kd,.slice ar lr cr,.int .i64 f.effects,.int .i64 op,.int .i64 n,.string sx,.string mx,.slice an ln cn,.slice aa la ca] 179)/\(w9.drew.alloc (.cells #[.string f.name,.int .i64 (f.params.length:Int),.int .i64 (c9.locals:Int),.slice a9 c9.code.length k9] 168)).heap[wr.heap.size+1]? =some (.cells #[.slice av m.vars.length cv,.slice a9 c9.code.length k9,.int .i64 (c9.locals:Int)] 182)):=zh ⟨aF CF R8.out,aF CF HC9.out⟩;clear CF;have HT16:Hid ((m.funcs.take (q+1)).map (compF (m.vars.map (·.1)))=(m.funcs.take q).map (compF (m.vars.map (·.1)))++[compF (m.vars.map (·.1)) f]):=tG;refine wp_region_held_drew (S:=fun W=>W.heap[wr.heap.size]? =some (.cells #[.string f.name,.bool f.pub,.slice ap f.params.length cp,.int .i64 kd,.slice ar lr cr,.int .i64 f.effects,.int .i64 op,.int .i64 n,.string sx,.string mx,.slice an ln cn,.slice aa la ca] 179)/\W.heap[wr.heap.size+1]? =some (.cells #[.slice av m.vars.length cv,.slice a9 c9.code.length k9,.int .i64 (c9.locals:Int)] 182)) VH ⟨R8.out,HC9.out⟩ fun hS=>?_;refine zt 0 (.slice q3 q q4) rfl (fun W hW=>VM) hS ?_;(try simp only[zn]);refine zt 1 (.pointer (some ⟨wr.heap.size,0,none⟩)) rfl (fun W hW=>VM) hS ?_;(try simp only[zn]);refine zt 2 (.string f.name) rfl (fun W hW=>YL) hS ?_;(try simp only[zn]);refine zt 3 (.pointer (some ⟨wr.heap.size,2,none⟩)) rfl (fun W hW=>VM) hS ?_;(try simp only[zn]);refine zt 4 (.slice ap f.params.length cp) rfl (fun W hW=>YL) hS ?_;(try simp only[zn]);refine zt 5 (.int .i64 (f.params.length:Int)) rfl (fun W hW=>VM) hS ?_;(try simp only[zn]);refine zt 6 (.pointer (some ⟨wr.heap.size+1,0,none⟩)) rfl (fun W hW=>VM) hS ?_;(try simp only[zn]);refine zt 7 (.pointer (some ⟨wr.heap.size+1,0,none⟩)) rfl (fun W hW=>VM) hS ?_;(try simp only[zn]);refine zt 8 (.pointer (some ⟨wr.heap.size+1,2,none⟩)) rfl (fun W hW=>VM) hS ?_;(try simp only[zn]);refine zt 9 (.int .i64 (c9.locals:Int)) rfl (fun W hW=>by obtain⟨⟨z0,z1,z2⟩,-⟩:=bx3 hW.2;go_simp) hS ?_;(try simp only[zn]);refine zt 10 (.pointer (some ⟨wr.heap.size+1,0,none⟩)) rfl (fun W hW=>VM) hS ?_;(try simp only[zn]);refine zt 11 (.pointer (some ⟨wr.heap.size+1,0,none⟩)) rfl (fun W hW=>VM) hS ?_;(try simp only[zn]);refine zt 12 (.pointer (some ⟨wr.heap.size+1,1,none⟩)) rfl (fun W hW=>VM) hS ?_;(try simp only[zn]);refine zt 13 (.slice a9 c9.code.length k9) rfl (fun W hW=>by obtain⟨⟨z0,z1,z2⟩,-⟩:=bx3 hW.2;go_simp) hS ?_;(try simp only[zn]);refine zt 14 (.agg #[.string f.name,.int .i64 (f.params.length:Int),.int .i64 (c9.locals:Int),.slice a9 c9.code.length k9]) rfl (fun W hW=>VM) hS ?_;(try simp only[zn]);refine zr 15 rfl (fun K hK=>?_);(try simp only[z1,z2,z3]);go_simp;refine hK.out _ _ HSa.out (fun hS=>?_);clear hK K;(try simp only[zn]);refine wpAnyH_ready (rs:=[16]) VH VL ?_;refine AllReadyH.cons rfl (fun K hK=>?_) AllReadyH.nil;refine step_append_lies (w9.drew.alloc (.cells #[.string f.name,.int .i64 (f.params.length:Int),.int .i64 (c9.locals:Int),.slice a9 c9.code.length k9] 168)) rfl _ _ 136 rfl w1.heap.size 168 i0 (.agg #[.string ByteArray.empty,.int .i64 0,.int .i64 0,.slice none 0 0]) 4 56 Tryz.underlying136 tF rS qI qH rfl VG (.slice q3 q q4) q css.flatten WF DS ⟨w9.heap.size,0,none⟩ 1 1 [.string f.name,.int .i64 (f.params.length:Int),.int .i64 (c9.locals:Int),.slice a9 c9.code.length k9] WF rfl (World.news_of_block (cs:=#[.string f.name,.int .i64 (f.params.length:Int),.int .i64 (c9.locals:Int),.slice a9 c9.code.length k9]) (t:=168) (fr:=(0,0)) (by simpa using heap_alloc_new w9.drew (.cells #[.string f.name,.int .i64 (f.params.length:Int),.int .i64 (c9.locals:Int),.slice a9 c9.code.length k9] 168))) VX VG VR VG QK (w9.heap.size+1) VL ?_;intro g3 cap3 w17 pP pO qA hg17;have FW:=M3.out.added mW OU.out rfl (by rw[IM];exact pP) pO XT;rw[IM,<-HT16.out] at FW;have HG17:=zh FW;have HB17:=zh (HB16.out.grown pO (by have:=HB16.out.size;exact this) (fun k hk=>(M3.out.lt k hk).1));have HS17:Hid (w17.heap[wr.heap.size]? =some (.cells #[.string f.name,.bool f.pub,.slice ap f.params.length cp,.int .i64 kd,.slice ar lr cr,.int .i64 f.effects,.int .i64 op,.int .i64 n,.string sx,.string mx,.slice an ln cn,.slice aa la ca] 179)/\w17.heap[wr.heap.size+1]? =some (.cells #[.slice av m.vars.length cv,.slice a9 c9.code.length k9,.int .i64 (c9.locals:Int)] 182)):=zh ⟨by rw[pO.block _ (Array.getElem?_eq_some_iff.1 HSa.out.1).1 (fun e=>by have:=(GV.out.lt _ e.symm).2;omega)];exact HSa.out.1,by rw[pO.block _ (Array.getElem?_eq_some_iff.1 HSa.out.2).1 (fun e=>by have:=(GV.out.lt _ e.symm).2;omega)];exact HSa.out.2⟩;clear pP pO qA hg17 FW DS;refine hK.out _ _ HS17.out (fun hS=>?_);clear hK K;(try simp only[zn]);refine zt 17 (.slice (some ⟨g3,0,none⟩) (q+1) cap3) rfl (fun W hW=>VM) hS ?_;(try simp only[zn]);refine wpAnyH_done VH ?_ _;clear hS;go_wp2_with fail;go_roundw;(case rel=>exact⟨q+1,_,VG,VT,HG17,HB17⟩);case measure=>simp[intOf];omega
   ·have wY:m.funcs.take q=m.funcs:=List.take_of_length_le VG;rw[wY] at GV;have BQ:=GV.out.val;go_wp2_with fail;go_ret;exact⟨_,rfl,by rw[HE.out];exact(GV.out.row mW).moves mW (fun b hb pT=>⟨Nat.le_trans hw1 hb,fun _ _ h=>h⟩) VI,uR.out⟩
end Go.Proofs.YtacgopankhpnbaaGreatDoor
namespace Go.Proofs.YtacgopankhpnbaaGreatDoor
theorem choice_loc{yes no:Cmp->Cmp}{M:Nat}(hy:∀c,c.locals<=M->(yes c).locals<=M)(hn:∀c,c.locals<=M->(no c).locals<=M)(c:Cmp)(h:c.locals<=M):(gF yes no c).locals<=M:=hn _ (hy _ h)
theorem fold_loc{f:Cmp->Xp->Cmp}{M:Nat}(hf:∀c x,c.locals<=M->(f c x).locals<=M):∀(args:List Xp)(c:Cmp),c.locals<=M->(args.foldl f c).locals<=M
 |[],_,h=>h
 |x::args,c,h=>fold_loc hf args (f c x) (hf c x h)
theorem compX_loc(vars:List ByteArray):∀(d:Nat)(names:List ByteArray)(x:Xp)(c:Cmp)(M:Nat),c.locals<=M->names.length+d<=M->(bA vars d names x c).locals<=M
 |0,_,_,c,M,h,_=>by simpa[bA] using h
 |d+1,names,.mk op n s m ns args,c,M,h,hM=>by
  have ih:∀(names:List ByteArray)(x:Xp)(c:Cmp),names.length+d<=M->c.locals<=M->(bA vars d names x c).locals<=M:=fun names x c hn h=>compX_loc vars d names x c M h hn;have ihn:∀(x:Xp)(c:Cmp),c.locals<=M->(bA vars d names x c).locals<=M:=fun x c=>ih names x c VG;rw[fA];generalize bA vars d=F at ih ihn ⊢;split
  ·exact h
  split
  ·exact h
  split
  ·exact h
  split
  ·exact h
  split
  ·split
   ·rename_i x y;exact choice_loc (yes:=F names y) (no:=fun c=>c.put (ins 1 0)) (fun c h=>ihn y c h) (fun c h=>h) _ (ihn x c h)
   ·exact h
  split
  ·split
   ·rename_i x y;exact choice_loc (yes:=fun c=>c.put (ins 1 1)) (no:=F names y) (fun c h=>h) (fun c h=>ihn y c h) _ (ihn x c h)
   ·exact h
  split
  ·split
   ·rename_i x y z;exact choice_loc (yes:=F names y) (no:=F names z) (fun c h=>ihn y c h) (fun c h=>ihn z c h) _ (ihn x c h)
   ·exact h
  split
  ·split
   ·rename_i x y;exact ih (names++[s]) y _ (by rw[List.length_append,List.length_singleton];omega) (Nat.max_le.2 ⟨ihn x c h,VG⟩)
   ·exact h
  ·exact fold_loc (f:=fun c x=>F names x c) (fun c x h=>ihn x c h) args c h
theorem kY(m:Mdl):(jH m).length<=30/\∀c∈jH m,CodSmall c:=by
 unfold jH
 cases hr:rightM m with
 |false=>exact⟨VL,fun c hc=>by simp at hc⟩
 |true=>
  rw[if_pos rfl];obtain⟨h8,h30,hp⟩:=rightM_parts hr;refine⟨by rw[List.length_map];exact h30,fun c hc=>?_⟩;obtain⟨f,hf,rfl⟩:=List.mem_map.1 hc;obtain⟨h6,hb,-⟩:=hp f hf;have h1:=hJ (m.vars.map (·.1)) 12 (f.params.map (·.1)) f.body ⟨[],f.params.length⟩ hb;rw[lenB_12] at h1;have h2:=compX_loc (m.vars.map (·.1)) 12 (f.params.map (·.1)) f.body ⟨[],f.params.length⟩ 1000 (by show f.params.length<=1000;omega) (by rw[List.length_map];omega);refine⟨?_,by show f.params.length<=_;omega,?_⟩
  ·show((bA (m.vars.map (·.1)) 12 (f.params.map (·.1)) f.body ⟨[],f.params.length⟩).put (ins 18 0)).code.length<=_;rw[Cmp.put_len];have h0:(⟨[],f.params.length⟩:Cmp).code.length=0:=rfl;omega
  ·show(bA (m.vars.map (·.1)) 12 (f.params.map (·.1)) f.body ⟨[],f.params.length⟩).locals<=_;omega
end Go.Proofs.YtacgopankhpnbaaGreatDoor
