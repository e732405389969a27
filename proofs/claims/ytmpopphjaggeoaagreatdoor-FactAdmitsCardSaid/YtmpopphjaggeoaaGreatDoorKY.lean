/- Texts of this seat, joined. -/
import Derived.Test.YtmpopphjaggeoaaGreatDoorKX
set_option maxHeartbeats 8000000
set_option maxRecDepth 100000
set_option linter.unusedVariables false
set_option linter.unusedSimpArgs false
set_option linter.constructorNameAsVariable false
namespace Go.Proofs.YtmpopphjaggeoaaGreatDoor
open Go.RowKit Go.Shelf
theorem eqVerIn(n:Nat)(v u:Ver)(w:World):(Op.equalIn (n+2) 23 (.agg #[.int .i64 v.a,.int .i64 v.b,.int .i64 v.c]) (.agg #[.int .i64 u.a,.int .i64 u.b,.int .i64 u.c])).run Tryz.prog w=.ok (decide (v=u)) w:=by
 have u3:=Tryz.underlying3;have a3:=Tryz.isAgg3;have z3:=Tryz.sizeOf3;have hS:Tryz.prog.underlying 23=some (.struct (Tryz.prog.fieldsOf 23)):=CK;have hp:Tryz.prog.stoodInHeld 23=false:=CK;rw[run_equalIn_agg w (n+1) 23 _ _ hS hp];simp only[Program.fieldsOf,Tryz.underlying23];go_simp;obtain⟨a,b,c⟩:=v;obtain⟨a',b',c'⟩:=u;by_cases h1:a=a'<;>by_cases h2:b=b'<;>by_cases h3:c=c'<;>simp[h1,h2,h3]
theorem eqVer(v u:Ver)(w:World):(binOp .eql 23 (.agg #[.int .i64 v.a,.int .i64 v.b,.int .i64 v.c]) (.agg #[.int .i64 u.a,.int .i64 u.b,.int .i64 u.c])).run Tryz.prog w=.ok (.bool (decide (v=u))) w:=by
 rw[run_eql_struct,show(10000:Nat)=9998+2 from rfl,eqVerIn];rfl
theorem neqRng:NeqAt Tryz.prog 115 (fun x:Rng=>.agg (eF x).toArray) (fun x y=>decide (x=y)):=by
 refine⟨fun x y w=>?_,GuardAt.agg _ CK⟩;have hS:Tryz.prog.underlying 115=some (.struct (Tryz.prog.fieldsOf 115)):=CK;have hp:Tryz.prog.stoodInHeld 115=false:=CK;have aV:=Tryz.isAgg23;have zV:=Tryz.sizeOf23;have eV:=fun(v u:Ver)w=>eqVerIn 9997 v u w;obtain⟨lo,hi⟩:=x;obtain⟨lo',hi'⟩:=y;show(binOp .neq 115 (.agg #[.int .i64 lo.a,.int .i64 lo.b,.int .i64 lo.c,.int .i64 hi.a,.int .i64 hi.b,.int .i64 hi.c]) (.agg #[.int .i64 lo'.a,.int .i64 lo'.b,.int .i64 lo'.c,.int .i64 hi'.a,.int .i64 hi'.b,.int .i64 hi'.c])).run Tryz.prog w=_;rw[run_neq_struct,show(10000:Nat)=9999+1 from rfl,run_equalIn_agg w 9999 115 _ _ hS hp];simp only[Program.fieldsOf,Tryz.underlying115];go_simp;by_cases h1:lo=lo'<;>by_cases h2:hi=hi'<;>simp[h1,h2]
theorem allEq_eqL:∀(l m:List Rng),l.length=m.length->Lib.allEq (fun x y=>decide (x=y)) l m=eqL l m
 |[],[],_=>(dW rfl).symm
 |x::l,y::m,h=>by
  have ih:=allEq_eqL l m DZ;by_cases e:x=y
  ·subst e;simp only[Lib.allEq,decide_true,Bool.true_and,ih];by_cases e2:l=m
   ·rw[dW e2,dW (by rw[e2])]
   rw[cG e2,cG (by simpa using e2)]
  rw[cG (by intro h;cases h;exact e rfl)];simp[Lib.allEq,e]
theorem equalR_any(l m:List Rng){N N':Nat->Prop}{v u:Value}{w:World}(hl:aK 6 aZ N w v l)(hm:aK 6 aZ N' w u m):
  Calls Tryz.prog 70 #[v,u] w fun e w'=>e=.returned (.bool (eqL l m))/\Below w.heap.size w w':=by
 obtain⟨a1,c1,rfl,p1,p2,HA⟩:=hl;obtain⟨a2,c2,rfl,q1,q2,HB⟩:=hm;by_cases kS:l.length=m.length
 ·by_cases h0:l=[]
  ·subst h0;have:m=[]:=List.eq_nil_of_length_eq_zero (by simpa using kS.symm);subst this;rw[dW rfl];clear HA HB kS;go_enter Tryz.func70,Tryz.ntmps70;go_wp2_with fail;(go_loop [13] (fun i=>i=.int .i64 0) (fun i=>0));case atStart=>rfl
   case round=>
    subst hrel;go_wp2_with fail;go_ret;exact⟨rfl,Below.refl _ _⟩
  have h0':m≠[]:=fun e=>by rw[e] at kS;exact h0 (List.eq_nil_of_length_eq_zero (by simpa using kS))
  obtain⟨b1,o1,rfl,-,jG⟩:=HA h0;obtain⟨b2,o2,rfl,-,mF⟩:=HB h0'
  have cells:∀(l:List Rng)b o(N:Nat->Prop),(∀i x,l[i]? =some x->∃cs,aZ N w x cs/\cs.length=6/\∀j u,cs[j]? =some u->w.cell? ⟨b,o+i*6+j,none⟩=some u)->
    ∀j,j<l.length->∀i v,(eF l[j]!)[i]? =some v->w.cell? ⟨b,o+j*6+i,none⟩=some v:=fun l b o N hc j hj i v hv=>by
   (have hx:l[j]? =some l[j]! :=by rw[List.getElem!_eq_getElem?_getD,List.getElem?_eq_getElem hj];rfl);obtain⟨cs,e,-,hh⟩:=hc j _ hx;cases e;exact hh i v hv
  refine(Tryz.slices_Equal 6 Tryz.isAgg115 Tryz.sizeOf115 eF (fun _=>rfl) _ neqRng b1 o1 l.length c1 b2 o2 m.length c2 l m w (Nat.le_refl _) (Nat.le_refl _) CL CL (cells l b1 o1 N jG) (cells m b2 o2 N' mF)).mono ?_;rintro e w' ⟨rfl,q,rfl⟩;exact⟨by rw[List.take_length,List.take_length,allEq_eqL _ _ kS],below_dq w q⟩
 rw[cG (fun e=>kS (by rw[e]))];have kP:((l.length:Int) != (m.length:Int))=true:=C5;clear HA HB;go_enter Tryz.func70,Tryz.ntmps70;go_wp2_with fail;go_ret;exact⟨rfl,Below.refl _ _⟩
theorem properOk_drop{l:List Rng}{k:Nat}{x:Rng}(hx:l[k]? =some x):(l.drop k).all (fun r=>aU r.lo&&aU r.hi)=((aU x.lo&&aU x.hi)&&(l.drop (k+1)).all (fun r=>aU r.lo&&aU r.hi)):=by
 obtain⟨h1,h2⟩:=Yb.1 hx;rw[List.drop_eq_getElem_cons h1,h2,List.all_cons]
theorem properOk_any(l:List Rng){N:Nat->Prop}{v:Value}{w:World}(hv:aK 6 aZ N w v l):
  Calls Tryz.prog 84 #[v] w fun e w'=>e=.returned (.bool (eW l))/\Below w.heap.size w w':=by
 have HP:Hid (eW l=((l.all fun r=>aU r.lo&&aU r.hi)&&decide (l.length<=6)&&dU none l)):=zh rfl;have HVe:=zh (fun(v:Ver)W=>hP v W);have uP:=zh hv;obtain⟨a0,c0,rfl,p1,p2,jF⟩:=id hv;have HA:=zh jF;clear jF hv;generalize eW l=res at HP ⊢;go_enter Tryz.func84,Tryz.ntmps84;go_wp2_with fail;go_loopw [7] (fun iv wr=>∃k:Nat,k<=l.length/\iv=.int .i64 (k:Int)/\Hid (Below w.heap.size w wr)/\Hid ((l.all fun r=>aU r.lo&&aU r.hi)=(l.drop k).all fun r=>aU r.lo&&aU r.hi)) (fun iv _=>l.length-(intOf iv).toNat)
 case atStart=>exact⟨0,Nat.zero_le _,rfl,zh (Below.refl _ _),zh rfl⟩
 case round=>
  obtain⟨k,hk,rfl,HW,HR⟩:=hrel;rename World=>wr
  by_cases jL:k<l.length
  ·obtain⟨q,hq,-⟩:=getElem?_of_lt jL;(have kP:l≠[]:=fun e=>by rw[e] at jL;simp at jL);obtain⟨b,o,rfl,-,hc⟩:=HA.out kP;obtain⟨cs,e,-,hj⟩:=hc k q hq;cases e;have r0:=aD HW.out (hj 0 _ rfl);have r1:=aD HW.out (hj 1 _ rfl);have r2:=aD HW.out (hj 2 _ rfl);have r3:=aD HW.out (hj 3 _ rfl);have r4:=aD HW.out (hj 4 _ rfl);have r5:=aD HW.out (hj 5 _ rfl);simp only[Nat.add_zero] at r0;have nM:(0:Int)<=(k:Int)/\(k:Int)<(l.length:Int):=CL;have HD:=zh (HR.out.trans (properOk_drop hq));have tS:=zh (bY wr (.cells #[.int .i64 q.lo.a,.int .i64 q.lo.b,.int .i64 q.lo.c,.int .i64 q.hi.a,.int .i64 q.hi.b,.int .i64 q.hi.c] 115));have yO:=zh (aB wr (.cells #[.int .i64 q.lo.a,.int .i64 q.lo.b,.int .i64 q.lo.c,.int .i64 q.hi.a,.int .i64 q.hi.b,.int .i64 q.hi.c] 115));obtain⟨⟨x0,x1,x2,x3,x4,x5⟩,-⟩:=bx6 tS.out;have HV1:=zh (HVe.out q.lo);have vR:=zh (HVe.out q.hi);clear hc hj hq HR HVe
   cases h1:aU q.lo with
   |false=>
    have HE:Hid (res=false):=zh (by rw[HP.out,HD.out,h1];simp);rw[h1] at HV1;clear h1 HD;go_wp2_with(go_at_call 34;refine(HV1.out _).mono ?_;rintro e w2 ⟨rfl,oV⟩);go_ret;exact⟨aF HE.out.symm,aA HW.out (aA yO.out oV.below)⟩
   |true=>
    rw[h1] at HV1
    cases h2:aU q.hi with
    |false=>
     have HE:Hid (res=false):=zh (by rw[HP.out,HD.out,h2];simp);rw[h2] at vR;clear h1 h2 HD;go_wp2_with fail;go_at_call 34;refine(HV1.out _).mono ?_;rintro e w2 ⟨rfl,oV⟩;obtain⟨⟨z0,z1,z2,z3,z4,z5⟩,-⟩:=bx6 (aC oV.below tS.out);have rA:=zh oV.below;clear oV x0 x1 x2 x3 x4 x5;go_wp2_with fail;go_at_call 34;refine(vR.out _).mono ?_;rintro e w3 ⟨rfl,hg3⟩;have vV:=zh hg3.below;clear hg3;go_wp2_with fail;go_ret;exact⟨aF HE.out.symm,aA HW.out (aA yO.out (aA rA.out vV.out))⟩
    |true=>
     have kX:Hid ((l.all fun r=>aU r.lo&&aU r.hi)=(l.drop (k+1)).all fun r=>aU r.lo&&aU r.hi):=zh (by rw[HD.out,h1,h2];simp);rw[h2] at vR;clear h1 h2 HD;go_wp2_with fail;go_at_call 34;refine(HV1.out _).mono ?_;rintro e w2 ⟨rfl,oV⟩;obtain⟨⟨z0,z1,z2,z3,z4,z5⟩,-⟩:=bx6 (aC oV.below tS.out);have rA:=zh oV.below;clear oV x0 x1 x2 x3 x4 x5;go_wp2_with fail;go_at_call 34;refine(vR.out _).mono ?_;rintro e w3 ⟨rfl,hg3⟩;have vV:=zh hg3.below;clear hg3;go_wp2_with fail;go_roundw;(case rel=>exact⟨k+1,CL,CY,zh (aA HW.out (aA yO.out (aA rA.out vV.out))),kX⟩);case measure=>simp[intOf];omega
  have HF:Hid ((l.all fun r=>aU r.lo&&aU r.hi)=true):=zh DP;have HRw:=zh (uP.out.moves aS (aM.later HW.out) CQ);by_cases h6:l.length<=6
  ·have HE:Hid (res=dU none l):=zh (by rw[HP.out,HF.out,decide_eq_true h6];rfl);have h6i:(l.length:Int)<=6:=CL;have qY:=zh (norm_any l HRw.out h6);clear HP HF uP;go_wp2_with fail;go_at_call 138;refine qY.out.mono ?_;rintro e w2 ⟨r,v',rfl,nR,jO,-,qT,kN⟩;have AH:=zh (equalR_any r l nR (HRw.out.moves aS (aM.later jO) CQ));have jE:=zh (aA HW.out jO)
   have HL:Hid (eqL r l=dU none l):=zh (by
    have h:=norm_law qT kN
    cases hs:dU none l with
    |true=>exact dW (h.2 hs)
    |false=>exact cG (fun e=>by rw[h.1 e] at hs;cases hs))
   clear nR jO qT kN;rw[HL.out] at AH;go_wp2_with fail;go_at_call 70;refine AH.out.mono ?_;rintro e w3 ⟨rfl,kW⟩;have kG:=zh (aA jE.out kW);clear kW;go_wp2_with fail;go_ret;exact⟨aF HE.out.symm,kG.out⟩
  have HE:Hid (res=false):=zh (by rw[HP.out,decide_eq_false h6];simp);have h6i:¬(l.length:Int)<=6:=CL;clear HP HF h6;go_wp2_with fail;go_ret;exact⟨aF HE.out.symm,HW.out⟩
theorem AY{p:Prop}(h:p:=by
 go_wp2_with fail;refine(HL.out _ W2.out).mono ?_;rintro e w3 ⟨rfl,kW⟩;have W3:=zh (aA W2.out kW);have nO:=zh (aC kW jH.out);obtain⟨⟨y0,y1,y2,y3,y4⟩,-⟩:=bb5 nO.out;clear kW
 cases b5 with
 |false=>
  go_wp2_with fail;go_ret;exact⟨aF D2,W3.out⟩
 |true=>
  by_cases nM:kd=0
  ·subst nM;go_wp2_with fail;go_ret;exact⟨aF D2,W3.out⟩
  have hkz:(kd==0)=false:=beq_eq_false_iff_ne.2 nM;have hlf:((ft.length:Int)==0)=decide (ft.length=0):=by rw[Bool.eq_iff_iff];simp
  generalize decide (ft.length=0)=b6 at *;generalize ft.length=lf at *;go_wp2_with fail;go_ret
  exact⟨aF (by rw[HE.out];simp[nM]<;>(try(intros;omega))),W3.out⟩):p:=h
theorem BP{p:Prop}(h:p:=by
 go_wp2_with fail;go_ret
 exact⟨aF D2,W2.out⟩):p:=h
theorem containsS_any(l:List bA)(x:bA):Lib.containsS l x=l.any fun y=>decide (y=x):=by
 rw[Bool.eq_iff_iff,Lib.containsS_iff,List.any_eq_true];constructor
 ·intro h;exact⟨x,h,CU⟩
 rintro⟨y,hy,e⟩;rw[decide_eq_true_eq] at e;rw[<-e];exact hy
theorem hasS_any(l:List bA)(x:bA){v:Value}{w:World}(hv:Strs w v l):
  Calls Tryz.prog 78 #[v,.string x] w fun e w'=>e=.returned (.bool (l.any fun y=>decide (y=x)))/\w'=w:=by
 rw[<-containsS_any];rcases hv.cases with⟨rfl,a,c,rfl⟩|⟨b,o,c,rfl,h0,h1,h2,-,hc⟩
 ·refine(Tryz.slices_Contains_string_empty a c x w).mono ?_;rintro e w' ⟨rfl,rfl⟩;exact⟨rfl,rfl⟩
 refine(Tryz.slices_Contains_string b o l.length c l x w (Nat.le_refl _) CL (fun j hj=>?_)).mono ?_
 ·obtain⟨y,hy,-⟩:=getElem?_of_lt hj;rw[(hc j y hy).1,List.getD_eq_getElem?_getD,hy];rfl
 rintro e w' ⟨rfl,rfl⟩;exact⟨by rw[List.take_length],rfl⟩
theorem needOk_any(n:Nd)(fs:List bA){N:Nat->Prop}{cs:List Value}{vf:Value}{w:World}(hG:bB w)(hn:cI N w n cs)(hf:Strs w vf fs):
  Calls Tryz.prog 81 #[.agg cs.toArray,vf] w fun e w'=>e=.returned (.bool (eD n fs))/\Below w.heap.size w w':=by
 obtain⟨vr,vs,rfl,lE,nN,hr,hs⟩:=hn;obtain⟨ar,cr,rfl,-⟩:=id hr;obtain⟨af,cf,rfl,-⟩:=id hs;obtain⟨nm,rs,kd,wn,ft⟩:=n;dsimp only at *;have HX:=zh (bY w (.cells #[.string nm,.slice ar rs.length cr,.int .i64 kd,.string wn,.slice af ft.length cf] 71));have HA:=zh (aB w (.cells #[.string nm,.slice ar rs.length cr,.int .i64 kd,.string wn,.slice af ft.length cf] 71));have HN:=zh (fun W(hb:Below w.heap.size w W)=>eY nm W (hG.later hb) lE);have HP:=zh (fun W(hb:Below w.heap.size w W)=>properOk_any rs (hr.moves aS (aM.later hb) CQ));have HC:=zh (fun W(hb:Below w.heap.size w W)=>hasS_any fs wn (hf.later hb));have HL:=zh (fun W(hb:Below w.heap.size w W)=>listOk_any ft _ W (hG.later hb) ((hs.strs).later hb));have HE:Hid (eD ⟨nm,rs,kd,wn,ft⟩ fs=(bT nm&&eW rs&&decide (0<=kd)&&decide (kd<3)&&(decide (wn=noB)||fs.any fun x=>decide (x=wn))&&dC ft&&(decide (kd=0)||decide (ft.length=0)))):=zh rfl;obtain⟨⟨x0,x1,x2,x3,x4⟩,-⟩:=bb5 HX.out;have hft:((ft.length:Int)==0)=decide (ft.length=0):=by rw[Bool.eq_iff_iff];simp
 clear hr hs hf lE nN hG;generalize eD ⟨nm,rs,kd,wn,ft⟩ fs=res at HE ⊢;generalize bT nm=b1 at *;generalize eW rs=b2 at *;generalize (fs.any fun x=>decide (x=wn))=b4 at *;generalize dC ft=b5 at *;generalize rs.length=lr at *;go_enter Tryz.func81,Tryz.ntmps81;go_wp2_with fail;refine(HN.out _ HA.out).mono ?_;rintro e w1 ⟨rfl,kL⟩;have W1:=zh (aA HA.out kL);have iM:=zh (aC kL HX.out);obtain⟨⟨y0,y1,y2,y3,y4⟩,-⟩:=bb5 iM.out;clear kL
 cases b1 with
 |false=>
  go_wp2_with fail;go_ret;exact⟨aF D2,W1.out⟩
 |true=>
  go_wp2_with fail;refine(HP.out _ W1.out).mono ?_;rintro e w2 ⟨rfl,jO⟩;have W2:=zh (aA W1.out jO);have jH:=zh (aC jO iM.out);obtain⟨⟨y0,y1,y2,y3,y4⟩,-⟩:=bb5 jH.out;clear jO
  cases b2 with
  |false=>
   exact BP
  |true=>
   by_cases qE:kd<0
   ·have sM:¬0<=kd:=CL;exact BP
   by_cases hk3:kd<3
   ·have hk4:¬3<=kd:=CL;have hk5:0<=kd:=CL;by_cases hw:wn=noB
    ·subst hw;exact AY
    (have hwe:wn.toList≠[]:=by rw[toList_eq];exact fun h=>hw (cU DZ));(have hwi:wn.toList.isEmpty=false:=by simpa using hwe);have hwd:decide (wn=noB)=false:=decide_eq_false hw;go_wp2_with fail;refine(HC.out _ W2.out).mono ?_;rintro e w3 ⟨rfl,rfl⟩
    cases b4 with
    |false=>
     go_wp2_with fail;go_ret;exact⟨aF (by rw[HE.out];simp[hw]),W2.out⟩
    |true=>
     exact AY
   have hk4:3<=kd:=CL;exact BP
theorem o_disable(w:World):(callFunc 302 #[]).run Tryz.prog w=.ok (.value (.tuple #[])) w:=run_call_mark0 Tryz.func302 CK CK CK .disable CK w
theorem o_enable(w:World):(callFunc 304 #[]).run Tryz.prog w=.ok (.value (.tuple #[])) w:=run_call_mark0 Tryz.func304 CK CK CK .enable CK w
theorem o_acquire(a:Addr)(w:World):(callFunc 305 #[.pointer (some a)]).run Tryz.prog w=.ok (.value (.tuple #[])) w:=run_call_marked Tryz.func305 CK CK CK .acquire CK a w
theorem o_merge(a:Addr)(w:World):(callFunc 307 #[.pointer (some a)]).run Tryz.prog w=.ok (.value (.tuple #[])) w:=run_call_marked Tryz.func307 CK CK CK .releaseMerge CK a w
theorem o_store(a:Addr)(x:Value)(u:FrameMode)(w:World)(hc:w.cell? a=some x)(hz:w.frozen? a=false):
  CallsD Tryz.prog 246 #[.pointer (some a),.bool true] u w fun e u' w'=>u'=u/\(e=.returned (.tuple #[])/\w'=w.drew.setCell a (.int .u32 1)):=by
 have jS:w.drew.cell? a=some x:=by go_simp
 have hz':w.drew.frozen? a=false:=by go_simp
 have hst:=run_call_store (P:=Tryz.prog) Tryz.func280 CK CK CK CK (k:=.u32) (y:=1) jS hz'
 go_enter_d Tryz.func246,Tryz.ntmps246
 go_wp2
 go_region_calls
 all_goals(go_end0;exact⟨rfl,rfl⟩)
theorem o_unlock(a:Addr)(u:FrameMode)(w:World)(hc:w.cell? a=some (.int .i32 1))(hz:w.frozen? a=false):
  CallsD Tryz.prog 245 #[.pointer (some a)] u w fun e u' w'=>u'=u/\(e=.returned (.tuple #[])/\w'=w.setCell a (.int .i32 0)):=by
 have hd:=o_disable;have he:=o_enable;have hr:=o_merge;have hadd:=run_call_add (P:=Tryz.prog) Tryz.func308 CK CK CK .i32 CK (y:= -1) (s:=0) hc hz (by simp[go_sem];rfl);have zL:=run_convert_to_unsafe (P:=Tryz.prog) (src:=369) (dst:=255) Tryz.underlying369 Tryz.underlying255 CK hc
 go_enter_d Tryz.func245,Tryz.ntmps245
 go_wp2
 go_end0
 go_wp2
 go_end0;exact⟨rfl,rfl⟩
theorem o_lock(a:Addr)(w:World)(hc:w.cell? a=some (.int .i32 0))(hz:w.frozen? a=false):
  Calls Tryz.prog 244 #[.pointer (some a)] w fun e w'=>e=.returned (.tuple #[])/\w'=w.setCell a (.int .i32 1):=by
 have hd:=o_disable;have he:=o_enable;have ha:=o_acquire;have hcas:=run_call_cas_hit (P:=Tryz.prog) Tryz.func303 CK CK CK .i32 CK (y:=1) hc hz;have jS:(w.setCell a (.int .i32 1)).cell? a=some (.int .i32 1):=World.cell?_setCell_same w a _ hc;have zL:=run_convert_to_unsafe (P:=Tryz.prog) (src:=369) (dst:=255) Tryz.underlying369 Tryz.underlying255 CK jS;go_enter Tryz.func244,Tryz.ntmps244
 go_wp2
 first|go_end0|(simp only[Exit.inBlock,Exit.then];refine bodyPost_ret (results_none rfl _ _ _) rfl ?_)|refine bodyPost_ret (results_none rfl _ _ _) rfl ?_
 go_wp2
 go_end0;exact⟨rfl,rfl⟩
theorem aH{w:World}{b:Nat}{cs:Array Value}{T:TypeId}(h:w.heap[b]? =some (.cells cs T))(o:Nat){x:Value}(hx:cs[o]? =some x):w.cell? ⟨b,o,none⟩=some x/\w.frozen? ⟨b,o,none⟩=false:=by
 constructor
 ·unfold World.cell?;simp[h,hx]
 unfold World.frozen?;simp[h]
theorem drew_at{w:World}{b:Nat}{ob:Obj}(h:w.heap[b]? =some ob):w.drew.heap[b]? =some ob:=h
def OnceRuns(f:FuncId)(b:Nat)(x2 x3 x4:Value)(Q:Value->Value->World->Prop)(w:World):Prop:=
 ∀W,W.heap[b]? =some (.cells #[.int .u32 0,.int .i32 1,x2,x3,x4] 243)->Below b w W->w.heap.size<=W.heap.size->(∀k,b<k->W.heap[k]? =w.heap[k]?)->
  Calls Tryz.prog f #[.pointer (some ⟨b,0,none⟩)] W fun e W'=>e=.returned (.tuple #[])/\Below b W W'/\∃y3 y4,W'.heap[b]? =some (.cells #[.int .u32 0,.int .i32 1,x2,y3,y4] 243)/\Q y3 y4 W'
theorem o_slow(b:Nat)(x2 x3 x4:Value){Q:Value->Value->World->Prop}(w:World)
  (h:w.heap[b]? =some (.cells #[.int .u32 0,.int .i32 0,x2,x3,x4] 243))
  (HB:OnceRuns 176 b x2 x3 x4 Q w) (hQ:∀y3 y4 W W',Q y3 y4 W->W.heap.size<=W'.heap.size->(∀k,b<k->W'.heap[k]? =W.heap[k]?)->Q y3 y4 W'):
  Calls Tryz.prog 214 #[.pointer (some ⟨b,0,none⟩),.func (.func 176) #[.pointer (some ⟨b,0,none⟩)] #[]] w fun e w'=>e=.returned (.tuple #[])/\Below b w w'/\
   ∃y3 y4,w'.heap[b]? =some (.cells #[.int .u32 1,.int .i32 0,x2,y3,y4] 243)/\Q y3 y4 w':=by
 have e1:(w.setCell ⟨b,1,none⟩ (.int .i32 1)).heap[b]? =some (.cells #[.int .u32 0,.int .i32 1,x2,x3,x4] 243):=by rw[aG h];rfl
 have jK:=zh (HB _ e1 ((Below.refl b w).setCell (p:=⟨b,1,none⟩) (Nat.le_refl _) _) (by simp[World.setCell]) (fun k hk=>Below.heap_setCell _ _ _ _ C5));have sY:=zh ((Below.refl b w).setCell (p:=⟨b,1,none⟩) (Nat.le_refl _) (.int .i32 1));have hl:=run_call_load (P:=Tryz.prog) Tryz.func243 CK CK CK .u32 CK (w:=w.setCell ⟨b,1,none⟩ (.int .i32 1)) (a:=⟨b,0,none⟩) (x:=0) (aH e1 0 rfl).1;have hL:=zh (o_lock ⟨b,1,none⟩ w (aH h 1 rfl).1 (aH h 1 rfl).2);have rZ:∀(x:Bool)(w:World),(Op.unary .not (.bool x)).run Tryz.prog w=.ok (.bool (!x)) w:=fun _ _=>rfl;clear HB e1
 go_enter_defers Tryz.func214,Tryz.ntmps214
 go_wp2_with fail;go_at_call 244;refine hL.out.mono ?_;rintro e w' ⟨rfl,rfl⟩;go_wp2_with(first|(go_at_call 213;go_in));go_at_call 176;refine jK.out.mono ?_;rintro e w2 ⟨rfl,jO,y3,y4,h2,q2⟩;have H2:=zh h2;have pY:=zh q2;have B2:=zh (sY.out.trans jO);clear h2 q2 jO hl hL jK sY;go_wp2_with fail;refine leaves_cons (f:=246) (args:=#[.pointer (some ⟨b,0,none⟩),.bool true]) CU (by simp[go_sem]) ?_;refine(o_store ⟨b,0,none⟩ (.int .u32 0) .returning _ (aH H2.out 0 rfl).1 (aH H2.out 0 rfl).2).mono ?_;rintro e u' w'' ⟨rfl,rfl,rfl⟩;have H3:Hid ((w2.drew.setCell ⟨b,0,none⟩ (.int .u32 1)).heap[b]? =some (.cells #[.int .u32 1,.int .i32 1,x2,y3,y4] 243)):=zh (by rw[aG (drew_at H2.out)];rfl);refine leaves_cons (f:=245) (args:=#[.pointer (some ⟨b,1,none⟩)]) (by simp[settle]) (by simp[go_sem]) ?_;refine(o_unlock ⟨b,1,none⟩ _ _ (aH H3.out 1 rfl).1 (aH H3.out 1 rfl).2).mono ?_;rintro e u' w'' ⟨rfl,rfl,rfl⟩;have H4:((w2.drew.setCell ⟨b,0,none⟩ (.int .u32 1)).setCell ⟨b,1,none⟩ (.int .i32 0)).heap[b]? =some (.cells #[.int .u32 1,.int .i32 0,x2,y3,y4] 243):=by rw[aG H3.out];rfl
 have Q4:=hQ y3 y4 w2 ((w2.drew.setCell ⟨b,0,none⟩ (.int .u32 1)).setCell ⟨b,1,none⟩ (.int .i32 0)) pY.out (by simp[World.setCell])
  (fun k hk=>(Below.heap_setCell _ _ _ _ C5).trans (Below.heap_setCell _ _ _ _ C5))
 have B4:Below b w ((w2.drew.setCell ⟨b,0,none⟩ (.int .u32 1)).setCell ⟨b,1,none⟩ (.int .i32 0)):=(B2.out.drew.setCell (p:=⟨b,0,none⟩) (Nat.le_refl _) _).setCell (p:=⟨b,1,none⟩) (Nat.le_refl _) _;simp only[Leaves,settle,results,Tryz.results214];exact⟨.tuple #[],CU,rfl,B4,y3,y4,H4,Q4⟩
theorem o_do(b:Nat)(x2 x3 x4:Value){Q:Value->Value->World->Prop}(w:World)
  (h:w.heap[b]? =some (.cells #[.int .u32 0,.int .i32 0,x2,x3,x4] 243))
  (HB:OnceRuns 176 b x2 x3 x4 Q w) (hQ:∀y3 y4 W W',Q y3 y4 W->W.heap.size<=W'.heap.size->(∀k,b<k->W'.heap[k]? =W.heap[k]?)->Q y3 y4 W'):
  Calls Tryz.prog 175 #[.pointer (some ⟨b,0,none⟩),.func (.func 176) #[.pointer (some ⟨b,0,none⟩)] #[]] w fun e w'=>e=.returned (.tuple #[])/\Below b w w'/\
   ∃y3 y4,w'.heap[b]? =some (.cells #[.int .u32 1,.int .i32 0,x2,y3,y4] 243)/\Q y3 y4 w':=by
 have hl:=run_call_load (P:=Tryz.prog) Tryz.func243 CK CK CK .u32 CK (w:=w) (a:=⟨b,0,none⟩) (x:=0) (aH h 0 rfl).1;have rZ:∀(x:Bool)(w:World),(Op.unary .not (.bool x)).run Tryz.prog w=.ok (.bool (!x)) w:=fun _ _=>rfl;have hS:=zh (o_slow b x2 x3 x4 w h HB hQ);clear h HB hQ;go_enter Tryz.func175,Tryz.ntmps175;go_wp2_with(first|(go_at_call 213;go_in));go_at_call 214;refine hS.out.mono ?_;rintro e w' ⟨rfl,hw⟩;have HW:=zh hw;clear hw hS hl;go_wp2_with fail;go_end0;exact⟨rfl,HW.out⟩
end Go.Proofs.YtmpopphjaggeoaaGreatDoor
