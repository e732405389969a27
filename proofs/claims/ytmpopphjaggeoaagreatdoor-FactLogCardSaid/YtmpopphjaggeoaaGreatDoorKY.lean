/- Texts of this seat, joined. -/
import Derived.Test.YtmpopphjaggeoaaGreatDoorKX
set_option maxHeartbeats 8000000
set_option maxRecDepth 100000
set_option linter.unusedVariables false
set_option linter.unusedSimpArgs false
set_option linter.constructorNameAsVariable false
namespace Go.Proofs.YtmpopphjaggeoaaGreatDoor
open Go.RowKit Go.Shelf
theorem eqVerIn(n:Nat)(v u:Ver)(w:World):(Op.equalIn (n+2) 23 (.agg #[.int .i64 v.a,.int .i64 v.b,.int .i64 v.c]) (.agg #[.int .i64 u.a,.int .i64 u.b,.int .i64 u.c])).run Tryz.prog w=.ok (decide (v=u)) w:=by
 have u3:=Tryz.underlying3;have a3:=Tryz.isAgg3;have z3:=Tryz.sizeOf3;have hS:Tryz.prog.underlying 23=some (.struct (Tryz.prog.fieldsOf 23)):=CQ;have hp:Tryz.prog.stoodInHeld 23=false:=CQ;rw[run_equalIn_agg w (n+1) 23 _ _ hS hp];simp only[Program.fieldsOf,Tryz.underlying23];go_simp;obtain⟨a,b,c⟩:=v;obtain⟨a',b',c'⟩:=u;by_cases h1:a=a'<;>by_cases h2:b=b'<;>by_cases h3:c=c'<;>simp[h1,h2,h3]
theorem eqVer(v u:Ver)(w:World):(binOp .eql 23 (.agg #[.int .i64 v.a,.int .i64 v.b,.int .i64 v.c]) (.agg #[.int .i64 u.a,.int .i64 u.b,.int .i64 u.c])).run Tryz.prog w=.ok (.bool (decide (v=u))) w:=by
 rw[run_eql_struct,show(10000:Nat)=9998+2 from rfl,eqVerIn];rfl
theorem neqRng:NeqAt Tryz.prog 115 (fun x:Rng=>.agg (eD x).toArray) (fun x y=>decide (x=y)):=by
 refine⟨fun x y w=>?_,GuardAt.agg _ CQ⟩;have hS:Tryz.prog.underlying 115=some (.struct (Tryz.prog.fieldsOf 115)):=CQ;have hp:Tryz.prog.stoodInHeld 115=false:=CQ;have aV:=Tryz.isAgg23;have zV:=Tryz.sizeOf23;have eV:=fun(v u:Ver)w=>eqVerIn 9997 v u w;obtain⟨lo,hi⟩:=x;obtain⟨lo',hi'⟩:=y;show(binOp .neq 115 (.agg #[.int .i64 lo.a,.int .i64 lo.b,.int .i64 lo.c,.int .i64 hi.a,.int .i64 hi.b,.int .i64 hi.c]) (.agg #[.int .i64 lo'.a,.int .i64 lo'.b,.int .i64 lo'.c,.int .i64 hi'.a,.int .i64 hi'.b,.int .i64 hi'.c])).run Tryz.prog w=_;rw[run_neq_struct,show(10000:Nat)=9999+1 from rfl,run_equalIn_agg w 9999 115 _ _ hS hp];simp only[Program.fieldsOf,Tryz.underlying115];go_simp;by_cases h1:lo=lo'<;>by_cases h2:hi=hi'<;>simp[h1,h2]
theorem allEq_eqL:∀(l m:List Rng),l.length=m.length->Lib.allEq (fun x y=>decide (x=y)) l m=eqL l m
 |[],[],_=>(dW rfl).symm
 |x::l,y::m,h=>by
  have ih:=allEq_eqL l m D5;by_cases e:x=y
  ·subst e;simp only[Lib.allEq,decide_true,Bool.true_and,ih];by_cases e2:l=m
   ·rw[dW e2,dW (by rw[e2])]
   rw[cH e2,cH (by simpa using e2)]
  rw[cH (by intro h;cases h;exact e rfl)];simp[Lib.allEq,e]
theorem equalR_any(l m:List Rng){N N':Nat->Prop}{v u:Value}{w:World}(hl:aK 6 aW N w v l)(hm:aK 6 aW N' w u m):
  Calls Tryz.prog 70 #[v,u] w fun e w'=>e=.returned (.bool (eqL l m))/\Below w.heap.size w w':=by
 obtain⟨a1,c1,rfl,p1,p2,HA⟩:=hl;obtain⟨a2,c2,rfl,q1,q2,HB⟩:=hm;by_cases kU:l.length=m.length
 ·by_cases h0:l=[]
  ·subst h0;have:m=[]:=List.eq_nil_of_length_eq_zero (by simpa using kU.symm);subst this;rw[dW rfl];clear HA HB kU;go_enter Tryz.func70,Tryz.ntmps70;go_wp2_with fail;(go_loop [13] (fun i=>i=.int .i64 0) (fun i=>0));case atStart=>rfl
   case round=>
    subst hrel;go_wp2_with fail;go_ret;exact⟨rfl,Below.refl _ _⟩
  have h0':m≠[]:=fun e=>by rw[e] at kU;exact h0 (List.eq_nil_of_length_eq_zero (by simpa using kU))
  obtain⟨b1,o1,rfl,-,jH⟩:=HA h0;obtain⟨b2,o2,rfl,-,mG⟩:=HB h0'
  have cells:∀(l:List Rng)b o(N:Nat->Prop),(∀i x,l[i]? =some x->∃cs,aW N w x cs/\cs.length=6/\∀j u,cs[j]? =some u->w.cell? ⟨b,o+i*6+j,none⟩=some u)->
    ∀j,j<l.length->∀i v,(eD l[j]!)[i]? =some v->w.cell? ⟨b,o+j*6+i,none⟩=some v:=fun l b o N hc j hj i v hv=>by
   (have hx:l[j]? =some l[j]! :=by rw[List.getElem!_eq_getElem?_getD,List.getElem?_eq_getElem hj];rfl);obtain⟨cs,e,-,hh⟩:=hc j _ hx;cases e;exact hh i v hv
  refine(Tryz.slices_Equal 6 Tryz.isAgg115 Tryz.sizeOf115 eD (fun _=>rfl) _ neqRng b1 o1 l.length c1 b2 o2 m.length c2 l m w (Nat.le_refl _) (Nat.le_refl _) CR CR (cells l b1 o1 N jH) (cells m b2 o2 N' mG)).mono ?_;rintro e w' ⟨rfl,q,rfl⟩;exact⟨by rw[List.take_length,List.take_length,allEq_eqL _ _ kU],below_dq w q⟩
 rw[cH (fun e=>kU (by rw[e]))];have kQ:((l.length:Int) != (m.length:Int))=true:=DC;clear HA HB;go_enter Tryz.func70,Tryz.ntmps70;go_wp2_with fail;go_ret;exact⟨rfl,Below.refl _ _⟩
theorem properOk_drop{l:List Rng}{k:Nat}{x:Rng}(hx:l[k]? =some x):(l.drop k).all (fun r=>aU r.lo&&aU r.hi)=((aU x.lo&&aU x.hi)&&(l.drop (k+1)).all (fun r=>aU r.lo&&aU r.hi)):=by
 obtain⟨h1,h2⟩:=Yb.1 hx;rw[List.drop_eq_getElem_cons h1,h2,List.all_cons]
theorem properOk_any(l:List Rng){N:Nat->Prop}{v:Value}{w:World}(hv:aK 6 aW N w v l):
  Calls Tryz.prog 84 #[v] w fun e w'=>e=.returned (.bool (eW l))/\Below w.heap.size w w':=by
 have HP:Hid (eW l=((l.all fun r=>aU r.lo&&aU r.hi)&&decide (l.length<=6)&&dU none l)):=zh rfl;have HVe:=zh (fun(v:Ver)W=>hU v W);have uQ:=zh hv;obtain⟨a0,c0,rfl,p1,p2,jG⟩:=id hv;have HA:=zh jG;clear jG hv;generalize eW l=res at HP ⊢;go_enter Tryz.func84,Tryz.ntmps84;go_wp2_with fail;go_loopw [7] (fun iv wr=>∃k:Nat,k<=l.length/\iv=.int .i64 (k:Int)/\Hid (Below w.heap.size w wr)/\Hid ((l.all fun r=>aU r.lo&&aU r.hi)=(l.drop k).all fun r=>aU r.lo&&aU r.hi)) (fun iv _=>l.length-(intOf iv).toNat)
 case atStart=>exact⟨0,Nat.zero_le _,rfl,zh (Below.refl _ _),zh rfl⟩
 case round=>
  obtain⟨k,hk,rfl,HW,HR⟩:=hrel;rename World=>wr
  by_cases jM:k<l.length
  ·obtain⟨q,hq,-⟩:=getElem?_of_lt jM;(have kQ:l≠[]:=fun e=>by rw[e] at jM;simp at jM);obtain⟨b,o,rfl,-,hc⟩:=HA.out kQ;obtain⟨cs,e,-,hj⟩:=hc k q hq;cases e;have r0:=aD HW.out (hj 0 _ rfl);have r1:=aD HW.out (hj 1 _ rfl);have r2:=aD HW.out (hj 2 _ rfl);have r3:=aD HW.out (hj 3 _ rfl);have r4:=aD HW.out (hj 4 _ rfl);have r5:=aD HW.out (hj 5 _ rfl);simp only[Nat.add_zero] at r0;have nN:(0:Int)<=(k:Int)/\(k:Int)<(l.length:Int):=CR;have HD:=zh (HR.out.trans (properOk_drop hq));have tT:=zh (bY wr (.cells #[.int .i64 q.lo.a,.int .i64 q.lo.b,.int .i64 q.lo.c,.int .i64 q.hi.a,.int .i64 q.hi.b,.int .i64 q.hi.c] 115));have yQ:=zh (aB wr (.cells #[.int .i64 q.lo.a,.int .i64 q.lo.b,.int .i64 q.lo.c,.int .i64 q.hi.a,.int .i64 q.hi.b,.int .i64 q.hi.c] 115));obtain⟨⟨x0,x1,x2,x3,x4,x5⟩,-⟩:=bx6 tT.out;have HV1:=zh (HVe.out q.lo);have vS:=zh (HVe.out q.hi);clear hc hj hq HR HVe
   cases h1:aU q.lo with
   |false=>
    have HE:Hid (res=false):=zh (by rw[HP.out,HD.out,h1];simp);rw[h1] at HV1;clear h1 HD;go_wp2_with(go_at_call 34;refine(HV1.out _).mono ?_;rintro e w2 ⟨rfl,oB⟩);go_ret;exact⟨aF HE.out.symm,aA HW.out (aA yQ.out oB.below)⟩
   |true=>
    rw[h1] at HV1
    cases h2:aU q.hi with
    |false=>
     have HE:Hid (res=false):=zh (by rw[HP.out,HD.out,h2];simp);rw[h2] at vS;clear h1 h2 HD;go_wp2_with fail;go_at_call 34;refine(HV1.out _).mono ?_;rintro e w2 ⟨rfl,oB⟩;obtain⟨⟨z0,z1,z2,z3,z4,z5⟩,-⟩:=bx6 (aC oB.below tT.out);have qO:=zh oB.below;clear oB x0 x1 x2 x3 x4 x5;go_wp2_with fail;go_at_call 34;refine(vS.out _).mono ?_;rintro e w3 ⟨rfl,hg3⟩;have vW:=zh hg3.below;clear hg3;go_wp2_with fail;go_ret;exact⟨aF HE.out.symm,aA HW.out (aA yQ.out (aA qO.out vW.out))⟩
    |true=>
     have kY:Hid ((l.all fun r=>aU r.lo&&aU r.hi)=(l.drop (k+1)).all fun r=>aU r.lo&&aU r.hi):=zh (by rw[HD.out,h1,h2];simp);rw[h2] at vS;clear h1 h2 HD;go_wp2_with fail;go_at_call 34;refine(HV1.out _).mono ?_;rintro e w2 ⟨rfl,oB⟩;obtain⟨⟨z0,z1,z2,z3,z4,z5⟩,-⟩:=bx6 (aC oB.below tT.out);have qO:=zh oB.below;clear oB x0 x1 x2 x3 x4 x5;go_wp2_with fail;go_at_call 34;refine(vS.out _).mono ?_;rintro e w3 ⟨rfl,hg3⟩;have vW:=zh hg3.below;clear hg3;go_wp2_with fail;go_roundw;(case rel=>exact⟨k+1,CR,C5,zh (aA HW.out (aA yQ.out (aA qO.out vW.out))),kY⟩);case measure=>simp[intOf];omega
  have HF:Hid ((l.all fun r=>aU r.lo&&aU r.hi)=true):=zh DV;have HRw:=zh (uQ.out.moves aS (aM.later HW.out) CX);by_cases h6:l.length<=6
  ·have HE:Hid (res=dU none l):=zh (by rw[HP.out,HF.out,decide_eq_true h6];rfl);have h6i:(l.length:Int)<=6:=CR;have rB:=zh (norm_any l HRw.out h6);clear HP HF uQ;go_wp2_with fail;go_at_call 138;refine rB.out.mono ?_;rintro e w2 ⟨r,v',rfl,nS,jP,-,qX,kO⟩;have AJ:=zh (equalR_any r l nS (HRw.out.moves aS (aM.later jP) CX));have jF:=zh (aA HW.out jP)
   have HL:Hid (eqL r l=dU none l):=zh (by
    have h:=norm_law qX kO
    cases hs:dU none l with
    |true=>exact dW (h.2 hs)
    |false=>exact cH (fun e=>by rw[h.1 e] at hs;cases hs))
   clear nS jP qX kO;rw[HL.out] at AJ;go_wp2_with fail;go_at_call 70;refine AJ.out.mono ?_;rintro e w3 ⟨rfl,kX⟩;have kH:=zh (aA jF.out kX);clear kX;go_wp2_with fail;go_ret;exact⟨aF HE.out.symm,kH.out⟩
  have HE:Hid (res=false):=zh (by rw[HP.out,decide_eq_false h6];simp);have h6i:¬(l.length:Int)<=6:=CR;clear HP HF h6;go_wp2_with fail;go_ret;exact⟨aF HE.out.symm,HW.out⟩
theorem A4{p:Prop}(h:p:=by
 go_wp2_with fail;refine(HL.out _ W2.out).mono ?_;rintro e w3 ⟨rfl,kX⟩;have W3:=zh (aA W2.out kX);have nP:=zh (aC kX jI.out);obtain⟨⟨y0,y1,y2,y3,y4⟩,-⟩:=bb5 nP.out;clear kX
 cases b5 with
 |false=>
  go_wp2_with fail;go_ret;exact⟨aF D8,W3.out⟩
 |true=>
  by_cases nN:kd=0
  ·subst nN;go_wp2_with fail;go_ret;exact⟨aF D8,W3.out⟩
  have hkz:(kd==0)=false:=beq_eq_false_iff_ne.2 nN;have hlf:((ft.length:Int)==0)=decide (ft.length=0):=by rw[Bool.eq_iff_iff];simp
  generalize decide (ft.length=0)=b6 at *;generalize ft.length=lf at *;go_wp2_with fail;go_ret
  exact⟨aF (by rw[HE.out];simp[nN]<;>(try(intros;omega))),W3.out⟩):p:=h
theorem BS{p:Prop}(h:p:=by
 go_wp2_with fail;go_ret
 exact⟨aF D8,W2.out⟩):p:=h
theorem containsS_any(l:List bA)(x:bA):Lib.containsS l x=l.any fun y=>decide (y=x):=by
 rw[Bool.eq_iff_iff,Lib.containsS_iff,List.any_eq_true];constructor
 ·intro h;exact⟨x,h,C0⟩
 rintro⟨y,hy,e⟩;rw[decide_eq_true_eq] at e;rw[<-e];exact hy
theorem hasS_any(l:List bA)(x:bA){v:Value}{w:World}(hv:Strs w v l):
  Calls Tryz.prog 78 #[v,.string x] w fun e w'=>e=.returned (.bool (l.any fun y=>decide (y=x)))/\w'=w:=by
 rw[<-containsS_any];rcases hv.cases with⟨rfl,a,c,rfl⟩|⟨b,o,c,rfl,h0,h1,h2,-,hc⟩
 ·refine(Tryz.slices_Contains_string_empty a c x w).mono ?_;rintro e w' ⟨rfl,rfl⟩;exact⟨rfl,rfl⟩
 refine(Tryz.slices_Contains_string b o l.length c l x w (Nat.le_refl _) CR (fun j hj=>?_)).mono ?_
 ·obtain⟨y,hy,-⟩:=getElem?_of_lt hj;rw[(hc j y hy).1,List.getD_eq_getElem?_getD,hy];rfl
 rintro e w' ⟨rfl,rfl⟩;exact⟨by rw[List.take_length],rfl⟩
theorem needOk_any(n:Nd)(fs:List bA){N:Nat->Prop}{cs:List Value}{vf:Value}{w:World}(hG:bC w)(hn:cI N w n cs)(hf:Strs w vf fs):
  Calls Tryz.prog 81 #[.agg cs.toArray,vf] w fun e w'=>e=.returned (.bool (eE n fs))/\Below w.heap.size w w':=by
 obtain⟨vr,vs,rfl,lF,nO,hr,hs⟩:=hn;obtain⟨ar,cr,rfl,-⟩:=id hr;obtain⟨af,cf,rfl,-⟩:=id hs;obtain⟨nm,rs,kd,wn,ft⟩:=n;dsimp only at *;have HX:=zh (bY w (.cells #[.string nm,.slice ar rs.length cr,.int .i64 kd,.string wn,.slice af ft.length cf] 71));have HA:=zh (aB w (.cells #[.string nm,.slice ar rs.length cr,.int .i64 kd,.string wn,.slice af ft.length cf] 71));have HN:=zh (fun W(hb:Below w.heap.size w W)=>eY nm W (hG.later hb) lF);have HP:=zh (fun W(hb:Below w.heap.size w W)=>properOk_any rs (hr.moves aS (aM.later hb) CX));have HC:=zh (fun W(hb:Below w.heap.size w W)=>hasS_any fs wn (hf.later hb));have HL:=zh (fun W(hb:Below w.heap.size w W)=>listOk_any ft _ W (hG.later hb) ((hs.strs).later hb));have HE:Hid (eE ⟨nm,rs,kd,wn,ft⟩ fs=(bT nm&&eW rs&&decide (0<=kd)&&decide (kd<3)&&(decide (wn=noB)||fs.any fun x=>decide (x=wn))&&dC ft&&(decide (kd=0)||decide (ft.length=0)))):=zh rfl;obtain⟨⟨x0,x1,x2,x3,x4⟩,-⟩:=bb5 HX.out;have hft:((ft.length:Int)==0)=decide (ft.length=0):=by rw[Bool.eq_iff_iff];simp
 clear hr hs hf lF nO hG;generalize eE ⟨nm,rs,kd,wn,ft⟩ fs=res at HE ⊢;generalize bT nm=b1 at *;generalize eW rs=b2 at *;generalize (fs.any fun x=>decide (x=wn))=b4 at *;generalize dC ft=b5 at *;generalize rs.length=lr at *;go_enter Tryz.func81,Tryz.ntmps81;go_wp2_with fail;refine(HN.out _ HA.out).mono ?_;rintro e w1 ⟨rfl,kK⟩;have W1:=zh (aA HA.out kK);have iN:=zh (aC kK HX.out);obtain⟨⟨y0,y1,y2,y3,y4⟩,-⟩:=bb5 iN.out;clear kK
 cases b1 with
 |false=>
  go_wp2_with fail;go_ret;exact⟨aF D8,W1.out⟩
 |true=>
  go_wp2_with fail;refine(HP.out _ W1.out).mono ?_;rintro e w2 ⟨rfl,jP⟩;have W2:=zh (aA W1.out jP);have jI:=zh (aC jP iN.out);obtain⟨⟨y0,y1,y2,y3,y4⟩,-⟩:=bb5 jI.out;clear jP
  cases b2 with
  |false=>
   exact BS
  |true=>
   by_cases qH:kd<0
   ·have sQ:¬0<=kd:=CR;exact BS
   by_cases hk3:kd<3
   ·have hk4:¬3<=kd:=CR;have hk5:0<=kd:=CR;by_cases hw:wn=noB
    ·subst hw;exact A4
    (have hwe:wn.toList≠[]:=by rw[toList_eq];exact fun h=>hw (cU D5));(have hwi:wn.toList.isEmpty=false:=by simpa using hwe);have hwd:decide (wn=noB)=false:=decide_eq_false hw;go_wp2_with fail;refine(HC.out _ W2.out).mono ?_;rintro e w3 ⟨rfl,rfl⟩
    cases b4 with
    |false=>
     go_wp2_with fail;go_ret;exact⟨aF (by rw[HE.out];simp[hw]),W2.out⟩
    |true=>
     exact A4
   have hk4:3<=kd:=CR;exact BS
theorem o_disable(w:World):(callFunc 302 #[]).run Tryz.prog w=.ok (.value (.tuple #[])) w:=run_call_mark0 Tryz.func302 CQ CQ CQ .disable CQ w
theorem o_enable(w:World):(callFunc 304 #[]).run Tryz.prog w=.ok (.value (.tuple #[])) w:=run_call_mark0 Tryz.func304 CQ CQ CQ .enable CQ w
theorem o_acquire(a:Addr)(w:World):(callFunc 305 #[.pointer (some a)]).run Tryz.prog w=.ok (.value (.tuple #[])) w:=run_call_marked Tryz.func305 CQ CQ CQ .acquire CQ a w
theorem o_merge(a:Addr)(w:World):(callFunc 307 #[.pointer (some a)]).run Tryz.prog w=.ok (.value (.tuple #[])) w:=run_call_marked Tryz.func307 CQ CQ CQ .releaseMerge CQ a w
theorem o_store(a:Addr)(x:Value)(u:FrameMode)(w:World)(hc:w.cell? a=some x)(hz:w.frozen? a=false):
  CallsD Tryz.prog 246 #[.pointer (some a),.bool true] u w fun e u' w'=>u'=u/\(e=.returned (.tuple #[])/\w'=w.drew.setCell a (.int .u32 1)):=by
 have jT:w.drew.cell? a=some x:=by go_simp
 have hz':w.drew.frozen? a=false:=by go_simp
 have hst:=run_call_store (P:=Tryz.prog) Tryz.func280 CQ CQ CQ CQ (k:=.u32) (y:=1) jT hz'
 go_enter_d Tryz.func246,Tryz.ntmps246
 go_wp2
 go_region_calls
 all_goals(go_end0;exact⟨rfl,rfl⟩)
theorem o_unlock(a:Addr)(u:FrameMode)(w:World)(hc:w.cell? a=some (.int .i32 1))(hz:w.frozen? a=false):
  CallsD Tryz.prog 245 #[.pointer (some a)] u w fun e u' w'=>u'=u/\(e=.returned (.tuple #[])/\w'=w.setCell a (.int .i32 0)):=by
 have hd:=o_disable;have he:=o_enable;have hr:=o_merge;have hadd:=run_call_add (P:=Tryz.prog) Tryz.func308 CQ CQ CQ .i32 CQ (y:= -1) (s:=0) hc hz (by simp[go_sem];rfl);have zN:=run_convert_to_unsafe (P:=Tryz.prog) (src:=369) (dst:=255) Tryz.underlying369 Tryz.underlying255 CQ hc
 go_enter_d Tryz.func245,Tryz.ntmps245
 go_wp2
 go_end0
 go_wp2
 go_end0;exact⟨rfl,rfl⟩
theorem o_lock(a:Addr)(w:World)(hc:w.cell? a=some (.int .i32 0))(hz:w.frozen? a=false):
  Calls Tryz.prog 244 #[.pointer (some a)] w fun e w'=>e=.returned (.tuple #[])/\w'=w.setCell a (.int .i32 1):=by
 have hd:=o_disable;have he:=o_enable;have ha:=o_acquire;have hcas:=run_call_cas_hit (P:=Tryz.prog) Tryz.func303 CQ CQ CQ .i32 CQ (y:=1) hc hz;have jT:(w.setCell a (.int .i32 1)).cell? a=some (.int .i32 1):=World.cell?_setCell_same w a _ hc;have zN:=run_convert_to_unsafe (P:=Tryz.prog) (src:=369) (dst:=255) Tryz.underlying369 Tryz.underlying255 CQ jT;go_enter Tryz.func244,Tryz.ntmps244
 go_wp2
 first|go_end0|(simp only[Exit.inBlock,Exit.then];refine bodyPost_ret (results_none rfl _ _ _) rfl ?_)|refine bodyPost_ret (results_none rfl _ _ _) rfl ?_
 go_wp2
 go_end0;exact⟨rfl,rfl⟩
theorem aH{w:World}{b:Nat}{cs:Array Value}{T:TypeId}(h:w.heap[b]? =some (.cells cs T))(o:Nat){x:Value}(hx:cs[o]? =some x):w.cell? ⟨b,o,none⟩=some x/\w.frozen? ⟨b,o,none⟩=false:=by
 constructor
 ·unfold World.cell?;simp[h,hx]
 unfold World.frozen?;simp[h]
theorem drew_at{w:World}{b:Nat}{ob:Obj}(h:w.heap[b]? =some ob):w.drew.heap[b]? =some ob:=h
def OnceRuns(f:FuncId)(b:Nat)(x2 x3 x4:Value)(Q:Value->Value->World->Prop)(w:World):Prop:=
 ∀W,W.heap[b]? =some (.cells #[.int .u32 0,.int .i32 1,x2,x3,x4] 243)->Below b w W->w.heap.size<=W.heap.size->(∀k,b<k->W.heap[k]? =w.heap[k]?)->
  Calls Tryz.prog f #[.pointer (some ⟨b,0,none⟩)] W fun e W'=>e=.returned (.tuple #[])/\Below b W W'/\∃y3 y4,W'.heap[b]? =some (.cells #[.int .u32 0,.int .i32 1,x2,y3,y4] 243)/\Q y3 y4 W'
theorem o_slow(b:Nat)(x2 x3 x4:Value){Q:Value->Value->World->Prop}(w:World)
  (h:w.heap[b]? =some (.cells #[.int .u32 0,.int .i32 0,x2,x3,x4] 243))
  (HB:OnceRuns 176 b x2 x3 x4 Q w) (hQ:∀y3 y4 W W',Q y3 y4 W->W.heap.size<=W'.heap.size->(∀k,b<k->W'.heap[k]? =W.heap[k]?)->Q y3 y4 W'):
  Calls Tryz.prog 214 #[.pointer (some ⟨b,0,none⟩),.func (.func 176) #[.pointer (some ⟨b,0,none⟩)] #[]] w fun e w'=>e=.returned (.tuple #[])/\Below b w w'/\
   ∃y3 y4,w'.heap[b]? =some (.cells #[.int .u32 1,.int .i32 0,x2,y3,y4] 243)/\Q y3 y4 w':=by
 have e1:(w.setCell ⟨b,1,none⟩ (.int .i32 1)).heap[b]? =some (.cells #[.int .u32 0,.int .i32 1,x2,x3,x4] 243):=by rw[aG h];rfl
 have jL:=zh (HB _ e1 ((Below.refl b w).setCell (p:=⟨b,1,none⟩) (Nat.le_refl _) _) (by simp[World.setCell]) (fun k hk=>Below.heap_setCell _ _ _ _ DC));have tA:=zh ((Below.refl b w).setCell (p:=⟨b,1,none⟩) (Nat.le_refl _) (.int .i32 1));have hl:=run_call_load (P:=Tryz.prog) Tryz.func243 CQ CQ CQ .u32 CQ (w:=w.setCell ⟨b,1,none⟩ (.int .i32 1)) (a:=⟨b,0,none⟩) (x:=0) (aH e1 0 rfl).1;have hL:=zh (o_lock ⟨b,1,none⟩ w (aH h 1 rfl).1 (aH h 1 rfl).2);have sA:∀(x:Bool)(w:World),(Op.unary .not (.bool x)).run Tryz.prog w=.ok (.bool (!x)) w:=fun _ _=>rfl;clear HB e1
 go_enter_defers Tryz.func214,Tryz.ntmps214
 go_wp2_with fail;go_at_call 244;refine hL.out.mono ?_;rintro e w' ⟨rfl,rfl⟩;go_wp2_with(first|(go_at_call 213;go_in));go_at_call 176;refine jL.out.mono ?_;rintro e w2 ⟨rfl,jP,y3,y4,h2,q2⟩;have H2:=zh h2;have qB:=zh q2;have B2:=zh (tA.out.trans jP);clear h2 q2 jP hl hL jL tA;go_wp2_with fail;refine leaves_cons (f:=246) (args:=#[.pointer (some ⟨b,0,none⟩),.bool true]) C0 (by simp[go_sem]) ?_;refine(o_store ⟨b,0,none⟩ (.int .u32 0) .returning _ (aH H2.out 0 rfl).1 (aH H2.out 0 rfl).2).mono ?_;rintro e u' w'' ⟨rfl,rfl,rfl⟩;have H3:Hid ((w2.drew.setCell ⟨b,0,none⟩ (.int .u32 1)).heap[b]? =some (.cells #[.int .u32 1,.int .i32 1,x2,y3,y4] 243)):=zh (by rw[aG (drew_at H2.out)];rfl);refine leaves_cons (f:=245) (args:=#[.pointer (some ⟨b,1,none⟩)]) (by simp[settle]) (by simp[go_sem]) ?_;refine(o_unlock ⟨b,1,none⟩ _ _ (aH H3.out 1 rfl).1 (aH H3.out 1 rfl).2).mono ?_;rintro e u' w'' ⟨rfl,rfl,rfl⟩;have H4:((w2.drew.setCell ⟨b,0,none⟩ (.int .u32 1)).setCell ⟨b,1,none⟩ (.int .i32 0)).heap[b]? =some (.cells #[.int .u32 1,.int .i32 0,x2,y3,y4] 243):=by rw[aG H3.out];rfl
 have Q4:=hQ y3 y4 w2 ((w2.drew.setCell ⟨b,0,none⟩ (.int .u32 1)).setCell ⟨b,1,none⟩ (.int .i32 0)) qB.out (by simp[World.setCell])
  (fun k hk=>(Below.heap_setCell _ _ _ _ DC).trans (Below.heap_setCell _ _ _ _ DC))
 have B4:Below b w ((w2.drew.setCell ⟨b,0,none⟩ (.int .u32 1)).setCell ⟨b,1,none⟩ (.int .i32 0)):=(B2.out.drew.setCell (p:=⟨b,0,none⟩) (Nat.le_refl _) _).setCell (p:=⟨b,1,none⟩) (Nat.le_refl _) _;simp only[Leaves,settle,results,Tryz.results214];exact⟨.tuple #[],C0,rfl,B4,y3,y4,H4,Q4⟩
theorem o_do(b:Nat)(x2 x3 x4:Value){Q:Value->Value->World->Prop}(w:World)
  (h:w.heap[b]? =some (.cells #[.int .u32 0,.int .i32 0,x2,x3,x4] 243))
  (HB:OnceRuns 176 b x2 x3 x4 Q w) (hQ:∀y3 y4 W W',Q y3 y4 W->W.heap.size<=W'.heap.size->(∀k,b<k->W'.heap[k]? =W.heap[k]?)->Q y3 y4 W'):
  Calls Tryz.prog 175 #[.pointer (some ⟨b,0,none⟩),.func (.func 176) #[.pointer (some ⟨b,0,none⟩)] #[]] w fun e w'=>e=.returned (.tuple #[])/\Below b w w'/\
   ∃y3 y4,w'.heap[b]? =some (.cells #[.int .u32 1,.int .i32 0,x2,y3,y4] 243)/\Q y3 y4 w':=by
 have hl:=run_call_load (P:=Tryz.prog) Tryz.func243 CQ CQ CQ .u32 CQ (w:=w) (a:=⟨b,0,none⟩) (x:=0) (aH h 0 rfl).1;have sA:∀(x:Bool)(w:World),(Op.unary .not (.bool x)).run Tryz.prog w=.ok (.bool (!x)) w:=fun _ _=>rfl;have hS:=zh (o_slow b x2 x3 x4 w h HB hQ);clear h HB hQ;go_enter Tryz.func175,Tryz.ntmps175;go_wp2_with(first|(go_at_call 213;go_in));go_at_call 214;refine hS.out.mono ?_;rintro e w' ⟨rfl,hw⟩;have HW:=zh hw;clear hw hS hl;go_wp2_with fail;go_end0;exact⟨rfl,HW.out⟩
end Go.Proofs.YtmpopphjaggeoaaGreatDoor
