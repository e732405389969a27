/- Texts of this seat, joined. -/
import Derived.Test.YtiionicikdnnpaaGreatDoorPAF
import Derived.Test.YtiionicikdnnpaaGreatDoorPAD
set_option maxHeartbeats 16000000
set_option maxRecDepth 100000
set_option linter.unusedVariables false
set_option linter.unusedSimpArgs false
set_option linter.constructorNameAsVariable false
namespace Go.Proofs.YtiionicikdnnpaaGreatDoor
open Go.RowKit
theorem VM{p:Prop}(h:p:=by
 clear zM hg wI;go_enter Tryz.func92,Tryz.ntmps92;go_wp2_with fail;go_ret
 exact⟨aF WI,aC _ _⟩):p:=h
def RightXpAt(d:Nat):Prop:=∀(x:Xp)(N:Nat->Prop)(op n:Int)(s m:bA)(vn va:Value)(w:World),d<=100->hZ w->aU N w x [.int .i64 op,.int .i64 n,.string s,.string m,vn,va]->
  Calls Tryz.prog 92 #[jA op n s m vn va,.int .i64 (d:Int)] w fun e w'=>e=.returned (.bool (aJ d x))/\Below w.heap.size w w'
theorem rightExp_zero:RightXpAt 0:=by
  rintro⟨op',n',s',m',names,args⟩ N op n s m vn va w-hg he;have HR:Hid (aJ 0 (.mk op' n' s' m' names args)=false):=zh rfl;obtain⟨⟨a1,n1,c1,rfl⟩,a2,n2,c2,rfl⟩:=jE he;clear he hg;go_enter Tryz.func92,Tryz.ntmps92;go_wp2_with fail;go_ret;exact⟨aF ZD,aC _ _⟩
theorem rightExp_step(d:Nat)(IH:RightXpAt d):RightXpAt (d+1):=by
  rintro⟨op,n,s,m,names,args⟩ N op' n' s' m' vn va w hd hg he;have zM:=he;rw[aN] at he;obtain⟨v1,v2,e,hs,hm,hn,hr⟩:=he;cases e;have RA:=zh (fun x N op n s m vn va w h2 h3=>IH x N op n s m vn va w VS h2 h3);have HG:=zh (fun W(hb:Below w.heap.size w W)=>hg.later hb);have HE0:=zh zM;have wI:((d+1:Nat):Int)=(d:Int)+1:=VS;rw[wI];have hd0:((d:Int)+1==0)=false:=V7;have LY:(d:Int)<=100:=VS;obtain⟨a1,c1,rfl,xV,yF,-⟩:=hn;have hr':=hr;obtain⟨a2,c2,rfl,hl3,hl4,-⟩:=hr';have hlb:args.length<=9223372036854775807:=VS;have hlc:names.length<=9223372036854775807:=VS;by_cases h0:0<=op
  ·by_cases h1:op<19
   ·have HR:Hid (aJ (d+1) (.mk op n s m names args)=((decide (cleanC op names.length<0)||decide (cleanC op names.length=args.length))&&decide (cleanN op n=n)&&decide (cleanS op s=s)&&decide (cleanM op m=m)&&decide ((if op=13 then names.length else 0)=names.length)&&gE (.mk op n s m names args)&&args.all (aJ d))):=zh (by
     rw[aJ,cleanX_eq op n s m names args h0 h1,decide_eq_true h0,decide_eq_true h1];simp only[Bool.true_and];congr 4
     by_cases h:op=13<;>simp[h])
    have EM:=zh (fun W=>clean_any op n s m a1 names.length c1 a2 args.length c2 W h0 h1);unfold CleanSays at EM;have HLf:=zh (fun W(hb:Below w.heap.size w W)=>leaf_any op n s m names args N _ _ W h0 h1 (HG.out W hb) (aG _ _ _ _ _ _ (aK.later hb) zM));unfold fS at HLf;have g0:¬op<0:=VS;have g1:¬19<=op:=VS;generalize cleanN op n=cN at EM HR;generalize cleanS op s=cS at EM HR;generalize cleanM op m=cM at EM HR;generalize cleanC op names.length=cC at EM HR;generalize (if op=13 then names.length else 0)=k3 at EM HR;generalize gE (.mk op n s m names args)=lf at HLf HR;clear zM hg wI;by_cases hA:cC<0\/cC=args.length
    ·(have hA':(decide (cC<0)||decide (cC=args.length))=true:=by rcases hA with h|h<;>simp[h]);rw[hA',Bool.true_and] at HR;by_cases hB:cN=n
     ·(have hB':(cN != n)=false:=by rw[bne_eq_false_iff_eq];exact hB);rw[decide_eq_true hB,Bool.true_and] at HR;by_cases hC:cS=s
      ·(have hC':(cS.toList==s.toList)=true:=by rw[eE];exact decide_eq_true hC);rw[decide_eq_true hC,Bool.true_and] at HR;by_cases hD:cM=m
       ·(have hD':(cM.toList==m.toList)=true:=by rw[eE];exact decide_eq_true hD);rw[decide_eq_true hD,Bool.true_and] at HR;by_cases hE:k3=names.length
        ·(have hE':((k3:Int) != (names.length:Int))=false:=by rw[bne_eq_false_iff_eq];omega);rw[decide_eq_true hE,Bool.true_and] at HR;clear hB hC hD hE hA';rcases hA with hA|hA
         focus
          have FQ:¬0<=cC:=VS;have hA2:cC<0:=hA
         rotate_left
         focus
          have FQ:0<=cC:=VS;have hA1:(cC != (args.length:Int))=false:=XN;clear hA
         all_goals
          cases lf with
          |false=>
           have HF:Hid (aJ (d+1) (.mk op n s m names args)=false):=zh WP;go_enter Tryz.func92,Tryz.ntmps92;go_wp2_with(first|(go_at_call 163;refine(HLf.out _ pQ.out).mono ?_;rintro e w4 ⟨rfl,qE⟩;obtain⟨⟨u0,u1,u2,u3,u4,u5⟩,-⟩:=bx6 (aD qE tC.out))|(go_at_call 162;refine(EM.out (w.alloc (aH op n s m a1 names.length c1 a2 args.length c2))).mono ?_;rintro e w2 ⟨a3,n3,c3,rfl,rfl,pM⟩;have pQ:=zh (aA (aA (aC w (aH op n s m a1 names.length c1 a2 args.length c2)) pM) (aC w2 (aH op cN cS cM a3 n3 c3 a2 args.length c2)));have tC:=zh (aD (aA pM (aC w2 (aH op cN cS cM a3 n3 c3 a2 args.length c2))) (bY w (aH op n s m a1 names.length c1 a2 args.length c2)));obtain⟨⟨t0,t1,t2,t3,t4,t5⟩,-⟩:=bx6 tC.out));go_ret;exact⟨aF WI,aA pQ.out qE⟩
          |true=>
           have HS0:Hid (aJ (d+1) (.mk op n s m names args)=args.all (aJ d)):=zh WP;have hrc:=hr.cases VU;clear HR hr;rcases hrc with⟨LM,a',c',hv⟩|⟨b,o,c',hv,h0',L9,JT,hb,hN,hc⟩
           ·have OL:Hid (args.length=0):=zh (by rw[LM];rfl);clear hv LM;go_enter Tryz.func92,Tryz.ntmps92;go_wp2_with(first|(go_at_call 163;refine(HLf.out _ pQ.out).mono ?_;rintro e w4 ⟨rfl,qE⟩;obtain⟨⟨u0,u1,u2,u3,u4,u5⟩,-⟩:=bx6 (aD qE tC.out))|(go_at_call 162;refine(EM.out (w.alloc (aH op n s m a1 names.length c1 a2 args.length c2))).mono ?_;rintro e w2 ⟨a3,n3,c3,rfl,rfl,pM⟩;have pQ:=zh (aA (aA (aC w (aH op n s m a1 names.length c1 a2 args.length c2)) pM) (aC w2 (aH op cN cS cM a3 n3 c3 a2 args.length c2)));have tC:=zh (aD (aA pM (aC w2 (aH op cN cS cM a3 n3 c3 a2 args.length c2))) (bY w (aH op n s m a1 names.length c1 a2 args.length c2)));obtain⟨⟨t0,t1,t2,t3,t4,t5⟩,-⟩:=bx6 tC.out));have rB:=zh (aA pQ.out qE);(go_loopw [73] (fun iv wr=>iv=.int .i64 0/\Hid (Below w.heap.size w wr)) (fun _ _=>0));case atStart=>exact⟨rfl,rB⟩
            case round=>
             obtain⟨rfl,HB⟩:=hrel;(have hl0:¬(0:Int)<(args.length:Int):=by have:=OL.out;omega);go_wp2_with fail;go_ret;exact⟨aF (by rw[HS0.out,List.eq_nil_of_length_eq_zero OL.out];rfl),HB.out⟩
           cases hv;have HC:=zh hc;clear hc;go_enter Tryz.func92,Tryz.ntmps92;go_wp2_with(first|(go_at_call 163;refine(HLf.out _ pQ.out).mono ?_;rintro e w4 ⟨rfl,qE⟩;obtain⟨⟨u0,u1,u2,u3,u4,u5⟩,-⟩:=bx6 (aD qE tC.out))|(go_at_call 162;refine(EM.out (w.alloc (aH op n s m a1 names.length c1 (some ⟨b,o,none⟩) args.length c2))).mono ?_;rintro e w2 ⟨a3,n3,c3,rfl,rfl,pM⟩;have pQ:=zh (aA (aA (aC w (aH op n s m a1 names.length c1 (some ⟨b,o,none⟩) args.length c2)) pM) (aC w2 (aH op cN cS cM a3 n3 c3 (some ⟨b,o,none⟩) args.length c2)));have tC:=zh (aD (aA pM (aC w2 (aH op cN cS cM a3 n3 c3 (some ⟨b,o,none⟩) args.length c2))) (bY w (aH op n s m a1 names.length c1 (some ⟨b,o,none⟩) args.length c2)));obtain⟨⟨t0,t1,t2,t3,t4,t5⟩,-⟩:=bx6 tC.out));have rB:=zh (aA pQ.out qE);clear qE pM pQ t0 t1 t2 t3 t4 t5 u0 u1 u2 u3 u4 u5 EM HLf;(go_loopw [73] (fun iv wr=>∃q:Nat,q<=args.length/\iv=.int .i64 (q:Int)/\Hid (Below w.heap.size w wr)/\Hid (aJ (d+1) (.mk op n s m names args)=(args.drop q).all (aJ d))) (fun iv _=>args.length-(intOf iv).toNat));case atStart=>exact⟨0,Nat.zero_le _,rfl,rB,HS0⟩
           case round=>
            obtain⟨q,hq,rfl,HB,qO⟩:=hrel;(rename World=>wr);by_cases pS:q<args.length
            ·obtain⟨x,hx,-⟩:=getElem?_of_lt pS;obtain⟨cs,tI,-,hj⟩:=HC.out q x hx;have rN:=zh (qO.out.trans (all_at hx))
             cases x with
             |mk sH n2 s2 m2 names2 args2=>
              have xF:=tI;rw[aN] at xF;obtain⟨vn2,va2,rfl,-,-,FC,zK⟩:=xF;obtain⟨N8,cc1,rfl,-⟩:=FC;obtain⟨N7,cc2,rfl,-⟩:=zK;have p0:wr.cell? ⟨b,o+q*6,none⟩=some (.int .i64 sH):=aB HB.out (hj 0 _ rfl);have p1:=aB HB.out (hj 1 _ rfl);have p2:=aB HB.out (hj 2 _ rfl);have p3:=aB HB.out (hj 3 _ rfl);have p4:=aB HB.out (hj 4 _ rfl);have p5:=aB HB.out (hj 5 _ rfl);have HL:=zh (fun W(h:Below w.heap.size w W)=>RA.out (.mk sH n2 s2 m2 names2 args2) N sH n2 s2 m2 _ _ W (HG.out W h) (aG _ _ _ _ _ _ (aK.later h) tI));clear hj tI hx;generalize aJ d (.mk sH n2 s2 m2 names2 args2)=r0 at HL rN;generalize names2.length=ln at *;generalize args2.length=la at *
              cases r0 with
              |false=>
               have HF:Hid (aJ (d+1) (.mk op n s m names args)=false):=zh (by rw[rN.out];rfl);clear rN qO;go_wp2_with(go_at_call 92;refine(HL.out _ (aA HB.out (aC _ _))).mono ?_;rintro e w1 ⟨rfl,pN⟩);go_ret;exact⟨aF WI,aA HB.out (aA (aC _ _) pN)⟩
              |true=>
               have tQ:Hid (aJ (d+1) (.mk op n s m names args)=(args.drop (q+1)).all (aJ d)):=zh (by rw[rN.out];rfl);clear rN qO;go_wp2_with(go_at_call 92;refine(HL.out _ (aA HB.out (aC _ _))).mono ?_;rintro e w1 ⟨rfl,pN⟩);exact VE
            have uM:q=args.length:=VS;have HT:Hid (aJ (d+1) (.mk op n s m names args)=true):=zh Y5;go_wp2_with fail;go_ret;exact⟨aF (by rw[HT.out]),HB.out⟩
        (have hE':((k3:Int) != (names.length:Int))=true:=by rw[bne_iff_ne];omega);have HF:Hid (aJ (d+1) (.mk op n s m names args)=false):=zh (by rw[HR.out,decide_eq_false hE];rfl);clear hB hC hD hE hA';rcases hA with hA|hA
        focus
         have FQ:¬0<=cC:=VS;have hA2:cC<0:=hA
        rotate_left
        focus
         have FQ:0<=cC:=VS;have hA1:(cC != (args.length:Int))=false:=XN;clear hA
        all_goals
         go_enter Tryz.func92,Tryz.ntmps92;go_wp2_with(go_at_call 162;refine(EM.out (w.alloc (aH op n s m a1 names.length c1 a2 args.length c2))).mono ?_;rintro e w2 ⟨a3,n3,c3,rfl,rfl,pM⟩;have pQ:=zh (aA (aA (aC w (aH op n s m a1 names.length c1 a2 args.length c2)) pM) (aC w2 (aH op cN cS cM a3 n3 c3 a2 args.length c2)));have tC:=zh (aD (aA pM (aC w2 (aH op cN cS cM a3 n3 c3 a2 args.length c2))) (bY w (aH op n s m a1 names.length c1 a2 args.length c2)));obtain⟨⟨t0,t1,t2,t3,t4,t5⟩,-⟩:=bx6 tC.out);go_ret;exact⟨aF WI,pQ.out⟩
       (have hD':(cM.toList==m.toList)=false:=by rw[eE];exact decide_eq_false hD);have HF:Hid (aJ (d+1) (.mk op n s m names args)=false):=zh (by rw[HR.out,decide_eq_false hD];rfl);clear hB hC hD hA';rcases hA with hA|hA
       focus
        have FQ:¬0<=cC:=VS;have hA2:cC<0:=hA
       rotate_left
       focus
        have FQ:0<=cC:=VS;have hA1:(cC != (args.length:Int))=false:=XN;clear hA
       all_goals
        go_enter Tryz.func92,Tryz.ntmps92;go_wp2_with(go_at_call 162;refine(EM.out (w.alloc (aH op n s m a1 names.length c1 a2 args.length c2))).mono ?_;rintro e w2 ⟨a3,n3,c3,rfl,rfl,pM⟩;have pQ:=zh (aA (aA (aC w (aH op n s m a1 names.length c1 a2 args.length c2)) pM) (aC w2 (aH op cN cS cM a3 n3 c3 a2 args.length c2)));have tC:=zh (aD (aA pM (aC w2 (aH op cN cS cM a3 n3 c3 a2 args.length c2))) (bY w (aH op n s m a1 names.length c1 a2 args.length c2)));obtain⟨⟨t0,t1,t2,t3,t4,t5⟩,-⟩:=bx6 tC.out);go_ret;exact⟨aF WI,pQ.out⟩
      (have hC':(cS.toList==s.toList)=false:=by rw[eE];exact decide_eq_false hC);have HF:Hid (aJ (d+1) (.mk op n s m names args)=false):=zh (by rw[HR.out,decide_eq_false hC];rfl);clear hB hC hA';rcases hA with hA|hA
      focus
       have FQ:¬0<=cC:=VS;have hA2:cC<0:=hA
      rotate_left
      focus
       have FQ:0<=cC:=VS;have hA1:(cC != (args.length:Int))=false:=XN;clear hA
      all_goals
       go_enter Tryz.func92,Tryz.ntmps92;go_wp2_with(go_at_call 162;refine(EM.out (w.alloc (aH op n s m a1 names.length c1 a2 args.length c2))).mono ?_;rintro e w2 ⟨a3,n3,c3,rfl,rfl,pM⟩;have pQ:=zh (aA (aA (aC w (aH op n s m a1 names.length c1 a2 args.length c2)) pM) (aC w2 (aH op cN cS cM a3 n3 c3 a2 args.length c2)));have tC:=zh (aD (aA pM (aC w2 (aH op cN cS cM a3 n3 c3 a2 args.length c2))) (bY w (aH op n s m a1 names.length c1 a2 args.length c2)));obtain⟨⟨t0,t1,t2,t3,t4,t5⟩,-⟩:=bx6 tC.out);go_ret;exact⟨aF WI,pQ.out⟩
     (have hB':(cN != n)=true:=by rw[bne_iff_ne];exact hB);have HF:Hid (aJ (d+1) (.mk op n s m names args)=false):=zh (by rw[HR.out,decide_eq_false hB];rfl);clear hB hA';rcases hA with hA|hA
     focus
      have FQ:¬0<=cC:=VS;have hA2:cC<0:=hA
     rotate_left
     focus
      have FQ:0<=cC:=VS;have hA1:(cC != (args.length:Int))=false:=XN;clear hA
     all_goals
      go_enter Tryz.func92,Tryz.ntmps92;go_wp2_with(go_at_call 162;refine(EM.out (w.alloc (aH op n s m a1 names.length c1 a2 args.length c2))).mono ?_;rintro e w2 ⟨a3,n3,c3,rfl,rfl,pM⟩;have pQ:=zh (aA (aA (aC w (aH op n s m a1 names.length c1 a2 args.length c2)) pM) (aC w2 (aH op cN cS cM a3 n3 c3 a2 args.length c2)));have tC:=zh (aD (aA pM (aC w2 (aH op cN cS cM a3 n3 c3 a2 args.length c2))) (bY w (aH op n s m a1 names.length c1 a2 args.length c2)));obtain⟨⟨t0,t1,t2,t3,t4,t5⟩,-⟩:=bx6 tC.out);go_ret;exact⟨aF WI,pQ.out⟩
    have FQ:0<=cC:=VS;(have hA1:(cC != (args.length:Int))=true:=by rw[bne_iff_ne];omega);have HF:Hid (aJ (d+1) (.mk op n s m names args)=false):=zh (by rw[HR.out,decide_eq_false (fun h=>hA (.inl h)),decide_eq_false (fun h=>hA (.inr h))];rfl);clear hA;go_enter Tryz.func92,Tryz.ntmps92;go_wp2_with(go_at_call 162;refine(EM.out (w.alloc (aH op n s m a1 names.length c1 a2 args.length c2))).mono ?_;rintro e w2 ⟨a3,n3,c3,rfl,rfl,pM⟩;have pQ:=zh (aA (aA (aC w (aH op n s m a1 names.length c1 a2 args.length c2)) pM) (aC w2 (aH op cN cS cM a3 n3 c3 a2 args.length c2)));have tC:=zh (aD (aA pM (aC w2 (aH op cN cS cM a3 n3 c3 a2 args.length c2))) (bY w (aH op n s m a1 names.length c1 a2 args.length c2)));obtain⟨⟨t0,t1,t2,t3,t4,t5⟩,-⟩:=bx6 tC.out);go_ret;exact⟨aF WI,pQ.out⟩
   have HF:Hid (aJ (d+1) (.mk op n s m names args)=false):=zh (by rw[aJ,decide_eq_false h1];simp);have g0:¬op<0:=VS;have g1:19<=op:=VS;exact VM
  have HF:Hid (aJ (d+1) (.mk op n s m names args)=false):=zh (by rw[aJ,decide_eq_false h0];simp);have g0:op<0:=VS;exact VM
theorem gM:RightXpAll:=fun d=>by
 induction d with
 |zero=>exact rightExp_zero
 |succ d ih=>exact rightExp_step d ih
theorem VJ{p:Prop}(h:p:=by
 go_ret
 exact⟨aF WI,tC.out⟩):p:=h
theorem jU{B:Nat}{a b:World}(h:Below B a b)(n:Nat):Below B a (b.drewN n):=⟨h.os,h.tape,h.output,h.size,h.block⟩
theorem flds_bad{l:List Fld}{k:Nat}{x:Fld}{known:List bA}{r:Bool}(hx:l[k]? =some x)(h:(known.any fun y=>decide (y=x.1))=true\/aP x.1=false\/aQ 4 x.2=false)
  (hr:r=cG (l.drop k) known):r=false:=by
 obtain⟨hk,rfl⟩:=Yb.1 hx;rw[hr,List.drop_eq_getElem_cons hk];revert h;obtain⟨n,t⟩:=l[k];intro h;rw[cG];rcases h with h|h|h<;>simp[h]
theorem flds_good{l:List Fld}{k:Nat}{x:Fld}{known:List bA}{r:Bool}(hx:l[k]? =some x)(h1:(known.any fun y=>decide (y=x.1))=false)(h2:aP x.1=true)(h3:aQ 4 x.2=true)
  (hr:r=cG (l.drop k) known):r=cG (l.drop (k+1)) (x.1::known):=by
 obtain⟨hk,rfl⟩:=Yb.1 hx;rw[hr,List.drop_eq_getElem_cons hk];revert h1 h2 h3;obtain⟨n,t⟩:=l[k];intro h1 h2 h3;rw[cG,h1,h2,h3];rfl
theorem flds_end{l:List Fld}{k:Nat}{known:List bA}{r:Bool}(hk:l.length<=k)(hr:r=cG (l.drop k) known):r=true:=by
 rw[hr,List.drop_of_length_le hk,cG]
theorem mD(l:List Fld)(most:Nat)(N:Nat->Prop)(v:Value)(w:World)(hn:most<=1000)(hg:hZ w)(he:aO 3 eH N w v l):
  Calls Tryz.prog 80 #[v,.int .i64 (most:Int)] w fun e w'=>e=.returned (.bool (bO l most))/\Below w.heap.size w w':=by
 have HG:=zh (fun W(hb:Below w.heap.size w W)=>hg.later hb);have hlb:l.length<=9223372036854775807:=by obtain⟨_,_,_,h1,h2,-⟩:=he;omega
 have IU:(most:Int)<=1000:=VS;have HR:Hid (bO l most=(cG l []&&decide (l.length<=most))):=zh rfl;generalize bO l most=res at HR;have HD:Hid (decide ((l.length:Int)<=(most:Int))=decide (l.length<=most)):=zh (by rw[Bool.eq_iff_iff];simp);have KV:=@run_makeMap Tryz.prog;have HRT:=zh (lN);clear hg;rcases he.cases VU with⟨rfl,a,c,rfl⟩|⟨b,o,c,rfl,h0,h1,h2,hb,hN,hc⟩
 ·clear he;go_enter Tryz.func80,Tryz.ntmps80;go_wp2_with fail;go_loop [11] (fun i=>i=.int .i64 0) (fun _=>0)
  case atStart=>rfl
  case round=>
   subst hrel;go_wp2_with fail;go_ret;exact⟨aF (by rw[HR.out,<-HD.out];simp[cG]),aC _ _⟩
 have HC:=zh hc;clear hc he;go_enter Tryz.func80,Tryz.ntmps80;go_wp2_with fail;clear KV;go_loopw [11] (fun iv wr=>∃(q:Nat)(known:List bA),q<=l.length/\iv=.int .i64 (q:Int)/\Hid (Below w.heap.size w wr)/\Hid (cG l []=cG (l.drop q) known)/\Hid (bQ jC fG wr w.heap.size q (mL known))) (fun iv _=>l.length-(intOf iv).toNat)
 case atStart=>exact⟨0,[],Nat.zero_le _,rfl,zh (aC _ _),zh rfl,zh ((bQ.made w).ext (fun _=>rfl))⟩
 case round=>
  obtain⟨q,known,hq,rfl,HB,qO,HM⟩:=hrel;rename World=>wr
  have DT:w.heap.size<wr.heap.size:=HM.out.lt;by_cases pS:q<l.length
  ·obtain⟨x,hx,-⟩:=getElem?_of_lt pS;obtain⟨cs,tI,-,hj⟩:=HC.out q x hx;obtain⟨nm,t⟩:=x;obtain⟨ct,rfl,tT,OY⟩:=tI;have hty0:=OY
   cases t with
   |mk kd fs=>
    rw[dY] at hty0;obtain⟨vf,rfl,FC⟩:=hty0;obtain⟨a1,cc1,rfl,-⟩:=FC;have c0:wr.cell? ⟨b,o+q*3,none⟩=some (.string nm):=aB HB.out (hj 0 _ rfl);have c1:=aB HB.out (hj 1 _ rfl);have c2:=aB HB.out (hj 2 _ rfl);have s1:nm.size<=140737488355328:=Nat.le_trans (show nm.size<=8000 from tT) VU;have HL:=zh (fun W(h:Below w.heap.size w W)=>lO HRT.out (.mk kd fs) N kd _ W (HG.out W h) (cB _ _ _ _ _ _ (aK.later h) OY));have HS:=zh (fun W(h:Below w.heap.size w W)=>iM nm W s1 (HG.out W h));have HK:=zh (knownOf_getD known nm);have HX:=zh hx;have tC:=zh (aA HB.out (aC wr (bZ nm kd a1 fs.length cc1)));clear hj OY hx HC;generalize yT:(known.any fun y=>decide (y=nm))=r1 at HK;generalize zX:aP nm=r2 at HS;generalize PA:aQ 4 (.mk kd fs)=r3 at HL;have OA:=zh yT;have N9:=zh zX;have Hq3:=zh PA;clear yT zX PA;generalize fs.length=ln at *
    cases r1 with
    |true=>
     have HF:Hid (res=false):=zh (by rw[HR.out,flds_bad HX.out (.inl OA.out) qO.out];rfl);go_wp2_with(at_lookup;refine cH (HM.out.alloc _) s1 HK.out rfl rfl rfl rfl ?_);exact VJ
    |false=>
     cases r2 with
     |false=>
      have HF:Hid (res=false):=zh (by rw[HR.out,flds_bad HX.out (.inr (.inl N9.out)) qO.out];rfl);go_wp2_with(first|(at_lookup;refine cH (HM.out.alloc _) s1 HK.out rfl rfl rfl rfl ?_)|(go_at_call 17;refine(HS.out _ tC.out).mono ?_;rintro e w1 ⟨rfl,rfl⟩));exact VJ
     |true=>
      cases r3 with
      |false=>
       have HF:Hid (res=false):=zh (by rw[HR.out,flds_bad HX.out (.inr (.inr Hq3.out)) qO.out];rfl);go_wp2_with(first|(at_lookup;refine cH (HM.out.alloc _) s1 HK.out rfl rfl rfl rfl ?_)|(go_at_call 17;refine(HS.out _ tC.out).mono ?_;rintro e w1 ⟨rfl,rfl⟩)|(go_at_call 29;refine(HL.out _ tC.out).mono ?_;rintro e w2 ⟨rfl,pM⟩));go_ret;exact⟨aF WI,aA tC.out pM⟩
      |true=>
       have tQ:=zh (flds_good HX.out OA.out N9.out Hq3.out qO.out);have rT:=tC.out.size;go_wp2_with(first|(at_lookup;refine cH (HM.out.alloc _) s1 HK.out rfl rfl rfl rfl ?_)|(go_at_call 17;refine(HS.out _ tC.out).mono ?_;rintro e w1 ⟨rfl,rfl⟩)|(go_at_call 29;refine(HL.out _ tC.out).mono ?_;rintro e w2 ⟨rfl,pM⟩;have HM2:=zh ((HM.out.alloc (bZ nm kd a1 ln cc1)).later pM);obtain⟨u0,u1,u2⟩:=(bx3 (aD pM (bY wr (bZ nm kd a1 ln cc1)))).1)|(at_mapUpdate;refine lI HM2.out VS s1 rfl rfl rfl rfl rfl ?_;intro w3 hm3 hg3));go_roundw;(case rel=>exact⟨q+1,nm::known,VS,WH,zh ((aA tC.out pM).grown hg3 (by have:=(aA tC.out pM).size;omega) (fun i hi=>by cases hi;exact Nat.le_refl _)),tQ,zh (hm3.ext (fun z=>congrFun (knownOf_cons known nm) z))⟩);case measure=>simp[intOf];omega
  have uM:l.length<=q:=VS;have HT:Hid (res=decide (l.length<=most)):=zh (by rw[HR.out,flds_end uM qO.out];simp);exact U8
theorem SI{p:Prop}(h:p:=by
 go_wp2_with(go_at_call 81;refine(CI.out _ pU.out).mono ?_;rintro e v2 ⟨rfl,pM⟩;have pX:=zh (aA pU.out pM);have qX:=zh (aD pM uT.out);obtain⟨⟨q20,q21,q22,q23,q24,q25,q26,q27,q28⟩,-⟩:=bx9 qX.out);go_quiet(fail)
 go_wp2_with(go_at_call 80;refine(HFO.out _ (jU pX.out _)).mono ?_;rintro e v3 ⟨rfl,pR⟩;have pZ:=zh (aA (jU pX.out _) pR);have sW:=zh (aD pR qX.out);obtain⟨⟨q30,q31,q32,q33,q34,q35,q36,q37,q38⟩,-⟩:=bx9 sW.out)
 cases rw with
 |false=>
  go_at_call 81;refine(D3.out _ pZ.out).mono ?_;rintro e v4 ⟨rfl,qE⟩;have qK:=zh (aA pZ.out qE);have tF:=zh (aD qE sW.out);obtain⟨⟨q40,q41,q42,q43,q44,q45,q46,q47,q48⟩,-⟩:=bx9 tF.out;go_wp2_with fail;go_ret;exact⟨aF WM,qK.out⟩
 |true=>
  go_at_call 81;refine(D3.out _ pZ.out).mono ?_;rintro e v4 ⟨rfl,qE⟩;have qK:=zh (aA pZ.out qE);have tF:=zh (aD qE sW.out);obtain⟨⟨q40,q41,q42,q43,q44,q45,q46,q47,q48⟩,-⟩:=bx9 tF.out;go_wp2_with fail;go_wp2_with(go_at_call 81;refine(MP.out _ qK.out).mono ?_;rintro e v5 ⟨rfl,hb5⟩;have rM:=zh (aA qK.out hb5);have C4:=zh (aD hb5 tF.out);obtain⟨⟨q50,q51,q52,q53,q54,q55,q56,q57,q58⟩,-⟩:=bx9 C4.out);go_ret
  exact⟨aF WM,rM.out⟩):p:=h
theorem SO{p:Prop}(h:p:=by
 go_wp2_with(first|(at_lookup;refine cH (J9.out.alloc _) s2 HK.out rfl rfl rfl rfl ?_)|(go_at_call 17;refine HS.out.mono ?_;rintro e w5 ⟨rfl,rfl⟩)|(go_at_call 80;refine(HFP.out _ tC.out).mono ?_;rintro e w6 ⟨rfl,rV⟩;have tZ:=zh (aA tC.out rV);obtain⟨⟨x0,x1,x2,x3,x4,x5,x6,x7,x8,x9,x10,x11⟩,-⟩:=cY (aD rV pK.out))|(go_at_call 29;refine(HT.out _ tZ.out).mono ?_;rintro e w7 ⟨rfl,uN⟩;have vK:=zh (aA tZ.out uN);obtain⟨⟨y0,y1,y2,y3,y4,y5,y6,y7,y8,y9,NH,NG⟩,-⟩:=cY (aD (aA rV uN) pK.out))|(go_at_call 27;refine(HE.out _ vK.out).mono ?_;rintro e w8 ⟨rfl,qM⟩;have rR:=zh (aA vK.out qM);obtain⟨⟨z0,z1,z2,z3,z4,z5,z6,z7,z8,z9,z10,z11⟩,-⟩:=cY (aD (aA (aA rV uN) qM) pK.out);have HM8:=zh ((J9.out.alloc (dU f.name f.pub ap f.params.length cp kd ar lr cr f.effects op n sx mx an ln cn aa la ca)).later (aA (aA rV uN) qM))));go_ret
 exact⟨aF WI,rR.out⟩):p:=h
theorem S9{p:Prop}(h:p:=by
 go_wp2_with(go_at_call 81;refine(CI.out _ pU.out).mono ?_;rintro e v2 ⟨rfl,pM⟩;have pX:=zh (aA pU.out pM);have qX:=zh (aD pM uT.out);obtain⟨⟨q20,q21,q22,q23,q24,q25,q26,q27,q28⟩,-⟩:=bx9 qX.out);go_quiet(fail)
 go_wp2_with(go_at_call 80;refine(HFO.out _ (jU pX.out _)).mono ?_;rintro e v3 ⟨rfl,pR⟩;have pZ:=zh (aA (jU pX.out _) pR);have sW:=zh (aD pR qX.out);obtain⟨⟨q30,q31,q32,q33,q34,q35,q36,q37,q38⟩,-⟩:=bx9 sW.out);go_ret
 exact⟨aF WM,pZ.out⟩):p:=h
theorem TO{p:Prop}(h:p:=by
 go_wp2_with(go_at_call 17;refine GK.out.mono ?_;rintro e w5 ⟨rfl,rfl⟩);go_ret
 exact⟨aF WM,BN.out⟩):p:=h
theorem TU{p:Prop}(h:p:=by
 clear IN;go_wp2_with(go_at_call 81;refine(CI.out _ pU.out).mono ?_;rintro e v2 ⟨rfl,pM⟩;have pX:=zh (aA pU.out pM);have qX:=zh (aD pM uT.out);obtain⟨⟨q20,q21,q22,q23,q24,q25,q26,q27,q28⟩,-⟩:=bx9 qX.out);go_quiet(fail)
 go_wp2_with fail;go_ret
 exact⟨aF (by rw[HM.out]),jU pX.out _⟩):p:=h
theorem uses_bad'{l:List bA}{k:Nat}{x:bA}{known:List bA}{r:Bool}(hx:l[k]? =some x)(h:(known.any fun y=>decide (y=x))=true\/aP x=false)
  (hr:r=bM (l.drop k) known):r=false:=by
 obtain⟨hk,rfl⟩:=Yb.1 hx;rw[hr,List.drop_eq_getElem_cons hk,bM];rcases h with h|h<;>simp[h]
theorem uses_good'{l:List bA}{k:Nat}{x:bA}{known:List bA}{r:Bool}(hx:l[k]? =some x)(h1:(known.any fun y=>decide (y=x))=false)(h2:aP x=true)
  (hr:r=bM (l.drop k) known):r=bM (l.drop (k+1)) (x::known):=by
 obtain⟨hk,rfl⟩:=Yb.1 hx;rw[hr,List.drop_eq_getElem_cons hk,bM,h1,h2];rfl
theorem uses_end'{l:List bA}{k:Nat}{known:List bA}{r:Bool}(hk:l.length<=k)(hr:r=bM (l.drop k) known):r=true:=by
 rw[hr,List.drop_of_length_le hk,bM]
theorem fns_bad{l:List Fnc}{k:Nat}{x:Fnc}{known:List bA}{r:Bool}(hx:l[k]? =some x)(h:(known.any fun y=>decide (y=x.name))=true\/aP x.name=false\/gL x=false)
  (hr:r=dP (l.drop k) known):r=false:=by
 obtain⟨hk,rfl⟩:=Yb.1 hx;rw[hr,List.drop_eq_getElem_cons hk,dP];rcases h with h|h|h<;>simp[h]
theorem fns_good{l:List Fnc}{k:Nat}{x:Fnc}{known:List bA}{r:Bool}(hx:l[k]? =some x)(h1:(known.any fun y=>decide (y=x.name))=false)(h2:aP x.name=true)(h3:gL x=true)
  (hr:r=dP (l.drop k) known):r=dP (l.drop (k+1)) (x.name::known):=by
 obtain⟨hk,rfl⟩:=Yb.1 hx;rw[hr,List.drop_eq_getElem_cons hk,dP,h1,h2,h3];rfl
theorem fns_end{l:List Fnc}{k:Nat}{known:List bA}{r:Bool}(hk:l.length<=k)(hr:r=dP (l.drop k) known):r=true:=by
 rw[hr,List.drop_of_length_le hk,dP]
theorem rightFn_eq(f:Fnc):gL f=(bO f.params 6&&aQ 4 f.result&&aJ 12 f.body&&effOk f.effects):=rfl
theorem mK(m:Mdl)(N:Nat->Prop)(vu vv vi vf vo vw vb:Value)(w:World)(hg:hZ w)(hu:aO 1 eT N w vu m.uses)(hv:aO 3 eH N w vv m.vars)(hi:aO 6 aU N w vi m.init)(hf:aO 12 hO N w vf m.funcs)
  (ho:aO 3 eH N w vo m.old) (hw:aO 6 aU N w vw m.forward) (hb:aO 6 aU N w vb m.back) (hn:m.name.size<=8000):
  Calls Tryz.prog 22 #[.agg #[.string m.name,vu,vv,vi,vf,.bool m.moves,vo,vw,vb]] w fun e w'=>e=.returned (.bool (gS m))/\Below w.heap.size w w':=by
 have HG:=zh (fun W(hb:Below w.heap.size w W)=>hg.later hb);have HM:Hid (gS m=(bM m.uses []&&dP m.funcs []&&aP m.name&&decide (m.uses.length<=12)&&decide (m.funcs.length<=30)&&bO m.vars 8&&dE m.init m.vars.length&&(m.moves||decide (m.old.length=0))&&bO m.old 8&&dE m.forward (if m.moves then m.vars.length else 0)&&dE m.back m.old.length)):=zh rfl;generalize gS m=res at HM ⊢;obtain⟨au,cu,rfl,lu1,lu2,hcu⟩:=hu.at;obtain⟨af,cf,rfl,lf1,lf2,hcf⟩:=hf.at;have HFV:=zh (fun W(h:Below w.heap.size w W)=>mD m.vars 8 N vv W VU (HG.out W h) (hv.moves aS (aK.later h) VU));have HFO:=zh (fun W(h:Below w.heap.size w W)=>mD m.old 8 N vo W VU (HG.out W h) (ho.moves aS (aK.later h) VU));have HXI:=zh (fun k W(hk:k<=1000)(h:Below w.heap.size w W)=>nY gM m.init k N vi W hk (HG.out W h) (hi.moves aG (aK.later h) VU));have HXW:=zh (fun k W(hk:k<=1000)(h:Below w.heap.size w W)=>nY gM m.forward k N vw W hk (HG.out W h) (hw.moves aG (aK.later h) VU));have HXB:=zh (fun k W(hk:k<=1000)(h:Below w.heap.size w W)=>nY gM m.back k N vb W hk (HG.out W h) (hb.moves aG (aK.later h) VU));obtain⟨av,cv,rfl,lv1,lv2,-⟩:=hv.at;obtain⟨ai,ci,rfl,li1,li2,-⟩:=hi.at;obtain⟨ao,co,rfl,lo1,lo2,-⟩:=ho.at;obtain⟨aw,cw,rfl,lw1,lw2,-⟩:=hw.at;obtain⟨ab,cb,rfl,AV,FA,-⟩:=hb.at;have HCU:=zh hcu;have HCF:=zh hcf;have C8:=zh (fun W(h:Below w.heap.size w W)=>iM m.name W VS (HG.out W h));have NC:=zh (bY w (dX m.name au m.uses.length cu av m.vars.length cv ai m.init.length ci af m.funcs.length cf m.moves ao m.old.length co aw m.forward.length cw ab m.back.length cb));have qN:=zh (aC w (dX m.name au m.uses.length cu av m.vars.length cv ai m.init.length ci af m.funcs.length cf m.moves ao m.old.length co aw m.forward.length cw ab m.back.length cb));have KV:=@run_makeMap Tryz.prog;clear hg hu hv hi hf ho hw hb hcu hcf;go_enter Tryz.func22,Tryz.ntmps22;go_wp2_with fail;go_loopw [15] (fun iv wr=>∃(q:Nat)(known:List bA),q<=m.uses.length/\iv=.int .i64 (q:Int)/\Hid (Below (w.alloc (dX m.name au m.uses.length cu av m.vars.length cv ai m.init.length ci af m.funcs.length cf m.moves ao m.old.length co aw m.forward.length cw ab m.back.length cb)).heap.size (w.alloc (dX m.name au m.uses.length cu av m.vars.length cv ai m.init.length ci af m.funcs.length cf m.moves ao m.old.length co aw m.forward.length cw ab m.back.length cb)) wr)/\Hid (bM m.uses []=bM (m.uses.drop q) known)/\Hid (bQ jC fG wr (w.heap.size+1) q (mL known))) (fun iv _=>m.uses.length-(intOf iv).toNat)
 case atStart=>exact⟨0,[],Nat.zero_le _,rfl,zh (aC _ _),zh rfl,zh (by have h:=(bQ.made (K:=jC) (V:=fG) (w.alloc (dX m.name au m.uses.length cu av m.vars.length cv ai m.init.length ci af m.funcs.length cf m.moves ao m.old.length co aw m.forward.length cw ab m.back.length cb))).ext (m':=mL []) (fun _=>rfl);simpa using h)⟩
 case round=>
  obtain⟨q,known,hq,rfl,HB,qO,Q3⟩:=hrel;rename World=>wr
  have ND:=zh (aA qN.out HB.out);obtain⟨⟨t0,t1,t2,t3,t4,t5,t6,t7,t8⟩,-⟩:=bx9 (aD HB.out NC.out);have B0:(w.alloc (dX m.name au m.uses.length cu av m.vars.length cv ai m.init.length ci af m.funcs.length cf m.moves ao m.old.length co aw m.forward.length cw ab m.back.length cb)).heap.size=w.heap.size+1:=VY;by_cases pS:q<m.uses.length
  ·obtain⟨x,hx,-⟩:=getElem?_of_lt pS;obtain⟨b,o,rfl,-,cs,⟨rfl,s1⟩,-,hj⟩:=HCU.out q x hx;have p0:wr.cell? ⟨b,o+q,none⟩=some (.string x):=aB ND.out XM;have HX:=zh hx;have HK:=zh (knownOf_getD known x);have HS:=zh (iM x wr s1 (HG.out _ ND.out));clear hj hx KV;generalize yT:(known.any fun y=>decide (y=x))=r1 at HK;generalize zX:aP x=r2 at HS;have OA:=zh yT;have N9:=zh zX;clear yT zX
   cases r1 with
   |true=>
    have HF:Hid (res=false):=zh (by rw[HM.out,uses_bad' HX.out (.inl OA.out) qO.out];simp);go_wp2_with(at_lookup;refine cH Q3.out s1 HK.out rfl rfl rfl rfl ?_);go_ret;exact⟨aF WI,ND.out⟩
   |false=>
    cases r2 with
    |false=>
     have HF:Hid (res=false):=zh (by rw[HM.out,uses_bad' HX.out (.inr N9.out) qO.out];simp);go_wp2_with(first|(at_lookup;refine cH Q3.out s1 HK.out rfl rfl rfl rfl ?_)|(go_at_call 17;refine HS.out.mono ?_;rintro e w5 ⟨rfl,rfl⟩));go_ret;exact⟨aF WI,ND.out⟩
    |true=>
     have tQ:=zh (uses_good' HX.out OA.out N9.out qO.out);have rT:=HB.out.size;go_wp2_with(first|(at_lookup;refine cH Q3.out s1 HK.out rfl rfl rfl rfl ?_)|(go_at_call 17;refine HS.out.mono ?_;rintro e w5 ⟨rfl,rfl⟩)|(at_mapUpdate;refine lI Q3.out VS s1 rfl rfl rfl rfl rfl ?_;intro w3 hm3 hg3));go_roundw;(case rel=>exact⟨q+1,x::known,VS,WH,zh (HB.out.grown hg3 rT (fun i hi=>by cases hi;omega)),tQ,zh (hm3.ext (fun z=>congrFun (knownOf_cons known x) z))⟩);case measure=>simp[intOf];omega
  have HU:Hid (bM m.uses []=true):=zh (uses_end' VS qO.out);rw[HU.out,Bool.true_and] at HM;have hwr:=HB.out.size;have hwr1:(w.alloc (dX m.name au m.uses.length cu av m.vars.length cv ai m.init.length ci af m.funcs.length cf m.moves ao m.old.length co aw m.forward.length cw ab m.back.length cb)).heap.size=w.heap.size+1:=VY;have hlt0:w.heap.size<wr.heap.size:=VS;have HwM:=zh (aC wr (.map #[] 0));clear qO Q3 HCU;go_wp2_with fail;clear KV;clear t0 t1 t2 t3 t4 t5 t6 t7 t8;go_loopw [34] (fun iv wz=>∃(z:Nat)(known:List bA),z<=m.funcs.length/\iv=.int .i64 (z:Int)/\Hid (Below wr.heap.size wr wz)/\Hid (dP m.funcs []=dP (m.funcs.drop z) known)/\Hid (bQ jC fG wz wr.heap.size z (mL known))) (fun iv _=>m.funcs.length-(intOf iv).toNat)
  case atStart=>exact⟨0,[],Nat.zero_le _,rfl,HwM,zh rfl,zh ((bQ.made wr).ext (fun _=>rfl))⟩
  case round=>
   obtain⟨z,kn,hz,rfl,DA,GG,J9⟩:=hrel;(rename World=>wz);have HBy:=zh (aA HB.out DA.out);have BN:=zh (aA qN.out HBy.out);obtain⟨⟨t0,t1,t2,t3,t4,t5,t6,t7,t8⟩,-⟩:=bx9 (aD HBy.out NC.out);by_cases hlz:z<m.funcs.length
   ·obtain⟨f,hx,-⟩:=getElem?_of_lt hlz;obtain⟨b,o,rfl,-,cs,PS,-,hj⟩:=HCF.out z f hx;obtain⟨vp,kd,vr,op,n,sx,mx,vn,va,rfl,s1,hp,ht,he⟩:=PS;have HFP:=zh (fun W(h:Below w.heap.size w W)=>mD f.params 6 N vp W VU (HG.out W h) (hp.moves aS (aK.later h) VU));have HT:=zh (fun W(h:Below w.heap.size w W)=>lO lN f.result N kd vr W (HG.out W h) (cB _ _ _ _ _ _ (aK.later h) ht));have HE:=zh (fun W(h:Below w.heap.size w W)=>jM gM f.body N op n sx mx vn va W (HG.out W h) (aG _ _ _ _ _ _ (aK.later h) he));obtain⟨ap,cp,rfl,-⟩:=hp.at;obtain⟨ar,lr,cr,rfl⟩:=encT_slice ht;obtain⟨⟨an,ln,cn,rfl⟩,aa,la,ca,rfl⟩:=jE he;have c0:wz.cell? ⟨b,o+z*12,none⟩=some (.string f.name):=aB BN.out (hj 0 _ rfl);have c1:=aB BN.out (hj 1 _ rfl);have c2:=aB BN.out (hj 2 _ rfl);have c3:=aB BN.out (hj 3 _ rfl);have c4:=aB BN.out (hj 4 _ rfl);have c5:=aB BN.out (hj 5 _ rfl);have c6:=aB BN.out (hj 6 _ rfl);have c7:=aB BN.out (hj 7 _ rfl);have c8:=aB BN.out (hj 8 _ rfl);have c9:=aB BN.out (hj 9 _ rfl);have zP:=aB BN.out (hj 10 _ rfl);have zO:=aB BN.out (hj 11 _ rfl);have s2:f.name.size<=140737488355328:=VS;have HX:=zh hx;have HK:=zh (knownOf_getD kn f.name);have tC:=zh (aA BN.out (aC wz (dU f.name f.pub ap f.params.length cp kd ar lr cr f.effects op n sx mx an ln cn aa la ca)));have pK:=zh (bY wz (dU f.name f.pub ap f.params.length cp kd ar lr cr f.effects op n sx mx an ln cn aa la ca));have HS:=zh (iM f.name _ s2 (HG.out _ tC.out));have HR:=zh (rightFn_eq f);clear hj hx hp ht he HCF;generalize yT:(kn.any fun y=>decide (y=f.name))=r1 at HK;generalize zX:aP f.name=r2 at HS;generalize bO f.params 6=r3 at HFP HR;generalize aQ 4 f.result=r4 at HT HR;generalize aJ 12 f.body=r5 at HE HR;have HEf:Hid (effOk f.effects=decide (Go.bits .andNot .i64 f.effects 15=0)):=zh rfl;have OA:=zh yT;have N9:=zh zX;clear yT zX
    cases r1 with
    |true=>
     have HF:Hid (res=false):=zh (by rw[HM.out,fns_bad HX.out (.inl OA.out) GG.out];simp);go_wp2_with(at_lookup;refine cH (J9.out.alloc _) s2 HK.out rfl rfl rfl rfl ?_);exact VJ
    |false=>
     cases r2 with
     |false=>
      have HF:Hid (res=false):=zh (by rw[HM.out,fns_bad HX.out (.inr (.inl N9.out)) GG.out];simp);go_wp2_with(first|(at_lookup;refine cH (J9.out.alloc _) s2 HK.out rfl rfl rfl rfl ?_)|(go_at_call 17;refine HS.out.mono ?_;rintro e w5 ⟨rfl,rfl⟩));exact VJ
     |true=>
      cases r3 with
      |false=>
       have HF:Hid (res=false):=zh XD;go_wp2_with(first|(at_lookup;refine cH (J9.out.alloc _) s2 HK.out rfl rfl rfl rfl ?_)|(go_at_call 17;refine HS.out.mono ?_;rintro e w5 ⟨rfl,rfl⟩)|(go_at_call 80;refine(HFP.out _ tC.out).mono ?_;rintro e w6 ⟨rfl,rV⟩;have tZ:=zh (aA tC.out rV);obtain⟨⟨x0,x1,x2,x3,x4,x5,x6,x7,x8,x9,x10,x11⟩,-⟩:=cY (aD rV pK.out)));go_ret;exact⟨aF WI,tZ.out⟩
      |true=>
       cases r4 with
       |false=>
        have HF:Hid (res=false):=zh XD;go_wp2_with(first|(at_lookup;refine cH (J9.out.alloc _) s2 HK.out rfl rfl rfl rfl ?_)|(go_at_call 17;refine HS.out.mono ?_;rintro e w5 ⟨rfl,rfl⟩)|(go_at_call 80;refine(HFP.out _ tC.out).mono ?_;rintro e w6 ⟨rfl,rV⟩;have tZ:=zh (aA tC.out rV);obtain⟨⟨x0,x1,x2,x3,x4,x5,x6,x7,x8,x9,x10,x11⟩,-⟩:=cY (aD rV pK.out))|(go_at_call 29;refine(HT.out _ tZ.out).mono ?_;rintro e w7 ⟨rfl,uN⟩;have vK:=zh (aA tZ.out uN);obtain⟨⟨y0,y1,y2,y3,y4,y5,y6,y7,y8,y9,NH,NG⟩,-⟩:=cY (aD (aA rV uN) pK.out)));go_ret;exact⟨aF WI,vK.out⟩
       |true=>
        cases r5 with
        |false=>
         have HF:Hid (res=false):=zh XD;exact SO
        |true=>
         by_cases BY:Go.bits .andNot .i64 f.effects 15=0
         ·(have hef':(Go.bits .andNot .i64 f.effects 15 != 0)=false:=by rw[bne_eq_false_iff_eq];exact BY);have tQ:=zh (fns_good HX.out OA.out N9.out (by rw[HR.out,HEf.out,decide_eq_true BY];rfl) GG.out);have rT:=DA.out.size;clear BY;go_wp2_with(first|(at_lookup;refine cH (J9.out.alloc _) s2 HK.out rfl rfl rfl rfl ?_)|(go_at_call 17;refine HS.out.mono ?_;rintro e w5 ⟨rfl,rfl⟩)|(go_at_call 80;refine(HFP.out _ tC.out).mono ?_;rintro e w6 ⟨rfl,rV⟩;have tZ:=zh (aA tC.out rV);obtain⟨⟨x0,x1,x2,x3,x4,x5,x6,x7,x8,x9,x10,x11⟩,-⟩:=cY (aD rV pK.out))|(go_at_call 29;refine(HT.out _ tZ.out).mono ?_;rintro e w7 ⟨rfl,uN⟩;have vK:=zh (aA tZ.out uN);obtain⟨⟨y0,y1,y2,y3,y4,y5,y6,y7,y8,y9,NH,NG⟩,-⟩:=cY (aD (aA rV uN) pK.out))|(go_at_call 27;refine(HE.out _ vK.out).mono ?_;rintro e w8 ⟨rfl,qM⟩;have rR:=zh (aA vK.out qM);obtain⟨⟨z0,z1,z2,z3,z4,z5,z6,z7,z8,z9,z10,z11⟩,-⟩:=cY (aD (aA (aA rV uN) qM) pK.out);have HM8:=zh ((J9.out.alloc (dU f.name f.pub ap f.params.length cp kd ar lr cr f.effects op n sx mx an ln cn aa la ca)).later (aA (aA rV uN) qM)))|(at_mapUpdate;refine lI HM8.out VS s2 rfl rfl rfl rfl rfl ?_;intro w9 hm9 hg9));go_roundw;(case rel=>exact⟨z+1,f.name::kn,VS,WH,zh ((aA DA.out (aA (aC _ _) (aA (aA rV uN) qM))).grown hg9 (by have:=(aA DA.out (aA (aC wz (dU f.name f.pub ap f.params.length cp kd ar lr cr f.effects op n sx mx an ln cn aa la ca)) (aA (aA rV uN) qM))).size;exact this) (fun i hi=>by cases hi;exact Nat.le_refl _)),tQ,zh (hm9.ext (fun z=>congrFun (knownOf_cons kn f.name) z))⟩);case measure=>simp[intOf];omega
         (have hef':(Go.bits .andNot .i64 f.effects 15 != 0)=true:=by rw[bne_iff_ne];exact BY);(have PY:gL f=false:=by rw[HR.out,HEf.out,decide_eq_false BY];simp);clear BY;have HF:Hid (res=false):=zh (by rw[HM.out,fns_bad HX.out (.inr (.inr PY)) GG.out];simp);exact SO
   have HF2:Hid (dP m.funcs []=true):=zh (fns_end VS GG.out);rw[HF2.out,Bool.true_and] at HM;clear GG J9 HCF HU HF2;have HD0:=BN;have rQ:=zh (aD HBy.out NC.out);have GK:=zh (C8.out _ BN.out);generalize ET:aP m.name=rn at HM GK;clear ET C8
   cases rn with
   |false=>
    exact TO
   |true=>
    by_cases EX:m.uses.length<=12
    ·by_cases h30:m.funcs.length<=30
     ·rw[decide_eq_true EX,decide_eq_true h30] at HM;have g12:¬(12:Int)<(m.uses.length:Int):=VS;have g30:¬(30:Int)<(m.funcs.length:Int):=VS;clear EX h30;simp only[Bool.true_and] at HM;go_wp2_with(go_at_call 17;refine GK.out.mono ?_;rintro e w5 ⟨rfl,rfl⟩);generalize hrv:bO m.vars 8=rv at HM HFV
      cases rv with
      |false=>
       clear hrv;go_wp2_with(go_at_call 80;refine(HFV.out _ HD0.out).mono ?_;rintro e v1 ⟨rfl,pN⟩;have pU:=zh (aA HD0.out pN);have tK:=zh (aD pN rQ.out);obtain⟨⟨q10,q11,q12,q13,q14,q15,q16,q17,q18⟩,-⟩:=bx9 tK.out);go_ret;exact⟨aF WM,pU.out⟩
      |true=>
       (have LP:m.vars.length<=1000:=by unfold bO at hrv;simp at hrv;omega);clear hrv;have CI:=zh (fun W hb=>HXI.out m.vars.length W LP hb);generalize dE m.init m.vars.length=ri at HM CI;simp only[Bool.true_and] at HM;go_wp2_with(go_at_call 80;refine(HFV.out _ HD0.out).mono ?_;rintro e v1 ⟨rfl,pN⟩;have pU:=zh (aA HD0.out pN);have tK:=zh (aD pN rQ.out);obtain⟨⟨q10,q11,q12,q13,q14,q15,q16,q17,q18⟩,-⟩:=bx9 tK.out)
       cases ri with
       |false=>
        go_wp2_with(go_at_call 81;refine(CI.out _ pU.out).mono ?_;rintro e v2 ⟨rfl,pM⟩;have pX:=zh (aA pU.out pM);have qX:=zh (aD pM tK.out);obtain⟨⟨q20,q21,q22,q23,q24,q25,q26,q27,q28⟩,-⟩:=bx9 qX.out);go_ret;exact⟨aF WM,pX.out⟩
       |true=>
        simp only[Bool.true_and] at HM;(have FJ:∀k,bO m.old 8=true->k=m.old.length->k<=1000:=fun k h e=>by subst e;unfold bO at h;simp at h;omega);by_cases KS:bO m.old 8=true
        ·have hk3':m.old.length<=1000:=FJ _ KS rfl;have MP:=zh (fun W hb=>HXB.out m.old.length W hk3' hb);have HRO:=zh KS;rw[KS] at HM HFO;clear FJ KS hk3'
         cases xB:m.moves with
         |true=>
          rw[xB] at HM;have Q5:=zh xB;clear xB;simp only[if_true,Bool.true_or,Bool.and_true,Bool.true_and] at HM;have D3:=zh (fun W hb=>HXW.out m.vars.length W LP hb);generalize dE m.forward m.vars.length=rw at HM D3;generalize dE m.back m.old.length=rb at HM MP;have uT:Hid (v1.heap[w.heap.size]? =some (dX m.name au m.uses.length cu av m.vars.length cv ai m.init.length ci af m.funcs.length cf true ao m.old.length co aw m.forward.length cw ab m.back.length cb)):=zh XV;exact SI
         |false=>
          rw[xB] at HM;have Q5:=zh xB;clear xB;simp only[Bool.false_eq_true,if_false,Bool.false_or,Bool.true_and] at HM;have uT:Hid (v1.heap[w.heap.size]? =some (dX m.name au m.uses.length cu av m.vars.length cv ai m.init.length ci af m.funcs.length cf false ao m.old.length co aw m.forward.length cw ab m.back.length cb)):=zh XV;by_cases IN:m.old.length=0
          ·rw[decide_eq_true IN] at HM;simp only[Bool.true_and] at HM;have hol0:¬(0:Int)<(m.old.length:Int):=VS;clear IN;have D3:Hid (∀W,Below w.heap.size w W->Calls Tryz.prog 81 #[.slice aw m.forward.length cw,.int .i64 0] W fun e w'=>e=.returned (.bool (dE m.forward 0))/\Below W.heap.size W w'):=zh (fun W hb=>HXW.out 0 W VU hb);generalize dE m.forward 0=rw at HM D3;generalize dE m.back m.old.length=rb at HM MP;exact SI
          have hol1:(0:Int)<(m.old.length:Int):=VS;rw[decide_eq_false IN] at HM;simp only[Bool.false_and] at HM;exact TU
        (have hro2:bO m.old 8=false:=by simpa using KS);rw[hro2] at HM HFO;clear FJ KS hro2;simp only[Bool.and_false,Bool.false_and] at HM
        cases xB:m.moves with
        |true=>
         have Q5:=zh xB;clear xB;have uT:Hid (v1.heap[w.heap.size]? =some (dX m.name au m.uses.length cu av m.vars.length cv ai m.init.length ci af m.funcs.length cf true ao m.old.length co aw m.forward.length cw ab m.back.length cb)):=zh XV;exact S9
        |false=>
         have Q5:=zh xB;clear xB;have uT:Hid (v1.heap[w.heap.size]? =some (dX m.name au m.uses.length cu av m.vars.length cv ai m.init.length ci af m.funcs.length cf false ao m.old.length co aw m.forward.length cw ab m.back.length cb)):=zh XV;by_cases IN:m.old.length=0
         ·have hol0:¬(0:Int)<(m.old.length:Int):=VS;clear IN;exact S9
         have hol1:(0:Int)<(m.old.length:Int):=VS;exact TU
     rw[decide_eq_false h30] at HM;have g12:¬(12:Int)<(m.uses.length:Int):=VS;have g30:(30:Int)<(m.funcs.length:Int):=VS;clear EX h30;exact TO
    rw[decide_eq_false EX] at HM;have g12:(12:Int)<(m.uses.length:Int):=VS;clear EX;exact TO
def PlSays(x:Xp)(B wb:Nat)(st:WSt)(v:Value)(op n:Int)(s m:bA)(vn va:Value)(w:World):Prop:=
 Calls Tryz.prog 152 #[.pointer (some ⟨wb,0,none⟩),jA op n s m vn va,.int .i64 ((dF op).1:Int),.string (dF op).2] w (WrP B wb v w (.tuple #[]) (st.put (aI x)))
theorem nZ(op:Int)(ho:op=13\/op=15\/op=16)(n:Int)(s m:bA)(names:List bA)(args:List Xp){B wb:Nat}{st:WSt}{v vn va:Value}{w:World}(h:WrS B wb st v w)
  (he:aU (dM wb v) w (.mk op n s m names args) [.int .i64 op,.int .i64 n,.string s,.string m,vn,va])
  (HG:∀W,WrS B wb st v W->aU (dM wb v) W (.mk op n s m names args) [.int .i64 op,.int .i64 n,.string s,.string m,vn,va]->Calls Tryz.prog 198 #[.pointer (some ⟨wb,0,none⟩),jA op n s m vn va] W (WrP B wb v W (.tuple #[]) (st.put (aI (.mk op n s m names args))))):
  PlSays (.mk op n s m names args) B wb st v op n s m vn va w:=by
 unfold PlSays;obtain⟨⟨a1,n1,c1,rfl⟩,a2,n2,c2,rfl⟩:=jE he;have hb:=aC w (aH op n s m a1 n1 c1 a2 n2 c2);have rQ:=zh (Ext.below wb v hb);have HQ:=zh (HG _ (h.later hb) (lW he rQ.out));obtain⟨⟨r0,r1,r2,r3,r4,r5⟩,-⟩:=bx6 (bY w (aH op n s m a1 n1 c1 a2 n2 c2));have hf:dF op=(8,noB):=by rcases ho with rfl|rfl|rfl<;>rfl
 rw[hf];generalize st.put (aI (.mk op n s m names args))=s1 at *;clear HG he h hb hf;rcases ho with rfl|rfl|rfl
 all_goals
  go_enter Tryz.func152,Tryz.ntmps152;go_wp2_with(go_at_call 198;refine HQ.out.mono ?_;rintro e w2 ⟨v2,rfl,h2,qD⟩);go_end0;exact⟨_,rfl,h2,rQ.out.trans qD⟩
theorem oper_max{t:bA}{op:Int}{fm:Nat}(h:(t,op,fm)∈eP):fm<=6:=by rcases nD h with h|h|h|h|h|h|h<;>omega
theorem plain_any{d:Nat}(HX:pJ d)(x:Xp){B wb:Nat}{st:WSt}{v:Value}{op n:Int}{s m:bA}{vn va:Value}{w:World}(hr:aJ (d+1) x=true)(h:WrS B wb st v w)(hf:dI st (aI x))
  (he:aU (dM wb v) w x [.int .i64 op,.int .i64 n,.string s,.string m,vn,va]):PlSays x B wb st v op n s m vn va w:=by
 have hx:∃op' n' s' m' ns ys,x=.mk op' n' s' m' ns ys:=by cases x;exact⟨_,_,_,_,_,_,rfl⟩
 obtain⟨op',n',s',m',ns,ys,zI⟩:=hx
 have hp:op'=op/\n'=n/\s'=s/\m'=m:=by
  rw[zI,aN] at he;obtain⟨v1,v2,e,-⟩:=he;cases e;exact⟨rfl,rfl,rfl,rfl⟩
 obtain⟨rfl,rfl,rfl,rfl⟩:=hp
 cases shape_of hr with
 |int n h0 h1=>cases zI;exact plain_int HX _ h0 h1 h hf he
 |bool n hn=>cases zI;exact plain_bool HX _ hn h hf he
 |var s hs=>cases zI;exact plain_var HX _ h hf he
 |get s hs=>cases zI;exact plain_get HX _ h hf he
 |bin t op fm a b ht ha hb=>
  cases zI;unfold PlSays;rw[(oper_form ht).1];by_cases h4:fm=4
  ·exact plain_bin4 HX t op' fm a b h4 ht (oper_max ht) ha hb h hf he
  exact plain_binn HX t op' fm a b h4 ht (oper_max ht) ha hb h hf he
 |not a ha=>cases zI;exact plain_not HX a ha h hf he
 |iff a b c ha hb hc=>cases zI;exact plain_if HX a b c ha hb hc h hf he
 |lets s a b hs ha hb=>cases zI;exact plain_let HX _ a b ha hb h hf he
 |set s a hs ha=>cases zI;exact plain_set HX _ a ha h hf he
 |field s a hs ha=>cases zI;exact plain_field HX _ a ha h hf he
 |recd names args hn h8 rD ha=>cases zI;exact nZ 13 (.inl rfl) _ _ _ _ _ h he fun W hW hE=>grouped_rec HX _ _ VS ha hW hf hE
 |call s m args hs hm h6 ha=>cases zI;exact nZ 15 (.inr (.inl rfl)) _ _ _ _ _ h he fun W hW hE=>grouped_call HX _ _ _ ha hW hf hE
 |act n a hn ha=>
  cases zI;have key:∀w0,(cR.filter fun w=>decide (w.2=n')).map (·.1)=[w0]->PlSays (.mk 16 n' noB noB [] [a]) B wb st v 16 n' noB noB vn va w:=fun w0 h0=>nZ 16 (.inr (.inr rfl)) _ _ _ _ _ h he fun W hW hE=>grouped_act HX n' a w0 h0 ha hW hf hE;rcases hn with rfl|rfl|rfl|rfl
  ·exact key nI XQ
  ·exact key kNet XQ
  ·exact key nJ XQ
  exact key jD XQ
theorem pr_zero:pJ 0:=fun x form fi B wb st v op n s m vn va w h=>by cases x;simp[aJ] at h
theorem pr_step(d:Nat)(HX:pJ d):pJ (d+1):=by
 rintro x form _ B wb st v op n s m vn va w hr LT rfl h hf he;obtain⟨⟨a1,n1,c1,rfl⟩,a2,n2,c2,rfl⟩:=jE he
 have pT:iZ x=(dF op).1:=by
  cases x;rw[aN] at he;obtain⟨v1,v2,e,-⟩:=he;cases e;rfl
 have hb:=aC w (aH op n s m a1 n1 c1 a2 n2 c2);have rQ:=zh (Ext.below wb v hb);have HC:=zh (h.later hb);have BM:=zh (lW he rQ.out);have HB:Hid ((w.alloc (aH op n s m a1 n1 c1 a2 n2 c2)).heap[w.heap.size]? =some (aH op n s m a1 n1 c1 a2 n2 c2)/\dM wb v w.heap.size):=zh ⟨bY w _,h.new (Nat.le_refl _)⟩;have HFo:=zh (fun W=>formOf_any op n s m a1 n1 c1 a2 n2 c2 W);have HPl:=zh (fun st v W(hW:WrS B wb st v W)hf he=>plain_any HX x (st:=st) (v:=v) (w:=W) (op:=op) (n:=n) (s:=s) (m:=m) (vn:=.slice a1 n1 c1) (va:=.slice a2 n2 c2) hr hW hf he);unfold PlSays at HPl;rw[bK,atForm,pT] at hf;have hT:bK x form=if(dF op).1<form then aY::(aI x++[cF]) else aI x:=by rw[bK,atForm,pT]
 simp only at hf;generalize bK x form=tk at hT ⊢;generalize aI x=wx at *;obtain⟨⟨r0,r1,r2,r3,r4,r5⟩,-⟩:=bx6 HB.out.1;generalize dF op=fo at *;obtain⟨own,sign⟩:=fo;simp only at *;clear he h hr pT hb HX;by_cases pS:own<form
 ·rw[if_pos pS] at hf hT;obtain⟨f1,N6⟩:=hf.cons;obtain⟨f2,f3⟩:=N6.app;have F1:=zh f1;have F2:=zh f2;have F3:=zh f3;have HE:Hid (((st.put [aY]).put wx).put [cF]=st.put tk):=zh (by rw[hT,bV,bV];rfl);have hl:(own:Int)<(form:Int):=VS;clear f1 N6 f2 f3 hf hT;go_enter Tryz.func70,Tryz.ntmps70;go_wp2_with(go_at_call 151;refine(HFo.out _).mono ?_;rintro e w9 ⟨rfl,rT⟩;have MQ:=zh (rQ.out.trans (Ext.below wb v rT));have NA:=zh (HC.out.later rT);have DB:=zh (Ext.blk (Ext.below wb v rT) HB.out.2 HB.out.1);have RI:=zh (lW BM.out (Ext.below wb v rT));clear rT r0 r1 r2 r3 r4 r5;obtain⟨⟨r0,r1,r2,r3,r4,r5⟩,-⟩:=bx6 DB.out.1);go_wp2_with(go_at_call 67;refine(eW aY NA.out F1.out).mono ?_;rintro e w2 ⟨v2,rfl,h2,qD⟩;have uY:=zh h2;have qX:=zh (MQ.out.trans qD);have pQ:=zh (qD.blk DB.out.2 DB.out.1);have KL:=zh (lW RI.out qD);clear h2 qD r0 r1 r2 r3 r4 r5;obtain⟨⟨r0,r1,r2,r3,r4,r5⟩,-⟩:=bx6 pQ.out.1);go_wp2_with(go_at_call 152;refine(HPl.out (st.put [aY]) v2 w2 uY.out F2.out KL.out).mono ?_;rintro e w3 ⟨v3,rfl,h3,qJ⟩;have vM:=zh h3;have sW:=zh (qX.out.trans qJ);clear h3 qJ);go_wp2_with(go_at_call 67;refine(eW cF vM.out F3.out).mono ?_;rintro e w4 ⟨v4,rfl,h4,rC⟩);go_end0;exact⟨_,rfl,by rw[<-HE.out];exact h4,sW.out.trans rC⟩
 rw[if_neg pS] at hf hT;have F1:=zh hf;have hl:¬(own:Int)<(form:Int):=VS;have yF:(form:Int)<=(own:Int):=VS;subst hT;clear hf;go_enter Tryz.func70,Tryz.ntmps70;go_wp2_with(go_at_call 151;refine(HFo.out _).mono ?_;rintro e w9 ⟨rfl,rT⟩;have MQ:=zh (rQ.out.trans (Ext.below wb v rT));have NA:=zh (HC.out.later rT);have DB:=zh (Ext.blk (Ext.below wb v rT) HB.out.2 HB.out.1);have RI:=zh (lW BM.out (Ext.below wb v rT));clear rT r0 r1 r2 r3 r4 r5;obtain⟨⟨r0,r1,r2,r3,r4,r5⟩,-⟩:=bx6 DB.out.1);go_wp2_with(go_at_call 152;refine(HPl.out st v w9 NA.out F1.out RI.out).mono ?_;rintro e w3 ⟨v3,rfl,h3,qJ⟩);go_end0;exact⟨_,rfl,h3,MQ.out.trans qJ⟩
theorem pr_all:∀d,pJ d
 |0=>pr_zero
 |d+1=>pr_step d (pr_all d)
def doneV:Except Int bA->Value
 | .error x=>.tuple #[.string noB,.int .i64 x]
 | .ok s=>.tuple #[.string s,.int .i64 0]
theorem wlen_any{B wb:Nat}{st:WSt}{v:Value}{w:World}(h:WrS B wb st v w):
  Calls Tryz.prog 155 #[.pointer (some ⟨wb,0,none⟩)] w fun e w'=>e=.returned (.int .i64 (st.1.length:Int))/\w=w':=by
 obtain⟨p,hp,uU⟩:=h.box;obtain⟨a,c,rfl⟩:=h.val;obtain⟨⟨h0,h1,h2⟩,f0,-⟩:=bx3 uU;clear h uU hp;go_enter Tryz.func155,Tryz.ntmps155
 go_wp2
 go_ret;exact⟨rfl,rfl⟩
theorem wstr_any{B wb:Nat}{st:WSt}{v:Value}{w:World}(h:WrS B wb st v w)(h0:st.1≠[]):
  Calls Tryz.prog 156 #[.pointer (some ⟨wb,0,none⟩)] w fun e w'=>e=.returned (.string (bs st.1))/\Below B w w':=by
 obtain⟨l,ins⟩:=st;simp only at h h0 ⊢;have hl0:l.length≠0:=by simpa using h0
 obtain⟨p,hp,uU⟩:=h.box;have pT:=h.own
 obtain⟨g,cap,cur,rfl,hbg,hg,hnc,hcm,AB,NP⟩:∃g cap cur,v=.slice (some ⟨g,0,none⟩) l.length cap/\B<=g/\w.heap[g]? =some (.cells cur 5 (0,0))/\l.length<=cap/\cap<=maxLen/\cur.size=cap*1/\cur.toList.take (l.length*1)=bv l:=by
  rcases pT.2 with⟨_,hz⟩|⟨g,cap,cur,hv,r⟩
  ·exact absurd hz hl0
  exact⟨g,cap,cur,hv,r⟩
 have c1:w.drew.cell? ⟨wb,1,none⟩=some (.slice (some ⟨g,0,none⟩) l.length cap):=by
  have:w.drew.heap[wb]? =some (.cells #[p,.slice (some ⟨g,0,none⟩) l.length cap,.bool ins] 102 (0,0)):=uU;rw[Lib.cell_of_heap this];rfl
 have hSD:(Builtin.unsafeSliceData_ #[98] 211 #[.slice (some ⟨g,0,none⟩) l.length cap]).run Tryz.prog w.drew=.ok (.pointer (some ⟨g,0,none⟩)) w.drew:=
  Lib.run_unsafeSliceData_row _ _ _ _ _ _ VS
 have hUS:(Builtin.unsafeString_ #[211,3] 9 #[.pointer (some ⟨g,0,none⟩),.int .i64 l.length]).run Tryz.prog w.drew=.ok (.string (bs l)) (w.drew.freeze ⟨g,0,none⟩ l.length):=by
  refine Lib.run_unsafeString_row w.drew 211 3 9 5 Tryz.underlying211 VT g cur.size (by have hg':w.drew.heap[g]? =some (.cells cur 5 (0,0)):=hg;simp[World.shape?,hg']) l h0 VS (by unfold maxLen at hcm;omega) ?_;intro j x hx;have:=pT.cells (g:=g) rfl j (.int .u8 x.toNat) (by simp[bv,hx]);exact this
 clear h uU hp pT hg AB NP h0 hl0 hnc hcm;go_enter Tryz.func156,Tryz.ntmps156
 go_wp2
 go_region
 all_goals(go_wp2;go_ret;exact⟨rfl,Lib.below_freeze (Below.drew (Below.refl B w)) (p:=⟨g,0,none⟩) hbg _⟩)
theorem wdone_any{B wb:Nat}{st:WSt}{v:Value}{w:World}(h:WrS B wb st v w)(h0:st.1≠[]):
  Calls Tryz.prog 74 #[.pointer (some ⟨wb,0,none⟩)] w fun e w'=>e=.returned (doneV (kT (bs st.1)))/\Below B w w':=by
 have HL:=zh (wlen_any h);have HS:=zh (wstr_any h h0);have tT:(bs st.1).size=st.1.length:=by simp[bs,ByteArray.size]
 have hD:kT (bs st.1)=if 8000<st.1.length then .error 6 else .ok (bs st.1):=by unfold kT;rw[tT]
 generalize kT (bs st.1)=dn at *;generalize bs st.1=tx at *;generalize st.1.length=ln at *;have HB:=zh (Below.refl B w);clear h h0 tT;by_cases pS:8000<ln
 ·rw[if_pos pS] at hD;subst hD;have hl:(8000:Int)<(ln:Int):=VS;clear pS;go_enter Tryz.func74,Tryz.ntmps74;go_wp2_with(go_at_call 155;refine HL.out.mono ?_;rintro e w9 ⟨rfl,rfl⟩);go_ret2;exact⟨rfl,HB.out⟩
 rw[if_neg pS] at hD;subst hD;have hl:¬(8000:Int)<(ln:Int):=VS;have yF:(ln:Int)<=8000:=VS;clear pS;go_enter Tryz.func74,Tryz.ntmps74;go_wp2_with(first|(go_at_call 156;refine HS.out.mono ?_;rintro e w2 ⟨rfl,pM⟩)|(go_at_call 155;refine HL.out.mono ?_;rintro e w9 ⟨rfl,rfl⟩));go_ret2;exact⟨rfl,pM⟩
end Go.Proofs.YtiionicikdnnpaaGreatDoor
