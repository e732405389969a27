/- Texts of this seat, joined. -/
import Derived.Test.YtiionicikdnnpaaGreatDoorNAE
set_option maxHeartbeats 16000000
set_option maxRecDepth 100000
set_option linter.unusedVariables false
set_option linter.unusedSimpArgs false
namespace Go.Proofs.YtiionicikdnnpaaGreatDoor
open Go.RowKit
theorem leaf_any(op n:Int)(s m:bA)(names:List bA)(args:List Xp)(N:Nat->Prop)(vn va:Value)(w:World)(h0:0<=op)(h1:op<19)(hg:iF w)(he:bJ N w (.mk op n s m names args) [.int .i64 op,.int .i64 n,.string s,.string m,vn,va]):
  gF (.mk op n s m names args) op n s m vn va w:=by
 rw[aW] at he;obtain⟨v1,v2,e,hs,hm,hn,a2,c2,rfl,-⟩:=he;cases e;have yW:=hn;obtain⟨a1,c1,rfl,-⟩:=yW;have hc:op=0\/op=1\/op=2\/op=3\/op=4\/op=5\/op=6\/op=7\/op=8\/op=9\/op=10\/op=11\/op=12\/op=13\/op=14\/op=15\/op=16\/op=17\/op=18:=RY;rcases hc with rfl|rfl|rfl|rfl|rfl|rfl|rfl|rfl|rfl|rfl|rfl|rfl|rfl|rfl|rfl|rfl|rfl|rfl|rfl
 ·exact leaf_0 n s m names args a1 names.length c1 a2 c2 w hg hs hm
 ·exact leaf_1 n s m names args a1 names.length c1 a2 c2 w hg hs hm
 ·exact pB 2 R2 n s m names args a1 names.length c1 a2 c2 w hg hs hm
 ·exact jX 3 R2 n s m names args a1 names.length c1 a2 c2 w hg hs hm
 ·exact jX 4 R2 n s m names args a1 names.length c1 a2 c2 w hg hs hm
 ·exact jX 5 R2 n s m names args a1 names.length c1 a2 c2 w hg hs hm
 ·exact jX 6 R2 n s m names args a1 names.length c1 a2 c2 w hg hs hm
 ·exact jX 7 R2 n s m names args a1 names.length c1 a2 c2 w hg hs hm
 ·exact jX 8 R2 n s m names args a1 names.length c1 a2 c2 w hg hs hm
 ·exact jX 9 R2 n s m names args a1 names.length c1 a2 c2 w hg hs hm
 ·exact jX 10 R2 n s m names args a1 names.length c1 a2 c2 w hg hs hm
 ·exact jX 11 R2 n s m names args a1 names.length c1 a2 c2 w hg hs hm
 ·exact pB 12 R2 n s m names args a1 names.length c1 a2 c2 w hg hs hm
 ·exact leaf_13 n s m names args N _ a2 args.length c2 w hg hn
 ·exact pB 14 R2 n s m names args a1 names.length c1 a2 c2 w hg hs hm
 ·exact leaf_15 n s m names args a1 names.length c1 a2 c2 w hg hs hm
 ·exact leaf_16 n s m names args a1 names.length c1 a2 c2 w hg hs hm
 ·exact pB 17 R2 n s m names args a1 names.length c1 a2 c2 w hg hs hm
 exact pB 18 R2 n s m names args a1 names.length c1 a2 c2 w hg hs hm
def CleanSays(op n:Int)(s m:bA)(a1:Option Addr)(n1 c1:Nat)(va:Value)(w:World):Prop:=Calls Tryz.prog 162 #[.agg #[.int .i64 op,.int .i64 n,.string s,.string m,.slice a1 n1 c1,va]] w fun e w'=>∃a3 n3 c3,e=.returned (.tuple #[.agg #[.int .i64 op,.int .i64 (cleanN op n),.string (cleanS op s),.string (cleanM op m),.slice a3 n3 c3,va],.int .i64 (cleanC op n1)])/\n3=(if op=13 then n1 else 0)/\Below w.heap.size w w'
theorem clean_any(op n:Int)(s m:bA)(a1:Option Addr)(n1 c1:Nat)(a2:Option Addr)(n2 c2:Nat)(w:World)(h0:0<=op)(h1:op<19):CleanSays op n s m a1 n1 c1 (.slice a2 n2 c2) w:=by
 by_cases h:op=13
 ·subst h;exact(clean_all 13 n s m a1 n1 c1 a2 n2 c2 w RY RY).mono fun e w' h=>⟨a1,n1,c1,h.1,rfl,h.2⟩
 refine(clean_all op n s m a1 n1 c1 a2 n2 c2 w h0 h1).mono fun e w' h2=>?_;rw[if_neg h] at h2;exact⟨none,0,0,h2.1,by rw[if_neg h],h2.2⟩
theorem cleanX_eq(op n:Int)(s m:bA)(names:List bA)(args:List Xp)(h0:0<=op)(h1:op<19):fK (.mk op n s m names args)=((cleanN op n,cleanS op s,cleanM op m,if op=13 then names else[]),cleanC op names.length):=by
 have hc:op=0\/op=1\/op=2\/op=3\/op=4\/op=5\/op=6\/op=7\/op=8\/op=9\/op=10\/op=11\/op=12\/op=13\/op=14\/op=15\/op=16\/op=17\/op=18:=RY;rcases hc with rfl|rfl|rfl|rfl|rfl|rfl|rfl|rfl|rfl|rfl|rfl|rfl|rfl|rfl|rfl|rfl|rfl|rfl|rfl<;>rfl
theorem RU{p:Prop}(h:p:=by
 clear BC hg vL;go_enter Tryz.func92,Tryz.ntmps92;go_wp2_with fail;go_ret
 exact⟨aE SU,aB _ _⟩):p:=h
def RightXpAt(d:Nat):Prop:=∀(x:Xp)(N:Nat->Prop)(op n:Int)(s m:bA)(vn va:Value)(w:World),d<=100->iF w->bJ N w x [.int .i64 op,.int .i64 n,.string s,.string m,vn,va]->
  Calls Tryz.prog 92 #[nE op n s m vn va,.int .i64 (d:Int)] w fun e w'=>e=.returned (.bool (aJ d x))/\Below w.heap.size w w'
theorem rightExp_zero:RightXpAt 0:=by
  rintro⟨op',n',s',m',names,args⟩ N op n s m vn va w-hg he;have HR:Hid (aJ 0 (.mk op' n' s' m' names args)=false):=zh rfl;obtain⟨⟨a1,n1,c1,rfl⟩,a2,n2,c2,rfl⟩:=jS he;clear he hg;go_enter Tryz.func92,Tryz.ntmps92;go_wp2_with fail;go_ret;exact⟨aE (by rw[HR.out]),aB _ _⟩
theorem rightExp_step(d:Nat)(IH:RightXpAt d):RightXpAt (d+1):=by
  rintro⟨op,n,s,m,names,args⟩ N op' n' s' m' vn va w hd hg he;have BC:=he;rw[aW] at he;obtain⟨v1,v2,e,hs,hm,hn,hr⟩:=he;cases e;have OG:=zh (fun x N op n s m vn va w h2 h3=>IH x N op n s m vn va w RY h2 h3);have HG:=zh (fun W(hb:Below w.heap.size w W)=>hg.later hb);have HE0:=zh BC;have vL:((d+1:Nat):Int)=(d:Int)+1:=RY;rw[vL];have hd0:((d:Int)+1==0)=false:=SA;have hd1:(d:Int)<=100:=RY;obtain⟨a1,c1,rfl,hl1,xC,-⟩:=hn;have hr':=hr;obtain⟨a2,c2,rfl,hl3,hl4,-⟩:=hr';have LA:args.length<=9223372036854775807:=RY;have hlc:names.length<=9223372036854775807:=RY;by_cases h0:0<=op
  ·by_cases h1:op<19
   ·have HR:Hid (aJ (d+1) (.mk op n s m names args)=((decide (cleanC op names.length<0)||decide (cleanC op names.length=args.length))&&decide (cleanN op n=n)&&decide (cleanS op s=s)&&decide (cleanM op m=m)&&decide ((if op=13 then names.length else 0)=names.length)&&gE (.mk op n s m names args)&&args.all (aJ d))):=zh (by
     rw[aJ,cleanX_eq op n s m names args h0 h1,decide_eq_true h0,decide_eq_true h1];simp only[Bool.true_and];congr 4
     by_cases h:op=13<;>simp[h])
    have DO:=zh (fun W=>clean_any op n s m a1 names.length c1 a2 args.length c2 W h0 h1);unfold CleanSays at DO;have HLf:=zh (fun W(hb:Below w.heap.size w W)=>leaf_any op n s m names args N _ _ W h0 h1 (HG.out W hb) (aH _ _ _ _ _ _ (aQ.later hb) BC));unfold gF at HLf;have g0:¬op<0:=RY;have g1:¬19<=op:=RY;generalize cleanN op n=cN at DO HR;generalize cleanS op s=cS at DO HR;generalize cleanM op m=cM at DO HR;generalize cleanC op names.length=cC at DO HR;generalize (if op=13 then names.length else 0)=k3 at DO HR;generalize gE (.mk op n s m names args)=lf at HLf HR;clear BC hg vL;by_cases hA:cC<0\/cC=args.length
    ·(have hA':(decide (cC<0)||decide (cC=args.length))=true:=by rcases hA with h|h<;>simp[h]);rw[hA',Bool.true_and] at HR;by_cases hB:cN=n
     ·(have hB':(cN != n)=false:=by rw[bne_eq_false_iff_eq];exact hB);rw[decide_eq_true hB,Bool.true_and] at HR;by_cases hC:cS=s
      ·(have hC':(cS.toList==s.toList)=true:=by rw[eE];exact decide_eq_true hC);rw[decide_eq_true hC,Bool.true_and] at HR;by_cases hD:cM=m
       ·(have hD':(cM.toList==m.toList)=true:=by rw[eE];exact decide_eq_true hD);rw[decide_eq_true hD,Bool.true_and] at HR;by_cases hE:k3=names.length
        ·(have hE':((k3:Int) != (names.length:Int))=false:=by rw[bne_eq_false_iff_eq];omega);rw[decide_eq_true hE,Bool.true_and] at HR;clear hB hC hD hE hA';rcases hA with hA|hA
         focus
          have I3:¬0<=cC:=RY;have hA2:cC<0:=hA
         rotate_left
         focus
          have I3:0<=cC:=RY;have hA1:(cC != (args.length:Int))=false:=TO;clear hA
         all_goals
          cases lf with
          |false=>
           have HF:Hid (aJ (d+1) (.mk op n s m names args)=false):=zh SY;go_enter Tryz.func92,Tryz.ntmps92;go_wp2_with(first|(go_at_call 163;refine(HLf.out _ pZ.out).mono ?_;rintro e w4 ⟨rfl,qC⟩;obtain⟨⟨u0,u1,u2,u3,u4,u5⟩,-⟩:=bx6 (aC qC sF.out))|(go_at_call 162;refine(DO.out (w.alloc (aN op n s m a1 names.length c1 a2 args.length c2))).mono ?_;rintro e w2 ⟨a3,n3,c3,rfl,rfl,pN⟩;have pZ:=zh (aA (aA (aB w (aN op n s m a1 names.length c1 a2 args.length c2)) pN) (aB w2 (aN op cN cS cM a3 n3 c3 a2 args.length c2)));have sF:=zh (aC (aA pN (aB w2 (aN op cN cS cM a3 n3 c3 a2 args.length c2))) (bY w (aN op n s m a1 names.length c1 a2 args.length c2)));obtain⟨⟨t0,t1,t2,t3,t4,t5⟩,-⟩:=bx6 sF.out));go_ret;exact⟨aE SU,aA pZ.out qC⟩
          |true=>
           have HS0:Hid (aJ (d+1) (.mk op n s m names args)=args.all (aJ d)):=zh SY;have hrc:=hr.cases R0;clear HR hr;rcases hrc with⟨hnil,a',c',hv⟩|⟨b,o,c',hv,h0',J6,J5,hb,hN,hc⟩
           ·have HN0:Hid (args.length=0):=zh (by rw[hnil];rfl);clear hv hnil;go_enter Tryz.func92,Tryz.ntmps92;go_wp2_with(first|(go_at_call 163;refine(HLf.out _ pZ.out).mono ?_;rintro e w4 ⟨rfl,qC⟩;obtain⟨⟨u0,u1,u2,u3,u4,u5⟩,-⟩:=bx6 (aC qC sF.out))|(go_at_call 162;refine(DO.out (w.alloc (aN op n s m a1 names.length c1 a2 args.length c2))).mono ?_;rintro e w2 ⟨a3,n3,c3,rfl,rfl,pN⟩;have pZ:=zh (aA (aA (aB w (aN op n s m a1 names.length c1 a2 args.length c2)) pN) (aB w2 (aN op cN cS cM a3 n3 c3 a2 args.length c2)));have sF:=zh (aC (aA pN (aB w2 (aN op cN cS cM a3 n3 c3 a2 args.length c2))) (bY w (aN op n s m a1 names.length c1 a2 args.length c2)));obtain⟨⟨t0,t1,t2,t3,t4,t5⟩,-⟩:=bx6 sF.out));have rA:=zh (aA pZ.out qC);(go_loopw [73] (fun iv wr=>iv=.int .i64 0/\Hid (Below w.heap.size w wr)) (fun _ _=>0));case atStart=>exact⟨rfl,rA⟩
            case round=>
             obtain⟨rfl,HB⟩:=hrel;(have hl0:¬(0:Int)<(args.length:Int):=by have:=HN0.out;omega);go_wp2_with fail;go_ret;exact⟨aE (by rw[HS0.out,List.eq_nil_of_length_eq_zero HN0.out];rfl),HB.out⟩
           cases hv;have HC:=zh hc;clear hc;go_enter Tryz.func92,Tryz.ntmps92;go_wp2_with(first|(go_at_call 163;refine(HLf.out _ pZ.out).mono ?_;rintro e w4 ⟨rfl,qC⟩;obtain⟨⟨u0,u1,u2,u3,u4,u5⟩,-⟩:=bx6 (aC qC sF.out))|(go_at_call 162;refine(DO.out (w.alloc (aN op n s m a1 names.length c1 (some ⟨b,o,none⟩) args.length c2))).mono ?_;rintro e w2 ⟨a3,n3,c3,rfl,rfl,pN⟩;have pZ:=zh (aA (aA (aB w (aN op n s m a1 names.length c1 (some ⟨b,o,none⟩) args.length c2)) pN) (aB w2 (aN op cN cS cM a3 n3 c3 (some ⟨b,o,none⟩) args.length c2)));have sF:=zh (aC (aA pN (aB w2 (aN op cN cS cM a3 n3 c3 (some ⟨b,o,none⟩) args.length c2))) (bY w (aN op n s m a1 names.length c1 (some ⟨b,o,none⟩) args.length c2)));obtain⟨⟨t0,t1,t2,t3,t4,t5⟩,-⟩:=bx6 sF.out));have rA:=zh (aA pZ.out qC);clear qC pN pZ t0 t1 t2 t3 t4 t5 u0 u1 u2 u3 u4 u5 DO HLf;(go_loopw [73] (fun iv wr=>∃q:Nat,q<=args.length/\iv=.int .i64 (q:Int)/\Hid (Below w.heap.size w wr)/\Hid (aJ (d+1) (.mk op n s m names args)=(args.drop q).all (aJ d))) (fun iv _=>args.length-(intOf iv).toNat));case atStart=>exact⟨0,Nat.zero_le _,rfl,rA,HS0⟩
           case round=>
            obtain⟨q,hq,rfl,HB,qI⟩:=hrel;(rename World=>wr);by_cases qA:q<args.length
            ·obtain⟨x,hx,-⟩:=getElem?_of_lt qA;obtain⟨cs,sT,-,hj⟩:=HC.out q x hx;have uR:=zh (qI.out.trans (all_at hx))
             cases x with
             |mk sW n2 s2 m2 names2 args2=>
              have wK:=sT;rw[aW] at wK;obtain⟨vn2,va2,rfl,-,-,JO,yV⟩:=wK;obtain⟨LR,cc1,rfl,-⟩:=JO;obtain⟨LQ,cc2,rfl,-⟩:=yV;have p0:wr.cell? ⟨b,o+q*6,none⟩=some (.int .i64 sW):=aD HB.out (hj 0 _ rfl);have p1:=aD HB.out (hj 1 _ rfl);have p2:=aD HB.out (hj 2 _ rfl);have p3:=aD HB.out (hj 3 _ rfl);have p4:=aD HB.out (hj 4 _ rfl);have p5:=aD HB.out (hj 5 _ rfl);have HL:=zh (fun W(h:Below w.heap.size w W)=>OG.out (.mk sW n2 s2 m2 names2 args2) N sW n2 s2 m2 _ _ W (HG.out W h) (aH _ _ _ _ _ _ (aQ.later h) sT));clear hj sT hx;generalize aJ d (.mk sW n2 s2 m2 names2 args2)=r0 at HL uR;generalize names2.length=ln at *;generalize args2.length=la at *
              cases r0 with
              |false=>
               have HF:Hid (aJ (d+1) (.mk op n s m names args)=false):=zh (by rw[uR.out];rfl);clear uR qI;go_wp2_with(go_at_call 92;refine(HL.out _ (aA HB.out (aB _ _))).mono ?_;rintro e w1 ⟨rfl,pO⟩);go_ret;exact⟨aE SU,aA HB.out (aA (aB _ _) pO)⟩
              |true=>
               have wR:Hid (aJ (d+1) (.mk op n s m names args)=(args.drop (q+1)).all (aJ d)):=zh (by rw[uR.out];rfl);clear uR qI;go_wp2_with(go_at_call 92;refine(HL.out _ (aA HB.out (aB _ _))).mono ?_;rintro e w1 ⟨rfl,pO⟩);exact RK
            have tT:q=args.length:=RY;have HT:Hid (aJ (d+1) (.mk op n s m names args)=true):=zh U0;go_wp2_with fail;go_ret;exact⟨aE (by rw[HT.out]),HB.out⟩
        (have hE':((k3:Int) != (names.length:Int))=true:=by rw[bne_iff_ne];omega);have HF:Hid (aJ (d+1) (.mk op n s m names args)=false):=zh (by rw[HR.out,decide_eq_false hE];rfl);clear hB hC hD hE hA';rcases hA with hA|hA
        focus
         have I3:¬0<=cC:=RY;have hA2:cC<0:=hA
        rotate_left
        focus
         have I3:0<=cC:=RY;have hA1:(cC != (args.length:Int))=false:=TO;clear hA
        all_goals
         go_enter Tryz.func92,Tryz.ntmps92;go_wp2_with(go_at_call 162;refine(DO.out (w.alloc (aN op n s m a1 names.length c1 a2 args.length c2))).mono ?_;rintro e w2 ⟨a3,n3,c3,rfl,rfl,pN⟩;have pZ:=zh (aA (aA (aB w (aN op n s m a1 names.length c1 a2 args.length c2)) pN) (aB w2 (aN op cN cS cM a3 n3 c3 a2 args.length c2)));have sF:=zh (aC (aA pN (aB w2 (aN op cN cS cM a3 n3 c3 a2 args.length c2))) (bY w (aN op n s m a1 names.length c1 a2 args.length c2)));obtain⟨⟨t0,t1,t2,t3,t4,t5⟩,-⟩:=bx6 sF.out);go_ret;exact⟨aE SU,pZ.out⟩
       (have hD':(cM.toList==m.toList)=false:=by rw[eE];exact decide_eq_false hD);have HF:Hid (aJ (d+1) (.mk op n s m names args)=false):=zh (by rw[HR.out,decide_eq_false hD];rfl);clear hB hC hD hA';rcases hA with hA|hA
       focus
        have I3:¬0<=cC:=RY;have hA2:cC<0:=hA
       rotate_left
       focus
        have I3:0<=cC:=RY;have hA1:(cC != (args.length:Int))=false:=TO;clear hA
       all_goals
        go_enter Tryz.func92,Tryz.ntmps92;go_wp2_with(go_at_call 162;refine(DO.out (w.alloc (aN op n s m a1 names.length c1 a2 args.length c2))).mono ?_;rintro e w2 ⟨a3,n3,c3,rfl,rfl,pN⟩;have pZ:=zh (aA (aA (aB w (aN op n s m a1 names.length c1 a2 args.length c2)) pN) (aB w2 (aN op cN cS cM a3 n3 c3 a2 args.length c2)));have sF:=zh (aC (aA pN (aB w2 (aN op cN cS cM a3 n3 c3 a2 args.length c2))) (bY w (aN op n s m a1 names.length c1 a2 args.length c2)));obtain⟨⟨t0,t1,t2,t3,t4,t5⟩,-⟩:=bx6 sF.out);go_ret;exact⟨aE SU,pZ.out⟩
      (have hC':(cS.toList==s.toList)=false:=by rw[eE];exact decide_eq_false hC);have HF:Hid (aJ (d+1) (.mk op n s m names args)=false):=zh (by rw[HR.out,decide_eq_false hC];rfl);clear hB hC hA';rcases hA with hA|hA
      focus
       have I3:¬0<=cC:=RY;have hA2:cC<0:=hA
      rotate_left
      focus
       have I3:0<=cC:=RY;have hA1:(cC != (args.length:Int))=false:=TO;clear hA
      all_goals
       go_enter Tryz.func92,Tryz.ntmps92;go_wp2_with(go_at_call 162;refine(DO.out (w.alloc (aN op n s m a1 names.length c1 a2 args.length c2))).mono ?_;rintro e w2 ⟨a3,n3,c3,rfl,rfl,pN⟩;have pZ:=zh (aA (aA (aB w (aN op n s m a1 names.length c1 a2 args.length c2)) pN) (aB w2 (aN op cN cS cM a3 n3 c3 a2 args.length c2)));have sF:=zh (aC (aA pN (aB w2 (aN op cN cS cM a3 n3 c3 a2 args.length c2))) (bY w (aN op n s m a1 names.length c1 a2 args.length c2)));obtain⟨⟨t0,t1,t2,t3,t4,t5⟩,-⟩:=bx6 sF.out);go_ret;exact⟨aE SU,pZ.out⟩
     (have hB':(cN != n)=true:=by rw[bne_iff_ne];exact hB);have HF:Hid (aJ (d+1) (.mk op n s m names args)=false):=zh (by rw[HR.out,decide_eq_false hB];rfl);clear hB hA';rcases hA with hA|hA
     focus
      have I3:¬0<=cC:=RY;have hA2:cC<0:=hA
     rotate_left
     focus
      have I3:0<=cC:=RY;have hA1:(cC != (args.length:Int))=false:=TO;clear hA
     all_goals
      go_enter Tryz.func92,Tryz.ntmps92;go_wp2_with(go_at_call 162;refine(DO.out (w.alloc (aN op n s m a1 names.length c1 a2 args.length c2))).mono ?_;rintro e w2 ⟨a3,n3,c3,rfl,rfl,pN⟩;have pZ:=zh (aA (aA (aB w (aN op n s m a1 names.length c1 a2 args.length c2)) pN) (aB w2 (aN op cN cS cM a3 n3 c3 a2 args.length c2)));have sF:=zh (aC (aA pN (aB w2 (aN op cN cS cM a3 n3 c3 a2 args.length c2))) (bY w (aN op n s m a1 names.length c1 a2 args.length c2)));obtain⟨⟨t0,t1,t2,t3,t4,t5⟩,-⟩:=bx6 sF.out);go_ret;exact⟨aE SU,pZ.out⟩
    have I3:0<=cC:=RY;(have hA1:(cC != (args.length:Int))=true:=by rw[bne_iff_ne];omega);have HF:Hid (aJ (d+1) (.mk op n s m names args)=false):=zh (by rw[HR.out,decide_eq_false (fun h=>hA (.inl h)),decide_eq_false (fun h=>hA (.inr h))];rfl);clear hA;go_enter Tryz.func92,Tryz.ntmps92;go_wp2_with(go_at_call 162;refine(DO.out (w.alloc (aN op n s m a1 names.length c1 a2 args.length c2))).mono ?_;rintro e w2 ⟨a3,n3,c3,rfl,rfl,pN⟩;have pZ:=zh (aA (aA (aB w (aN op n s m a1 names.length c1 a2 args.length c2)) pN) (aB w2 (aN op cN cS cM a3 n3 c3 a2 args.length c2)));have sF:=zh (aC (aA pN (aB w2 (aN op cN cS cM a3 n3 c3 a2 args.length c2))) (bY w (aN op n s m a1 names.length c1 a2 args.length c2)));obtain⟨⟨t0,t1,t2,t3,t4,t5⟩,-⟩:=bx6 sF.out);go_ret;exact⟨aE SU,pZ.out⟩
   have HF:Hid (aJ (d+1) (.mk op n s m names args)=false):=zh (by rw[aJ,decide_eq_false h1];simp);have g0:¬op<0:=RY;have g1:19<=op:=RY;exact RU
  have HF:Hid (aJ (d+1) (.mk op n s m names args)=false):=zh (by rw[aJ,decide_eq_false h0];simp);have g0:op<0:=RY;exact RU
theorem dV:RightXpAll:=fun d=>by
 induction d with
 |zero=>exact rightExp_zero
 |succ d ih=>exact rightExp_step d ih
theorem RQ{p:Prop}(h:p:=by
 go_ret
 exact⟨aE SU,sF.out⟩):p:=h
theorem kM{B:Nat}{a b:World}(h:Below B a b)(n:Nat):Below B a (b.drewN n):=⟨h.os,h.tape,h.output,h.size,h.block⟩
theorem flds_bad{l:List Fld}{k:Nat}{x:Fld}{known:List bA}{r:Bool}(hx:l[k]? =some x)(h:(known.any fun y=>decide (y=x.1))=true\/aM x.1=false\/aR 4 x.2=false)
  (hr:r=bB (l.drop k) known):r=false:=by
 obtain⟨hk,rfl⟩:=Yb.1 hx;rw[hr,List.drop_eq_getElem_cons hk];revert h;obtain⟨n,t⟩:=l[k];intro h;rw[bB];rcases h with h|h|h<;>simp[h]
theorem flds_good{l:List Fld}{k:Nat}{x:Fld}{known:List bA}{r:Bool}(hx:l[k]? =some x)(h1:(known.any fun y=>decide (y=x.1))=false)(h2:aM x.1=true)(h3:aR 4 x.2=true)
  (hr:r=bB (l.drop k) known):r=bB (l.drop (k+1)) (x.1::known):=by
 obtain⟨hk,rfl⟩:=Yb.1 hx;rw[hr,List.drop_eq_getElem_cons hk];revert h1 h2 h3;obtain⟨n,t⟩:=l[k];intro h1 h2 h3;rw[bB,h1,h2,h3];rfl
theorem flds_end{l:List Fld}{k:Nat}{known:List bA}{r:Bool}(hk:l.length<=k)(hr:r=bB (l.drop k) known):r=true:=by
 rw[hr,List.drop_of_length_le hk,bB]
theorem mC(l:List Fld)(most:Nat)(N:Nat->Prop)(v:Value)(w:World)(hn:most<=1000)(hg:iF w)(he:aO 3 fH N w v l):
  Calls Tryz.prog 80 #[v,.int .i64 (most:Int)] w fun e w'=>e=.returned (.bool (bM l most))/\Below w.heap.size w w':=by
 have HG:=zh (fun W(hb:Below w.heap.size w W)=>hg.later hb);have LA:l.length<=9223372036854775807:=by obtain⟨_,_,_,h1,h2,-⟩:=he;omega
 have MP:(most:Int)<=1000:=RY;have HR:Hid (bM l most=(bB l []&&decide (l.length<=most))):=zh rfl;generalize bM l most=res at HR;have HD:Hid (decide ((l.length:Int)<=(most:Int))=decide (l.length<=most)):=zh (by rw[Bool.eq_iff_iff];simp);have AT:=@run_makeMap Tryz.prog;have HRT:=zh (nX);clear hg;rcases he.cases R0 with⟨rfl,a,c,rfl⟩|⟨b,o,c,rfl,h0,h1,h2,hb,hN,hc⟩
 ·clear he;go_enter Tryz.func80,Tryz.ntmps80;go_wp2_with fail;go_loop [11] (fun i=>i=.int .i64 0) (fun _=>0)
  case atStart=>rfl
  case round=>
   subst hrel;go_wp2_with fail;go_ret;exact⟨aE (by rw[HR.out,<-HD.out];simp[bB]),aB _ _⟩
 have HC:=zh hc;clear hc he;go_enter Tryz.func80,Tryz.ntmps80;go_wp2_with fail;clear AT;go_loopw [11] (fun iv wr=>∃(q:Nat)(known:List bA),q<=l.length/\iv=.int .i64 (q:Int)/\Hid (Below w.heap.size w wr)/\Hid (bB l []=bB (l.drop q) known)/\Hid (bR jQ fU wr w.heap.size q (mK known))) (fun iv _=>l.length-(intOf iv).toNat)
 case atStart=>exact⟨0,[],Nat.zero_le _,rfl,zh (aB _ _),zh rfl,zh ((bR.made w).ext (fun _=>rfl))⟩
 case round=>
  obtain⟨q,known,hq,rfl,HB,qI,HM⟩:=hrel;rename World=>wr
  have C0:w.heap.size<wr.heap.size:=HM.out.lt;by_cases qA:q<l.length
  ·obtain⟨x,hx,-⟩:=getElem?_of_lt qA;obtain⟨cs,sT,-,hj⟩:=HC.out q x hx;obtain⟨nm,t⟩:=x;obtain⟨ct,rfl,sV,MF⟩:=sT;have hty0:=MF
   cases t with
   |mk kd fs=>
    rw[fE] at hty0;obtain⟨vf,rfl,JO⟩:=hty0;obtain⟨a1,cc1,rfl,-⟩:=JO;have c0:wr.cell? ⟨b,o+q*3,none⟩=some (.string nm):=aD HB.out (hj 0 _ rfl);have c1:=aD HB.out (hj 1 _ rfl);have c2:=aD HB.out (hj 2 _ rfl);have s1:nm.size<=140737488355328:=Nat.le_trans (show nm.size<=8000 from sV) R0;have HL:=zh (fun W(h:Below w.heap.size w W)=>oD HRT.out (.mk kd fs) N kd _ W (HG.out W h) (dM _ _ _ _ _ _ (aQ.later h) MF));have HS:=zh (fun W(h:Below w.heap.size w W)=>iY nm W s1 (HG.out W h));have HK:=zh (knownOf_getD known nm);have HX:=zh hx;have sF:=zh (aA HB.out (aB wr (cA nm kd a1 fs.length cc1)));clear hj MF hx HC;generalize zF:(known.any fun y=>decide (y=nm))=r1 at HK;generalize zE:aM nm=r2 at HS;generalize MK:aR 4 (.mk kd fs)=r3 at HL;have LT:=zh zF;have LS:=zh zE;have Hq3:=zh MK;clear zF zE MK;generalize fs.length=ln at *
    cases r1 with
    |true=>
     have HF:Hid (res=false):=zh (by rw[HR.out,flds_bad HX.out (.inl LT.out) qI.out];rfl);go_wp2_with(at_lookup;refine cJ (HM.out.alloc _) s1 HK.out rfl rfl rfl rfl ?_);exact RQ
    |false=>
     cases r2 with
     |false=>
      have HF:Hid (res=false):=zh (by rw[HR.out,flds_bad HX.out (.inr (.inl LS.out)) qI.out];rfl);go_wp2_with(first|(at_lookup;refine cJ (HM.out.alloc _) s1 HK.out rfl rfl rfl rfl ?_)|(go_at_call 17;refine(HS.out _ sF.out).mono ?_;rintro e w1 ⟨rfl,rfl⟩));exact RQ
     |true=>
      cases r3 with
      |false=>
       have HF:Hid (res=false):=zh (by rw[HR.out,flds_bad HX.out (.inr (.inr Hq3.out)) qI.out];rfl);go_wp2_with(first|(at_lookup;refine cJ (HM.out.alloc _) s1 HK.out rfl rfl rfl rfl ?_)|(go_at_call 17;refine(HS.out _ sF.out).mono ?_;rintro e w1 ⟨rfl,rfl⟩)|(go_at_call 29;refine(HL.out _ sF.out).mono ?_;rintro e w2 ⟨rfl,pN⟩));go_ret;exact⟨aE SU,aA sF.out pN⟩
      |true=>
       have wR:=zh (flds_good HX.out LT.out LS.out Hq3.out qI.out);have rG:=sF.out.size;go_wp2_with(first|(at_lookup;refine cJ (HM.out.alloc _) s1 HK.out rfl rfl rfl rfl ?_)|(go_at_call 17;refine(HS.out _ sF.out).mono ?_;rintro e w1 ⟨rfl,rfl⟩)|(go_at_call 29;refine(HL.out _ sF.out).mono ?_;rintro e w2 ⟨rfl,pN⟩;have HM2:=zh ((HM.out.alloc (cA nm kd a1 ln cc1)).later pN);obtain⟨u0,u1,u2⟩:=(bx3 (aC pN (bY wr (cA nm kd a1 ln cc1)))).1)|(at_mapUpdate;refine lQ HM2.out RY s1 rfl rfl rfl rfl rfl ?_;intro w3 hm3 hg3));go_roundw;(case rel=>exact⟨q+1,nm::known,RY,SK,zh ((aA sF.out pN).grown hg3 (by have:=(aA sF.out pN).size;omega) (fun i hi=>by cases hi;exact Nat.le_refl _)),wR,zh (hm3.ext (fun z=>congrFun (knownOf_cons known nm) z))⟩);case measure=>simp[intOf];omega
  have tT:l.length<=q:=RY;have HT:Hid (res=decide (l.length<=most)):=zh (by rw[HR.out,flds_end tT qI.out];simp);exact RD
theorem PL{p:Prop}(h:p:=by
 go_wp2_with(go_at_call 81;refine(BQ.out _ pS.out).mono ?_;rintro e v2 ⟨rfl,pN⟩;have pV:=zh (aA pS.out pN);have qW:=zh (aC pN J8.out);obtain⟨⟨q20,q21,q22,q23,q24,q25,q26,q27,q28⟩,-⟩:=bx9 qW.out);go_quiet(fail)
 go_wp2_with(go_at_call 80;refine(HFO.out _ (kM pV.out _)).mono ?_;rintro e v3 ⟨rfl,pX⟩;have pW:=zh (aA (kM pV.out _) pX);have tE:=zh (aC pX qW.out);obtain⟨⟨q30,q31,q32,q33,q34,q35,q36,q37,q38⟩,-⟩:=bx9 tE.out)
 cases rw with
 |false=>
  go_at_call 81;refine(C7.out _ pW.out).mono ?_;rintro e v4 ⟨rfl,qC⟩;have qH:=zh (aA pW.out qC);have tN:=zh (aC qC tE.out);obtain⟨⟨q40,q41,q42,q43,q44,q45,q46,q47,q48⟩,-⟩:=bx9 tN.out;go_wp2_with fail;go_ret;exact⟨aE SI,qH.out⟩
 |true=>
  go_at_call 81;refine(C7.out _ pW.out).mono ?_;rintro e v4 ⟨rfl,qC⟩;have qH:=zh (aA pW.out qC);have tN:=zh (aC qC tE.out);obtain⟨⟨q40,q41,q42,q43,q44,q45,q46,q47,q48⟩,-⟩:=bx9 tN.out;go_wp2_with fail;go_wp2_with(go_at_call 81;refine(J9.out _ qH.out).mono ?_;rintro e v5 ⟨rfl,hb5⟩;have rE:=zh (aA qH.out hb5);have EJ:=zh (aC hb5 tN.out);obtain⟨⟨q50,q51,q52,q53,q54,q55,q56,q57,q58⟩,-⟩:=bx9 EJ.out);go_ret
  exact⟨aE SI,rE.out⟩):p:=h
theorem PQ{p:Prop}(h:p:=by
 go_wp2_with(first|(at_lookup;refine cJ (IF.out.alloc _) s2 HK.out rfl rfl rfl rfl ?_)|(go_at_call 17;refine HS.out.mono ?_;rintro e w5 ⟨rfl,rfl⟩)|(go_at_call 80;refine(HFP.out _ sF.out).mono ?_;rintro e w6 ⟨rfl,qZ⟩;have sD:=zh (aA sF.out qZ);obtain⟨⟨x0,x1,x2,x3,x4,x5,x6,x7,x8,x9,x10,x11⟩,-⟩:=eD (aC qZ pP.out))|(go_at_call 29;refine(HT.out _ sD.out).mono ?_;rintro e w7 ⟨rfl,rT⟩;have uB:=zh (aA sD.out rT);obtain⟨⟨y0,y1,y2,y3,y4,y5,y6,y7,y8,y9,KZ,KY⟩,-⟩:=eD (aC (aA qZ rT) pP.out))|(go_at_call 27;refine(HE.out _ uB.out).mono ?_;rintro e w8 ⟨rfl,qS⟩;have sM:=zh (aA uB.out qS);obtain⟨⟨z0,z1,z2,z3,z4,z5,z6,z7,z8,z9,z10,z11⟩,-⟩:=eD (aC (aA (aA qZ rT) qS) pP.out);have HM8:=zh ((IF.out.alloc (gH f.name f.pub ap f.params.length cp kd ar lr cr f.effects op n sx mx an ln cn aa la ca)).later (aA (aA qZ rT) qS))));go_ret
 exact⟨aE SU,sM.out⟩):p:=h
theorem P0{p:Prop}(h:p:=by
 go_wp2_with(go_at_call 81;refine(BQ.out _ pS.out).mono ?_;rintro e v2 ⟨rfl,pN⟩;have pV:=zh (aA pS.out pN);have qW:=zh (aC pN J8.out);obtain⟨⟨q20,q21,q22,q23,q24,q25,q26,q27,q28⟩,-⟩:=bx9 qW.out);go_quiet(fail)
 go_wp2_with(go_at_call 80;refine(HFO.out _ (kM pV.out _)).mono ?_;rintro e v3 ⟨rfl,pX⟩;have pW:=zh (aA (kM pV.out _) pX);have tE:=zh (aC pX qW.out);obtain⟨⟨q30,q31,q32,q33,q34,q35,q36,q37,q38⟩,-⟩:=bx9 tE.out);go_ret
 exact⟨aE SI,pW.out⟩):p:=h
theorem QA{p:Prop}(h:p:=by
 go_wp2_with(go_at_call 17;refine HN1.out.mono ?_;rintro e w5 ⟨rfl,rfl⟩);go_ret
 exact⟨aE SI,AZ.out⟩):p:=h
theorem QD{p:Prop}(h:p:=by
 clear JP;go_wp2_with(go_at_call 81;refine(BQ.out _ pS.out).mono ?_;rintro e v2 ⟨rfl,pN⟩;have pV:=zh (aA pS.out pN);have qW:=zh (aC pN J8.out);obtain⟨⟨q20,q21,q22,q23,q24,q25,q26,q27,q28⟩,-⟩:=bx9 qW.out);go_quiet(fail)
 go_wp2_with fail;go_ret
 exact⟨aE (by rw[HM.out]),kM pV.out _⟩):p:=h
theorem uses_bad'{l:List bA}{k:Nat}{x:bA}{known:List bA}{r:Bool}(hx:l[k]? =some x)(h:(known.any fun y=>decide (y=x))=true\/aM x=false)
  (hr:r=cW (l.drop k) known):r=false:=by
 obtain⟨hk,rfl⟩:=Yb.1 hx;rw[hr,List.drop_eq_getElem_cons hk,cW];rcases h with h|h<;>simp[h]
theorem uses_good'{l:List bA}{k:Nat}{x:bA}{known:List bA}{r:Bool}(hx:l[k]? =some x)(h1:(known.any fun y=>decide (y=x))=false)(h2:aM x=true)
  (hr:r=cW (l.drop k) known):r=cW (l.drop (k+1)) (x::known):=by
 obtain⟨hk,rfl⟩:=Yb.1 hx;rw[hr,List.drop_eq_getElem_cons hk,cW,h1,h2];rfl
theorem uses_end'{l:List bA}{k:Nat}{known:List bA}{r:Bool}(hk:l.length<=k)(hr:r=cW (l.drop k) known):r=true:=by
 rw[hr,List.drop_of_length_le hk,cW]
theorem fns_bad{l:List Fnc}{k:Nat}{x:Fnc}{known:List bA}{r:Bool}(hx:l[k]? =some x)(h:(known.any fun y=>decide (y=x.name))=true\/aM x.name=false\/eY x=false)
  (hr:r=bK (l.drop k) known):r=false:=by
 obtain⟨hk,rfl⟩:=Yb.1 hx;rw[hr,List.drop_eq_getElem_cons hk,bK];rcases h with h|h|h<;>simp[h]
theorem fns_good{l:List Fnc}{k:Nat}{x:Fnc}{known:List bA}{r:Bool}(hx:l[k]? =some x)(h1:(known.any fun y=>decide (y=x.name))=false)(h2:aM x.name=true)(h3:eY x=true)
  (hr:r=bK (l.drop k) known):r=bK (l.drop (k+1)) (x.name::known):=by
 obtain⟨hk,rfl⟩:=Yb.1 hx;rw[hr,List.drop_eq_getElem_cons hk,bK,h1,h2,h3];rfl
theorem fns_end{l:List Fnc}{k:Nat}{known:List bA}{r:Bool}(hk:l.length<=k)(hr:r=bK (l.drop k) known):r=true:=by
 rw[hr,List.drop_of_length_le hk,bK]
theorem rightFn_eq(f:Fnc):eY f=(bM f.params 6&&aR 4 f.result&&aJ 12 f.body&&effOk f.effects):=rfl
theorem iR(m:Mdl)(N:Nat->Prop)(vu vv vi vf vo vw vb:Value)(w:World)(hg:iF w)(hu:aO 1 iD N w vu m.uses)(hv:aO 3 fH N w vv m.vars)(hi:aO 6 bJ N w vi m.init)(hf:aO 12 iU N w vf m.funcs)
  (ho:aO 3 fH N w vo m.old) (hw:aO 6 bJ N w vw m.forward) (hb:aO 6 bJ N w vb m.back) (hn:m.name.size<=8000):
  Calls Tryz.prog 22 #[.agg #[.string m.name,vu,vv,vi,vf,.bool m.moves,vo,vw,vb]] w fun e w'=>e=.returned (.bool (eX m))/\Below w.heap.size w w':=by
 have HG:=zh (fun W(hb:Below w.heap.size w W)=>hg.later hb);have HM:Hid (eX m=(cW m.uses []&&bK m.funcs []&&aM m.name&&decide (m.uses.length<=12)&&decide (m.funcs.length<=30)&&bM m.vars 8&&cB m.init m.vars.length&&(m.moves||decide (m.old.length=0))&&bM m.old 8&&cB m.forward (if m.moves then m.vars.length else 0)&&cB m.back m.old.length)):=zh rfl;generalize eX m=res at HM ⊢;obtain⟨au,cu,rfl,lu1,lu2,hcu⟩:=hu.at;obtain⟨af,cf,rfl,lf1,lf2,hcf⟩:=hf.at;have HFV:=zh (fun W(h:Below w.heap.size w W)=>mC m.vars 8 N vv W R0 (HG.out W h) (hv.moves aT (aQ.later h) R0));have HFO:=zh (fun W(h:Below w.heap.size w W)=>mC m.old 8 N vo W R0 (HG.out W h) (ho.moves aT (aQ.later h) R0));have HXI:=zh (fun k W(hk:k<=1000)(h:Below w.heap.size w W)=>nY dV m.init k N vi W hk (HG.out W h) (hi.moves aH (aQ.later h) R0));have HXW:=zh (fun k W(hk:k<=1000)(h:Below w.heap.size w W)=>nY dV m.forward k N vw W hk (HG.out W h) (hw.moves aH (aQ.later h) R0));have HXB:=zh (fun k W(hk:k<=1000)(h:Below w.heap.size w W)=>nY dV m.back k N vb W hk (HG.out W h) (hb.moves aH (aQ.later h) R0));obtain⟨av,cv,rfl,lv1,lv2,-⟩:=hv.at;obtain⟨ai,ci,rfl,li1,li2,-⟩:=hi.at;obtain⟨ao,co,rfl,lo1,lo2,-⟩:=ho.at;obtain⟨aw,cw,rfl,lw1,lw2,-⟩:=hw.at;obtain⟨ab,cb,rfl,D4,L9,-⟩:=hb.at;have HCU:=zh hcu;have HCF:=zh hcf;have E0:=zh (fun W(h:Below w.heap.size w W)=>iY m.name W RY (HG.out W h));have OU:=zh (bY w (gZ m.name au m.uses.length cu av m.vars.length cv ai m.init.length ci af m.funcs.length cf m.moves ao m.old.length co aw m.forward.length cw ab m.back.length cb));have qL:=zh (aB w (gZ m.name au m.uses.length cu av m.vars.length cv ai m.init.length ci af m.funcs.length cf m.moves ao m.old.length co aw m.forward.length cw ab m.back.length cb));have AT:=@run_makeMap Tryz.prog;clear hg hu hv hi hf ho hw hb hcu hcf;go_enter Tryz.func22,Tryz.ntmps22;go_wp2_with fail;go_loopw [15] (fun iv wr=>∃(q:Nat)(known:List bA),q<=m.uses.length/\iv=.int .i64 (q:Int)/\Hid (Below (w.alloc (gZ m.name au m.uses.length cu av m.vars.length cv ai m.init.length ci af m.funcs.length cf m.moves ao m.old.length co aw m.forward.length cw ab m.back.length cb)).heap.size (w.alloc (gZ m.name au m.uses.length cu av m.vars.length cv ai m.init.length ci af m.funcs.length cf m.moves ao m.old.length co aw m.forward.length cw ab m.back.length cb)) wr)/\Hid (cW m.uses []=cW (m.uses.drop q) known)/\Hid (bR jQ fU wr (w.heap.size+1) q (mK known))) (fun iv _=>m.uses.length-(intOf iv).toNat)
 case atStart=>exact⟨0,[],Nat.zero_le _,rfl,zh (aB _ _),zh rfl,zh (by have h:=(bR.made (K:=jQ) (V:=fU) (w.alloc (gZ m.name au m.uses.length cu av m.vars.length cv ai m.init.length ci af m.funcs.length cf m.moves ao m.old.length co aw m.forward.length cw ab m.back.length cb))).ext (m':=mK []) (fun _=>rfl);simpa using h)⟩
 case round=>
  obtain⟨q,known,hq,rfl,HB,qI,OC⟩:=hrel;rename World=>wr
  have KU:=zh (aA qL.out HB.out);obtain⟨⟨t0,t1,t2,t3,t4,t5,t6,t7,t8⟩,-⟩:=bx9 (aC HB.out OU.out);have hb9':(w.alloc (gZ m.name au m.uses.length cu av m.vars.length cv ai m.init.length ci af m.funcs.length cf m.moves ao m.old.length co aw m.forward.length cw ab m.back.length cb)).heap.size=w.heap.size+1:=R2;by_cases qA:q<m.uses.length
  ·obtain⟨x,hx,-⟩:=getElem?_of_lt qA;obtain⟨b,o,rfl,-,cs,⟨rfl,s1⟩,-,hj⟩:=HCU.out q x hx;have p0:wr.cell? ⟨b,o+q,none⟩=some (.string x):=aD KU.out TN;have HX:=zh hx;have HK:=zh (knownOf_getD known x);have HS:=zh (iY x wr s1 (HG.out _ KU.out));clear hj hx AT;generalize zF:(known.any fun y=>decide (y=x))=r1 at HK;generalize zE:aM x=r2 at HS;have LT:=zh zF;have LS:=zh zE;clear zF zE
   cases r1 with
   |true=>
    have HF:Hid (res=false):=zh (by rw[HM.out,uses_bad' HX.out (.inl LT.out) qI.out];simp);go_wp2_with(at_lookup;refine cJ OC.out s1 HK.out rfl rfl rfl rfl ?_);go_ret;exact⟨aE SU,KU.out⟩
   |false=>
    cases r2 with
    |false=>
     have HF:Hid (res=false):=zh (by rw[HM.out,uses_bad' HX.out (.inr LS.out) qI.out];simp);go_wp2_with(first|(at_lookup;refine cJ OC.out s1 HK.out rfl rfl rfl rfl ?_)|(go_at_call 17;refine HS.out.mono ?_;rintro e w5 ⟨rfl,rfl⟩));go_ret;exact⟨aE SU,KU.out⟩
    |true=>
     have wR:=zh (uses_good' HX.out LT.out LS.out qI.out);have rG:=HB.out.size;go_wp2_with(first|(at_lookup;refine cJ OC.out s1 HK.out rfl rfl rfl rfl ?_)|(go_at_call 17;refine HS.out.mono ?_;rintro e w5 ⟨rfl,rfl⟩)|(at_mapUpdate;refine lQ OC.out RY s1 rfl rfl rfl rfl rfl ?_;intro w3 hm3 hg3));go_roundw;(case rel=>exact⟨q+1,x::known,RY,SK,zh (HB.out.grown hg3 rG (fun i hi=>by cases hi;omega)),wR,zh (hm3.ext (fun z=>congrFun (knownOf_cons known x) z))⟩);case measure=>simp[intOf];omega
  have HU:Hid (cW m.uses []=true):=zh (uses_end' RY qI.out);rw[HU.out,Bool.true_and] at HM;have hwr:=HB.out.size;have hwr1:(w.alloc (gZ m.name au m.uses.length cu av m.vars.length cv ai m.init.length ci af m.funcs.length cf m.moves ao m.old.length co aw m.forward.length cw ab m.back.length cb)).heap.size=w.heap.size+1:=R2;have hlt0:w.heap.size<wr.heap.size:=RY;have HwM:=zh (aB wr (.map #[] 0));clear qI OC HCU;go_wp2_with fail;clear AT;clear t0 t1 t2 t3 t4 t5 t6 t7 t8;go_loopw [34] (fun iv wz=>∃(z:Nat)(known:List bA),z<=m.funcs.length/\iv=.int .i64 (z:Int)/\Hid (Below wr.heap.size wr wz)/\Hid (bK m.funcs []=bK (m.funcs.drop z) known)/\Hid (bR jQ fU wz wr.heap.size z (mK known))) (fun iv _=>m.funcs.length-(intOf iv).toNat)
  case atStart=>exact⟨0,[],Nat.zero_le _,rfl,HwM,zh rfl,zh ((bR.made wr).ext (fun _=>rfl))⟩
  case round=>
   obtain⟨z,kn,hz,rfl,EQ,KD,IF⟩:=hrel;(rename World=>wz);have HBy:=zh (aA HB.out EQ.out);have AZ:=zh (aA qL.out HBy.out);obtain⟨⟨t0,t1,t2,t3,t4,t5,t6,t7,t8⟩,-⟩:=bx9 (aC HBy.out OU.out);by_cases hlz:z<m.funcs.length
   ·obtain⟨f,hx,-⟩:=getElem?_of_lt hlz;obtain⟨b,o,rfl,-,cs,M3,-,hj⟩:=HCF.out z f hx;obtain⟨vp,kd,vr,op,n,sx,mx,vn,va,rfl,s1,hp,ht,he⟩:=M3;have HFP:=zh (fun W(h:Below w.heap.size w W)=>mC f.params 6 N vp W R0 (HG.out W h) (hp.moves aT (aQ.later h) R0));have HT:=zh (fun W(h:Below w.heap.size w W)=>oD nX f.result N kd vr W (HG.out W h) (dM _ _ _ _ _ _ (aQ.later h) ht));have HE:=zh (fun W(h:Below w.heap.size w W)=>fG dV f.body N op n sx mx vn va W (HG.out W h) (aH _ _ _ _ _ _ (aQ.later h) he));obtain⟨ap,cp,rfl,-⟩:=hp.at;obtain⟨ar,lr,cr,rfl⟩:=encT_slice ht;obtain⟨⟨an,ln,cn,rfl⟩,aa,la,ca,rfl⟩:=jS he;have c0:wz.cell? ⟨b,o+z*12,none⟩=some (.string f.name):=aD AZ.out (hj 0 _ rfl);have c1:=aD AZ.out (hj 1 _ rfl);have c2:=aD AZ.out (hj 2 _ rfl);have c3:=aD AZ.out (hj 3 _ rfl);have c4:=aD AZ.out (hj 4 _ rfl);have c5:=aD AZ.out (hj 5 _ rfl);have c6:=aD AZ.out (hj 6 _ rfl);have c7:=aD AZ.out (hj 7 _ rfl);have c8:=aD AZ.out (hj 8 _ rfl);have c9:=aD AZ.out (hj 9 _ rfl);have zY:=aD AZ.out (hj 10 _ rfl);have zX:=aD AZ.out (hj 11 _ rfl);have s2:f.name.size<=140737488355328:=RY;have HX:=zh hx;have HK:=zh (knownOf_getD kn f.name);have sF:=zh (aA AZ.out (aB wz (gH f.name f.pub ap f.params.length cp kd ar lr cr f.effects op n sx mx an ln cn aa la ca)));have pP:=zh (bY wz (gH f.name f.pub ap f.params.length cp kd ar lr cr f.effects op n sx mx an ln cn aa la ca));have HS:=zh (iY f.name _ s2 (HG.out _ sF.out));have HR:=zh (rightFn_eq f);clear hj hx hp ht he HCF;generalize zF:(kn.any fun y=>decide (y=f.name))=r1 at HK;generalize zE:aM f.name=r2 at HS;generalize bM f.params 6=r3 at HFP HR;generalize aR 4 f.result=r4 at HT HR;generalize aJ 12 f.body=r5 at HE HR;have HEf:Hid (effOk f.effects=decide (Go.bits .andNot .i64 f.effects 15=0)):=zh rfl;have LT:=zh zF;have LS:=zh zE;clear zF zE
    cases r1 with
    |true=>
     have HF:Hid (res=false):=zh (by rw[HM.out,fns_bad HX.out (.inl LT.out) KD.out];simp);go_wp2_with(at_lookup;refine cJ (IF.out.alloc _) s2 HK.out rfl rfl rfl rfl ?_);exact RQ
    |false=>
     cases r2 with
     |false=>
      have HF:Hid (res=false):=zh (by rw[HM.out,fns_bad HX.out (.inr (.inl LS.out)) KD.out];simp);go_wp2_with(first|(at_lookup;refine cJ (IF.out.alloc _) s2 HK.out rfl rfl rfl rfl ?_)|(go_at_call 17;refine HS.out.mono ?_;rintro e w5 ⟨rfl,rfl⟩));exact RQ
     |true=>
      cases r3 with
      |false=>
       have HF:Hid (res=false):=zh TF;go_wp2_with(first|(at_lookup;refine cJ (IF.out.alloc _) s2 HK.out rfl rfl rfl rfl ?_)|(go_at_call 17;refine HS.out.mono ?_;rintro e w5 ⟨rfl,rfl⟩)|(go_at_call 80;refine(HFP.out _ sF.out).mono ?_;rintro e w6 ⟨rfl,qZ⟩;have sD:=zh (aA sF.out qZ);obtain⟨⟨x0,x1,x2,x3,x4,x5,x6,x7,x8,x9,x10,x11⟩,-⟩:=eD (aC qZ pP.out)));go_ret;exact⟨aE SU,sD.out⟩
      |true=>
       cases r4 with
       |false=>
        have HF:Hid (res=false):=zh TF;go_wp2_with(first|(at_lookup;refine cJ (IF.out.alloc _) s2 HK.out rfl rfl rfl rfl ?_)|(go_at_call 17;refine HS.out.mono ?_;rintro e w5 ⟨rfl,rfl⟩)|(go_at_call 80;refine(HFP.out _ sF.out).mono ?_;rintro e w6 ⟨rfl,qZ⟩;have sD:=zh (aA sF.out qZ);obtain⟨⟨x0,x1,x2,x3,x4,x5,x6,x7,x8,x9,x10,x11⟩,-⟩:=eD (aC qZ pP.out))|(go_at_call 29;refine(HT.out _ sD.out).mono ?_;rintro e w7 ⟨rfl,rT⟩;have uB:=zh (aA sD.out rT);obtain⟨⟨y0,y1,y2,y3,y4,y5,y6,y7,y8,y9,KZ,KY⟩,-⟩:=eD (aC (aA qZ rT) pP.out)));go_ret;exact⟨aE SU,uB.out⟩
       |true=>
        cases r5 with
        |false=>
         have HF:Hid (res=false):=zh TF;exact PQ
        |true=>
         by_cases BB:Go.bits .andNot .i64 f.effects 15=0
         ·(have hef':(Go.bits .andNot .i64 f.effects 15 != 0)=false:=by rw[bne_eq_false_iff_eq];exact BB);have wR:=zh (fns_good HX.out LT.out LS.out (by rw[HR.out,HEf.out,decide_eq_true BB];rfl) KD.out);have rG:=EQ.out.size;clear BB;go_wp2_with(first|(at_lookup;refine cJ (IF.out.alloc _) s2 HK.out rfl rfl rfl rfl ?_)|(go_at_call 17;refine HS.out.mono ?_;rintro e w5 ⟨rfl,rfl⟩)|(go_at_call 80;refine(HFP.out _ sF.out).mono ?_;rintro e w6 ⟨rfl,qZ⟩;have sD:=zh (aA sF.out qZ);obtain⟨⟨x0,x1,x2,x3,x4,x5,x6,x7,x8,x9,x10,x11⟩,-⟩:=eD (aC qZ pP.out))|(go_at_call 29;refine(HT.out _ sD.out).mono ?_;rintro e w7 ⟨rfl,rT⟩;have uB:=zh (aA sD.out rT);obtain⟨⟨y0,y1,y2,y3,y4,y5,y6,y7,y8,y9,KZ,KY⟩,-⟩:=eD (aC (aA qZ rT) pP.out))|(go_at_call 27;refine(HE.out _ uB.out).mono ?_;rintro e w8 ⟨rfl,qS⟩;have sM:=zh (aA uB.out qS);obtain⟨⟨z0,z1,z2,z3,z4,z5,z6,z7,z8,z9,z10,z11⟩,-⟩:=eD (aC (aA (aA qZ rT) qS) pP.out);have HM8:=zh ((IF.out.alloc (gH f.name f.pub ap f.params.length cp kd ar lr cr f.effects op n sx mx an ln cn aa la ca)).later (aA (aA qZ rT) qS)))|(at_mapUpdate;refine lQ HM8.out RY s2 rfl rfl rfl rfl rfl ?_;intro w9 hm9 hg9));go_roundw;(case rel=>exact⟨z+1,f.name::kn,RY,SK,zh ((aA EQ.out (aA (aB _ _) (aA (aA qZ rT) qS))).grown hg9 (by have:=(aA EQ.out (aA (aB wz (gH f.name f.pub ap f.params.length cp kd ar lr cr f.effects op n sx mx an ln cn aa la ca)) (aA (aA qZ rT) qS))).size;exact this) (fun i hi=>by cases hi;exact Nat.le_refl _)),wR,zh (hm9.ext (fun z=>congrFun (knownOf_cons kn f.name) z))⟩);case measure=>simp[intOf];omega
         (have hef':(Go.bits .andNot .i64 f.effects 15 != 0)=true:=by rw[bne_iff_ne];exact BB);(have M6:eY f=false:=by rw[HR.out,HEf.out,decide_eq_false BB];simp);clear BB;have HF:Hid (res=false):=zh (by rw[HM.out,fns_bad HX.out (.inr (.inr M6)) KD.out];simp);exact PQ
   have HF2:Hid (bK m.funcs []=true):=zh (fns_end RY KD.out);rw[HF2.out,Bool.true_and] at HM;clear KD IF HCF HU HF2;have HD0:=AZ;have rL:=zh (aC HBy.out OU.out);have HN1:=zh (E0.out _ AZ.out);generalize FO:aM m.name=rn at HM HN1;clear FO E0
   cases rn with
   |false=>
    exact QA
   |true=>
    by_cases CG:m.uses.length<=12
    ·by_cases I5:m.funcs.length<=30
     ·rw[decide_eq_true CG,decide_eq_true I5] at HM;have g12:¬(12:Int)<(m.uses.length:Int):=RY;have g30:¬(30:Int)<(m.funcs.length:Int):=RY;clear CG I5;simp only[Bool.true_and] at HM;go_wp2_with(go_at_call 17;refine HN1.out.mono ?_;rintro e w5 ⟨rfl,rfl⟩);generalize hrv:bM m.vars 8=rv at HM HFV
      cases rv with
      |false=>
       clear hrv;go_wp2_with(go_at_call 80;refine(HFV.out _ HD0.out).mono ?_;rintro e v1 ⟨rfl,pO⟩;have pS:=zh (aA HD0.out pO);have sX:=zh (aC pO rL.out);obtain⟨⟨q10,q11,q12,q13,q14,q15,q16,q17,q18⟩,-⟩:=bx9 sX.out);go_ret;exact⟨aE SI,pS.out⟩
      |true=>
       (have hk1:m.vars.length<=1000:=by unfold bM at hrv;simp at hrv;omega);clear hrv;have BQ:=zh (fun W hb=>HXI.out m.vars.length W hk1 hb);generalize cB m.init m.vars.length=ri at HM BQ;simp only[Bool.true_and] at HM;go_wp2_with(go_at_call 80;refine(HFV.out _ HD0.out).mono ?_;rintro e v1 ⟨rfl,pO⟩;have pS:=zh (aA HD0.out pO);have sX:=zh (aC pO rL.out);obtain⟨⟨q10,q11,q12,q13,q14,q15,q16,q17,q18⟩,-⟩:=bx9 sX.out)
       cases ri with
       |false=>
        go_wp2_with(go_at_call 81;refine(BQ.out _ pS.out).mono ?_;rintro e v2 ⟨rfl,pN⟩;have pV:=zh (aA pS.out pN);have qW:=zh (aC pN sX.out);obtain⟨⟨q20,q21,q22,q23,q24,q25,q26,q27,q28⟩,-⟩:=bx9 qW.out);go_ret;exact⟨aE SI,pV.out⟩
       |true=>
        simp only[Bool.true_and] at HM;(have EB:∀k,bM m.old 8=true->k=m.old.length->k<=1000:=fun k h e=>by subst e;unfold bM at h;simp at h;omega);by_cases IX:bM m.old 8=true
        ·have hk3':m.old.length<=1000:=EB _ IX rfl;have J9:=zh (fun W hb=>HXB.out m.old.length W hk3' hb);have HRO:=zh IX;rw[IX] at HM HFO;clear EB IX hk3'
         cases zR:m.moves with
         |true=>
          rw[zR] at HM;have OD:=zh zR;clear zR;simp only[if_true,Bool.true_or,Bool.and_true,Bool.true_and] at HM;have C7:=zh (fun W hb=>HXW.out m.vars.length W hk1 hb);generalize cB m.forward m.vars.length=rw at HM C7;generalize cB m.back m.old.length=rb at HM J9;have J8:Hid (v1.heap[w.heap.size]? =some (gZ m.name au m.uses.length cu av m.vars.length cv ai m.init.length ci af m.funcs.length cf true ao m.old.length co aw m.forward.length cw ab m.back.length cb)):=zh TV;exact PL
         |false=>
          rw[zR] at HM;have OD:=zh zR;clear zR;simp only[Bool.false_eq_true,if_false,Bool.false_or,Bool.true_and] at HM;have J8:Hid (v1.heap[w.heap.size]? =some (gZ m.name au m.uses.length cu av m.vars.length cv ai m.init.length ci af m.funcs.length cf false ao m.old.length co aw m.forward.length cw ab m.back.length cb)):=zh TV;by_cases JP:m.old.length=0
          ·rw[decide_eq_true JP] at HM;simp only[Bool.true_and] at HM;have hol0:¬(0:Int)<(m.old.length:Int):=RY;clear JP;have C7:Hid (∀W,Below w.heap.size w W->Calls Tryz.prog 81 #[.slice aw m.forward.length cw,.int .i64 0] W fun e w'=>e=.returned (.bool (cB m.forward 0))/\Below W.heap.size W w'):=zh (fun W hb=>HXW.out 0 W R0 hb);generalize cB m.forward 0=rw at HM C7;generalize cB m.back m.old.length=rb at HM J9;exact PL
          have hol1:(0:Int)<(m.old.length:Int):=RY;rw[decide_eq_false JP] at HM;simp only[Bool.false_and] at HM;exact QD
        (have hro2:bM m.old 8=false:=by simpa using IX);rw[hro2] at HM HFO;clear EB IX hro2;simp only[Bool.and_false,Bool.false_and] at HM
        cases zR:m.moves with
        |true=>
         have OD:=zh zR;clear zR;have J8:Hid (v1.heap[w.heap.size]? =some (gZ m.name au m.uses.length cu av m.vars.length cv ai m.init.length ci af m.funcs.length cf true ao m.old.length co aw m.forward.length cw ab m.back.length cb)):=zh TV;exact P0
        |false=>
         have OD:=zh zR;clear zR;have J8:Hid (v1.heap[w.heap.size]? =some (gZ m.name au m.uses.length cu av m.vars.length cv ai m.init.length ci af m.funcs.length cf false ao m.old.length co aw m.forward.length cw ab m.back.length cb)):=zh TV;by_cases JP:m.old.length=0
         ·have hol0:¬(0:Int)<(m.old.length:Int):=RY;clear JP;exact P0
         have hol1:(0:Int)<(m.old.length:Int):=RY;exact QD
     rw[decide_eq_false I5] at HM;have g12:¬(12:Int)<(m.uses.length:Int):=RY;have g30:(30:Int)<(m.funcs.length:Int):=RY;clear CG I5;exact QA
    rw[decide_eq_false CG] at HM;have g12:(12:Int)<(m.uses.length:Int):=RY;clear CG;exact QA
def PlSays(x:Xp)(B wb:Nat)(st:WSt)(v:Value)(op n:Int)(s m:bA)(vn va:Value)(w:World):Prop:=
 Calls Tryz.prog 152 #[.pointer (some ⟨wb,0,none⟩),nE op n s m vn va,.int .i64 ((eL op).1:Int),.string (eL op).2] w (WrP B wb v w (.tuple #[]) (st.put (aG x)))
theorem nZ(op:Int)(ho:op=13\/op=15\/op=16)(n:Int)(s m:bA)(names:List bA)(args:List Xp){B wb:Nat}{st:WSt}{v vn va:Value}{w:World}(h:WrS B wb st v w)
  (he:bJ (dL wb v) w (.mk op n s m names args) [.int .i64 op,.int .i64 n,.string s,.string m,vn,va])
  (HG:∀W,WrS B wb st v W->bJ (dL wb v) W (.mk op n s m names args) [.int .i64 op,.int .i64 n,.string s,.string m,vn,va]->Calls Tryz.prog 198 #[.pointer (some ⟨wb,0,none⟩),nE op n s m vn va] W (WrP B wb v W (.tuple #[]) (st.put (aG (.mk op n s m names args))))):
  PlSays (.mk op n s m names args) B wb st v op n s m vn va w:=by
 unfold PlSays;obtain⟨⟨a1,n1,c1,rfl⟩,a2,n2,c2,rfl⟩:=jS he;have hb:=aB w (aN op n s m a1 n1 c1 a2 n2 c2);have rL:=zh (Ext.below wb v hb);have HQ:=zh (HG _ (h.later hb) (lZ he rL.out));obtain⟨⟨r0,r1,r2,r3,r4,r5⟩,-⟩:=bx6 (bY w (aN op n s m a1 n1 c1 a2 n2 c2));have hf:eL op=(8,noB):=by rcases ho with rfl|rfl|rfl<;>rfl
 rw[hf];generalize st.put (aG (.mk op n s m names args))=s1 at *;clear HG he h hb hf;rcases ho with rfl|rfl|rfl
 all_goals
  go_enter Tryz.func152,Tryz.ntmps152;go_wp2_with(go_at_call 198;refine HQ.out.mono ?_;rintro e w2 ⟨v2,rfl,h2,qB⟩);go_end0;exact⟨_,rfl,h2,rL.out.trans qB⟩
theorem oper_max{t:bA}{op:Int}{fm:Nat}(h:(t,op,fm)∈eJ):fm<=6:=by rcases jP h with h|h|h|h|h|h|h<;>omega
theorem plain_any{d:Nat}(HX:pK d)(x:Xp){B wb:Nat}{st:WSt}{v:Value}{op n:Int}{s m:bA}{vn va:Value}{w:World}(hr:aJ (d+1) x=true)(h:WrS B wb st v w)(hf:dO st (aG x))
  (he:bJ (dL wb v) w x [.int .i64 op,.int .i64 n,.string s,.string m,vn,va]):PlSays x B wb st v op n s m vn va w:=by
 have hx:∃op' n' s' m' ns ys,x=.mk op' n' s' m' ns ys:=by cases x;exact⟨_,_,_,_,_,_,rfl⟩
 obtain⟨op',n',s',m',ns,ys,yT⟩:=hx
 have hp:op'=op/\n'=n/\s'=s/\m'=m:=by
  rw[yT,aW] at he;obtain⟨v1,v2,e,-⟩:=he;cases e;exact⟨rfl,rfl,rfl,rfl⟩
 obtain⟨rfl,rfl,rfl,rfl⟩:=hp
 cases shape_of hr with
 |int n h0 h1=>cases yT;exact plain_int HX _ h0 h1 h hf he
 |bool n hn=>cases yT;exact plain_bool HX _ hn h hf he
 |var s hs=>cases yT;exact plain_var HX _ h hf he
 |get s hs=>cases yT;exact plain_get HX _ h hf he
 |bin t op fm a b ht ha hb=>
  cases yT;unfold PlSays;rw[(mQ ht).1];by_cases h4:fm=4
  ·exact plain_bin4 HX t op' fm a b h4 ht (oper_max ht) ha hb h hf he
  exact plain_binn HX t op' fm a b h4 ht (oper_max ht) ha hb h hf he
 |not a ha=>cases yT;exact plain_not HX a ha h hf he
 |iff a b c ha hb hc=>cases yT;exact plain_if HX a b c ha hb hc h hf he
 |lets s a b hs ha hb=>cases yT;exact plain_let HX _ a b ha hb h hf he
 |set s a hs ha=>cases yT;exact plain_set HX _ a ha h hf he
 |field s a hs ha=>cases yT;exact plain_field HX _ a ha h hf he
 |recd names args hn h8 qG ha=>cases yT;exact nZ 13 (.inl rfl) _ _ _ _ _ h he fun W hW hE=>grouped_rec HX _ _ RY ha hW hf hE
 |call s m args hs hm h6 ha=>cases yT;exact nZ 15 (.inr (.inl rfl)) _ _ _ _ _ h he fun W hW hE=>grouped_call HX _ _ _ ha hW hf hE
 |act n a hn ha=>
  cases yT;have key:∀w0,(cD.filter fun w=>decide (w.2=n')).map (·.1)=[w0]->PlSays (.mk 16 n' noB noB [] [a]) B wb st v 16 n' noB noB vn va w:=fun w0 h0=>nZ 16 (.inr (.inr rfl)) _ _ _ _ _ h he fun W hW hE=>grouped_act HX n' a w0 h0 ha hW hf hE;rcases hn with rfl|rfl|rfl|rfl
  ·exact key nK (by decide+kernel)
  ·exact key kNet (by decide+kernel)
  ·exact key nL (by decide+kernel)
  exact key jR (by decide+kernel)
theorem pr_zero:pK 0:=fun x form fi B wb st v op n s m vn va w h=>by cases x;simp[aJ] at h
theorem pr_step(d:Nat)(HX:pK d):pK (d+1):=by
 rintro x form _ B wb st v op n s m vn va w hr hfm rfl h hf he;obtain⟨⟨a1,n1,c1,rfl⟩,a2,n2,c2,rfl⟩:=jS he
 have pR:jE x=(eL op).1:=by
  cases x;rw[aW] at he;obtain⟨v1,v2,e,-⟩:=he;cases e;rfl
 have hb:=aB w (aN op n s m a1 n1 c1 a2 n2 c2);have rL:=zh (Ext.below wb v hb);have HC:=zh (h.later hb);have AY:=zh (lZ he rL.out);have HB:Hid ((w.alloc (aN op n s m a1 n1 c1 a2 n2 c2)).heap[w.heap.size]? =some (aN op n s m a1 n1 c1 a2 n2 c2)/\dL wb v w.heap.size):=zh ⟨bY w _,h.new (Nat.le_refl _)⟩;have HFo:=zh (fun W=>formOf_any op n s m a1 n1 c1 a2 n2 c2 W);have HPl:=zh (fun st v W(hW:WrS B wb st v W)hf he=>plain_any HX x (st:=st) (v:=v) (w:=W) (op:=op) (n:=n) (s:=s) (m:=m) (vn:=.slice a1 n1 c1) (va:=.slice a2 n2 c2) hr hW hf he);unfold PlSays at HPl;rw[aX,atForm,pR] at hf;have hT:aX x form=if(eL op).1<form then aS::(aG x++[bQ]) else aG x:=by rw[aX,atForm,pR]
 simp only at hf;generalize aX x form=tk at hT ⊢;generalize aG x=wx at *;obtain⟨⟨r0,r1,r2,r3,r4,r5⟩,-⟩:=bx6 HB.out.1;generalize eL op=fo at *;obtain⟨own,sign⟩:=fo;simp only at *;clear he h hr pR hb HX;by_cases qA:own<form
 ·rw[if_pos qA] at hf hT;obtain⟨f1,LP⟩:=hf.cons;obtain⟨f2,f3⟩:=LP.app;have F1:=zh f1;have F2:=zh f2;have F3:=zh f3;have HE:Hid (((st.put [aS]).put wx).put [bQ]=st.put tk):=zh (by rw[hT,bW,bW];rfl);have hl:(own:Int)<(form:Int):=RY;clear f1 LP f2 f3 hf hT;go_enter Tryz.func70,Tryz.ntmps70;go_wp2_with(go_at_call 151;refine(HFo.out _).mono ?_;rintro e w9 ⟨rfl,rG⟩;have HX9:=zh (rL.out.trans (Ext.below wb v rG));have HC9:=zh (HC.out.later rG);have yZ:=zh (Ext.blk (Ext.below wb v rG) HB.out.2 HB.out.1);have OM:=zh (lZ AY.out (Ext.below wb v rG));clear rG r0 r1 r2 r3 r4 r5;obtain⟨⟨r0,r1,r2,r3,r4,r5⟩,-⟩:=bx6 yZ.out.1);go_wp2_with(go_at_call 67;refine(fI aS HC9.out F1.out).mono ?_;rintro e w2 ⟨v2,rfl,h2,qB⟩;have uK:=zh h2;have qW:=zh (HX9.out.trans qB);have pZ:=zh (qB.blk yZ.out.2 yZ.out.1);have IR:=zh (lZ OM.out qB);clear h2 qB r0 r1 r2 r3 r4 r5;obtain⟨⟨r0,r1,r2,r3,r4,r5⟩,-⟩:=bx6 pZ.out.1);go_wp2_with(go_at_call 152;refine(HPl.out (st.put [aS]) v2 w2 uK.out F2.out IR.out).mono ?_;rintro e w3 ⟨v3,rfl,h3,qF⟩;have uY:=zh h3;have tE:=zh (qW.out.trans qF);clear h3 qF);go_wp2_with(go_at_call 67;refine(fI bQ uY.out F3.out).mono ?_;rintro e w4 ⟨v4,rfl,h4,qX⟩);go_end0;exact⟨_,rfl,by rw[<-HE.out];exact h4,tE.out.trans qX⟩
 rw[if_neg qA] at hf hT;have F1:=zh hf;have hl:¬(own:Int)<(form:Int):=RY;have xC:(form:Int)<=(own:Int):=RY;subst hT;clear hf;go_enter Tryz.func70,Tryz.ntmps70;go_wp2_with(go_at_call 151;refine(HFo.out _).mono ?_;rintro e w9 ⟨rfl,rG⟩;have HX9:=zh (rL.out.trans (Ext.below wb v rG));have HC9:=zh (HC.out.later rG);have yZ:=zh (Ext.blk (Ext.below wb v rG) HB.out.2 HB.out.1);have OM:=zh (lZ AY.out (Ext.below wb v rG));clear rG r0 r1 r2 r3 r4 r5;obtain⟨⟨r0,r1,r2,r3,r4,r5⟩,-⟩:=bx6 yZ.out.1);go_wp2_with(go_at_call 152;refine(HPl.out st v w9 HC9.out F1.out OM.out).mono ?_;rintro e w3 ⟨v3,rfl,h3,qF⟩);go_end0;exact⟨_,rfl,h3,HX9.out.trans qF⟩
theorem pr_all:∀d,pK d
 |0=>pr_zero
 |d+1=>pr_step d (pr_all d)
def doneV:Except Int bA->Value
 | .error x=>.tuple #[.string noB,.int .i64 x]
 | .ok s=>.tuple #[.string s,.int .i64 0]
theorem wlen_any{B wb:Nat}{st:WSt}{v:Value}{w:World}(h:WrS B wb st v w):
  Calls Tryz.prog 155 #[.pointer (some ⟨wb,0,none⟩)] w fun e w'=>e=.returned (.int .i64 (st.1.length:Int))/\w=w':=by
 obtain⟨p,hp,uD⟩:=h.box;obtain⟨a,c,rfl⟩:=h.val;obtain⟨⟨h0,h1,h2⟩,f0,-⟩:=bx3 uD;clear h uD hp;go_enter Tryz.func155,Tryz.ntmps155
 go_wp2
 go_ret;exact⟨rfl,rfl⟩
theorem wstr_any{B wb:Nat}{st:WSt}{v:Value}{w:World}(h:WrS B wb st v w)(h0:st.1≠[]):
  Calls Tryz.prog 156 #[.pointer (some ⟨wb,0,none⟩)] w fun e w'=>e=.returned (.string (bs st.1))/\Below B w w':=by
 obtain⟨l,ins⟩:=st;simp only at h h0 ⊢;have hl0:l.length≠0:=by simpa using h0
 obtain⟨p,hp,uD⟩:=h.box;have pR:=h.own
 obtain⟨g,cap,cur,rfl,hbg,hg,hnc,hcm,vB,K6⟩:∃g cap cur,v=.slice (some ⟨g,0,none⟩) l.length cap/\B<=g/\w.heap[g]? =some (.cells cur 5 (0,0))/\l.length<=cap/\cap<=maxLen/\cur.size=cap*1/\cur.toList.take (l.length*1)=bv l:=by
  rcases pR.2 with⟨_,hz⟩|⟨g,cap,cur,hv,r⟩
  ·exact absurd hz hl0
  exact⟨g,cap,cur,hv,r⟩
 have c1:w.drew.cell? ⟨wb,1,none⟩=some (.slice (some ⟨g,0,none⟩) l.length cap):=by
  have:w.drew.heap[wb]? =some (.cells #[p,.slice (some ⟨g,0,none⟩) l.length cap,.bool ins] 102 (0,0)):=uD;rw[Lib.cell_of_heap this];rfl
 have hSD:(Builtin.unsafeSliceData_ #[98] 211 #[.slice (some ⟨g,0,none⟩) l.length cap]).run Tryz.prog w.drew=.ok (.pointer (some ⟨g,0,none⟩)) w.drew:=
  Lib.run_unsafeSliceData_row _ _ _ _ _ _ RY
 have hUS:(Builtin.unsafeString_ #[211,3] 9 #[.pointer (some ⟨g,0,none⟩),.int .i64 l.length]).run Tryz.prog w.drew=.ok (.string (bs l)) (w.drew.freeze ⟨g,0,none⟩ l.length):=by
  refine Lib.run_unsafeString_row w.drew 211 3 9 5 Tryz.underlying211 RZ g cur.size (by have hg':w.drew.heap[g]? =some (.cells cur 5 (0,0)):=hg;simp[World.shape?,hg']) l h0 RY (by unfold maxLen at hcm;omega) ?_;intro j x hx;have:=pR.cells (g:=g) rfl j (.int .u8 x.toNat) (by simp[bv,hx]);exact this
 clear h uD hp pR hg vB K6 h0 hl0 hnc hcm;go_enter Tryz.func156,Tryz.ntmps156
 go_wp2
 go_region
 all_goals(go_wp2;go_ret;exact⟨rfl,Lib.below_freeze (Below.drew (Below.refl B w)) (p:=⟨g,0,none⟩) hbg _⟩)
theorem wdone_any{B wb:Nat}{st:WSt}{v:Value}{w:World}(h:WrS B wb st v w)(h0:st.1≠[]):
  Calls Tryz.prog 74 #[.pointer (some ⟨wb,0,none⟩)] w fun e w'=>e=.returned (doneV (mG (bs st.1)))/\Below B w w':=by
 have HL:=zh (wlen_any h);have HS:=zh (wstr_any h h0);have sV:(bs st.1).size=st.1.length:=by simp[bs,ByteArray.size]
 have hD:mG (bs st.1)=if 8000<st.1.length then .error 6 else .ok (bs st.1):=by unfold mG;rw[sV]
 generalize mG (bs st.1)=dn at *;generalize bs st.1=tx at *;generalize st.1.length=ln at *;have HB:=zh (Below.refl B w);clear h h0 sV;by_cases qA:8000<ln
 ·rw[if_pos qA] at hD;subst hD;have hl:(8000:Int)<(ln:Int):=RY;clear qA;go_enter Tryz.func74,Tryz.ntmps74;go_wp2_with(go_at_call 155;refine HL.out.mono ?_;rintro e w9 ⟨rfl,rfl⟩);go_ret2;exact⟨rfl,HB.out⟩
 rw[if_neg qA] at hD;subst hD;have hl:¬(8000:Int)<(ln:Int):=RY;have xC:(ln:Int)<=8000:=RY;clear qA;go_enter Tryz.func74,Tryz.ntmps74;go_wp2_with(first|(go_at_call 156;refine HS.out.mono ?_;rintro e w2 ⟨rfl,pN⟩)|(go_at_call 155;refine HL.out.mono ?_;rintro e w9 ⟨rfl,rfl⟩));go_ret2;exact⟨rfl,pN⟩
end Go.Proofs.YtiionicikdnnpaaGreatDoor
