/- Texts of this seat, joined. -/
import Derived.Test.YtiionicikdnnpaaGreatDoorNAG
import Derived.Test.YtiionicikdnnpaaGreatDoorNAI
set_option maxHeartbeats 64000000
set_option maxRecDepth 100000
set_option linter.unusedVariables false
set_option linter.unusedSimpArgs false
namespace Go.Proofs.YtiionicikdnnpaaGreatDoor
open Go.RowKit
theorem names_any(l m:List bA)(v u:Value)(w:World)(hl:Strs w v l)(hm:Strs w u m):
  Calls Tryz.prog 89 #[v,u] w fun e w'=>e=.returned (.bool (eqL l m))/\Below w.heap.size w w':=by
 rw[eqL_decide];obtain⟨a1,c1,rfl⟩:=strs_slice hl;obtain⟨a2,c2,rfl⟩:=strs_slice hm;by_cases qG:l.length=m.length
 ·rcases hl.cases with⟨rfl,-⟩|⟨b,o,c,e,h0,h1,h2,-,hc⟩
  ·have e:m=[]:=List.eq_nil_of_length_eq_zero (by simpa using qG.symm);subst e;refine(Tryz.slices_Equal_string_empty a1 a2 c1 0 c2 w RY).mono ?_;rintro e w' ⟨rfl,rfl⟩;exact⟨R2,Below.refl _ _⟩
  rcases hm.cases with⟨rfl,-⟩|⟨b',o',c',e',h0',J6,J5,-,M5⟩
  ·simp at qG;rw[qG] at h0;simp at h0
  obtain⟨rfl,rfl⟩:a1=some ⟨b,o,none⟩/\c1=c:=by injection e with e1 e2 e3;exact⟨e1,e3⟩
  obtain⟨rfl,rfl⟩:a2=some ⟨b',o',none⟩/\c2=c':=by injection e' with e1 e2 e3;exact⟨e1,e3⟩
  refine(Tryz.slices_Equal_string b o l.length c1 b' o' m.length c2 l m w (Nat.le_refl _) (Nat.le_refl _) RY RY (fun j hj=>?_) (fun j hj=>?_)).mono ?_
  ·obtain⟨x,hx,-⟩:=getElem?_of_lt hj;rw[(hc j x hx).1,List.getD_eq_getElem?_getD,hx];rfl
  ·obtain⟨x,hx,-⟩:=getElem?_of_lt hj;rw[(M5 j x hx).1,List.getD_eq_getElem?_getD,hx];rfl
  rintro e w' ⟨rfl,q,rfl⟩;exact⟨by rw[List.take_length,List.take_length],below_drewN _ q⟩
 refine(Tryz.slices_Equal_string_lens a1 a2 l.length c1 m.length c2 w qG).mono ?_;rintro e w' ⟨rfl,rfl⟩;exact⟨by rw[decide_eq_false (fun h=>qG (by rw[h]))],Below.refl _ _⟩
def SsX(d:Nat):Prop:=∀(x y:Xp)(N N':Nat->Prop)(cx cy:List Value)(w:World),bE x<=d->bJ N w x cx->bJ N' w y cy->
 Calls Tryz.prog 31 #[.agg cx.toArray,.agg cy.toArray] w fun e w'=>e=.returned (.bool (kS x y))/\Below w.heap.size w w'
theorem sexps_of(a b:List Xp){d:Nat}(hD:SsX d)(hp:∀x∈a,bE x<=d){N N':Nat->Prop}{va vb:Value}{w:World}(ha:aO 6 bJ N w va a)(hb:aO 6 bJ N' w vb b):
  Calls Tryz.prog 90 #[va,vb,.func (.func 31) #[] #[]] w fun e w'=>e=.returned (.bool (eqL a b))/\Below w.heap.size w w':=by
 obtain⟨aa,ca,rfl,la1,la2,rI⟩:=ha.at;obtain⟨ab,cb,rfl,D4,L9,pP⟩:=hb.at;have HA:=zh rI;have HB:=zh pP;have HD:=zh hD;have JD:=zh hp;clear hD hp;clear rI pP ha hb;by_cases hl:a.length=b.length
 ·have HL:=zh hl;rw[<-hl] at D4 ⊢;clear hl;go_enter Tryz.func90,Tryz.ntmps90;go_wp2_with fail;go_loopw [17] (fun iv wr=>∃q:Nat,q<=a.length/\iv=.int .i64 (q:Int)/\Hid (Below w.heap.size w wr)/\Hid (a.take q=b.take q)) (fun iv _=>a.length-(intOf iv).toNat)
  case atStart=>exact⟨0,Nat.zero_le _,rfl,zh (Below.refl _ _),zh rfl⟩
  case round=>
   obtain⟨q,hq,rfl,HW,HT⟩:=hrel;(rename World=>wr);by_cases qA:q<a.length
   ·obtain⟨x,hx,-⟩:=getElem?_of_lt qA;obtain⟨y,hy,-⟩:=getElem?_of_lt (show q<b.length by rw[<-HL.out];exact qA);have tS:(0:Int)<=(q:Int)/\(q:Int)<(a.length:Int):=RY;have HX:=zh hx;have HY:=zh hy;obtain⟨b1,o1,rfl,-,J7,uL,-,rW⟩:=HA.out q x hx;obtain⟨b2,o2,rfl,-,cs2,tZ,-,sS⟩:=HB.out q y hy;obtain⟨wE,n1,s1,m1,i1,j1,k1,u1,z1,t1,rfl⟩:=jB uL;obtain⟨sW,n2,s2,m2,i2,j2,k2,u2,z2,t2,rfl⟩:=jB tZ;have vO:wr.cell? ⟨b1,o1+q*6,none⟩=_:=aD HW.out (rW 0 _ rfl);have wD:wr.cell? ⟨b1,o1+q*6+1,none⟩=_:=aD HW.out (rW 1 _ rfl);have wH:wr.cell? ⟨b1,o1+q*6+2,none⟩=_:=aD HW.out (rW 2 _ rfl);have xM:wr.cell? ⟨b1,o1+q*6+3,none⟩=_:=aD HW.out (rW 3 _ rfl);have xL:wr.cell? ⟨b1,o1+q*6+4,none⟩=_:=aD HW.out (rW 4 _ rfl);have xK:wr.cell? ⟨b1,o1+q*6+5,none⟩=_:=aD HW.out (rW 5 _ rfl);have B9:wr.cell? ⟨b2,o2+q*6,none⟩=_:=aD HW.out (sS 0 _ rfl);have CK:wr.cell? ⟨b2,o2+q*6+1,none⟩=_:=aD HW.out (sS 1 _ rfl);have CJ:wr.cell? ⟨b2,o2+q*6+2,none⟩=_:=aD HW.out (sS 2 _ rfl);have p23:wr.cell? ⟨b2,o2+q*6+3,none⟩=_:=aD HW.out (sS 3 _ rfl);have p24:wr.cell? ⟨b2,o2+q*6+4,none⟩=_:=aD HW.out (sS 4 _ rfl);have p25:wr.cell? ⟨b2,o2+q*6+5,none⟩=_:=aD HW.out (sS 5 _ rfl);have BW:=zh (fun W(hb:Below wr.heap.size wr W)=>HD.out x y N N' _ _ W (JD.out x (List.mem_of_getElem? hx)) (aH _ _ _ _ _ _ (aQ.later (aA HW.out hb)) uL) (aH _ _ _ _ _ _ (aQ.later (aA HW.out hb)) tZ));have yN:=zh (iZ x y);clear rW sS hx hy uL tZ;have qP:=zh (aB wr (aN wE n1 s1 m1 i1 j1 k1 u1 z1 t1));have qY:=zh (aA qP.out (aB (wr.alloc (aN wE n1 s1 m1 i1 j1 k1 u1 z1 t1)) (aN sW n2 s2 m2 i2 j2 k2 u2 z2 t2)));have t20:=aD qP.out B9;have t21:=aD qP.out CK;have t22:=aD qP.out CJ;have t23:=aD qP.out p23;have t24:=aD qP.out p24;have t25:=aD qP.out p25;have sG:(wr.alloc (aN wE n1 s1 m1 i1 j1 k1 u1 z1 t1)).heap.size=wr.heap.size+1:=R2;have G0:=bY (wr.alloc (aN wE n1 s1 m1 i1 j1 k1 u1 z1 t1)) (aN sW n2 s2 m2 i2 j2 k2 u2 z2 t2);rw[sG] at G0;obtain⟨⟨x0,x1,x2,x3,x4,x5⟩,-⟩:=bx6 (aC (aB (wr.alloc (aN wE n1 s1 m1 i1 j1 k1 u1 z1 t1)) (aN sW n2 s2 m2 i2 j2 k2 u2 z2 t2)) (bY wr (aN wE n1 s1 m1 i1 j1 k1 u1 z1 t1)));obtain⟨⟨y0,y1,y2,y3,y4,y5⟩,-⟩:=bx6 G0;clear G0;go_wp2_with fail;go_at_call 31;refine(BW.out _ qY.out).mono ?_;rintro e w8 ⟨rfl,qS⟩;have sM:=zh (aA HW.out (aA qY.out qS));generalize kS x y=sr at *;exact PO
   exact PS
 have HE:Hid (eqL a b=false):=zh (dN (fun e=>hl (by rw[e])));have xC:((a.length:Int)==(b.length:Int))=false:=SA;go_enter Tryz.func90,Tryz.ntmps90;exact QC
theorem sexp_step(d:Nat)(hD:SsX d):SsX (d+1):=by
 rintro⟨op,n,s,m,ns,xs⟩ ⟨op',n',s',m',ns',xs'⟩ N N' cx cy w hd hx hy;have hR:kS (.mk op n s m ns xs) (.mk op' n' s' m' ns' xs')=(decide (op=op')&&decide (n=n')&&decide (s=s')&&decide (m=m')&&decide (ns=ns')&&eG xs xs'):=by rw[kS]
 rw[aW] at hx hy;obtain⟨v1,v2,rfl,-,-,hn,ha⟩:=hx;obtain⟨v3,v4,rfl,-,-,yW,NB⟩:=hy;obtain⟨a1,c1,rfl,-⟩:=id hn;obtain⟨a2,c2,rfl,-⟩:=id ha;obtain⟨yM,wG,rfl,-⟩:=id yW;obtain⟨C6,AV,rfl,-⟩:=id NB;have vM:=aA (aB w (aN op n s m a1 ns.length c1 a2 xs.length c2)) (aB (w.alloc (aN op n s m a1 ns.length c1 a2 xs.length c2)) (aN op' n' s' m' yM ns'.length wG C6 xs'.length AV));have pP:=zh vM;have sX:=aC (aB (w.alloc (aN op n s m a1 ns.length c1 a2 xs.length c2)) (aN op' n' s' m' yM ns'.length wG C6 xs'.length AV)) (bY w (aN op n s m a1 ns.length c1 a2 xs.length c2));have qW:=bY (w.alloc (aN op n s m a1 ns.length c1 a2 xs.length c2)) (aN op' n' s' m' yM ns'.length wG C6 xs'.length AV);rw[show(w.alloc (aN op n s m a1 ns.length c1 a2 xs.length c2)).heap.size=w.heap.size+1 by simp] at qW;obtain⟨⟨x0,x1,x2,x3,x4,x5⟩,-⟩:=bx6 sX;obtain⟨⟨y0,y1,y2,y3,y4,y5⟩,-⟩:=bx6 qW;have pT:=zh sX;have pY:=zh qW;have HN:=zh (names_any ns ns' _ _ _ (hn.moves bP (aQ.later vM) R0).strs (yW.moves bP (aQ.later vM) R0).strs)
 have HE:=zh (fun W(hb:Below w.heap.size w W)=>sexps_of xs xs' hD (fun x hx=>by
  have h1:=kW xs x hx;rw[bE] at hd
  omega) (w:=W) (ha.moves aH (aQ.later hb) R0) (NB.moves aH (aQ.later hb) R0))
 have H0:Hid (eqL xs xs'=eG xs xs'):=zh (by
  by_cases h:xs=xs'
  ·rw[gY h,(iN xs xs').2 h]
  rw[dN h];cases hq:eG xs xs' with
  |false=>rfl
  |true=>exact absurd ((iN xs xs').1 hq) h)
 have HSn:Hid (eqL ns ns'=decide (ns=ns')):=zh (by
  by_cases h:ns=ns'
  ·rw[gY h,decide_eq_true h]
  rw[dN h,decide_eq_false h])
 clear hn ha yW NB hD hd vM sX qW;have HR:=zh hR;clear hR;generalize kS (.mk op n s m ns xs) (.mk op' n' s' m' ns' xs')=rr at *;rw[H0.out] at HE;rw[HSn.out] at HN;clear H0 HSn;generalize eG xs xs'=q5 at *;generalize decide (ns=ns')=q4 at *;generalize ns.length=l1 at *;generalize ns'.length=l2 at *;generalize xs.length=l3 at *;generalize xs'.length=l4 at *;by_cases h1:op=op'
 ·subst h1;by_cases h2:n=n'
  ·subst h2;by_cases h3:s=s'
   ·subst h3;by_cases h4:m=m'
    ·subst h4;have sL:Hid (rr=(q4&&q5)):=zh SV;clear HR
     cases q4 with
     |false=>
      go_enter Tryz.func31,Tryz.ntmps31;go_wp2_with(go_at_call 89;refine HN.out.mono ?_;rintro e w3 ⟨rfl,pX⟩);go_ret;exact⟨aE T4,aA pP.out pX⟩
     |true=>
      go_enter Tryz.func31,Tryz.ntmps31;go_wp2_with(go_at_call 89;refine HN.out.mono ?_;rintro e w3 ⟨rfl,pX⟩;have qJ:=zh (aA pP.out pX);obtain⟨⟨z0,z1,z2,z3,z4,z5⟩,-⟩:=bx6 (aC pX pT.out);obtain⟨⟨t0,t1,t2,t3,t4,t5⟩,-⟩:=bx6 (aC pX pY.out);clear pX);go_wp2_with(go_at_call 90;refine(HE.out w3 qJ.out).mono ?_;rintro e w4 ⟨rfl,qC⟩);go_ret;exact⟨aE T4,aA qJ.out qC⟩
    have g:(m.toList==m'.toList)=false:=jZ h4;go_enter Tryz.func31,Tryz.ntmps31;go_wp2_with fail;go_ret;exact⟨aE (by rw[HR.out];simp[h4]),pP.out⟩
   have g:(s.toList==s'.toList)=false:=jZ h3;go_enter Tryz.func31,Tryz.ntmps31;exact RE
  have g:(n==n')=false:=beq_eq_false_iff_ne.2 h2;go_enter Tryz.func31,Tryz.ntmps31;exact QU
 have g:(op==op')=false:=beq_eq_false_iff_ne.2 h1;go_enter Tryz.func31,Tryz.ntmps31;exact P8
theorem ssX_all:∀d,SsX d
 |0=>fun x y N N' cx cy w h=>by have:=depth_pos x;omega
 |d+1=>sexp_step d (ssX_all d)
theorem sexp_any(x y:Xp){N N':Nat->Prop}{cx cy:List Value}{w:World}(hx:bJ N w x cx)(hy:bJ N' w y cy):
  Calls Tryz.prog 31 #[.agg cx.toArray,.agg cy.toArray] w fun e w'=>e=.returned (.bool (kS x y))/\Below w.heap.size w w':=ssX_all _ x y N N' cx cy w (Nat.le_refl _) hx hy
theorem sexps_any(a b:List Xp){N N':Nat->Prop}{va vb:Value}{w:World}(ha:aO 6 bJ N w va a)(hb:aO 6 bJ N' w vb b):
  Calls Tryz.prog 90 #[va,vb,.func (.func 31) #[] #[]] w fun e w'=>e=.returned (.bool (eqL a b))/\Below w.heap.size w w':=sexps_of a b (ssX_all _) (fun x hx=>kW a x hx) ha hb
def SsT(d:Nat):Prop:=∀(x y:Ty)(N N':Nat->Prop)(cx cy:List Value)(w:World),aZ x<=d->gB N w x cx->gB N' w y cy->
 Calls Tryz.prog 32 #[.agg cx.toArray,.agg cy.toArray] w fun e w'=>e=.returned (.bool (jN x y))/\Below w.heap.size w w'
def SsF(d:Nat):Prop:=∀(x y:Fld)(N N':Nat->Prop)(cx cy:List Value)(w:World),aZ x.2<=d->fH N w x cx->fH N' w y cy->
 Calls Tryz.prog 88 #[.agg cx.toArray,.agg cy.toArray] w fun e w'=>e=.returned (.bool (decide (x.1=y.1)&&jN x.2 y.2))/\Below w.heap.size w w'
theorem sfield_of(d:Nat)(hD:SsT d):SsF d:=by
 rintro⟨n1,x⟩ ⟨n2,y⟩ N N' cx cy w hd ⟨ct1,rfl,-,uL⟩ ⟨ct2,rfl,-,tZ⟩;obtain⟨k1,i1,j1,z1,rfl⟩:=fP uL;obtain⟨k2,i2,j2,z2,rfl⟩:=fP tZ;have vM:=aA (aB w (cA n1 k1 i1 j1 z1)) (aB (w.alloc (cA n1 k1 i1 j1 z1)) (cA n2 k2 i2 j2 z2));have pP:=zh vM;have sX:=aC (aB (w.alloc (cA n1 k1 i1 j1 z1)) (cA n2 k2 i2 j2 z2)) (bY w (cA n1 k1 i1 j1 z1));have qW:=bY (w.alloc (cA n1 k1 i1 j1 z1)) (cA n2 k2 i2 j2 z2);rw[show(w.alloc (cA n1 k1 i1 j1 z1)).heap.size=w.heap.size+1 by simp] at qW;obtain⟨⟨x0,x1,x2⟩,-⟩:=bx3 sX;obtain⟨⟨y0,y1,y2⟩,-⟩:=bx3 qW;have BW:=zh (hD x y N N' _ _ _ hd (dM _ _ _ _ _ _ (aQ.later vM) uL) (dM _ _ _ _ _ _ (aQ.later vM) tZ));clear vM sX qW uL tZ hD hd;dsimp only;generalize jN x y=sr at *;by_cases h:n1=n2
 ·subst h;go_enter Tryz.func88,Tryz.ntmps88;go_wp2_with fail;go_at_call 32;refine BW.out.mono ?_;rintro e w3 ⟨rfl,pX⟩;go_wp2_with fail;go_ret;exact⟨aE R2,aA pP.out pX⟩
 have g:(n1.toList==n2.toList)=false:=jZ h;go_enter Tryz.func88,Tryz.ntmps88;go_wp2_with fail;go_ret;exact⟨aE (by simp[h]),pP.out⟩
theorem sfields_of(a b:List Fld){d:Nat}(hD:SsF d)(hp:∀x∈a,aZ x.2<=d){N N':Nat->Prop}{va vb:Value}{w:World}(ha:aO 3 fH N w va a)(hb:aO 3 fH N' w vb b):
  Calls Tryz.prog 87 #[va,vb,.func (.func 88) #[] #[]] w fun e w'=>e=.returned (.bool (eqL a b))/\Below w.heap.size w w':=by
 obtain⟨aa,ca,rfl,la1,la2,rI⟩:=ha.at;obtain⟨ab,cb,rfl,D4,L9,pP⟩:=hb.at;have HA:=zh rI;have HB:=zh pP;have HD:=zh hD;have JD:=zh hp;clear hD hp;clear rI pP ha hb;by_cases hl:a.length=b.length
 ·have HL:=zh hl;rw[<-hl] at D4 ⊢;clear hl;go_enter Tryz.func87,Tryz.ntmps87;go_wp2_with fail;go_loopw [17] (fun iv wr=>∃q:Nat,q<=a.length/\iv=.int .i64 (q:Int)/\Hid (Below w.heap.size w wr)/\Hid (a.take q=b.take q)) (fun iv _=>a.length-(intOf iv).toNat)
  case atStart=>exact⟨0,Nat.zero_le _,rfl,zh (Below.refl _ _),zh rfl⟩
  case round=>
   obtain⟨q,hq,rfl,HW,HT⟩:=hrel;(rename World=>wr);by_cases qA:q<a.length
   ·obtain⟨x,hx,-⟩:=getElem?_of_lt qA;obtain⟨y,hy,-⟩:=getElem?_of_lt (show q<b.length by rw[<-HL.out];exact qA);have tS:(0:Int)<=(q:Int)/\(q:Int)<(a.length:Int):=RY;have HX:=zh hx;have HY:=zh hy;obtain⟨n1,x⟩:=x;obtain⟨n2,y⟩:=y;obtain⟨b1,o1,rfl,-,J7,uL,-,rW⟩:=HA.out q (n1,x) hx;obtain⟨b2,o2,rfl,-,cs2,tZ,-,sS⟩:=HB.out q (n2,y) hy;obtain⟨ct1,rfl,-,ht1⟩:=id uL;obtain⟨ct2,rfl,-,ht2⟩:=id tZ;obtain⟨k1,i1,j1,z1,rfl⟩:=fP ht1;obtain⟨k2,i2,j2,z2,rfl⟩:=fP ht2;dsimp only at rW sS;have vO:wr.cell? ⟨b1,o1+q*3,none⟩=_:=aD HW.out (rW 0 _ rfl);have wD:wr.cell? ⟨b1,o1+q*3+1,none⟩=_:=aD HW.out (rW 1 _ rfl);have wH:wr.cell? ⟨b1,o1+q*3+2,none⟩=_:=aD HW.out (rW 2 _ rfl);have B9:wr.cell? ⟨b2,o2+q*3,none⟩=_:=aD HW.out (sS 0 _ rfl);have CK:wr.cell? ⟨b2,o2+q*3+1,none⟩=_:=aD HW.out (sS 1 _ rfl);have CJ:wr.cell? ⟨b2,o2+q*3+2,none⟩=_:=aD HW.out (sS 2 _ rfl);have BW:=zh (fun W(hb:Below wr.heap.size wr W)=>HD.out (n1,x) (n2,y) N N' _ _ W (JD.out (n1,x) (List.mem_of_getElem? hx)) (aT _ _ _ _ _ _ (aQ.later (aA HW.out hb)) uL) (aT _ _ _ _ _ _ (aQ.later (aA HW.out hb)) tZ));have yN:Hid ((decide (n1=n2)&&jN x y)=true↔(n1,x)=(n2,y)):=zh (by rw[Bool.and_eq_true,decide_eq_true_eq,oM,Prod.mk.injEq]);clear ht1 ht2;dsimp only at BW;clear rW sS hx hy uL tZ;have qP:=zh (aB wr (cA n1 k1 i1 j1 z1));have qY:=zh (aA qP.out (aB (wr.alloc (cA n1 k1 i1 j1 z1)) (cA n2 k2 i2 j2 z2)));have t20:=aD qP.out B9;have t21:=aD qP.out CK;have t22:=aD qP.out CJ;have sG:(wr.alloc (cA n1 k1 i1 j1 z1)).heap.size=wr.heap.size+1:=R2;have G0:=bY (wr.alloc (cA n1 k1 i1 j1 z1)) (cA n2 k2 i2 j2 z2);rw[sG] at G0;obtain⟨⟨x0,x1,x2⟩,-⟩:=bx3 (aC (aB (wr.alloc (cA n1 k1 i1 j1 z1)) (cA n2 k2 i2 j2 z2)) (bY wr (cA n1 k1 i1 j1 z1)));obtain⟨⟨y0,y1,y2⟩,-⟩:=bx3 G0;clear G0;go_wp2_with fail;go_at_call 88;refine(BW.out _ qY.out).mono ?_;rintro e w8 ⟨rfl,qS⟩;have sM:=zh (aA HW.out (aA qY.out qS));generalize (decide (n1=n2)&&jN x y)=sr at *;exact PO
   exact PS
 have HE:Hid (eqL a b=false):=zh (dN (fun e=>hl (by rw[e])));have xC:((a.length:Int)==(b.length:Int))=false:=SA;go_enter Tryz.func87,Tryz.ntmps87;exact QC
theorem stype_step(d:Nat)(hD:SsT d):SsT (d+1):=by
 rintro⟨k,fs⟩ ⟨k',fs'⟩ N N' cx cy w hd hx hy;have hR:jN (.mk k fs) (.mk k' fs')=(decide (k=k')&&eU fs fs'):=by rw[jN]
 rw[fE] at hx hy;obtain⟨v1,rfl,hn⟩:=hx;obtain⟨v2,rfl,yW⟩:=hy;obtain⟨a1,c1,rfl,-⟩:=id hn;obtain⟨yM,wG,rfl,-⟩:=id yW;have vM:=aA (aB w (hO k a1 fs.length c1)) (aB (w.alloc (hO k a1 fs.length c1)) (hO k' yM fs'.length wG));have pP:=zh vM;have sX:=aC (aB (w.alloc (hO k a1 fs.length c1)) (hO k' yM fs'.length wG)) (bY w (hO k a1 fs.length c1));have qW:=bY (w.alloc (hO k a1 fs.length c1)) (hO k' yM fs'.length wG);rw[show(w.alloc (hO k a1 fs.length c1)).heap.size=w.heap.size+1 by simp] at qW;obtain⟨⟨x0,x1⟩,-⟩:=bx2 sX;obtain⟨⟨y0,y1⟩,-⟩:=bx2 qW
 have HE:=zh (fun W(hb:Below w.heap.size w W)=>sfields_of fs fs' (sfield_of d hD) (fun x hx=>by
  have h1:=jW fs x hx;rw[aZ] at hd
  omega) (w:=W) (hn.moves aT (aQ.later hb) R0) (yW.moves aT (aQ.later hb) R0))
 have H0:Hid (eqL fs fs'=eU fs fs'):=zh (lK fs fs');clear hn yW hD hd vM sX qW;have HR:=zh hR;clear hR;generalize jN (.mk k fs) (.mk k' fs')=rr at *;rw[H0.out] at HE;clear H0;generalize eU fs fs'=q5 at *;generalize fs.length=l1 at *;generalize fs'.length=l2 at *;by_cases h1:k=k'
 ·subst h1;have sL:Hid (rr=q5):=zh SV;clear HR;go_enter Tryz.func32,Tryz.ntmps32;go_wp2_with(go_at_call 87;refine(HE.out _ pP.out).mono ?_;rintro e w3 ⟨rfl,pX⟩);go_ret;exact⟨aE (by rw[sL.out]),aA pP.out pX⟩
 have g:(k==k')=false:=beq_eq_false_iff_ne.2 h1;go_enter Tryz.func32,Tryz.ntmps32;exact P8
theorem ssT_all:∀d,SsT d
 |0=>fun x y N N' cx cy w h=>by have:=levels_pos x;omega
 |d+1=>stype_step d (ssT_all d)
theorem stype_any(x y:Ty){N N':Nat->Prop}{cx cy:List Value}{w:World}(hx:gB N w x cx)(hy:gB N' w y cy):
  Calls Tryz.prog 32 #[.agg cx.toArray,.agg cy.toArray] w fun e w'=>e=.returned (.bool (jN x y))/\Below w.heap.size w w':=ssT_all _ x y N N' cx cy w (Nat.le_refl _) hx hy
theorem sfields_any(a b:List Fld){N N':Nat->Prop}{va vb:Value}{w:World}(ha:aO 3 fH N w va a)(hb:aO 3 fH N' w vb b):
  Calls Tryz.prog 87 #[va,vb,.func (.func 88) #[] #[]] w fun e w'=>e=.returned (.bool (eqL a b))/\Below w.heap.size w w':=sfields_of a b (sfield_of _ (ssT_all _)) (fun x hx=>jW a x hx) ha hb
theorem sfn_any(x y:Fnc){N N':Nat->Prop}{cx cy:List Value}{w:World}(hx:iU N w x cx)(hy:iU N' w y cy):
  Calls Tryz.prog 86 #[.agg cx.toArray,.agg cy.toArray] w fun e w'=>e=.returned (.bool (mZ x y))/\Below w.heap.size w w':=by
 obtain⟨nm,pb,ps,rs,ef,bd⟩:=x;obtain⟨nm',pb',ps',rs',ef',bd'⟩:=y;have hR:mZ ⟨nm,pb,ps,rs,ef,bd⟩ ⟨nm',pb',ps',rs',ef',bd'⟩=(decide (nm=nm')&&decide (pb=pb')&&eU ps ps'&&jN rs rs'&&decide (ef=ef')&&kS bd bd'):=rfl;obtain⟨vp,k,vf,op,n,s,m,vn,va,rfl,-,hp,ht,he⟩:=hx;obtain⟨a1,c1,rfl,-⟩:=id hp;obtain⟨kz,a2,l2,c2,ez⟩:=fP ht;cases ez;obtain⟨oz,nz,sz,mz,a3,l3,c3,a4,l4,c4,ez⟩:=jB he;cases ez;obtain⟨vp',k',vf',op',n',s',m',vn',va',rfl,-,MM,JN,JW⟩:=hy;obtain⟨yM,wG,rfl,-⟩:=id MM;obtain⟨kz,C6,MC,AV,ez⟩:=fP JN;cases ez;obtain⟨oz,nz,sz,mz,LR,MB,NN,LQ,MA,NM,ez⟩:=jB JW;cases ez;dsimp only at *;have vM:=aA (aB w (gH nm pb a1 ps.length c1 k a2 l2 c2 ef op n s m a3 l3 c3 a4 l4 c4)) (aB (w.alloc (gH nm pb a1 ps.length c1 k a2 l2 c2 ef op n s m a3 l3 c3 a4 l4 c4)) (gH nm' pb' yM ps'.length wG k' C6 MC AV ef' op' n' s' m' LR MB NN LQ MA NM));have pP:=zh vM;have sX:=aC (aB (w.alloc (gH nm pb a1 ps.length c1 k a2 l2 c2 ef op n s m a3 l3 c3 a4 l4 c4)) (gH nm' pb' yM ps'.length wG k' C6 MC AV ef' op' n' s' m' LR MB NN LQ MA NM)) (bY w (gH nm pb a1 ps.length c1 k a2 l2 c2 ef op n s m a3 l3 c3 a4 l4 c4));have qW:=bY (w.alloc (gH nm pb a1 ps.length c1 k a2 l2 c2 ef op n s m a3 l3 c3 a4 l4 c4)) (gH nm' pb' yM ps'.length wG k' C6 MC AV ef' op' n' s' m' LR MB NN LQ MA NM);rw[show(w.alloc (gH nm pb a1 ps.length c1 k a2 l2 c2 ef op n s m a3 l3 c3 a4 l4 c4)).heap.size=w.heap.size+1 by simp] at qW;obtain⟨⟨x0,x1,x2,x3,x4,x5,x6,x7,x8,x9,x10,x11⟩,-⟩:=eD sX;obtain⟨⟨y0,y1,y2,y3,y4,y5,y6,y7,y8,y9,KZ,KY⟩,-⟩:=eD qW;have pT:=zh sX;have pY:=zh qW;have HP:=zh (fun W(hb:Below w.heap.size w W)=>sfields_any ps ps' (w:=W) (hp.moves aT (aQ.later hb) R0) (MM.moves aT (aQ.later hb) R0));have HT:=zh (fun W(hb:Below w.heap.size w W)=>stype_any rs rs' (w:=W) (dM _ _ _ _ _ _ (aQ.later hb) ht) (dM _ _ _ _ _ _ (aQ.later hb) JN));have HX:=zh (fun W(hb:Below w.heap.size w W)=>sexp_any bd bd' (w:=W) (aH _ _ _ _ _ _ (aQ.later hb) he) (aH _ _ _ _ _ _ (aQ.later hb) JW));have HR:=zh hR;clear hp ht he MM JN JW sX qW vM hR;rw[lK] at HP;generalize mZ ⟨nm,pb,ps,rs,ef,bd⟩ ⟨nm',pb',ps',rs',ef',bd'⟩=rr at *;generalize eU ps ps'=q3 at *;generalize jN rs rs'=q4 at *;generalize kS bd bd'=q6 at *;generalize ps.length=l1 at *;generalize ps'.length=l1' at *;by_cases h1:nm=nm'
 ·subst h1;by_cases h2:pb=pb'
  ·subst h2;by_cases h3:ef=ef'
   ·subst h3;have sL:Hid (rr=(q3&&q4&&q6)):=zh SV;clear HR
    cases q3 with
    |false=>
     go_enter Tryz.func86,Tryz.ntmps86;go_wp2_with fail;go_at_call 87;refine(HP.out _ pP.out).mono ?_;rintro e w3 ⟨rfl,pX⟩;have pW:=zh pX;have qJ:=zh (aA pP.out pW.out)
     (try clear z0 z1 z2 z3 z4 z5 z6 z7 z8 z9 z10 z11 t0 t1 t2 t3 t4 t5 t6 t7 t8 t9 zC zB)
     obtain⟨⟨z0,z1,z2,z3,z4,z5,z6,z7,z8,z9,z10,z11⟩,-⟩:=eD (aC pW.out pT.out);obtain⟨⟨t0,t1,t2,t3,t4,t5,t6,t7,t8,t9,zC,zB⟩,-⟩:=eD (aC pW.out pY.out);clear pX;go_wp2_with fail;go_ret;exact⟨aE T4,qJ.out⟩
    |true=>
     cases q4 with
     |false=>
      go_enter Tryz.func86,Tryz.ntmps86;go_wp2_with fail;go_at_call 87;refine(HP.out _ pP.out).mono ?_;rintro e w3 ⟨rfl,pX⟩;have pW:=zh pX;have qJ:=zh (aA pP.out pW.out)
      (try clear z0 z1 z2 z3 z4 z5 z6 z7 z8 z9 z10 z11 t0 t1 t2 t3 t4 t5 t6 t7 t8 t9 zC zB)
      obtain⟨⟨z0,z1,z2,z3,z4,z5,z6,z7,z8,z9,z10,z11⟩,-⟩:=eD (aC pW.out pT.out);obtain⟨⟨t0,t1,t2,t3,t4,t5,t6,t7,t8,t9,zC,zB⟩,-⟩:=eD (aC pW.out pY.out);clear pX;go_wp2_with fail;go_at_call 32;refine(HT.out _ qJ.out).mono ?_;rintro e w4 ⟨rfl,qC⟩;have qH:=zh (aA pW.out qC);have rA:=zh (aA pP.out qH.out)
      (try clear z0 z1 z2 z3 z4 z5 z6 z7 z8 z9 z10 z11 t0 t1 t2 t3 t4 t5 t6 t7 t8 t9 zC zB)
      obtain⟨⟨z0,z1,z2,z3,z4,z5,z6,z7,z8,z9,z10,z11⟩,-⟩:=eD (aC qH.out pT.out);obtain⟨⟨t0,t1,t2,t3,t4,t5,t6,t7,t8,t9,zC,zB⟩,-⟩:=eD (aC qH.out pY.out);clear qC;go_wp2_with fail;go_ret;exact⟨aE T4,rA.out⟩
     |true=>
      go_enter Tryz.func86,Tryz.ntmps86;go_wp2_with fail;go_at_call 87;refine(HP.out _ pP.out).mono ?_;rintro e w3 ⟨rfl,pX⟩;have pW:=zh pX;have qJ:=zh (aA pP.out pW.out)
      (try clear z0 z1 z2 z3 z4 z5 z6 z7 z8 z9 z10 z11 t0 t1 t2 t3 t4 t5 t6 t7 t8 t9 zC zB)
      obtain⟨⟨z0,z1,z2,z3,z4,z5,z6,z7,z8,z9,z10,z11⟩,-⟩:=eD (aC pW.out pT.out);obtain⟨⟨t0,t1,t2,t3,t4,t5,t6,t7,t8,t9,zC,zB⟩,-⟩:=eD (aC pW.out pY.out);clear pX;go_wp2_with fail;go_at_call 32;refine(HT.out _ qJ.out).mono ?_;rintro e w4 ⟨rfl,qC⟩;have qH:=zh (aA pW.out qC);have rA:=zh (aA pP.out qH.out)
      (try clear z0 z1 z2 z3 z4 z5 z6 z7 z8 z9 z10 z11 t0 t1 t2 t3 t4 t5 t6 t7 t8 t9 zC zB)
      obtain⟨⟨z0,z1,z2,z3,z4,z5,z6,z7,z8,z9,z10,z11⟩,-⟩:=eD (aC qH.out pT.out);obtain⟨⟨t0,t1,t2,t3,t4,t5,t6,t7,t8,t9,zC,zB⟩,-⟩:=eD (aC qH.out pY.out);clear qC;go_wp2_with fail;go_at_call 31;refine(HX.out _ rA.out).mono ?_;rintro e w5 ⟨rfl,hb5⟩;have rE:=zh (aA qH.out hb5);have rS:=zh (aA pP.out rE.out)
      (try clear z0 z1 z2 z3 z4 z5 z6 z7 z8 z9 z10 z11 t0 t1 t2 t3 t4 t5 t6 t7 t8 t9 zC zB)
      obtain⟨⟨z0,z1,z2,z3,z4,z5,z6,z7,z8,z9,z10,z11⟩,-⟩:=eD (aC rE.out pT.out);obtain⟨⟨t0,t1,t2,t3,t4,t5,t6,t7,t8,t9,zC,zB⟩,-⟩:=eD (aC rE.out pY.out);clear hb5;go_wp2_with fail;go_ret;exact⟨aE S0,rS.out⟩
   have g:(ef==ef')=false:=beq_eq_false_iff_ne.2 h3;go_enter Tryz.func86,Tryz.ntmps86;exact RE
  have g:(pb==pb')=false:=beq_eq_false_iff_ne.2 h2;go_enter Tryz.func86,Tryz.ntmps86;exact QU
 have g:(nm.toList==nm'.toList)=false:=jZ h1;go_enter Tryz.func86,Tryz.ntmps86;exact P8
theorem sfns_any(a b:List Fnc){N N':Nat->Prop}{va vb:Value}{w:World}(ha:aO 12 iU N w va a)(hb:aO 12 iU N' w vb b):
  Calls Tryz.prog 91 #[va,vb,.func (.func 86) #[] #[]] w fun e w'=>e=.returned (.bool (eqL a b))/\Below w.heap.size w w':=by
 obtain⟨aa,ca,rfl,la1,la2,rI⟩:=ha.at;obtain⟨ab,cb,rfl,D4,L9,pP⟩:=hb.at;have HA:=zh rI;have HB:=zh pP;clear rI pP ha hb;by_cases hl:a.length=b.length
 ·have HL:=zh hl;rw[<-hl] at D4 ⊢;clear hl;go_enter Tryz.func91,Tryz.ntmps91;go_wp2_with fail;go_loopw [17] (fun iv wr=>∃q:Nat,q<=a.length/\iv=.int .i64 (q:Int)/\Hid (Below w.heap.size w wr)/\Hid (a.take q=b.take q)) (fun iv _=>a.length-(intOf iv).toNat)
  case atStart=>exact⟨0,Nat.zero_le _,rfl,zh (Below.refl _ _),zh rfl⟩
  case round=>
   obtain⟨q,hq,rfl,HW,HT⟩:=hrel;(rename World=>wr);by_cases qA:q<a.length
   ·obtain⟨x,hx,-⟩:=getElem?_of_lt qA;obtain⟨y,hy,-⟩:=getElem?_of_lt (show q<b.length by rw[<-HL.out];exact qA);have tS:(0:Int)<=(q:Int)/\(q:Int)<(a.length:Int):=RY;have HX:=zh hx;have HY:=zh hy;obtain⟨b1,o1,rfl,-,J7,uL,-,rW⟩:=HA.out q x hx;obtain⟨b2,o2,rfl,-,cs2,tZ,-,sS⟩:=HB.out q y hy;obtain⟨vp1,k1,vf1,wE,n1,s1,m1,vn1,va1,rfl,-,hp,ht,JM⟩:=id uL;obtain⟨ea1,ec1,rfl,-⟩:=id hp;obtain⟨kz,fa1,fl1,fc1,ez⟩:=fP ht;cases ez;obtain⟨oz,nz,sz,mz,na1,nl1,nc1,xa1,xl1,xc1,ez⟩:=jB JM;cases ez;clear hp ht JM;obtain⟨vp2,k2,vf2,sW,n2,s2,m2,vn2,va2,rfl,-,hp,ht,JM⟩:=id tZ;obtain⟨ea2,ec2,rfl,-⟩:=id hp;obtain⟨kz,fa2,fl2,fc2,ez⟩:=fP ht;cases ez;obtain⟨oz,nz,sz,mz,na2,nl2,nc2,xa2,xl2,xc2,ez⟩:=jB JM;cases ez;clear hp ht JM;have p1a:wr.cell? ⟨b1,o1+q*12,none⟩=_:=aD HW.out (rW 0 _ rfl);have p1b:wr.cell? ⟨b1,o1+q*12+1,none⟩=_:=aD HW.out (rW 1 _ rfl);have p1c:wr.cell? ⟨b1,o1+q*12+2,none⟩=_:=aD HW.out (rW 2 _ rfl);have p1d:wr.cell? ⟨b1,o1+q*12+3,none⟩=_:=aD HW.out (rW 3 _ rfl);have p1e:wr.cell? ⟨b1,o1+q*12+4,none⟩=_:=aD HW.out (rW 4 _ rfl);have p1f:wr.cell? ⟨b1,o1+q*12+5,none⟩=_:=aD HW.out (rW 5 _ rfl);have p1g:wr.cell? ⟨b1,o1+q*12+6,none⟩=_:=aD HW.out (rW 6 _ rfl);have p1h:wr.cell? ⟨b1,o1+q*12+7,none⟩=_:=aD HW.out (rW 7 _ rfl);have p1i:wr.cell? ⟨b1,o1+q*12+8,none⟩=_:=aD HW.out (rW 8 _ rfl);have p1j:wr.cell? ⟨b1,o1+q*12+9,none⟩=_:=aD HW.out (rW 9 _ rfl);have p1k:wr.cell? ⟨b1,o1+q*12+10,none⟩=_:=aD HW.out (rW 10 _ rfl);have p1l:wr.cell? ⟨b1,o1+q*12+11,none⟩=_:=aD HW.out (rW 11 _ rfl);have p2a:wr.cell? ⟨b2,o2+q*12,none⟩=_:=aD HW.out (sS 0 _ rfl);have p2b:wr.cell? ⟨b2,o2+q*12+1,none⟩=_:=aD HW.out (sS 1 _ rfl);have p2c:wr.cell? ⟨b2,o2+q*12+2,none⟩=_:=aD HW.out (sS 2 _ rfl);have p2d:wr.cell? ⟨b2,o2+q*12+3,none⟩=_:=aD HW.out (sS 3 _ rfl);have p2e:wr.cell? ⟨b2,o2+q*12+4,none⟩=_:=aD HW.out (sS 4 _ rfl);have p2f:wr.cell? ⟨b2,o2+q*12+5,none⟩=_:=aD HW.out (sS 5 _ rfl);have p2g:wr.cell? ⟨b2,o2+q*12+6,none⟩=_:=aD HW.out (sS 6 _ rfl);have p2h:wr.cell? ⟨b2,o2+q*12+7,none⟩=_:=aD HW.out (sS 7 _ rfl);have p2i:wr.cell? ⟨b2,o2+q*12+8,none⟩=_:=aD HW.out (sS 8 _ rfl);have p2j:wr.cell? ⟨b2,o2+q*12+9,none⟩=_:=aD HW.out (sS 9 _ rfl);have p2k:wr.cell? ⟨b2,o2+q*12+10,none⟩=_:=aD HW.out (sS 10 _ rfl);have p2l:wr.cell? ⟨b2,o2+q*12+11,none⟩=_:=aD HW.out (sS 11 _ rfl);have BW:=zh (fun W(hb:Below wr.heap.size wr W)=>sfn_any x y (w:=W) (bD _ _ _ _ _ _ (aQ.later (aA HW.out hb)) uL) (bD _ _ _ _ _ _ (aQ.later (aA HW.out hb)) tZ));have yN:=zh (sameFn_iff x y);clear rW sS hx hy uL tZ;have qP:=zh (aB wr (gH x.name x.pub ea1 x.params.length ec1 k1 fa1 fl1 fc1 x.effects wE n1 s1 m1 na1 nl1 nc1 xa1 xl1 xc1));have qY:=zh (aA qP.out (aB (wr.alloc (gH x.name x.pub ea1 x.params.length ec1 k1 fa1 fl1 fc1 x.effects wE n1 s1 m1 na1 nl1 nc1 xa1 xl1 xc1)) (gH y.name y.pub ea2 y.params.length ec2 k2 fa2 fl2 fc2 y.effects sW n2 s2 m2 na2 nl2 nc2 xa2 xl2 xc2)));have t2a:=aD qP.out p2a;have t2b:=aD qP.out p2b;have t2c:=aD qP.out p2c;have t2d:=aD qP.out p2d;have t2e:=aD qP.out p2e;have t2f:=aD qP.out p2f;have t2g:=aD qP.out p2g;have t2h:=aD qP.out p2h;have t2i:=aD qP.out p2i;have t2j:=aD qP.out p2j;have t2k:=aD qP.out p2k;have t2l:=aD qP.out p2l;have sG:(wr.alloc (gH x.name x.pub ea1 x.params.length ec1 k1 fa1 fl1 fc1 x.effects wE n1 s1 m1 na1 nl1 nc1 xa1 xl1 xc1)).heap.size=wr.heap.size+1:=R2;have G0:=bY (wr.alloc (gH x.name x.pub ea1 x.params.length ec1 k1 fa1 fl1 fc1 x.effects wE n1 s1 m1 na1 nl1 nc1 xa1 xl1 xc1)) (gH y.name y.pub ea2 y.params.length ec2 k2 fa2 fl2 fc2 y.effects sW n2 s2 m2 na2 nl2 nc2 xa2 xl2 xc2);rw[sG] at G0;obtain⟨⟨x0,x1,x2,x3,x4,x5,x6,x7,x8,x9,x10,x11⟩,-⟩:=eD (aC (aB (wr.alloc (gH x.name x.pub ea1 x.params.length ec1 k1 fa1 fl1 fc1 x.effects wE n1 s1 m1 na1 nl1 nc1 xa1 xl1 xc1)) (gH y.name y.pub ea2 y.params.length ec2 k2 fa2 fl2 fc2 y.effects sW n2 s2 m2 na2 nl2 nc2 xa2 xl2 xc2)) (bY wr (gH x.name x.pub ea1 x.params.length ec1 k1 fa1 fl1 fc1 x.effects wE n1 s1 m1 na1 nl1 nc1 xa1 xl1 xc1)));obtain⟨⟨y0,y1,y2,y3,y4,y5,y6,y7,y8,y9,KZ,KY⟩,-⟩:=eD G0;clear G0;go_wp2_with fail;go_at_call 86;refine(BW.out _ qY.out).mono ?_;rintro e w8 ⟨rfl,qS⟩;have sM:=zh (aA HW.out (aA qY.out qS));generalize mZ x y=sr at *;exact PO
   exact PS
 have HE:Hid (eqL a b=false):=zh (dN (fun e=>hl (by rw[e])));have xC:((a.length:Int)==(b.length:Int))=false:=SA;go_enter Tryz.func91,Tryz.ntmps91;exact QC
theorem PA{p:Prop}(h:p:=by
 go_enter Tryz.func24,Tryz.ntmps24;go_wp2_with fail;go_at_call 89;refine(HU.out _ pP.out).mono ?_;rintro e w1 ⟨rfl,pO⟩;have pS:=zh pO;have qL:=zh (aA pP.out pS.out);clear pO;clear r0 r1 r2 r3 r4 r5 r6 r7 r8 s0 s1 s2 s3 s4 s5 s6 s7 s8;obtain⟨⟨r0,r1,r2,r3,r4,r5,r6,r7,r8⟩,-⟩:=bx9 (aC pS.out pT.out);obtain⟨⟨s0,s1,s2,s3,s4,s5,s6,s7,s8⟩,-⟩:=bx9 (aC pS.out pY.out);go_wp2_with fail;go_at_call 87;refine(HV.out _ qL.out).mono ?_;rintro e w2 ⟨rfl,pN⟩;have pV:=zh (aA pS.out pN);have pZ:=zh (aA pP.out pV.out);clear pN;clear r0 r1 r2 r3 r4 r5 r6 r7 r8 s0 s1 s2 s3 s4 s5 s6 s7 s8;obtain⟨⟨r0,r1,r2,r3,r4,r5,r6,r7,r8⟩,-⟩:=bx9 (aC pV.out pT.out);obtain⟨⟨s0,s1,s2,s3,s4,s5,s6,s7,s8⟩,-⟩:=bx9 (aC pV.out pY.out);go_wp2_with fail;go_at_call 90;refine(HI.out _ pZ.out).mono ?_;rintro e w3 ⟨rfl,pX⟩;have pW:=zh (aA pV.out pX);have qJ:=zh (aA pP.out pW.out);clear pX;clear r0 r1 r2 r3 r4 r5 r6 r7 r8 s0 s1 s2 s3 s4 s5 s6 s7 s8;obtain⟨⟨r0,r1,r2,r3,r4,r5,r6,r7,r8⟩,-⟩:=bx9 (aC pW.out pT.out);obtain⟨⟨s0,s1,s2,s3,s4,s5,s6,s7,s8⟩,-⟩:=bx9 (aC pW.out pY.out);go_wp2_with fail;go_at_call 87;refine(HO.out _ qJ.out).mono ?_;rintro e w4 ⟨rfl,qC⟩;have qH:=zh (aA pW.out qC);have rA:=zh (aA pP.out qH.out);clear qC;clear r0 r1 r2 r3 r4 r5 r6 r7 r8 s0 s1 s2 s3 s4 s5 s6 s7 s8;obtain⟨⟨r0,r1,r2,r3,r4,r5,r6,r7,r8⟩,-⟩:=bx9 (aC qH.out pT.out);obtain⟨⟨s0,s1,s2,s3,s4,s5,s6,s7,s8⟩,-⟩:=bx9 (aC qH.out pY.out);go_wp2_with fail;go_at_call 90;refine(HF.out _ rA.out).mono ?_;rintro e w5 ⟨rfl,hb5⟩;have rE:=zh (aA qH.out hb5);have rS:=zh (aA pP.out rE.out);clear hb5;clear r0 r1 r2 r3 r4 r5 r6 r7 r8 s0 s1 s2 s3 s4 s5 s6 s7 s8;obtain⟨⟨r0,r1,r2,r3,r4,r5,r6,r7,r8⟩,-⟩:=bx9 (aC rE.out pT.out);obtain⟨⟨s0,s1,s2,s3,s4,s5,s6,s7,s8⟩,-⟩:=bx9 (aC rE.out pY.out);go_wp2_with fail;go_ret
 exact⟨aE SV,rS.out⟩):p:=h
theorem PB{p:Prop}(h:p:=by
 go_enter Tryz.func24,Tryz.ntmps24;go_wp2_with fail;go_at_call 89;refine(HU.out _ pP.out).mono ?_;rintro e w1 ⟨rfl,pO⟩;have pS:=zh pO;have qL:=zh (aA pP.out pS.out);clear pO;clear r0 r1 r2 r3 r4 r5 r6 r7 r8 s0 s1 s2 s3 s4 s5 s6 s7 s8;obtain⟨⟨r0,r1,r2,r3,r4,r5,r6,r7,r8⟩,-⟩:=bx9 (aC pS.out pT.out);obtain⟨⟨s0,s1,s2,s3,s4,s5,s6,s7,s8⟩,-⟩:=bx9 (aC pS.out pY.out);go_wp2_with fail;go_at_call 87;refine(HV.out _ qL.out).mono ?_;rintro e w2 ⟨rfl,pN⟩;have pV:=zh (aA pS.out pN);have pZ:=zh (aA pP.out pV.out);clear pN;clear r0 r1 r2 r3 r4 r5 r6 r7 r8 s0 s1 s2 s3 s4 s5 s6 s7 s8;obtain⟨⟨r0,r1,r2,r3,r4,r5,r6,r7,r8⟩,-⟩:=bx9 (aC pV.out pT.out);obtain⟨⟨s0,s1,s2,s3,s4,s5,s6,s7,s8⟩,-⟩:=bx9 (aC pV.out pY.out);go_wp2_with fail;go_at_call 90;refine(HI.out _ pZ.out).mono ?_;rintro e w3 ⟨rfl,pX⟩;have pW:=zh (aA pV.out pX);have qJ:=zh (aA pP.out pW.out);clear pX;clear r0 r1 r2 r3 r4 r5 r6 r7 r8 s0 s1 s2 s3 s4 s5 s6 s7 s8;obtain⟨⟨r0,r1,r2,r3,r4,r5,r6,r7,r8⟩,-⟩:=bx9 (aC pW.out pT.out);obtain⟨⟨s0,s1,s2,s3,s4,s5,s6,s7,s8⟩,-⟩:=bx9 (aC pW.out pY.out);go_wp2_with fail;go_at_call 87;refine(HO.out _ qJ.out).mono ?_;rintro e w4 ⟨rfl,qC⟩;have qH:=zh (aA pW.out qC);have rA:=zh (aA pP.out qH.out);clear qC;clear r0 r1 r2 r3 r4 r5 r6 r7 r8 s0 s1 s2 s3 s4 s5 s6 s7 s8;obtain⟨⟨r0,r1,r2,r3,r4,r5,r6,r7,r8⟩,-⟩:=bx9 (aC qH.out pT.out);obtain⟨⟨s0,s1,s2,s3,s4,s5,s6,s7,s8⟩,-⟩:=bx9 (aC qH.out pY.out);go_wp2_with fail;go_at_call 90;refine(HF.out _ rA.out).mono ?_;rintro e w5 ⟨rfl,hb5⟩;have rE:=zh (aA qH.out hb5);have rS:=zh (aA pP.out rE.out);clear hb5;clear r0 r1 r2 r3 r4 r5 r6 r7 r8 s0 s1 s2 s3 s4 s5 s6 s7 s8;obtain⟨⟨r0,r1,r2,r3,r4,r5,r6,r7,r8⟩,-⟩:=bx9 (aC rE.out pT.out);obtain⟨⟨s0,s1,s2,s3,s4,s5,s6,s7,s8⟩,-⟩:=bx9 (aC rE.out pY.out);go_wp2_with fail;go_at_call 90;refine(HK.out _ rS.out).mono ?_;rintro e w6 ⟨rfl,qZ⟩;have uX:=zh (aA rE.out qZ);have sD:=zh (aA pP.out uX.out);clear qZ;clear r0 r1 r2 r3 r4 r5 r6 r7 r8 s0 s1 s2 s3 s4 s5 s6 s7 s8;obtain⟨⟨r0,r1,r2,r3,r4,r5,r6,r7,r8⟩,-⟩:=bx9 (aC uX.out pT.out);obtain⟨⟨s0,s1,s2,s3,s4,s5,s6,s7,s8⟩,-⟩:=bx9 (aC uX.out pY.out);go_wp2_with fail;go_at_call 91;refine(HN.out _ sD.out).mono ?_;rintro e w7 ⟨rfl,rT⟩;have OR:=zh (aA uX.out rT);have uB:=zh (aA pP.out OR.out);clear rT;clear r0 r1 r2 r3 r4 r5 r6 r7 r8 s0 s1 s2 s3 s4 s5 s6 s7 s8;obtain⟨⟨r0,r1,r2,r3,r4,r5,r6,r7,r8⟩,-⟩:=bx9 (aC OR.out pT.out);obtain⟨⟨s0,s1,s2,s3,s4,s5,s6,s7,s8⟩,-⟩:=bx9 (aC OR.out pY.out);go_wp2_with fail;go_ret
 exact⟨aE SV,uB.out⟩):p:=h
theorem PG{p:Prop}(h:p:=by
 go_enter Tryz.func24,Tryz.ntmps24;go_wp2_with fail;go_at_call 89;refine(HU.out _ pP.out).mono ?_;rintro e w1 ⟨rfl,pO⟩;have pS:=zh pO;have qL:=zh (aA pP.out pS.out);clear pO;clear r0 r1 r2 r3 r4 r5 r6 r7 r8 s0 s1 s2 s3 s4 s5 s6 s7 s8;obtain⟨⟨r0,r1,r2,r3,r4,r5,r6,r7,r8⟩,-⟩:=bx9 (aC pS.out pT.out);obtain⟨⟨s0,s1,s2,s3,s4,s5,s6,s7,s8⟩,-⟩:=bx9 (aC pS.out pY.out);go_wp2_with fail;go_at_call 87;refine(HV.out _ qL.out).mono ?_;rintro e w2 ⟨rfl,pN⟩;have pV:=zh (aA pS.out pN);have pZ:=zh (aA pP.out pV.out);clear pN;clear r0 r1 r2 r3 r4 r5 r6 r7 r8 s0 s1 s2 s3 s4 s5 s6 s7 s8;obtain⟨⟨r0,r1,r2,r3,r4,r5,r6,r7,r8⟩,-⟩:=bx9 (aC pV.out pT.out);obtain⟨⟨s0,s1,s2,s3,s4,s5,s6,s7,s8⟩,-⟩:=bx9 (aC pV.out pY.out);go_wp2_with fail;go_at_call 87;refine(HO.out _ pZ.out).mono ?_;rintro e w3 ⟨rfl,pX⟩;have pW:=zh (aA pV.out pX);have qJ:=zh (aA pP.out pW.out);clear pX;clear r0 r1 r2 r3 r4 r5 r6 r7 r8 s0 s1 s2 s3 s4 s5 s6 s7 s8;obtain⟨⟨r0,r1,r2,r3,r4,r5,r6,r7,r8⟩,-⟩:=bx9 (aC pW.out pT.out);obtain⟨⟨s0,s1,s2,s3,s4,s5,s6,s7,s8⟩,-⟩:=bx9 (aC pW.out pY.out);go_wp2_with fail;go_at_call 90;refine(HF.out _ qJ.out).mono ?_;rintro e w4 ⟨rfl,qC⟩;have qH:=zh (aA pW.out qC);have rA:=zh (aA pP.out qH.out);clear qC;clear r0 r1 r2 r3 r4 r5 r6 r7 r8 s0 s1 s2 s3 s4 s5 s6 s7 s8;obtain⟨⟨r0,r1,r2,r3,r4,r5,r6,r7,r8⟩,-⟩:=bx9 (aC qH.out pT.out);obtain⟨⟨s0,s1,s2,s3,s4,s5,s6,s7,s8⟩,-⟩:=bx9 (aC qH.out pY.out);go_wp2_with fail;go_ret
 exact⟨aE SV,rA.out⟩):p:=h
theorem PH{p:Prop}(h:p:=by
 go_enter Tryz.func24,Tryz.ntmps24;go_wp2_with fail;go_at_call 89;refine(HU.out _ pP.out).mono ?_;rintro e w1 ⟨rfl,pO⟩;have pS:=zh pO;have qL:=zh (aA pP.out pS.out);clear pO;clear r0 r1 r2 r3 r4 r5 r6 r7 r8 s0 s1 s2 s3 s4 s5 s6 s7 s8;obtain⟨⟨r0,r1,r2,r3,r4,r5,r6,r7,r8⟩,-⟩:=bx9 (aC pS.out pT.out);obtain⟨⟨s0,s1,s2,s3,s4,s5,s6,s7,s8⟩,-⟩:=bx9 (aC pS.out pY.out);go_wp2_with fail;go_at_call 87;refine(HV.out _ qL.out).mono ?_;rintro e w2 ⟨rfl,pN⟩;have pV:=zh (aA pS.out pN);have pZ:=zh (aA pP.out pV.out);clear pN;clear r0 r1 r2 r3 r4 r5 r6 r7 r8 s0 s1 s2 s3 s4 s5 s6 s7 s8;obtain⟨⟨r0,r1,r2,r3,r4,r5,r6,r7,r8⟩,-⟩:=bx9 (aC pV.out pT.out);obtain⟨⟨s0,s1,s2,s3,s4,s5,s6,s7,s8⟩,-⟩:=bx9 (aC pV.out pY.out);go_wp2_with fail;go_at_call 90;refine(HI.out _ pZ.out).mono ?_;rintro e w3 ⟨rfl,pX⟩;have pW:=zh (aA pV.out pX);have qJ:=zh (aA pP.out pW.out);clear pX;clear r0 r1 r2 r3 r4 r5 r6 r7 r8 s0 s1 s2 s3 s4 s5 s6 s7 s8;obtain⟨⟨r0,r1,r2,r3,r4,r5,r6,r7,r8⟩,-⟩:=bx9 (aC pW.out pT.out);obtain⟨⟨s0,s1,s2,s3,s4,s5,s6,s7,s8⟩,-⟩:=bx9 (aC pW.out pY.out);go_wp2_with fail;go_at_call 87;refine(HO.out _ qJ.out).mono ?_;rintro e w4 ⟨rfl,qC⟩;have qH:=zh (aA pW.out qC);have rA:=zh (aA pP.out qH.out);clear qC;clear r0 r1 r2 r3 r4 r5 r6 r7 r8 s0 s1 s2 s3 s4 s5 s6 s7 s8;obtain⟨⟨r0,r1,r2,r3,r4,r5,r6,r7,r8⟩,-⟩:=bx9 (aC qH.out pT.out);obtain⟨⟨s0,s1,s2,s3,s4,s5,s6,s7,s8⟩,-⟩:=bx9 (aC qH.out pY.out);go_wp2_with fail;go_ret
 exact⟨aE SV,rA.out⟩):p:=h
theorem PM{p:Prop}(h:p:=by
 have g5:(mv==mv')=false:=beq_eq_false_iff_ne.2 h5;go_enter Tryz.func24,Tryz.ntmps24;go_wp2_with fail;go_at_call 89;refine(HU.out _ pP.out).mono ?_;rintro e w1 ⟨rfl,pO⟩;have pS:=zh pO;have qL:=zh (aA pP.out pS.out);clear pO;clear r0 r1 r2 r3 r4 r5 r6 r7 r8 s0 s1 s2 s3 s4 s5 s6 s7 s8;obtain⟨⟨r0,r1,r2,r3,r4,r5,r6,r7,r8⟩,-⟩:=bx9 (aC pS.out pT.out);obtain⟨⟨s0,s1,s2,s3,s4,s5,s6,s7,s8⟩,-⟩:=bx9 (aC pS.out pY.out);go_wp2_with fail;go_at_call 87;refine(HV.out _ qL.out).mono ?_;rintro e w2 ⟨rfl,pN⟩;have pV:=zh (aA pS.out pN);have pZ:=zh (aA pP.out pV.out);clear pN;clear r0 r1 r2 r3 r4 r5 r6 r7 r8 s0 s1 s2 s3 s4 s5 s6 s7 s8;obtain⟨⟨r0,r1,r2,r3,r4,r5,r6,r7,r8⟩,-⟩:=bx9 (aC pV.out pT.out);obtain⟨⟨s0,s1,s2,s3,s4,s5,s6,s7,s8⟩,-⟩:=bx9 (aC pV.out pY.out);go_wp2_with fail;go_at_call 90;refine(HI.out _ pZ.out).mono ?_;rintro e w3 ⟨rfl,pX⟩;have pW:=zh (aA pV.out pX);have qJ:=zh (aA pP.out pW.out);clear pX;clear r0 r1 r2 r3 r4 r5 r6 r7 r8 s0 s1 s2 s3 s4 s5 s6 s7 s8;obtain⟨⟨r0,r1,r2,r3,r4,r5,r6,r7,r8⟩,-⟩:=bx9 (aC pW.out pT.out);obtain⟨⟨s0,s1,s2,s3,s4,s5,s6,s7,s8⟩,-⟩:=bx9 (aC pW.out pY.out);go_wp2_with fail;go_ret
 exact⟨aE (by rw[HR.out];simp[h5]),qJ.out⟩):p:=h
theorem PN{p:Prop}(h:p:=by
 go_enter Tryz.func24,Tryz.ntmps24;go_wp2_with fail;go_at_call 89;refine(HU.out _ pP.out).mono ?_;rintro e w1 ⟨rfl,pO⟩;have pS:=zh pO;have qL:=zh (aA pP.out pS.out);clear pO;clear r0 r1 r2 r3 r4 r5 r6 r7 r8 s0 s1 s2 s3 s4 s5 s6 s7 s8;obtain⟨⟨r0,r1,r2,r3,r4,r5,r6,r7,r8⟩,-⟩:=bx9 (aC pS.out pT.out);obtain⟨⟨s0,s1,s2,s3,s4,s5,s6,s7,s8⟩,-⟩:=bx9 (aC pS.out pY.out);go_wp2_with fail;go_at_call 87;refine(HO.out _ qL.out).mono ?_;rintro e w2 ⟨rfl,pN⟩;have pV:=zh (aA pS.out pN);have pZ:=zh (aA pP.out pV.out);clear pN;clear r0 r1 r2 r3 r4 r5 r6 r7 r8 s0 s1 s2 s3 s4 s5 s6 s7 s8;obtain⟨⟨r0,r1,r2,r3,r4,r5,r6,r7,r8⟩,-⟩:=bx9 (aC pV.out pT.out);obtain⟨⟨s0,s1,s2,s3,s4,s5,s6,s7,s8⟩,-⟩:=bx9 (aC pV.out pY.out);go_wp2_with fail;go_at_call 90;refine(HF.out _ pZ.out).mono ?_;rintro e w3 ⟨rfl,pX⟩;have pW:=zh (aA pV.out pX);have qJ:=zh (aA pP.out pW.out);clear pX;clear r0 r1 r2 r3 r4 r5 r6 r7 r8 s0 s1 s2 s3 s4 s5 s6 s7 s8;obtain⟨⟨r0,r1,r2,r3,r4,r5,r6,r7,r8⟩,-⟩:=bx9 (aC pW.out pT.out);obtain⟨⟨s0,s1,s2,s3,s4,s5,s6,s7,s8⟩,-⟩:=bx9 (aC pW.out pY.out);go_wp2_with fail;go_ret
 exact⟨aE SV,qJ.out⟩):p:=h
theorem PU{p:Prop}(h:p:=by
 go_enter Tryz.func24,Tryz.ntmps24;go_wp2_with fail;go_at_call 87;refine(HO.out _ pP.out).mono ?_;rintro e w1 ⟨rfl,pO⟩;have pS:=zh pO;have qL:=zh (aA pP.out pS.out);clear pO;clear r0 r1 r2 r3 r4 r5 r6 r7 r8 s0 s1 s2 s3 s4 s5 s6 s7 s8;obtain⟨⟨r0,r1,r2,r3,r4,r5,r6,r7,r8⟩,-⟩:=bx9 (aC pS.out pT.out);obtain⟨⟨s0,s1,s2,s3,s4,s5,s6,s7,s8⟩,-⟩:=bx9 (aC pS.out pY.out);go_wp2_with fail;go_at_call 90;refine(HF.out _ qL.out).mono ?_;rintro e w2 ⟨rfl,pN⟩;have pV:=zh (aA pS.out pN);have pZ:=zh (aA pP.out pV.out);clear pN;clear r0 r1 r2 r3 r4 r5 r6 r7 r8 s0 s1 s2 s3 s4 s5 s6 s7 s8;obtain⟨⟨r0,r1,r2,r3,r4,r5,r6,r7,r8⟩,-⟩:=bx9 (aC pV.out pT.out);obtain⟨⟨s0,s1,s2,s3,s4,s5,s6,s7,s8⟩,-⟩:=bx9 (aC pV.out pY.out);go_wp2_with fail;go_ret
 exact⟨aE (by rw[HR.out];simp[h1]),pZ.out⟩):p:=h
theorem ssame_any(a b:Mdl){N N':Nat->Prop}{ca cb:List Value}{w:World}(ha:encM N w a ca)(hb:encM N' w b cb):
  Calls Tryz.prog 24 #[.agg ca.toArray,.agg cb.toArray] w fun e w'=>e=.returned (.bool (sameM a b))/\Below w.heap.size w w':=by
 obtain⟨nm,us,vs,is,fs,mv,os,fw,bk⟩:=a;obtain⟨nm',us',vs',is',fs',mv',os',fw',bk'⟩:=b;obtain⟨au,du,av,dv,ai,di,af,df,ao,do_,aw,dw,ab,db,rfl⟩:=pI ha;obtain⟨au',du',av',dv',ai',di',af',df',ao',do_',aw',dw',ab',db',rfl⟩:=pI hb;dsimp only at ha hb ⊢;obtain⟨h1,h2,h3,h4,h5,h6,h7⟩:=dT ha;obtain⟨J6,J5,NK,LN,NJ,NI,NH⟩:=dT hb;dsimp only at h1 h2 h3 h4 h5 h6 h7 J6 J5 NK LN NJ NI NH;have hR:sameM ⟨nm,us,vs,is,fs,mv,os,fw,bk⟩ ⟨nm',us',vs',is',fs',mv',os',fw',bk'⟩=(hY fs fs'&&decide (nm=nm')&&decide (us=us')&&eU vs vs'&&eG is is'&&decide (mv=mv')&&eU os os'&&eG fw fw'&&eG bk bk'):=rfl;have HR:=zh hR;clear hR ha hb;have HU:=zh (fun W(hb:Below w.heap.size w W)=>names_any us us' _ _ W (h1.moves bP (aQ.later hb) R0).strs (J6.moves bP (aQ.later hb) R0).strs);have HV:=zh (fun W(hb:Below w.heap.size w W)=>sfields_any vs vs' (w:=W) (h2.moves aT (aQ.later hb) R0) (J5.moves aT (aQ.later hb) R0));have HI:=zh (fun W(hb:Below w.heap.size w W)=>sexps_any is is' (w:=W) (h3.moves aH (aQ.later hb) R0) (NK.moves aH (aQ.later hb) R0));have HO:=zh (fun W(hb:Below w.heap.size w W)=>sfields_any os os' (w:=W) (h5.moves aT (aQ.later hb) R0) (NJ.moves aT (aQ.later hb) R0));have HF:=zh (fun W(hb:Below w.heap.size w W)=>sexps_any fw fw' (w:=W) (h6.moves aH (aQ.later hb) R0) (NI.moves aH (aQ.later hb) R0));have HK:=zh (fun W(hb:Below w.heap.size w W)=>sexps_any bk bk' (w:=W) (h7.moves aH (aQ.later hb) R0) (NH.moves aH (aQ.later hb) R0));have HN:=zh (fun W(hb:Below w.heap.size w W)=>sfns_any fs fs' (w:=W) (h4.moves bD (aQ.later hb) R0) (LN.moves bD (aQ.later hb) R0));rw[eqL_decide] at HU;rw[eqL_sameFns] at HN;rw[lK] at HV HO;rw[eqL_sameXs] at HI HF HK;have vM:=aA (aB w (gZ nm au us.length du av vs.length dv ai is.length di af fs.length df mv ao os.length do_ aw fw.length dw ab bk.length db)) (aB (w.alloc (gZ nm au us.length du av vs.length dv ai is.length di af fs.length df mv ao os.length do_ aw fw.length dw ab bk.length db)) (gZ nm' au' us'.length du' av' vs'.length dv' ai' is'.length di' af' fs'.length df' mv' ao' os'.length do_' aw' fw'.length dw' ab' bk'.length db'));have pP:=zh vM;have sX:=aC (aB (w.alloc (gZ nm au us.length du av vs.length dv ai is.length di af fs.length df mv ao os.length do_ aw fw.length dw ab bk.length db)) (gZ nm' au' us'.length du' av' vs'.length dv' ai' is'.length di' af' fs'.length df' mv' ao' os'.length do_' aw' fw'.length dw' ab' bk'.length db')) (bY w (gZ nm au us.length du av vs.length dv ai is.length di af fs.length df mv ao os.length do_ aw fw.length dw ab bk.length db));have qW:=bY (w.alloc (gZ nm au us.length du av vs.length dv ai is.length di af fs.length df mv ao os.length do_ aw fw.length dw ab bk.length db)) (gZ nm' au' us'.length du' av' vs'.length dv' ai' is'.length di' af' fs'.length df' mv' ao' os'.length do_' aw' fw'.length dw' ab' bk'.length db');rw[show(w.alloc (gZ nm au us.length du av vs.length dv ai is.length di af fs.length df mv ao os.length do_ aw fw.length dw ab bk.length db)).heap.size=w.heap.size+1 by simp] at qW;obtain⟨⟨r0,r1,r2,r3,r4,r5,r6,r7,r8⟩,-⟩:=bx9 sX;obtain⟨⟨s0,s1,s2,s3,s4,s5,s6,s7,s8⟩,-⟩:=bx9 qW;have pT:=zh sX;have pY:=zh qW;clear h1 h2 h3 h4 h5 h6 h7 J6 J5 NK LN NJ NI NH vM sX qW;generalize sameM ⟨nm,us,vs,is,fs,mv,os,fw,bk⟩ ⟨nm',us',vs',is',fs',mv',os',fw',bk'⟩=rr at *;generalize hY fs fs'=qn at *;generalize decide (us=us')=qu at *;generalize eU vs vs'=qv at *;generalize eG is is'=qi at *;generalize eU os os'=qo at *;generalize eG fw fw'=qf at *;generalize eG bk bk'=qb at *;by_cases h1:nm=nm'
 ·subst h1
  cases qu with
  |false=>
   by_cases h5:mv=mv'
   ·subst h5
    cases qo with
    |false=>
     go_enter Tryz.func24,Tryz.ntmps24;go_wp2_with fail;go_at_call 89;refine(HU.out _ pP.out).mono ?_;rintro e w1 ⟨rfl,pO⟩;have pS:=zh pO;have qL:=zh (aA pP.out pS.out);clear pO;clear r0 r1 r2 r3 r4 r5 r6 r7 r8 s0 s1 s2 s3 s4 s5 s6 s7 s8;obtain⟨⟨r0,r1,r2,r3,r4,r5,r6,r7,r8⟩,-⟩:=bx9 (aC pS.out pT.out);obtain⟨⟨s0,s1,s2,s3,s4,s5,s6,s7,s8⟩,-⟩:=bx9 (aC pS.out pY.out);go_wp2_with fail;go_at_call 87;refine(HO.out _ qL.out).mono ?_;rintro e w2 ⟨rfl,pN⟩;have pV:=zh (aA pS.out pN);have pZ:=zh (aA pP.out pV.out);clear pN;clear r0 r1 r2 r3 r4 r5 r6 r7 r8 s0 s1 s2 s3 s4 s5 s6 s7 s8;obtain⟨⟨r0,r1,r2,r3,r4,r5,r6,r7,r8⟩,-⟩:=bx9 (aC pV.out pT.out);obtain⟨⟨s0,s1,s2,s3,s4,s5,s6,s7,s8⟩,-⟩:=bx9 (aC pV.out pY.out);go_wp2_with fail;go_ret;exact⟨aE SV,pZ.out⟩
    |true=>
     cases qf with
     |false=>
      exact PN
     |true=>
      exact PN
   have g5:(mv==mv')=false:=beq_eq_false_iff_ne.2 h5;go_enter Tryz.func24,Tryz.ntmps24;go_wp2_with fail;go_at_call 89;refine(HU.out _ pP.out).mono ?_;rintro e w1 ⟨rfl,pO⟩;have pS:=zh pO;have qL:=zh (aA pP.out pS.out);clear pO;clear r0 r1 r2 r3 r4 r5 r6 r7 r8 s0 s1 s2 s3 s4 s5 s6 s7 s8;obtain⟨⟨r0,r1,r2,r3,r4,r5,r6,r7,r8⟩,-⟩:=bx9 (aC pS.out pT.out);obtain⟨⟨s0,s1,s2,s3,s4,s5,s6,s7,s8⟩,-⟩:=bx9 (aC pS.out pY.out);go_wp2_with fail;go_ret;exact⟨aE (by rw[HR.out];simp[h5]),qL.out⟩
  |true=>
   cases qv with
   |false=>
    by_cases h5:mv=mv'
    ·subst h5
     cases qo with
     |false=>
      go_enter Tryz.func24,Tryz.ntmps24;go_wp2_with fail;go_at_call 89;refine(HU.out _ pP.out).mono ?_;rintro e w1 ⟨rfl,pO⟩;have pS:=zh pO;have qL:=zh (aA pP.out pS.out);clear pO;clear r0 r1 r2 r3 r4 r5 r6 r7 r8 s0 s1 s2 s3 s4 s5 s6 s7 s8;obtain⟨⟨r0,r1,r2,r3,r4,r5,r6,r7,r8⟩,-⟩:=bx9 (aC pS.out pT.out);obtain⟨⟨s0,s1,s2,s3,s4,s5,s6,s7,s8⟩,-⟩:=bx9 (aC pS.out pY.out);go_wp2_with fail;go_at_call 87;refine(HV.out _ qL.out).mono ?_;rintro e w2 ⟨rfl,pN⟩;have pV:=zh (aA pS.out pN);have pZ:=zh (aA pP.out pV.out);clear pN;clear r0 r1 r2 r3 r4 r5 r6 r7 r8 s0 s1 s2 s3 s4 s5 s6 s7 s8;obtain⟨⟨r0,r1,r2,r3,r4,r5,r6,r7,r8⟩,-⟩:=bx9 (aC pV.out pT.out);obtain⟨⟨s0,s1,s2,s3,s4,s5,s6,s7,s8⟩,-⟩:=bx9 (aC pV.out pY.out);go_wp2_with fail;go_at_call 87;refine(HO.out _ pZ.out).mono ?_;rintro e w3 ⟨rfl,pX⟩;have pW:=zh (aA pV.out pX);have qJ:=zh (aA pP.out pW.out);clear pX;clear r0 r1 r2 r3 r4 r5 r6 r7 r8 s0 s1 s2 s3 s4 s5 s6 s7 s8;obtain⟨⟨r0,r1,r2,r3,r4,r5,r6,r7,r8⟩,-⟩:=bx9 (aC pW.out pT.out);obtain⟨⟨s0,s1,s2,s3,s4,s5,s6,s7,s8⟩,-⟩:=bx9 (aC pW.out pY.out);go_wp2_with fail;go_ret;exact⟨aE SV,qJ.out⟩
     |true=>
      cases qf with
      |false=>
       exact PG
      |true=>
       exact PG
    have g5:(mv==mv')=false:=beq_eq_false_iff_ne.2 h5;go_enter Tryz.func24,Tryz.ntmps24;go_wp2_with fail;go_at_call 89;refine(HU.out _ pP.out).mono ?_;rintro e w1 ⟨rfl,pO⟩;have pS:=zh pO;have qL:=zh (aA pP.out pS.out);clear pO;clear r0 r1 r2 r3 r4 r5 r6 r7 r8 s0 s1 s2 s3 s4 s5 s6 s7 s8;obtain⟨⟨r0,r1,r2,r3,r4,r5,r6,r7,r8⟩,-⟩:=bx9 (aC pS.out pT.out);obtain⟨⟨s0,s1,s2,s3,s4,s5,s6,s7,s8⟩,-⟩:=bx9 (aC pS.out pY.out);go_wp2_with fail;go_at_call 87;refine(HV.out _ qL.out).mono ?_;rintro e w2 ⟨rfl,pN⟩;have pV:=zh (aA pS.out pN);have pZ:=zh (aA pP.out pV.out);clear pN;clear r0 r1 r2 r3 r4 r5 r6 r7 r8 s0 s1 s2 s3 s4 s5 s6 s7 s8;obtain⟨⟨r0,r1,r2,r3,r4,r5,r6,r7,r8⟩,-⟩:=bx9 (aC pV.out pT.out);obtain⟨⟨s0,s1,s2,s3,s4,s5,s6,s7,s8⟩,-⟩:=bx9 (aC pV.out pY.out);go_wp2_with fail;go_ret;exact⟨aE (by rw[HR.out];simp[h5]),pZ.out⟩
   |true=>
    cases qi with
    |false=>
     by_cases h5:mv=mv'
     ·subst h5
      cases qo with
      |false=>
       exact PH
      |true=>
       cases qf with
       |false=>
        exact PA
       |true=>
        exact PA
     exact PM
    |true=>
     by_cases h5:mv=mv'
     ·subst h5
      cases qo with
      |false=>
       exact PH
      |true=>
       cases qf with
       |false=>
        exact PA
       |true=>
        cases qb with
        |false=>
         go_enter Tryz.func24,Tryz.ntmps24;go_wp2_with fail;go_at_call 89;refine(HU.out _ pP.out).mono ?_;rintro e w1 ⟨rfl,pO⟩;have pS:=zh pO;have qL:=zh (aA pP.out pS.out);clear pO;clear r0 r1 r2 r3 r4 r5 r6 r7 r8 s0 s1 s2 s3 s4 s5 s6 s7 s8;obtain⟨⟨r0,r1,r2,r3,r4,r5,r6,r7,r8⟩,-⟩:=bx9 (aC pS.out pT.out);obtain⟨⟨s0,s1,s2,s3,s4,s5,s6,s7,s8⟩,-⟩:=bx9 (aC pS.out pY.out);go_wp2_with fail;go_at_call 87;refine(HV.out _ qL.out).mono ?_;rintro e w2 ⟨rfl,pN⟩;have pV:=zh (aA pS.out pN);have pZ:=zh (aA pP.out pV.out);clear pN;clear r0 r1 r2 r3 r4 r5 r6 r7 r8 s0 s1 s2 s3 s4 s5 s6 s7 s8;obtain⟨⟨r0,r1,r2,r3,r4,r5,r6,r7,r8⟩,-⟩:=bx9 (aC pV.out pT.out);obtain⟨⟨s0,s1,s2,s3,s4,s5,s6,s7,s8⟩,-⟩:=bx9 (aC pV.out pY.out);go_wp2_with fail;go_at_call 90;refine(HI.out _ pZ.out).mono ?_;rintro e w3 ⟨rfl,pX⟩;have pW:=zh (aA pV.out pX);have qJ:=zh (aA pP.out pW.out);clear pX;clear r0 r1 r2 r3 r4 r5 r6 r7 r8 s0 s1 s2 s3 s4 s5 s6 s7 s8;obtain⟨⟨r0,r1,r2,r3,r4,r5,r6,r7,r8⟩,-⟩:=bx9 (aC pW.out pT.out);obtain⟨⟨s0,s1,s2,s3,s4,s5,s6,s7,s8⟩,-⟩:=bx9 (aC pW.out pY.out);go_wp2_with fail;go_at_call 87;refine(HO.out _ qJ.out).mono ?_;rintro e w4 ⟨rfl,qC⟩;have qH:=zh (aA pW.out qC);have rA:=zh (aA pP.out qH.out);clear qC;clear r0 r1 r2 r3 r4 r5 r6 r7 r8 s0 s1 s2 s3 s4 s5 s6 s7 s8;obtain⟨⟨r0,r1,r2,r3,r4,r5,r6,r7,r8⟩,-⟩:=bx9 (aC qH.out pT.out);obtain⟨⟨s0,s1,s2,s3,s4,s5,s6,s7,s8⟩,-⟩:=bx9 (aC qH.out pY.out);go_wp2_with fail;go_at_call 90;refine(HF.out _ rA.out).mono ?_;rintro e w5 ⟨rfl,hb5⟩;have rE:=zh (aA qH.out hb5);have rS:=zh (aA pP.out rE.out);clear hb5;clear r0 r1 r2 r3 r4 r5 r6 r7 r8 s0 s1 s2 s3 s4 s5 s6 s7 s8;obtain⟨⟨r0,r1,r2,r3,r4,r5,r6,r7,r8⟩,-⟩:=bx9 (aC rE.out pT.out);obtain⟨⟨s0,s1,s2,s3,s4,s5,s6,s7,s8⟩,-⟩:=bx9 (aC rE.out pY.out);go_wp2_with fail;go_at_call 90;refine(HK.out _ rS.out).mono ?_;rintro e w6 ⟨rfl,qZ⟩;have uX:=zh (aA rE.out qZ);have sD:=zh (aA pP.out uX.out);clear qZ;clear r0 r1 r2 r3 r4 r5 r6 r7 r8 s0 s1 s2 s3 s4 s5 s6 s7 s8;obtain⟨⟨r0,r1,r2,r3,r4,r5,r6,r7,r8⟩,-⟩:=bx9 (aC uX.out pT.out);obtain⟨⟨s0,s1,s2,s3,s4,s5,s6,s7,s8⟩,-⟩:=bx9 (aC uX.out pY.out);go_wp2_with fail;go_ret;exact⟨aE SV,sD.out⟩
        |true=>
         cases qn with
         |false=>
          exact PB
         |true=>
          exact PB
     exact PM
 have g:(nm.toList==nm'.toList)=false:=jZ h1;by_cases h5:mv=mv'
 ·subst h5
  cases qo with
  |false=>
   go_enter Tryz.func24,Tryz.ntmps24;go_wp2_with fail;go_at_call 87;refine(HO.out _ pP.out).mono ?_;rintro e w1 ⟨rfl,pO⟩;have pS:=zh pO;have qL:=zh (aA pP.out pS.out);clear pO;clear r0 r1 r2 r3 r4 r5 r6 r7 r8 s0 s1 s2 s3 s4 s5 s6 s7 s8;obtain⟨⟨r0,r1,r2,r3,r4,r5,r6,r7,r8⟩,-⟩:=bx9 (aC pS.out pT.out);obtain⟨⟨s0,s1,s2,s3,s4,s5,s6,s7,s8⟩,-⟩:=bx9 (aC pS.out pY.out);go_wp2_with fail;go_ret;exact⟨aE (by rw[HR.out];simp[h1]),qL.out⟩
  |true=>
   cases qf with
   |false=>
    exact PU
   |true=>
    exact PU
 have g5:(mv==mv')=false:=beq_eq_false_iff_ne.2 h5;go_enter Tryz.func24,Tryz.ntmps24;exact P8
end Go.Proofs.YtiionicikdnnpaaGreatDoor
