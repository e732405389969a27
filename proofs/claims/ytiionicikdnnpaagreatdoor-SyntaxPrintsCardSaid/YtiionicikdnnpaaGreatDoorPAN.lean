/- Texts of this seat, joined. -/
import Derived.Test.YtiionicikdnnpaaGreatDoorPAM
import Derived.Test.YtiionicikdnnpaaGreatDoorPAH
set_option maxHeartbeats 64000000
set_option maxRecDepth 100000
set_option linter.unusedVariables false
set_option linter.unusedSimpArgs false
set_option linter.constructorNameAsVariable false
namespace Go.Proofs.YtiionicikdnnpaaGreatDoor
open Go.RowKit
theorem names_any(l m:List bA)(v u:Value)(w:World)(hl:Strs w v l)(hm:Strs w u m):
  Calls Tryz.prog 89 #[v,u] w fun e w'=>e=.returned (.bool (eqL l m))/\Below w.heap.size w w':=by
 rw[eqL_decide];obtain⟨a1,c1,rfl⟩:=strs_slice hl;obtain⟨a2,c2,rfl⟩:=strs_slice hm;by_cases rD:l.length=m.length
 ·rcases hl.cases with⟨rfl,-⟩|⟨b,o,c,e,h0,h1,h2,-,hc⟩
  ·have e:m=[]:=List.eq_nil_of_length_eq_zero (by simpa using rD.symm);subst e;refine(Tryz.slices_Equal_string_empty a1 a2 c1 0 c2 w VS).mono ?_;rintro e w' ⟨rfl,rfl⟩;exact⟨VY,Below.refl _ _⟩
  rcases hm.cases with⟨rfl,-⟩|⟨b',o',c',e',h0',L9,JT,-,hc'⟩
  ·simp at rD;rw[rD] at h0;simp at h0
  obtain⟨rfl,rfl⟩:a1=some ⟨b,o,none⟩/\c1=c:=by injection e with e1 e2 e3;exact⟨e1,e3⟩
  obtain⟨rfl,rfl⟩:a2=some ⟨b',o',none⟩/\c2=c':=by injection e' with e1 e2 e3;exact⟨e1,e3⟩
  refine(Tryz.slices_Equal_string b o l.length c1 b' o' m.length c2 l m w (Nat.le_refl _) (Nat.le_refl _) VS VS (fun j hj=>?_) (fun j hj=>?_)).mono ?_
  ·obtain⟨x,hx,-⟩:=getElem?_of_lt hj;rw[(hc j x hx).1,List.getD_eq_getElem?_getD,hx];rfl
  ·obtain⟨x,hx,-⟩:=getElem?_of_lt hj;rw[(hc' j x hx).1,List.getD_eq_getElem?_getD,hx];rfl
  rintro e w' ⟨rfl,q,rfl⟩;exact⟨by rw[List.take_length,List.take_length],below_drewN _ q⟩
 refine(Tryz.slices_Equal_string_lens a1 a2 l.length c1 m.length c2 w rD).mono ?_;rintro e w' ⟨rfl,rfl⟩;exact⟨by rw[decide_eq_false (fun h=>rD (by rw[h]))],Below.refl _ _⟩
def SsX(d:Nat):Prop:=∀(x y:Xp)(N N':Nat->Prop)(cx cy:List Value)(w:World),bI x<=d->aU N w x cx->aU N' w y cy->
 Calls Tryz.prog 31 #[.agg cx.toArray,.agg cy.toArray] w fun e w'=>e=.returned (.bool (jR x y))/\Below w.heap.size w w'
theorem sexps_of(a b:List Xp){d:Nat}(hD:SsX d)(hp:∀x∈a,bI x<=d){N N':Nat->Prop}{va vb:Value}{w:World}(ha:aO 6 aU N w va a)(hb:aO 6 aU N' w vb b):
  Calls Tryz.prog 90 #[va,vb,.func (.func 31) #[] #[]] w fun e w'=>e=.returned (.bool (eqL a b))/\Below w.heap.size w w':=by
 obtain⟨aa,ca,rfl,vD,vC,qB⟩:=ha.at;obtain⟨ab,cb,rfl,AV,FA,pK⟩:=hb.at;have HA:=zh qB;have HB:=zh pK;have HD:=zh hD;have BD:=zh hp;clear hD hp;clear qB pK ha hb;by_cases hl:a.length=b.length
 ·have HL:=zh hl;rw[<-hl] at AV ⊢;clear hl;go_enter Tryz.func90,Tryz.ntmps90;go_wp2_with fail;go_loopw [17] (fun iv wr=>∃q:Nat,q<=a.length/\iv=.int .i64 (q:Int)/\Hid (Below w.heap.size w wr)/\Hid (a.take q=b.take q)) (fun iv _=>a.length-(intOf iv).toNat)
  case atStart=>exact⟨0,Nat.zero_le _,rfl,zh (Below.refl _ _),zh rfl⟩
  case round=>
   obtain⟨q,hq,rfl,HW,HT⟩:=hrel;(rename World=>wr);by_cases pS:q<a.length
   ·obtain⟨x,hx,-⟩:=getElem?_of_lt pS;obtain⟨y,hy,-⟩:=getElem?_of_lt (show q<b.length by rw[<-HL.out];exact pS);have sL:(0:Int)<=(q:Int)/\(q:Int)<(a.length:Int):=VS;have HX:=zh hx;have HY:=zh hy;obtain⟨b1,o1,rfl,-,uG,qF,-,pO⟩:=HA.out q x hx;obtain⟨b2,o2,rfl,-,zA,rL,-,qL⟩:=HB.out q y hy;obtain⟨rW,n1,s1,m1,i1,j1,k1,u1,z1,t1,rfl⟩:=aZ qF;obtain⟨sH,n2,s2,m2,i2,j2,k2,u2,z2,t2,rfl⟩:=aZ rL;have rG:wr.cell? ⟨b1,o1+q*6,none⟩=_:=aB HW.out (pO 0 _ rfl);have rF:wr.cell? ⟨b1,o1+q*6+1,none⟩=_:=aB HW.out (pO 1 _ rfl);have rI:wr.cell? ⟨b1,o1+q*6+2,none⟩=_:=aB HW.out (pO 2 _ rfl);have sG:wr.cell? ⟨b1,o1+q*6+3,none⟩=_:=aB HW.out (pO 3 _ rfl);have sF:wr.cell? ⟨b1,o1+q*6+4,none⟩=_:=aB HW.out (pO 4 _ rfl);have sD:wr.cell? ⟨b1,o1+q*6+5,none⟩=_:=aB HW.out (pO 5 _ rfl);have vS:wr.cell? ⟨b2,o2+q*6,none⟩=_:=aB HW.out (qL 0 _ rfl);have vZ:wr.cell? ⟨b2,o2+q*6+1,none⟩=_:=aB HW.out (qL 1 _ rfl);have vY:wr.cell? ⟨b2,o2+q*6+2,none⟩=_:=aB HW.out (qL 2 _ rfl);have yO:wr.cell? ⟨b2,o2+q*6+3,none⟩=_:=aB HW.out (qL 3 _ rfl);have yN:wr.cell? ⟨b2,o2+q*6+4,none⟩=_:=aB HW.out (qL 4 _ rfl);have p25:wr.cell? ⟨b2,o2+q*6+5,none⟩=_:=aB HW.out (qL 5 _ rfl);have vE:=zh (fun W(hb:Below wr.heap.size wr W)=>HD.out x y N N' _ _ W (BD.out x (List.mem_of_getElem? hx)) (aG _ _ _ _ _ _ (aK.later (aA HW.out hb)) qF) (aG _ _ _ _ _ _ (aK.later (aA HW.out hb)) rL));have zQ:=zh (oP x y);clear pO qL hx hy qF rL;have qV:=zh (aC wr (aH rW n1 s1 m1 i1 j1 k1 u1 z1 t1));have rE:=zh (aA qV.out (aC (wr.alloc (aH rW n1 s1 m1 i1 j1 k1 u1 z1 t1)) (aH sH n2 s2 m2 i2 j2 k2 u2 z2 t2)));have t20:=aB qV.out vS;have t21:=aB qV.out vZ;have t22:=aB qV.out vY;have t23:=aB qV.out yO;have t24:=aB qV.out yN;have t25:=aB qV.out p25;have rZ:(wr.alloc (aH rW n1 s1 m1 i1 j1 k1 u1 z1 t1)).heap.size=wr.heap.size+1:=VY;have EY:=bY (wr.alloc (aH rW n1 s1 m1 i1 j1 k1 u1 z1 t1)) (aH sH n2 s2 m2 i2 j2 k2 u2 z2 t2);rw[rZ] at EY;obtain⟨⟨x0,x1,x2,x3,x4,x5⟩,-⟩:=bx6 (aD (aC (wr.alloc (aH rW n1 s1 m1 i1 j1 k1 u1 z1 t1)) (aH sH n2 s2 m2 i2 j2 k2 u2 z2 t2)) (bY wr (aH rW n1 s1 m1 i1 j1 k1 u1 z1 t1)));obtain⟨⟨y0,y1,y2,y3,y4,y5⟩,-⟩:=bx6 EY;clear EY;go_wp2_with fail;go_at_call 31;refine(vE.out _ rE.out).mono ?_;rintro e w8 ⟨rfl,qM⟩;have rR:=zh (aA HW.out (aA rE.out qM));generalize jR x y=sr at *
    cases sr with
    |true=>
     have uF:=zh (jF HX.out HY.out HT.out (zQ.out.1 rfl));exact SH
    |false=>
     exact TF
   exact SP
 have HE:Hid (eqL a b=false):=zh (dH (fun e=>hl (by rw[e])));have yF:((a.length:Int)==(b.length:Int))=false:=V7;go_enter Tryz.func90,Tryz.ntmps90;exact TQ
theorem sexp_step(d:Nat)(hD:SsX d):SsX (d+1):=by
 rintro⟨op,n,s,m,ns,xs⟩ ⟨op',n',s',m',ns',xs'⟩ N N' cx cy w hd hx hy;have hR:jR (.mk op n s m ns xs) (.mk op' n' s' m' ns' xs')=(decide (op=op')&&decide (n=n')&&decide (s=s')&&decide (m=m')&&decide (ns=ns')&&eG xs xs'):=by rw[jR]
 rw[aN] at hx hy;obtain⟨v1,v2,rfl,-,-,hn,ha⟩:=hx;obtain⟨v3,v4,rfl,-,-,zY,P3⟩:=hy;obtain⟨a1,c1,rfl,-⟩:=id hn;obtain⟨a2,c2,rfl,-⟩:=id ha;obtain⟨zB,xC,rfl,-⟩:=id zY;obtain⟨D2,BJ,rfl,-⟩:=id P3;have wJ:=aA (aC w (aH op n s m a1 ns.length c1 a2 xs.length c2)) (aC (w.alloc (aH op n s m a1 ns.length c1 a2 xs.length c2)) (aH op' n' s' m' zB ns'.length xC D2 xs'.length BJ));have pK:=zh wJ;have tK:=aD (aC (w.alloc (aH op n s m a1 ns.length c1 a2 xs.length c2)) (aH op' n' s' m' zB ns'.length xC D2 xs'.length BJ)) (bY w (aH op n s m a1 ns.length c1 a2 xs.length c2));have qX:=bY (w.alloc (aH op n s m a1 ns.length c1 a2 xs.length c2)) (aH op' n' s' m' zB ns'.length xC D2 xs'.length BJ);rw[show(w.alloc (aH op n s m a1 ns.length c1 a2 xs.length c2)).heap.size=w.heap.size+1 by simp] at qX;obtain⟨⟨x0,x1,x2,x3,x4,x5⟩,-⟩:=bx6 tK;obtain⟨⟨y0,y1,y2,y3,y4,y5⟩,-⟩:=bx6 qX;have pV:=zh tK;have qA:=zh qX;have HN:=zh (names_any ns ns' _ _ _ (hn.moves aT (aK.later wJ) VU).strs (zY.moves aT (aK.later wJ) VU).strs)
 have HE:=zh (fun W(hb:Below w.heap.size w W)=>sexps_of xs xs' hD (fun x hx=>by
  have h1:=iA xs x hx;rw[bI] at hd
  omega) (w:=W) (ha.moves aG (aK.later hb) VU) (P3.moves aG (aK.later hb) VU))
 have JY:Hid (eqL xs xs'=eG xs xs'):=zh (by
  by_cases h:xs=xs'
  ·rw[gQ h,(iD xs xs').2 h]
  rw[dH h];cases hq:eG xs xs' with
  |false=>rfl
  |true=>exact absurd ((iD xs xs').1 hq) h)
 have HSn:Hid (eqL ns ns'=decide (ns=ns')):=zh (by
  by_cases h:ns=ns'
  ·rw[gQ h,decide_eq_true h]
  rw[dH h,decide_eq_false h])
 clear hn ha zY P3 hD hd wJ tK qX;have HR:=zh hR;clear hR;generalize jR (.mk op n s m ns xs) (.mk op' n' s' m' ns' xs')=rr at *;rw[JY.out] at HE;rw[HSn.out] at HN;clear JY HSn;generalize eG xs xs'=q5 at *;generalize decide (ns=ns')=q4 at *;generalize ns.length=l1 at *;generalize ns'.length=l2 at *;generalize xs.length=l3 at *;generalize xs'.length=l4 at *;by_cases h1:op=op'
 ·subst h1;by_cases h2:n=n'
  ·subst h2;by_cases h3:s=s'
   ·subst h3;by_cases h4:m=m'
    ·subst h4;have sS:Hid (rr=(q4&&q5)):=zh WC;clear HR
     cases q4 with
     |false=>
      go_enter Tryz.func31,Tryz.ntmps31;go_wp2_with(go_at_call 89;refine HN.out.mono ?_;rintro e w3 ⟨rfl,pR⟩);go_ret;exact⟨aF X4,aA pK.out pR⟩
     |true=>
      go_enter Tryz.func31,Tryz.ntmps31;go_wp2_with(go_at_call 89;refine HN.out.mono ?_;rintro e w3 ⟨rfl,pR⟩;have qG:=zh (aA pK.out pR);obtain⟨⟨z0,z1,z2,z3,z4,z5⟩,-⟩:=bx6 (aD pR pV.out);obtain⟨⟨t0,t1,t2,t3,t4,t5⟩,-⟩:=bx6 (aD pR qA.out);clear pR);go_wp2_with(go_at_call 90;refine(HE.out w3 qG.out).mono ?_;rintro e w4 ⟨rfl,qE⟩);go_ret;exact⟨aF X4,aA qG.out qE⟩
    have g:(m.toList==m'.toList)=false:=iS h4;go_enter Tryz.func31,Tryz.ntmps31;go_wp2_with fail;go_ret;exact⟨aF (by rw[HR.out];simp[h4]),pK.out⟩
   have g:(s.toList==s'.toList)=false:=iS h3;go_enter Tryz.func31,Tryz.ntmps31;exact U7
  have g:(n==n')=false:=beq_eq_false_iff_ne.2 h2;go_enter Tryz.func31,Tryz.ntmps31;exact UJ
 have g:(op==op')=false:=beq_eq_false_iff_ne.2 h1;go_enter Tryz.func31,Tryz.ntmps31;exact TL
theorem ssX_all:∀d,SsX d
 |0=>fun x y N N' cx cy w h=>Y3
 |d+1=>sexp_step d (ssX_all d)
theorem sexp_any(x y:Xp){N N':Nat->Prop}{cx cy:List Value}{w:World}(hx:aU N w x cx)(hy:aU N' w y cy):
  Calls Tryz.prog 31 #[.agg cx.toArray,.agg cy.toArray] w fun e w'=>e=.returned (.bool (jR x y))/\Below w.heap.size w w':=ssX_all _ x y N N' cx cy w (Nat.le_refl _) hx hy
theorem sexps_any(a b:List Xp){N N':Nat->Prop}{va vb:Value}{w:World}(ha:aO 6 aU N w va a)(hb:aO 6 aU N' w vb b):
  Calls Tryz.prog 90 #[va,vb,.func (.func 31) #[] #[]] w fun e w'=>e=.returned (.bool (eqL a b))/\Below w.heap.size w w':=sexps_of a b (ssX_all _) (fun x hx=>iA a x hx) ha hb
def SsT(d:Nat):Prop:=∀(x y:Ty)(N N':Nat->Prop)(cx cy:List Value)(w:World),bL x<=d->eX N w x cx->eX N' w y cy->
 Calls Tryz.prog 32 #[.agg cx.toArray,.agg cy.toArray] w fun e w'=>e=.returned (.bool (iP x y))/\Below w.heap.size w w'
def SsF(d:Nat):Prop:=∀(x y:Fld)(N N':Nat->Prop)(cx cy:List Value)(w:World),bL x.2<=d->eH N w x cx->eH N' w y cy->
 Calls Tryz.prog 88 #[.agg cx.toArray,.agg cy.toArray] w fun e w'=>e=.returned (.bool (decide (x.1=y.1)&&iP x.2 y.2))/\Below w.heap.size w w'
theorem sfield_of(d:Nat)(hD:SsT d):SsF d:=by
 rintro⟨n1,x⟩ ⟨n2,y⟩ N N' cx cy w hd ⟨K0,rfl,-,qF⟩ ⟨ct2,rfl,-,rL⟩;obtain⟨k1,i1,j1,z1,rfl⟩:=cI qF;obtain⟨k2,i2,j2,z2,rfl⟩:=cI rL;have wJ:=aA (aC w (bZ n1 k1 i1 j1 z1)) (aC (w.alloc (bZ n1 k1 i1 j1 z1)) (bZ n2 k2 i2 j2 z2));have pK:=zh wJ;have tK:=aD (aC (w.alloc (bZ n1 k1 i1 j1 z1)) (bZ n2 k2 i2 j2 z2)) (bY w (bZ n1 k1 i1 j1 z1));have qX:=bY (w.alloc (bZ n1 k1 i1 j1 z1)) (bZ n2 k2 i2 j2 z2);rw[show(w.alloc (bZ n1 k1 i1 j1 z1)).heap.size=w.heap.size+1 by simp] at qX;obtain⟨⟨x0,x1,x2⟩,-⟩:=bx3 tK;obtain⟨⟨y0,y1,y2⟩,-⟩:=bx3 qX;have vE:=zh (hD x y N N' _ _ _ hd (cB _ _ _ _ _ _ (aK.later wJ) qF) (cB _ _ _ _ _ _ (aK.later wJ) rL));clear wJ tK qX qF rL hD hd;dsimp only;generalize iP x y=sr at *;by_cases h:n1=n2
 ·subst h;go_enter Tryz.func88,Tryz.ntmps88;go_wp2_with fail;go_at_call 32;refine vE.out.mono ?_;rintro e w3 ⟨rfl,pR⟩;go_wp2_with fail;go_ret;exact⟨aF VY,aA pK.out pR⟩
 have g:(n1.toList==n2.toList)=false:=iS h;go_enter Tryz.func88,Tryz.ntmps88;go_wp2_with fail;go_ret;exact⟨aF (by simp[h]),pK.out⟩
theorem sfields_of(a b:List Fld){d:Nat}(hD:SsF d)(hp:∀x∈a,bL x.2<=d){N N':Nat->Prop}{va vb:Value}{w:World}(ha:aO 3 eH N w va a)(hb:aO 3 eH N' w vb b):
  Calls Tryz.prog 87 #[va,vb,.func (.func 88) #[] #[]] w fun e w'=>e=.returned (.bool (eqL a b))/\Below w.heap.size w w':=by
 obtain⟨aa,ca,rfl,vD,vC,qB⟩:=ha.at;obtain⟨ab,cb,rfl,AV,FA,pK⟩:=hb.at;have HA:=zh qB;have HB:=zh pK;have HD:=zh hD;have BD:=zh hp;clear hD hp;clear qB pK ha hb;by_cases hl:a.length=b.length
 ·have HL:=zh hl;rw[<-hl] at AV ⊢;clear hl;go_enter Tryz.func87,Tryz.ntmps87;go_wp2_with fail;go_loopw [17] (fun iv wr=>∃q:Nat,q<=a.length/\iv=.int .i64 (q:Int)/\Hid (Below w.heap.size w wr)/\Hid (a.take q=b.take q)) (fun iv _=>a.length-(intOf iv).toNat)
  case atStart=>exact⟨0,Nat.zero_le _,rfl,zh (Below.refl _ _),zh rfl⟩
  case round=>
   obtain⟨q,hq,rfl,HW,HT⟩:=hrel;(rename World=>wr);by_cases pS:q<a.length
   ·obtain⟨x,hx,-⟩:=getElem?_of_lt pS;obtain⟨y,hy,-⟩:=getElem?_of_lt (show q<b.length by rw[<-HL.out];exact pS);have sL:(0:Int)<=(q:Int)/\(q:Int)<(a.length:Int):=VS;have HX:=zh hx;have HY:=zh hy;obtain⟨n1,x⟩:=x;obtain⟨n2,y⟩:=y;obtain⟨b1,o1,rfl,-,uG,qF,-,pO⟩:=HA.out q (n1,x) hx;obtain⟨b2,o2,rfl,-,zA,rL,-,qL⟩:=HB.out q (n2,y) hy;obtain⟨K0,rfl,-,ht1⟩:=id qF;obtain⟨ct2,rfl,-,ht2⟩:=id rL;obtain⟨k1,i1,j1,z1,rfl⟩:=cI ht1;obtain⟨k2,i2,j2,z2,rfl⟩:=cI ht2;dsimp only at pO qL;have rG:wr.cell? ⟨b1,o1+q*3,none⟩=_:=aB HW.out (pO 0 _ rfl);have rF:wr.cell? ⟨b1,o1+q*3+1,none⟩=_:=aB HW.out (pO 1 _ rfl);have rI:wr.cell? ⟨b1,o1+q*3+2,none⟩=_:=aB HW.out (pO 2 _ rfl);have vS:wr.cell? ⟨b2,o2+q*3,none⟩=_:=aB HW.out (qL 0 _ rfl);have vZ:wr.cell? ⟨b2,o2+q*3+1,none⟩=_:=aB HW.out (qL 1 _ rfl);have vY:wr.cell? ⟨b2,o2+q*3+2,none⟩=_:=aB HW.out (qL 2 _ rfl);have vE:=zh (fun W(hb:Below wr.heap.size wr W)=>HD.out (n1,x) (n2,y) N N' _ _ W (BD.out (n1,x) (List.mem_of_getElem? hx)) (aS _ _ _ _ _ _ (aK.later (aA HW.out hb)) qF) (aS _ _ _ _ _ _ (aK.later (aA HW.out hb)) rL));have zQ:Hid ((decide (n1=n2)&&iP x y)=true↔(n1,x)=(n2,y)):=zh (by rw[Bool.and_eq_true,decide_eq_true_eq,oQ,Prod.mk.injEq]);clear ht1 ht2;dsimp only at vE;clear pO qL hx hy qF rL;have qV:=zh (aC wr (bZ n1 k1 i1 j1 z1));have rE:=zh (aA qV.out (aC (wr.alloc (bZ n1 k1 i1 j1 z1)) (bZ n2 k2 i2 j2 z2)));have t20:=aB qV.out vS;have t21:=aB qV.out vZ;have t22:=aB qV.out vY;have rZ:(wr.alloc (bZ n1 k1 i1 j1 z1)).heap.size=wr.heap.size+1:=VY;have EY:=bY (wr.alloc (bZ n1 k1 i1 j1 z1)) (bZ n2 k2 i2 j2 z2);rw[rZ] at EY;obtain⟨⟨x0,x1,x2⟩,-⟩:=bx3 (aD (aC (wr.alloc (bZ n1 k1 i1 j1 z1)) (bZ n2 k2 i2 j2 z2)) (bY wr (bZ n1 k1 i1 j1 z1)));obtain⟨⟨y0,y1,y2⟩,-⟩:=bx3 EY;clear EY;go_wp2_with fail;go_at_call 88;refine(vE.out _ rE.out).mono ?_;rintro e w8 ⟨rfl,qM⟩;have rR:=zh (aA HW.out (aA rE.out qM));generalize (decide (n1=n2)&&iP x y)=sr at *
    cases sr with
    |true=>
     have uF:=zh (jF HX.out HY.out HT.out (zQ.out.1 rfl));exact SH
    |false=>
     exact TF
   exact SP
 have HE:Hid (eqL a b=false):=zh (dH (fun e=>hl (by rw[e])));have yF:((a.length:Int)==(b.length:Int))=false:=V7;go_enter Tryz.func87,Tryz.ntmps87;exact TQ
theorem stype_step(d:Nat)(hD:SsT d):SsT (d+1):=by
 rintro⟨k,fs⟩ ⟨k',fs'⟩ N N' cx cy w hd hx hy;have hR:iP (.mk k fs) (.mk k' fs')=(decide (k=k')&&eO fs fs'):=by rw[iP]
 rw[dY] at hx hy;obtain⟨v1,rfl,hn⟩:=hx;obtain⟨v2,rfl,zY⟩:=hy;obtain⟨a1,c1,rfl,-⟩:=id hn;obtain⟨zB,xC,rfl,-⟩:=id zY;have wJ:=aA (aC w (dT k a1 fs.length c1)) (aC (w.alloc (dT k a1 fs.length c1)) (dT k' zB fs'.length xC));have pK:=zh wJ;have tK:=aD (aC (w.alloc (dT k a1 fs.length c1)) (dT k' zB fs'.length xC)) (bY w (dT k a1 fs.length c1));have qX:=bY (w.alloc (dT k a1 fs.length c1)) (dT k' zB fs'.length xC);rw[show(w.alloc (dT k a1 fs.length c1)).heap.size=w.heap.size+1 by simp] at qX;obtain⟨⟨x0,x1⟩,-⟩:=bx2 tK;obtain⟨⟨y0,y1⟩,-⟩:=bx2 qX
 have HE:=zh (fun W(hb:Below w.heap.size w W)=>sfields_of fs fs' (sfield_of d hD) (fun x hx=>by
  have h1:=gO fs x hx;rw[bL] at hd
  omega) (w:=W) (hn.moves aS (aK.later hb) VU) (zY.moves aS (aK.later hb) VU))
 have JY:Hid (eqL fs fs'=eO fs fs'):=zh (lC fs fs');clear hn zY hD hd wJ tK qX;have HR:=zh hR;clear hR;generalize iP (.mk k fs) (.mk k' fs')=rr at *;rw[JY.out] at HE;clear JY;generalize eO fs fs'=q5 at *;generalize fs.length=l1 at *;generalize fs'.length=l2 at *;by_cases h1:k=k'
 ·subst h1;have sS:Hid (rr=q5):=zh WC;clear HR;go_enter Tryz.func32,Tryz.ntmps32;go_wp2_with(go_at_call 87;refine(HE.out _ pK.out).mono ?_;rintro e w3 ⟨rfl,pR⟩);go_ret;exact⟨aF (by rw[sS.out]),aA pK.out pR⟩
 have g:(k==k')=false:=beq_eq_false_iff_ne.2 h1;go_enter Tryz.func32,Tryz.ntmps32;exact TL
theorem ssT_all:∀d,SsT d
 |0=>fun x y N N' cx cy w h=>YX
 |d+1=>stype_step d (ssT_all d)
theorem stype_any(x y:Ty){N N':Nat->Prop}{cx cy:List Value}{w:World}(hx:eX N w x cx)(hy:eX N' w y cy):
  Calls Tryz.prog 32 #[.agg cx.toArray,.agg cy.toArray] w fun e w'=>e=.returned (.bool (iP x y))/\Below w.heap.size w w':=ssT_all _ x y N N' cx cy w (Nat.le_refl _) hx hy
theorem sfields_any(a b:List Fld){N N':Nat->Prop}{va vb:Value}{w:World}(ha:aO 3 eH N w va a)(hb:aO 3 eH N' w vb b):
  Calls Tryz.prog 87 #[va,vb,.func (.func 88) #[] #[]] w fun e w'=>e=.returned (.bool (eqL a b))/\Below w.heap.size w w':=sfields_of a b (sfield_of _ (ssT_all _)) (fun x hx=>gO a x hx) ha hb
theorem sfn_any(x y:Fnc){N N':Nat->Prop}{cx cy:List Value}{w:World}(hx:hO N w x cx)(hy:hO N' w y cy):
  Calls Tryz.prog 86 #[.agg cx.toArray,.agg cy.toArray] w fun e w'=>e=.returned (.bool (mY x y))/\Below w.heap.size w w':=by
 obtain⟨nm,pb,ps,rs,ef,bd⟩:=x;obtain⟨nm',pb',ps',rs',ef',bd'⟩:=y;have hR:mY ⟨nm,pb,ps,rs,ef,bd⟩ ⟨nm',pb',ps',rs',ef',bd'⟩=(decide (nm=nm')&&decide (pb=pb')&&eO ps ps'&&iP rs rs'&&decide (ef=ef')&&jR bd bd'):=rfl;obtain⟨vp,k,vf,op,n,s,m,vn,va,rfl,-,hp,ht,he⟩:=hx;obtain⟨a1,c1,rfl,-⟩:=id hp;obtain⟨kz,a2,l2,c2,ez⟩:=cI ht;cases ez;obtain⟨oz,nz,sz,mz,a3,l3,c3,a4,l4,c4,ez⟩:=aZ he;cases ez;obtain⟨vp',k',vf',op',n',s',m',vn',va',rfl,-,PC,O0,LX⟩:=hy;obtain⟨zB,xC,rfl,-⟩:=id PC;obtain⟨kz,D2,OT,BJ,ez⟩:=cI O0;cases ez;obtain⟨oz,nz,sz,mz,N8,OS,QE,N7,OR,QD,ez⟩:=aZ LX;cases ez;dsimp only at *;have wJ:=aA (aC w (dU nm pb a1 ps.length c1 k a2 l2 c2 ef op n s m a3 l3 c3 a4 l4 c4)) (aC (w.alloc (dU nm pb a1 ps.length c1 k a2 l2 c2 ef op n s m a3 l3 c3 a4 l4 c4)) (dU nm' pb' zB ps'.length xC k' D2 OT BJ ef' op' n' s' m' N8 OS QE N7 OR QD));have pK:=zh wJ;have tK:=aD (aC (w.alloc (dU nm pb a1 ps.length c1 k a2 l2 c2 ef op n s m a3 l3 c3 a4 l4 c4)) (dU nm' pb' zB ps'.length xC k' D2 OT BJ ef' op' n' s' m' N8 OS QE N7 OR QD)) (bY w (dU nm pb a1 ps.length c1 k a2 l2 c2 ef op n s m a3 l3 c3 a4 l4 c4));have qX:=bY (w.alloc (dU nm pb a1 ps.length c1 k a2 l2 c2 ef op n s m a3 l3 c3 a4 l4 c4)) (dU nm' pb' zB ps'.length xC k' D2 OT BJ ef' op' n' s' m' N8 OS QE N7 OR QD);rw[show(w.alloc (dU nm pb a1 ps.length c1 k a2 l2 c2 ef op n s m a3 l3 c3 a4 l4 c4)).heap.size=w.heap.size+1 by simp] at qX;obtain⟨⟨x0,x1,x2,x3,x4,x5,x6,x7,x8,x9,x10,x11⟩,-⟩:=cY tK;obtain⟨⟨y0,y1,y2,y3,y4,y5,y6,y7,y8,y9,NH,NG⟩,-⟩:=cY qX;have pV:=zh tK;have qA:=zh qX;have HP:=zh (fun W(hb:Below w.heap.size w W)=>sfields_any ps ps' (w:=W) (hp.moves aS (aK.later hb) VU) (PC.moves aS (aK.later hb) VU));have HT:=zh (fun W(hb:Below w.heap.size w W)=>stype_any rs rs' (w:=W) (cB _ _ _ _ _ _ (aK.later hb) ht) (cB _ _ _ _ _ _ (aK.later hb) O0));have HX:=zh (fun W(hb:Below w.heap.size w W)=>sexp_any bd bd' (w:=W) (aG _ _ _ _ _ _ (aK.later hb) he) (aG _ _ _ _ _ _ (aK.later hb) LX));have HR:=zh hR;clear hp ht he PC O0 LX tK qX wJ hR;rw[lC] at HP;generalize mY ⟨nm,pb,ps,rs,ef,bd⟩ ⟨nm',pb',ps',rs',ef',bd'⟩=rr at *;generalize eO ps ps'=q3 at *;generalize iP rs rs'=q4 at *;generalize jR bd bd'=q6 at *;generalize ps.length=l1 at *;generalize ps'.length=l1' at *;by_cases h1:nm=nm'
 ·subst h1;by_cases h2:pb=pb'
  ·subst h2;by_cases h3:ef=ef'
   ·subst h3;have sS:Hid (rr=(q3&&q4&&q6)):=zh WC;clear HR
    cases q3 with
    |false=>
     go_enter Tryz.func86,Tryz.ntmps86;go_wp2_with fail;go_at_call 87;refine(HP.out _ pK.out).mono ?_;rintro e w3 ⟨rfl,pR⟩;have pZ:=zh pR;have qG:=zh (aA pK.out pZ.out)
     (try clear z0 z1 z2 z3 z4 z5 z6 z7 z8 z9 z10 z11 t0 t1 t2 t3 t4 t5 t6 t7 t8 t9 zU zT)
     obtain⟨⟨z0,z1,z2,z3,z4,z5,z6,z7,z8,z9,z10,z11⟩,-⟩:=cY (aD pZ.out pV.out);obtain⟨⟨t0,t1,t2,t3,t4,t5,t6,t7,t8,t9,zU,zT⟩,-⟩:=cY (aD pZ.out qA.out);clear pR;go_wp2_with fail;go_ret;exact⟨aF X4,qG.out⟩
    |true=>
     cases q4 with
     |false=>
      go_enter Tryz.func86,Tryz.ntmps86;go_wp2_with fail;go_at_call 87;refine(HP.out _ pK.out).mono ?_;rintro e w3 ⟨rfl,pR⟩;have pZ:=zh pR;have qG:=zh (aA pK.out pZ.out)
      (try clear z0 z1 z2 z3 z4 z5 z6 z7 z8 z9 z10 z11 t0 t1 t2 t3 t4 t5 t6 t7 t8 t9 zU zT)
      obtain⟨⟨z0,z1,z2,z3,z4,z5,z6,z7,z8,z9,z10,z11⟩,-⟩:=cY (aD pZ.out pV.out);obtain⟨⟨t0,t1,t2,t3,t4,t5,t6,t7,t8,t9,zU,zT⟩,-⟩:=cY (aD pZ.out qA.out);clear pR;go_wp2_with fail;go_at_call 32;refine(HT.out _ qG.out).mono ?_;rintro e w4 ⟨rfl,qE⟩;have qK:=zh (aA pZ.out qE);have rB:=zh (aA pK.out qK.out)
      (try clear z0 z1 z2 z3 z4 z5 z6 z7 z8 z9 z10 z11 t0 t1 t2 t3 t4 t5 t6 t7 t8 t9 zU zT)
      obtain⟨⟨z0,z1,z2,z3,z4,z5,z6,z7,z8,z9,z10,z11⟩,-⟩:=cY (aD qK.out pV.out);obtain⟨⟨t0,t1,t2,t3,t4,t5,t6,t7,t8,t9,zU,zT⟩,-⟩:=cY (aD qK.out qA.out);clear qE;go_wp2_with fail;go_ret;exact⟨aF X4,rB.out⟩
     |true=>
      go_enter Tryz.func86,Tryz.ntmps86;go_wp2_with fail;go_at_call 87;refine(HP.out _ pK.out).mono ?_;rintro e w3 ⟨rfl,pR⟩;have pZ:=zh pR;have qG:=zh (aA pK.out pZ.out)
      (try clear z0 z1 z2 z3 z4 z5 z6 z7 z8 z9 z10 z11 t0 t1 t2 t3 t4 t5 t6 t7 t8 t9 zU zT)
      obtain⟨⟨z0,z1,z2,z3,z4,z5,z6,z7,z8,z9,z10,z11⟩,-⟩:=cY (aD pZ.out pV.out);obtain⟨⟨t0,t1,t2,t3,t4,t5,t6,t7,t8,t9,zU,zT⟩,-⟩:=cY (aD pZ.out qA.out);clear pR;go_wp2_with fail;go_at_call 32;refine(HT.out _ qG.out).mono ?_;rintro e w4 ⟨rfl,qE⟩;have qK:=zh (aA pZ.out qE);have rB:=zh (aA pK.out qK.out)
      (try clear z0 z1 z2 z3 z4 z5 z6 z7 z8 z9 z10 z11 t0 t1 t2 t3 t4 t5 t6 t7 t8 t9 zU zT)
      obtain⟨⟨z0,z1,z2,z3,z4,z5,z6,z7,z8,z9,z10,z11⟩,-⟩:=cY (aD qK.out pV.out);obtain⟨⟨t0,t1,t2,t3,t4,t5,t6,t7,t8,t9,zU,zT⟩,-⟩:=cY (aD qK.out qA.out);clear qE;go_wp2_with fail;go_at_call 31;refine(HX.out _ rB.out).mono ?_;rintro e w5 ⟨rfl,hb5⟩;have rM:=zh (aA qK.out hb5);have tH:=zh (aA pK.out rM.out)
      (try clear z0 z1 z2 z3 z4 z5 z6 z7 z8 z9 z10 z11 t0 t1 t2 t3 t4 t5 t6 t7 t8 t9 zU zT)
      obtain⟨⟨z0,z1,z2,z3,z4,z5,z6,z7,z8,z9,z10,z11⟩,-⟩:=cY (aD rM.out pV.out);obtain⟨⟨t0,t1,t2,t3,t4,t5,t6,t7,t8,t9,zU,zT⟩,-⟩:=cY (aD rM.out qA.out);clear hb5;go_wp2_with fail;go_ret;exact⟨aF W3,tH.out⟩
   have g:(ef==ef')=false:=beq_eq_false_iff_ne.2 h3;go_enter Tryz.func86,Tryz.ntmps86;exact U7
  have g:(pb==pb')=false:=beq_eq_false_iff_ne.2 h2;go_enter Tryz.func86,Tryz.ntmps86;exact UJ
 have g:(nm.toList==nm'.toList)=false:=iS h1;go_enter Tryz.func86,Tryz.ntmps86;exact TL
theorem sfns_any(a b:List Fnc){N N':Nat->Prop}{va vb:Value}{w:World}(ha:aO 12 hO N w va a)(hb:aO 12 hO N' w vb b):
  Calls Tryz.prog 91 #[va,vb,.func (.func 86) #[] #[]] w fun e w'=>e=.returned (.bool (eqL a b))/\Below w.heap.size w w':=by
 obtain⟨aa,ca,rfl,vD,vC,qB⟩:=ha.at;obtain⟨ab,cb,rfl,AV,FA,pK⟩:=hb.at;have HA:=zh qB;have HB:=zh pK;clear qB pK ha hb;by_cases hl:a.length=b.length
 ·have HL:=zh hl;rw[<-hl] at AV ⊢;clear hl;go_enter Tryz.func91,Tryz.ntmps91;go_wp2_with fail;go_loopw [17] (fun iv wr=>∃q:Nat,q<=a.length/\iv=.int .i64 (q:Int)/\Hid (Below w.heap.size w wr)/\Hid (a.take q=b.take q)) (fun iv _=>a.length-(intOf iv).toNat)
  case atStart=>exact⟨0,Nat.zero_le _,rfl,zh (Below.refl _ _),zh rfl⟩
  case round=>
   obtain⟨q,hq,rfl,HW,HT⟩:=hrel;(rename World=>wr);by_cases pS:q<a.length
   ·obtain⟨x,hx,-⟩:=getElem?_of_lt pS;obtain⟨y,hy,-⟩:=getElem?_of_lt (show q<b.length by rw[<-HL.out];exact pS);have sL:(0:Int)<=(q:Int)/\(q:Int)<(a.length:Int):=VS;have HX:=zh hx;have HY:=zh hy;obtain⟨b1,o1,rfl,-,uG,qF,-,pO⟩:=HA.out q x hx;obtain⟨b2,o2,rfl,-,zA,rL,-,qL⟩:=HB.out q y hy;obtain⟨vp1,k1,vf1,rW,n1,s1,m1,vn1,va1,rfl,-,hp,ht,EQ⟩:=id qF;obtain⟨ea1,ec1,rfl,-⟩:=id hp;obtain⟨kz,fa1,fl1,fc1,ez⟩:=cI ht;cases ez;obtain⟨oz,nz,sz,mz,na1,nl1,nc1,xa1,xl1,xc1,ez⟩:=aZ EQ;cases ez;clear hp ht EQ;obtain⟨vp2,k2,vf2,sH,n2,s2,m2,vn2,va2,rfl,-,hp,ht,EQ⟩:=id rL;obtain⟨ea2,ec2,rfl,-⟩:=id hp;obtain⟨kz,fa2,fl2,fc2,ez⟩:=cI ht;cases ez;obtain⟨oz,nz,sz,mz,na2,nl2,nc2,xa2,xl2,xc2,ez⟩:=aZ EQ;cases ez;clear hp ht EQ;have p1a:wr.cell? ⟨b1,o1+q*12,none⟩=_:=aB HW.out (pO 0 _ rfl);have p1b:wr.cell? ⟨b1,o1+q*12+1,none⟩=_:=aB HW.out (pO 1 _ rfl);have p1c:wr.cell? ⟨b1,o1+q*12+2,none⟩=_:=aB HW.out (pO 2 _ rfl);have p1d:wr.cell? ⟨b1,o1+q*12+3,none⟩=_:=aB HW.out (pO 3 _ rfl);have p1e:wr.cell? ⟨b1,o1+q*12+4,none⟩=_:=aB HW.out (pO 4 _ rfl);have p1f:wr.cell? ⟨b1,o1+q*12+5,none⟩=_:=aB HW.out (pO 5 _ rfl);have p1g:wr.cell? ⟨b1,o1+q*12+6,none⟩=_:=aB HW.out (pO 6 _ rfl);have p1h:wr.cell? ⟨b1,o1+q*12+7,none⟩=_:=aB HW.out (pO 7 _ rfl);have p1i:wr.cell? ⟨b1,o1+q*12+8,none⟩=_:=aB HW.out (pO 8 _ rfl);have p1j:wr.cell? ⟨b1,o1+q*12+9,none⟩=_:=aB HW.out (pO 9 _ rfl);have p1k:wr.cell? ⟨b1,o1+q*12+10,none⟩=_:=aB HW.out (pO 10 _ rfl);have p1l:wr.cell? ⟨b1,o1+q*12+11,none⟩=_:=aB HW.out (pO 11 _ rfl);have p2a:wr.cell? ⟨b2,o2+q*12,none⟩=_:=aB HW.out (qL 0 _ rfl);have p2b:wr.cell? ⟨b2,o2+q*12+1,none⟩=_:=aB HW.out (qL 1 _ rfl);have p2c:wr.cell? ⟨b2,o2+q*12+2,none⟩=_:=aB HW.out (qL 2 _ rfl);have p2d:wr.cell? ⟨b2,o2+q*12+3,none⟩=_:=aB HW.out (qL 3 _ rfl);have p2e:wr.cell? ⟨b2,o2+q*12+4,none⟩=_:=aB HW.out (qL 4 _ rfl);have p2f:wr.cell? ⟨b2,o2+q*12+5,none⟩=_:=aB HW.out (qL 5 _ rfl);have p2g:wr.cell? ⟨b2,o2+q*12+6,none⟩=_:=aB HW.out (qL 6 _ rfl);have p2h:wr.cell? ⟨b2,o2+q*12+7,none⟩=_:=aB HW.out (qL 7 _ rfl);have p2i:wr.cell? ⟨b2,o2+q*12+8,none⟩=_:=aB HW.out (qL 8 _ rfl);have p2j:wr.cell? ⟨b2,o2+q*12+9,none⟩=_:=aB HW.out (qL 9 _ rfl);have p2k:wr.cell? ⟨b2,o2+q*12+10,none⟩=_:=aB HW.out (qL 10 _ rfl);have p2l:wr.cell? ⟨b2,o2+q*12+11,none⟩=_:=aB HW.out (qL 11 _ rfl);have vE:=zh (fun W(hb:Below wr.heap.size wr W)=>sfn_any x y (w:=W) (bD _ _ _ _ _ _ (aK.later (aA HW.out hb)) qF) (bD _ _ _ _ _ _ (aK.later (aA HW.out hb)) rL));have zQ:=zh (sameFn_iff x y);clear pO qL hx hy qF rL;have qV:=zh (aC wr (dU x.name x.pub ea1 x.params.length ec1 k1 fa1 fl1 fc1 x.effects rW n1 s1 m1 na1 nl1 nc1 xa1 xl1 xc1));have rE:=zh (aA qV.out (aC (wr.alloc (dU x.name x.pub ea1 x.params.length ec1 k1 fa1 fl1 fc1 x.effects rW n1 s1 m1 na1 nl1 nc1 xa1 xl1 xc1)) (dU y.name y.pub ea2 y.params.length ec2 k2 fa2 fl2 fc2 y.effects sH n2 s2 m2 na2 nl2 nc2 xa2 xl2 xc2)));have t2a:=aB qV.out p2a;have t2b:=aB qV.out p2b;have t2c:=aB qV.out p2c;have t2d:=aB qV.out p2d;have t2e:=aB qV.out p2e;have t2f:=aB qV.out p2f;have t2g:=aB qV.out p2g;have t2h:=aB qV.out p2h;have t2i:=aB qV.out p2i;have t2j:=aB qV.out p2j;have t2k:=aB qV.out p2k;have t2l:=aB qV.out p2l;have rZ:(wr.alloc (dU x.name x.pub ea1 x.params.length ec1 k1 fa1 fl1 fc1 x.effects rW n1 s1 m1 na1 nl1 nc1 xa1 xl1 xc1)).heap.size=wr.heap.size+1:=VY;have EY:=bY (wr.alloc (dU x.name x.pub ea1 x.params.length ec1 k1 fa1 fl1 fc1 x.effects rW n1 s1 m1 na1 nl1 nc1 xa1 xl1 xc1)) (dU y.name y.pub ea2 y.params.length ec2 k2 fa2 fl2 fc2 y.effects sH n2 s2 m2 na2 nl2 nc2 xa2 xl2 xc2);rw[rZ] at EY;obtain⟨⟨x0,x1,x2,x3,x4,x5,x6,x7,x8,x9,x10,x11⟩,-⟩:=cY (aD (aC (wr.alloc (dU x.name x.pub ea1 x.params.length ec1 k1 fa1 fl1 fc1 x.effects rW n1 s1 m1 na1 nl1 nc1 xa1 xl1 xc1)) (dU y.name y.pub ea2 y.params.length ec2 k2 fa2 fl2 fc2 y.effects sH n2 s2 m2 na2 nl2 nc2 xa2 xl2 xc2)) (bY wr (dU x.name x.pub ea1 x.params.length ec1 k1 fa1 fl1 fc1 x.effects rW n1 s1 m1 na1 nl1 nc1 xa1 xl1 xc1)));obtain⟨⟨y0,y1,y2,y3,y4,y5,y6,y7,y8,y9,NH,NG⟩,-⟩:=cY EY;clear EY;go_wp2_with fail;go_at_call 86;refine(vE.out _ rE.out).mono ?_;rintro e w8 ⟨rfl,qM⟩;have rR:=zh (aA HW.out (aA rE.out qM));generalize mY x y=sr at *
    cases sr with
    |true=>
     have uF:=zh (jF HX.out HY.out HT.out (zQ.out.1 rfl));exact SH
    |false=>
     exact TF
   exact SP
 have HE:Hid (eqL a b=false):=zh (dH (fun e=>hl (by rw[e])));have yF:((a.length:Int)==(b.length:Int))=false:=V7;go_enter Tryz.func91,Tryz.ntmps91;exact TQ
theorem R1{p:Prop}(h:p:=by
 go_enter Tryz.func24,Tryz.ntmps24;go_wp2_with fail;go_at_call 89;refine(HU.out _ pK.out).mono ?_;rintro e w1 ⟨rfl,pN⟩;have pU:=zh pN;have qN:=zh (aA pK.out pU.out);clear pN;clear r0 r1 r2 r3 r4 r5 r6 r7 r8 s0 s1 s2 s3 s4 s5 s6 s7 s8;obtain⟨⟨r0,r1,r2,r3,r4,r5,r6,r7,r8⟩,-⟩:=bx9 (aD pU.out pV.out);obtain⟨⟨s0,s1,s2,s3,s4,s5,s6,s7,s8⟩,-⟩:=bx9 (aD pU.out qA.out);go_wp2_with fail;go_at_call 87;refine(HV.out _ qN.out).mono ?_;rintro e w2 ⟨rfl,pM⟩;have pX:=zh (aA pU.out pM);have pQ:=zh (aA pK.out pX.out);clear pM;clear r0 r1 r2 r3 r4 r5 r6 r7 r8 s0 s1 s2 s3 s4 s5 s6 s7 s8;obtain⟨⟨r0,r1,r2,r3,r4,r5,r6,r7,r8⟩,-⟩:=bx9 (aD pX.out pV.out);obtain⟨⟨s0,s1,s2,s3,s4,s5,s6,s7,s8⟩,-⟩:=bx9 (aD pX.out qA.out);go_wp2_with fail;go_at_call 90;refine(HI.out _ pQ.out).mono ?_;rintro e w3 ⟨rfl,pR⟩;have pZ:=zh (aA pX.out pR);have qG:=zh (aA pK.out pZ.out);clear pR;clear r0 r1 r2 r3 r4 r5 r6 r7 r8 s0 s1 s2 s3 s4 s5 s6 s7 s8;obtain⟨⟨r0,r1,r2,r3,r4,r5,r6,r7,r8⟩,-⟩:=bx9 (aD pZ.out pV.out);obtain⟨⟨s0,s1,s2,s3,s4,s5,s6,s7,s8⟩,-⟩:=bx9 (aD pZ.out qA.out);go_wp2_with fail;go_at_call 87;refine(HO.out _ qG.out).mono ?_;rintro e w4 ⟨rfl,qE⟩;have qK:=zh (aA pZ.out qE);have rB:=zh (aA pK.out qK.out);clear qE;clear r0 r1 r2 r3 r4 r5 r6 r7 r8 s0 s1 s2 s3 s4 s5 s6 s7 s8;obtain⟨⟨r0,r1,r2,r3,r4,r5,r6,r7,r8⟩,-⟩:=bx9 (aD qK.out pV.out);obtain⟨⟨s0,s1,s2,s3,s4,s5,s6,s7,s8⟩,-⟩:=bx9 (aD qK.out qA.out);go_wp2_with fail;go_at_call 90;refine(HF.out _ rB.out).mono ?_;rintro e w5 ⟨rfl,hb5⟩;have rM:=zh (aA qK.out hb5);have tH:=zh (aA pK.out rM.out);clear hb5;clear r0 r1 r2 r3 r4 r5 r6 r7 r8 s0 s1 s2 s3 s4 s5 s6 s7 s8;obtain⟨⟨r0,r1,r2,r3,r4,r5,r6,r7,r8⟩,-⟩:=bx9 (aD rM.out pV.out);obtain⟨⟨s0,s1,s2,s3,s4,s5,s6,s7,s8⟩,-⟩:=bx9 (aD rM.out qA.out);go_wp2_with fail;go_ret
 exact⟨aF WC,tH.out⟩):p:=h
theorem R3{p:Prop}(h:p:=by
 go_enter Tryz.func24,Tryz.ntmps24;go_wp2_with fail;go_at_call 89;refine(HU.out _ pK.out).mono ?_;rintro e w1 ⟨rfl,pN⟩;have pU:=zh pN;have qN:=zh (aA pK.out pU.out);clear pN;clear r0 r1 r2 r3 r4 r5 r6 r7 r8 s0 s1 s2 s3 s4 s5 s6 s7 s8;obtain⟨⟨r0,r1,r2,r3,r4,r5,r6,r7,r8⟩,-⟩:=bx9 (aD pU.out pV.out);obtain⟨⟨s0,s1,s2,s3,s4,s5,s6,s7,s8⟩,-⟩:=bx9 (aD pU.out qA.out);go_wp2_with fail;go_at_call 87;refine(HV.out _ qN.out).mono ?_;rintro e w2 ⟨rfl,pM⟩;have pX:=zh (aA pU.out pM);have pQ:=zh (aA pK.out pX.out);clear pM;clear r0 r1 r2 r3 r4 r5 r6 r7 r8 s0 s1 s2 s3 s4 s5 s6 s7 s8;obtain⟨⟨r0,r1,r2,r3,r4,r5,r6,r7,r8⟩,-⟩:=bx9 (aD pX.out pV.out);obtain⟨⟨s0,s1,s2,s3,s4,s5,s6,s7,s8⟩,-⟩:=bx9 (aD pX.out qA.out);go_wp2_with fail;go_at_call 90;refine(HI.out _ pQ.out).mono ?_;rintro e w3 ⟨rfl,pR⟩;have pZ:=zh (aA pX.out pR);have qG:=zh (aA pK.out pZ.out);clear pR;clear r0 r1 r2 r3 r4 r5 r6 r7 r8 s0 s1 s2 s3 s4 s5 s6 s7 s8;obtain⟨⟨r0,r1,r2,r3,r4,r5,r6,r7,r8⟩,-⟩:=bx9 (aD pZ.out pV.out);obtain⟨⟨s0,s1,s2,s3,s4,s5,s6,s7,s8⟩,-⟩:=bx9 (aD pZ.out qA.out);go_wp2_with fail;go_at_call 87;refine(HO.out _ qG.out).mono ?_;rintro e w4 ⟨rfl,qE⟩;have qK:=zh (aA pZ.out qE);have rB:=zh (aA pK.out qK.out);clear qE;clear r0 r1 r2 r3 r4 r5 r6 r7 r8 s0 s1 s2 s3 s4 s5 s6 s7 s8;obtain⟨⟨r0,r1,r2,r3,r4,r5,r6,r7,r8⟩,-⟩:=bx9 (aD qK.out pV.out);obtain⟨⟨s0,s1,s2,s3,s4,s5,s6,s7,s8⟩,-⟩:=bx9 (aD qK.out qA.out);go_wp2_with fail;go_at_call 90;refine(HF.out _ rB.out).mono ?_;rintro e w5 ⟨rfl,hb5⟩;have rM:=zh (aA qK.out hb5);have tH:=zh (aA pK.out rM.out);clear hb5;clear r0 r1 r2 r3 r4 r5 r6 r7 r8 s0 s1 s2 s3 s4 s5 s6 s7 s8;obtain⟨⟨r0,r1,r2,r3,r4,r5,r6,r7,r8⟩,-⟩:=bx9 (aD rM.out pV.out);obtain⟨⟨s0,s1,s2,s3,s4,s5,s6,s7,s8⟩,-⟩:=bx9 (aD rM.out qA.out);go_wp2_with fail;go_at_call 90;refine(HK.out _ tH.out).mono ?_;rintro e w6 ⟨rfl,rV⟩;have vJ:=zh (aA rM.out rV);have tZ:=zh (aA pK.out vJ.out);clear rV;clear r0 r1 r2 r3 r4 r5 r6 r7 r8 s0 s1 s2 s3 s4 s5 s6 s7 s8;obtain⟨⟨r0,r1,r2,r3,r4,r5,r6,r7,r8⟩,-⟩:=bx9 (aD vJ.out pV.out);obtain⟨⟨s0,s1,s2,s3,s4,s5,s6,s7,s8⟩,-⟩:=bx9 (aD vJ.out qA.out);go_wp2_with fail;go_at_call 91;refine(HN.out _ tZ.out).mono ?_;rintro e w7 ⟨rfl,uN⟩;have RN:=zh (aA vJ.out uN);have vK:=zh (aA pK.out RN.out);clear uN;clear r0 r1 r2 r3 r4 r5 r6 r7 r8 s0 s1 s2 s3 s4 s5 s6 s7 s8;obtain⟨⟨r0,r1,r2,r3,r4,r5,r6,r7,r8⟩,-⟩:=bx9 (aD RN.out pV.out);obtain⟨⟨s0,s1,s2,s3,s4,s5,s6,s7,s8⟩,-⟩:=bx9 (aD RN.out qA.out);go_wp2_with fail;go_ret
 exact⟨aF WC,vK.out⟩):p:=h
theorem R9{p:Prop}(h:p:=by
 go_enter Tryz.func24,Tryz.ntmps24;go_wp2_with fail;go_at_call 89;refine(HU.out _ pK.out).mono ?_;rintro e w1 ⟨rfl,pN⟩;have pU:=zh pN;have qN:=zh (aA pK.out pU.out);clear pN;clear r0 r1 r2 r3 r4 r5 r6 r7 r8 s0 s1 s2 s3 s4 s5 s6 s7 s8;obtain⟨⟨r0,r1,r2,r3,r4,r5,r6,r7,r8⟩,-⟩:=bx9 (aD pU.out pV.out);obtain⟨⟨s0,s1,s2,s3,s4,s5,s6,s7,s8⟩,-⟩:=bx9 (aD pU.out qA.out);go_wp2_with fail;go_at_call 87;refine(HV.out _ qN.out).mono ?_;rintro e w2 ⟨rfl,pM⟩;have pX:=zh (aA pU.out pM);have pQ:=zh (aA pK.out pX.out);clear pM;clear r0 r1 r2 r3 r4 r5 r6 r7 r8 s0 s1 s2 s3 s4 s5 s6 s7 s8;obtain⟨⟨r0,r1,r2,r3,r4,r5,r6,r7,r8⟩,-⟩:=bx9 (aD pX.out pV.out);obtain⟨⟨s0,s1,s2,s3,s4,s5,s6,s7,s8⟩,-⟩:=bx9 (aD pX.out qA.out);go_wp2_with fail;go_at_call 87;refine(HO.out _ pQ.out).mono ?_;rintro e w3 ⟨rfl,pR⟩;have pZ:=zh (aA pX.out pR);have qG:=zh (aA pK.out pZ.out);clear pR;clear r0 r1 r2 r3 r4 r5 r6 r7 r8 s0 s1 s2 s3 s4 s5 s6 s7 s8;obtain⟨⟨r0,r1,r2,r3,r4,r5,r6,r7,r8⟩,-⟩:=bx9 (aD pZ.out pV.out);obtain⟨⟨s0,s1,s2,s3,s4,s5,s6,s7,s8⟩,-⟩:=bx9 (aD pZ.out qA.out);go_wp2_with fail;go_at_call 90;refine(HF.out _ qG.out).mono ?_;rintro e w4 ⟨rfl,qE⟩;have qK:=zh (aA pZ.out qE);have rB:=zh (aA pK.out qK.out);clear qE;clear r0 r1 r2 r3 r4 r5 r6 r7 r8 s0 s1 s2 s3 s4 s5 s6 s7 s8;obtain⟨⟨r0,r1,r2,r3,r4,r5,r6,r7,r8⟩,-⟩:=bx9 (aD qK.out pV.out);obtain⟨⟨s0,s1,s2,s3,s4,s5,s6,s7,s8⟩,-⟩:=bx9 (aD qK.out qA.out);go_wp2_with fail;go_ret
 exact⟨aF WC,rB.out⟩):p:=h
theorem SA{p:Prop}(h:p:=by
 go_enter Tryz.func24,Tryz.ntmps24;go_wp2_with fail;go_at_call 89;refine(HU.out _ pK.out).mono ?_;rintro e w1 ⟨rfl,pN⟩;have pU:=zh pN;have qN:=zh (aA pK.out pU.out);clear pN;clear r0 r1 r2 r3 r4 r5 r6 r7 r8 s0 s1 s2 s3 s4 s5 s6 s7 s8;obtain⟨⟨r0,r1,r2,r3,r4,r5,r6,r7,r8⟩,-⟩:=bx9 (aD pU.out pV.out);obtain⟨⟨s0,s1,s2,s3,s4,s5,s6,s7,s8⟩,-⟩:=bx9 (aD pU.out qA.out);go_wp2_with fail;go_at_call 87;refine(HV.out _ qN.out).mono ?_;rintro e w2 ⟨rfl,pM⟩;have pX:=zh (aA pU.out pM);have pQ:=zh (aA pK.out pX.out);clear pM;clear r0 r1 r2 r3 r4 r5 r6 r7 r8 s0 s1 s2 s3 s4 s5 s6 s7 s8;obtain⟨⟨r0,r1,r2,r3,r4,r5,r6,r7,r8⟩,-⟩:=bx9 (aD pX.out pV.out);obtain⟨⟨s0,s1,s2,s3,s4,s5,s6,s7,s8⟩,-⟩:=bx9 (aD pX.out qA.out);go_wp2_with fail;go_at_call 90;refine(HI.out _ pQ.out).mono ?_;rintro e w3 ⟨rfl,pR⟩;have pZ:=zh (aA pX.out pR);have qG:=zh (aA pK.out pZ.out);clear pR;clear r0 r1 r2 r3 r4 r5 r6 r7 r8 s0 s1 s2 s3 s4 s5 s6 s7 s8;obtain⟨⟨r0,r1,r2,r3,r4,r5,r6,r7,r8⟩,-⟩:=bx9 (aD pZ.out pV.out);obtain⟨⟨s0,s1,s2,s3,s4,s5,s6,s7,s8⟩,-⟩:=bx9 (aD pZ.out qA.out);go_wp2_with fail;go_at_call 87;refine(HO.out _ qG.out).mono ?_;rintro e w4 ⟨rfl,qE⟩;have qK:=zh (aA pZ.out qE);have rB:=zh (aA pK.out qK.out);clear qE;clear r0 r1 r2 r3 r4 r5 r6 r7 r8 s0 s1 s2 s3 s4 s5 s6 s7 s8;obtain⟨⟨r0,r1,r2,r3,r4,r5,r6,r7,r8⟩,-⟩:=bx9 (aD qK.out pV.out);obtain⟨⟨s0,s1,s2,s3,s4,s5,s6,s7,s8⟩,-⟩:=bx9 (aD qK.out qA.out);go_wp2_with fail;go_ret
 exact⟨aF WC,rB.out⟩):p:=h
theorem SJ{p:Prop}(h:p:=by
 have g5:(mv==mv')=false:=beq_eq_false_iff_ne.2 h5;go_enter Tryz.func24,Tryz.ntmps24;go_wp2_with fail;go_at_call 89;refine(HU.out _ pK.out).mono ?_;rintro e w1 ⟨rfl,pN⟩;have pU:=zh pN;have qN:=zh (aA pK.out pU.out);clear pN;clear r0 r1 r2 r3 r4 r5 r6 r7 r8 s0 s1 s2 s3 s4 s5 s6 s7 s8;obtain⟨⟨r0,r1,r2,r3,r4,r5,r6,r7,r8⟩,-⟩:=bx9 (aD pU.out pV.out);obtain⟨⟨s0,s1,s2,s3,s4,s5,s6,s7,s8⟩,-⟩:=bx9 (aD pU.out qA.out);go_wp2_with fail;go_at_call 87;refine(HV.out _ qN.out).mono ?_;rintro e w2 ⟨rfl,pM⟩;have pX:=zh (aA pU.out pM);have pQ:=zh (aA pK.out pX.out);clear pM;clear r0 r1 r2 r3 r4 r5 r6 r7 r8 s0 s1 s2 s3 s4 s5 s6 s7 s8;obtain⟨⟨r0,r1,r2,r3,r4,r5,r6,r7,r8⟩,-⟩:=bx9 (aD pX.out pV.out);obtain⟨⟨s0,s1,s2,s3,s4,s5,s6,s7,s8⟩,-⟩:=bx9 (aD pX.out qA.out);go_wp2_with fail;go_at_call 90;refine(HI.out _ pQ.out).mono ?_;rintro e w3 ⟨rfl,pR⟩;have pZ:=zh (aA pX.out pR);have qG:=zh (aA pK.out pZ.out);clear pR;clear r0 r1 r2 r3 r4 r5 r6 r7 r8 s0 s1 s2 s3 s4 s5 s6 s7 s8;obtain⟨⟨r0,r1,r2,r3,r4,r5,r6,r7,r8⟩,-⟩:=bx9 (aD pZ.out pV.out);obtain⟨⟨s0,s1,s2,s3,s4,s5,s6,s7,s8⟩,-⟩:=bx9 (aD pZ.out qA.out);go_wp2_with fail;go_ret
 exact⟨aF (by rw[HR.out];simp[h5]),qG.out⟩):p:=h
theorem SK{p:Prop}(h:p:=by
 go_enter Tryz.func24,Tryz.ntmps24;go_wp2_with fail;go_at_call 89;refine(HU.out _ pK.out).mono ?_;rintro e w1 ⟨rfl,pN⟩;have pU:=zh pN;have qN:=zh (aA pK.out pU.out);clear pN;clear r0 r1 r2 r3 r4 r5 r6 r7 r8 s0 s1 s2 s3 s4 s5 s6 s7 s8;obtain⟨⟨r0,r1,r2,r3,r4,r5,r6,r7,r8⟩,-⟩:=bx9 (aD pU.out pV.out);obtain⟨⟨s0,s1,s2,s3,s4,s5,s6,s7,s8⟩,-⟩:=bx9 (aD pU.out qA.out);go_wp2_with fail;go_at_call 87;refine(HO.out _ qN.out).mono ?_;rintro e w2 ⟨rfl,pM⟩;have pX:=zh (aA pU.out pM);have pQ:=zh (aA pK.out pX.out);clear pM;clear r0 r1 r2 r3 r4 r5 r6 r7 r8 s0 s1 s2 s3 s4 s5 s6 s7 s8;obtain⟨⟨r0,r1,r2,r3,r4,r5,r6,r7,r8⟩,-⟩:=bx9 (aD pX.out pV.out);obtain⟨⟨s0,s1,s2,s3,s4,s5,s6,s7,s8⟩,-⟩:=bx9 (aD pX.out qA.out);go_wp2_with fail;go_at_call 90;refine(HF.out _ pQ.out).mono ?_;rintro e w3 ⟨rfl,pR⟩;have pZ:=zh (aA pX.out pR);have qG:=zh (aA pK.out pZ.out);clear pR;clear r0 r1 r2 r3 r4 r5 r6 r7 r8 s0 s1 s2 s3 s4 s5 s6 s7 s8;obtain⟨⟨r0,r1,r2,r3,r4,r5,r6,r7,r8⟩,-⟩:=bx9 (aD pZ.out pV.out);obtain⟨⟨s0,s1,s2,s3,s4,s5,s6,s7,s8⟩,-⟩:=bx9 (aD pZ.out qA.out);go_wp2_with fail;go_ret
 exact⟨aF WC,qG.out⟩):p:=h
theorem SS{p:Prop}(h:p:=by
 go_enter Tryz.func24,Tryz.ntmps24;go_wp2_with fail;go_at_call 87;refine(HO.out _ pK.out).mono ?_;rintro e w1 ⟨rfl,pN⟩;have pU:=zh pN;have qN:=zh (aA pK.out pU.out);clear pN;clear r0 r1 r2 r3 r4 r5 r6 r7 r8 s0 s1 s2 s3 s4 s5 s6 s7 s8;obtain⟨⟨r0,r1,r2,r3,r4,r5,r6,r7,r8⟩,-⟩:=bx9 (aD pU.out pV.out);obtain⟨⟨s0,s1,s2,s3,s4,s5,s6,s7,s8⟩,-⟩:=bx9 (aD pU.out qA.out);go_wp2_with fail;go_at_call 90;refine(HF.out _ qN.out).mono ?_;rintro e w2 ⟨rfl,pM⟩;have pX:=zh (aA pU.out pM);have pQ:=zh (aA pK.out pX.out);clear pM;clear r0 r1 r2 r3 r4 r5 r6 r7 r8 s0 s1 s2 s3 s4 s5 s6 s7 s8;obtain⟨⟨r0,r1,r2,r3,r4,r5,r6,r7,r8⟩,-⟩:=bx9 (aD pX.out pV.out);obtain⟨⟨s0,s1,s2,s3,s4,s5,s6,s7,s8⟩,-⟩:=bx9 (aD pX.out qA.out);go_wp2_with fail;go_ret
 exact⟨aF (by rw[HR.out];simp[h1]),pQ.out⟩):p:=h
theorem ssame_any(a b:Mdl){N N':Nat->Prop}{ca cb:List Value}{w:World}(ha:encM N w a ca)(hb:encM N' w b cb):
  Calls Tryz.prog 24 #[.agg ca.toArray,.agg cb.toArray] w fun e w'=>e=.returned (.bool (sameM a b))/\Below w.heap.size w w':=by
 obtain⟨nm,us,vs,is,fs,mv,os,fw,bk⟩:=a;obtain⟨nm',us',vs',is',fs',mv',os',fw',bk'⟩:=b;obtain⟨au,du,av,dv,ai,di,af,df,ao,do_,aw,dw,ab,db,rfl⟩:=pF ha;obtain⟨au',du',av',dv',ai',di',af',df',ao',do_',aw',dw',ab',db',rfl⟩:=pF hb;dsimp only at ha hb ⊢;obtain⟨h1,h2,h3,h4,h5,h6,h7⟩:=eD ha;obtain⟨L9,JT,QB,N3,QA,P9,L8⟩:=eD hb;dsimp only at h1 h2 h3 h4 h5 h6 h7 L9 JT QB N3 QA P9 L8;have hR:sameM ⟨nm,us,vs,is,fs,mv,os,fw,bk⟩ ⟨nm',us',vs',is',fs',mv',os',fw',bk'⟩=(gY fs fs'&&decide (nm=nm')&&decide (us=us')&&eO vs vs'&&eG is is'&&decide (mv=mv')&&eO os os'&&eG fw fw'&&eG bk bk'):=rfl;have HR:=zh hR;clear hR ha hb;have HU:=zh (fun W(hb:Below w.heap.size w W)=>names_any us us' _ _ W (h1.moves aT (aK.later hb) VU).strs (L9.moves aT (aK.later hb) VU).strs);have HV:=zh (fun W(hb:Below w.heap.size w W)=>sfields_any vs vs' (w:=W) (h2.moves aS (aK.later hb) VU) (JT.moves aS (aK.later hb) VU));have HI:=zh (fun W(hb:Below w.heap.size w W)=>sexps_any is is' (w:=W) (h3.moves aG (aK.later hb) VU) (QB.moves aG (aK.later hb) VU));have HO:=zh (fun W(hb:Below w.heap.size w W)=>sfields_any os os' (w:=W) (h5.moves aS (aK.later hb) VU) (QA.moves aS (aK.later hb) VU));have HF:=zh (fun W(hb:Below w.heap.size w W)=>sexps_any fw fw' (w:=W) (h6.moves aG (aK.later hb) VU) (P9.moves aG (aK.later hb) VU));have HK:=zh (fun W(hb:Below w.heap.size w W)=>sexps_any bk bk' (w:=W) (h7.moves aG (aK.later hb) VU) (L8.moves aG (aK.later hb) VU));have HN:=zh (fun W(hb:Below w.heap.size w W)=>sfns_any fs fs' (w:=W) (h4.moves bD (aK.later hb) VU) (N3.moves bD (aK.later hb) VU));rw[eqL_decide] at HU;rw[eqL_sameFns] at HN;rw[lC] at HV HO;rw[eqL_sameXs] at HI HF HK;have wJ:=aA (aC w (dX nm au us.length du av vs.length dv ai is.length di af fs.length df mv ao os.length do_ aw fw.length dw ab bk.length db)) (aC (w.alloc (dX nm au us.length du av vs.length dv ai is.length di af fs.length df mv ao os.length do_ aw fw.length dw ab bk.length db)) (dX nm' au' us'.length du' av' vs'.length dv' ai' is'.length di' af' fs'.length df' mv' ao' os'.length do_' aw' fw'.length dw' ab' bk'.length db'));have pK:=zh wJ;have tK:=aD (aC (w.alloc (dX nm au us.length du av vs.length dv ai is.length di af fs.length df mv ao os.length do_ aw fw.length dw ab bk.length db)) (dX nm' au' us'.length du' av' vs'.length dv' ai' is'.length di' af' fs'.length df' mv' ao' os'.length do_' aw' fw'.length dw' ab' bk'.length db')) (bY w (dX nm au us.length du av vs.length dv ai is.length di af fs.length df mv ao os.length do_ aw fw.length dw ab bk.length db));have qX:=bY (w.alloc (dX nm au us.length du av vs.length dv ai is.length di af fs.length df mv ao os.length do_ aw fw.length dw ab bk.length db)) (dX nm' au' us'.length du' av' vs'.length dv' ai' is'.length di' af' fs'.length df' mv' ao' os'.length do_' aw' fw'.length dw' ab' bk'.length db');rw[show(w.alloc (dX nm au us.length du av vs.length dv ai is.length di af fs.length df mv ao os.length do_ aw fw.length dw ab bk.length db)).heap.size=w.heap.size+1 by simp] at qX;obtain⟨⟨r0,r1,r2,r3,r4,r5,r6,r7,r8⟩,-⟩:=bx9 tK;obtain⟨⟨s0,s1,s2,s3,s4,s5,s6,s7,s8⟩,-⟩:=bx9 qX;have pV:=zh tK;have qA:=zh qX;clear h1 h2 h3 h4 h5 h6 h7 L9 JT QB N3 QA P9 L8 wJ tK qX;generalize sameM ⟨nm,us,vs,is,fs,mv,os,fw,bk⟩ ⟨nm',us',vs',is',fs',mv',os',fw',bk'⟩=rr at *;generalize gY fs fs'=qn at *;generalize decide (us=us')=qu at *;generalize eO vs vs'=qv at *;generalize eG is is'=qi at *;generalize eO os os'=qo at *;generalize eG fw fw'=qf at *;generalize eG bk bk'=qb at *;by_cases h1:nm=nm'
 ·subst h1
  cases qu with
  |false=>
   by_cases h5:mv=mv'
   ·subst h5
    cases qo with
    |false=>
     go_enter Tryz.func24,Tryz.ntmps24;go_wp2_with fail;go_at_call 89;refine(HU.out _ pK.out).mono ?_;rintro e w1 ⟨rfl,pN⟩;have pU:=zh pN;have qN:=zh (aA pK.out pU.out);clear pN;clear r0 r1 r2 r3 r4 r5 r6 r7 r8 s0 s1 s2 s3 s4 s5 s6 s7 s8;obtain⟨⟨r0,r1,r2,r3,r4,r5,r6,r7,r8⟩,-⟩:=bx9 (aD pU.out pV.out);obtain⟨⟨s0,s1,s2,s3,s4,s5,s6,s7,s8⟩,-⟩:=bx9 (aD pU.out qA.out);go_wp2_with fail;go_at_call 87;refine(HO.out _ qN.out).mono ?_;rintro e w2 ⟨rfl,pM⟩;have pX:=zh (aA pU.out pM);have pQ:=zh (aA pK.out pX.out);clear pM;clear r0 r1 r2 r3 r4 r5 r6 r7 r8 s0 s1 s2 s3 s4 s5 s6 s7 s8;obtain⟨⟨r0,r1,r2,r3,r4,r5,r6,r7,r8⟩,-⟩:=bx9 (aD pX.out pV.out);obtain⟨⟨s0,s1,s2,s3,s4,s5,s6,s7,s8⟩,-⟩:=bx9 (aD pX.out qA.out);go_wp2_with fail;go_ret;exact⟨aF WC,pQ.out⟩
    |true=>
     cases qf with
     |false=>
      exact SK
     |true=>
      exact SK
   have g5:(mv==mv')=false:=beq_eq_false_iff_ne.2 h5;go_enter Tryz.func24,Tryz.ntmps24;go_wp2_with fail;go_at_call 89;refine(HU.out _ pK.out).mono ?_;rintro e w1 ⟨rfl,pN⟩;have pU:=zh pN;have qN:=zh (aA pK.out pU.out);clear pN;clear r0 r1 r2 r3 r4 r5 r6 r7 r8 s0 s1 s2 s3 s4 s5 s6 s7 s8;obtain⟨⟨r0,r1,r2,r3,r4,r5,r6,r7,r8⟩,-⟩:=bx9 (aD pU.out pV.out);obtain⟨⟨s0,s1,s2,s3,s4,s5,s6,s7,s8⟩,-⟩:=bx9 (aD pU.out qA.out);go_wp2_with fail;go_ret;exact⟨aF (by rw[HR.out];simp[h5]),qN.out⟩
  |true=>
   cases qv with
   |false=>
    by_cases h5:mv=mv'
    ·subst h5
     cases qo with
     |false=>
      go_enter Tryz.func24,Tryz.ntmps24;go_wp2_with fail;go_at_call 89;refine(HU.out _ pK.out).mono ?_;rintro e w1 ⟨rfl,pN⟩;have pU:=zh pN;have qN:=zh (aA pK.out pU.out);clear pN;clear r0 r1 r2 r3 r4 r5 r6 r7 r8 s0 s1 s2 s3 s4 s5 s6 s7 s8;obtain⟨⟨r0,r1,r2,r3,r4,r5,r6,r7,r8⟩,-⟩:=bx9 (aD pU.out pV.out);obtain⟨⟨s0,s1,s2,s3,s4,s5,s6,s7,s8⟩,-⟩:=bx9 (aD pU.out qA.out);go_wp2_with fail;go_at_call 87;refine(HV.out _ qN.out).mono ?_;rintro e w2 ⟨rfl,pM⟩;have pX:=zh (aA pU.out pM);have pQ:=zh (aA pK.out pX.out);clear pM;clear r0 r1 r2 r3 r4 r5 r6 r7 r8 s0 s1 s2 s3 s4 s5 s6 s7 s8;obtain⟨⟨r0,r1,r2,r3,r4,r5,r6,r7,r8⟩,-⟩:=bx9 (aD pX.out pV.out);obtain⟨⟨s0,s1,s2,s3,s4,s5,s6,s7,s8⟩,-⟩:=bx9 (aD pX.out qA.out);go_wp2_with fail;go_at_call 87;refine(HO.out _ pQ.out).mono ?_;rintro e w3 ⟨rfl,pR⟩;have pZ:=zh (aA pX.out pR);have qG:=zh (aA pK.out pZ.out);clear pR;clear r0 r1 r2 r3 r4 r5 r6 r7 r8 s0 s1 s2 s3 s4 s5 s6 s7 s8;obtain⟨⟨r0,r1,r2,r3,r4,r5,r6,r7,r8⟩,-⟩:=bx9 (aD pZ.out pV.out);obtain⟨⟨s0,s1,s2,s3,s4,s5,s6,s7,s8⟩,-⟩:=bx9 (aD pZ.out qA.out);go_wp2_with fail;go_ret;exact⟨aF WC,qG.out⟩
     |true=>
      cases qf with
      |false=>
       exact R9
      |true=>
       exact R9
    have g5:(mv==mv')=false:=beq_eq_false_iff_ne.2 h5;go_enter Tryz.func24,Tryz.ntmps24;go_wp2_with fail;go_at_call 89;refine(HU.out _ pK.out).mono ?_;rintro e w1 ⟨rfl,pN⟩;have pU:=zh pN;have qN:=zh (aA pK.out pU.out);clear pN;clear r0 r1 r2 r3 r4 r5 r6 r7 r8 s0 s1 s2 s3 s4 s5 s6 s7 s8;obtain⟨⟨r0,r1,r2,r3,r4,r5,r6,r7,r8⟩,-⟩:=bx9 (aD pU.out pV.out);obtain⟨⟨s0,s1,s2,s3,s4,s5,s6,s7,s8⟩,-⟩:=bx9 (aD pU.out qA.out);go_wp2_with fail;go_at_call 87;refine(HV.out _ qN.out).mono ?_;rintro e w2 ⟨rfl,pM⟩;have pX:=zh (aA pU.out pM);have pQ:=zh (aA pK.out pX.out);clear pM;clear r0 r1 r2 r3 r4 r5 r6 r7 r8 s0 s1 s2 s3 s4 s5 s6 s7 s8;obtain⟨⟨r0,r1,r2,r3,r4,r5,r6,r7,r8⟩,-⟩:=bx9 (aD pX.out pV.out);obtain⟨⟨s0,s1,s2,s3,s4,s5,s6,s7,s8⟩,-⟩:=bx9 (aD pX.out qA.out);go_wp2_with fail;go_ret;exact⟨aF (by rw[HR.out];simp[h5]),pQ.out⟩
   |true=>
    cases qi with
    |false=>
     by_cases h5:mv=mv'
     ·subst h5
      cases qo with
      |false=>
       exact SA
      |true=>
       cases qf with
       |false=>
        exact R1
       |true=>
        exact R1
     exact SJ
    |true=>
     by_cases h5:mv=mv'
     ·subst h5
      cases qo with
      |false=>
       exact SA
      |true=>
       cases qf with
       |false=>
        exact R1
       |true=>
        cases qb with
        |false=>
         go_enter Tryz.func24,Tryz.ntmps24;go_wp2_with fail;go_at_call 89;refine(HU.out _ pK.out).mono ?_;rintro e w1 ⟨rfl,pN⟩;have pU:=zh pN;have qN:=zh (aA pK.out pU.out);clear pN;clear r0 r1 r2 r3 r4 r5 r6 r7 r8 s0 s1 s2 s3 s4 s5 s6 s7 s8;obtain⟨⟨r0,r1,r2,r3,r4,r5,r6,r7,r8⟩,-⟩:=bx9 (aD pU.out pV.out);obtain⟨⟨s0,s1,s2,s3,s4,s5,s6,s7,s8⟩,-⟩:=bx9 (aD pU.out qA.out);go_wp2_with fail;go_at_call 87;refine(HV.out _ qN.out).mono ?_;rintro e w2 ⟨rfl,pM⟩;have pX:=zh (aA pU.out pM);have pQ:=zh (aA pK.out pX.out);clear pM;clear r0 r1 r2 r3 r4 r5 r6 r7 r8 s0 s1 s2 s3 s4 s5 s6 s7 s8;obtain⟨⟨r0,r1,r2,r3,r4,r5,r6,r7,r8⟩,-⟩:=bx9 (aD pX.out pV.out);obtain⟨⟨s0,s1,s2,s3,s4,s5,s6,s7,s8⟩,-⟩:=bx9 (aD pX.out qA.out);go_wp2_with fail;go_at_call 90;refine(HI.out _ pQ.out).mono ?_;rintro e w3 ⟨rfl,pR⟩;have pZ:=zh (aA pX.out pR);have qG:=zh (aA pK.out pZ.out);clear pR;clear r0 r1 r2 r3 r4 r5 r6 r7 r8 s0 s1 s2 s3 s4 s5 s6 s7 s8;obtain⟨⟨r0,r1,r2,r3,r4,r5,r6,r7,r8⟩,-⟩:=bx9 (aD pZ.out pV.out);obtain⟨⟨s0,s1,s2,s3,s4,s5,s6,s7,s8⟩,-⟩:=bx9 (aD pZ.out qA.out);go_wp2_with fail;go_at_call 87;refine(HO.out _ qG.out).mono ?_;rintro e w4 ⟨rfl,qE⟩;have qK:=zh (aA pZ.out qE);have rB:=zh (aA pK.out qK.out);clear qE;clear r0 r1 r2 r3 r4 r5 r6 r7 r8 s0 s1 s2 s3 s4 s5 s6 s7 s8;obtain⟨⟨r0,r1,r2,r3,r4,r5,r6,r7,r8⟩,-⟩:=bx9 (aD qK.out pV.out);obtain⟨⟨s0,s1,s2,s3,s4,s5,s6,s7,s8⟩,-⟩:=bx9 (aD qK.out qA.out);go_wp2_with fail;go_at_call 90;refine(HF.out _ rB.out).mono ?_;rintro e w5 ⟨rfl,hb5⟩;have rM:=zh (aA qK.out hb5);have tH:=zh (aA pK.out rM.out);clear hb5;clear r0 r1 r2 r3 r4 r5 r6 r7 r8 s0 s1 s2 s3 s4 s5 s6 s7 s8;obtain⟨⟨r0,r1,r2,r3,r4,r5,r6,r7,r8⟩,-⟩:=bx9 (aD rM.out pV.out);obtain⟨⟨s0,s1,s2,s3,s4,s5,s6,s7,s8⟩,-⟩:=bx9 (aD rM.out qA.out);go_wp2_with fail;go_at_call 90;refine(HK.out _ tH.out).mono ?_;rintro e w6 ⟨rfl,rV⟩;have vJ:=zh (aA rM.out rV);have tZ:=zh (aA pK.out vJ.out);clear rV;clear r0 r1 r2 r3 r4 r5 r6 r7 r8 s0 s1 s2 s3 s4 s5 s6 s7 s8;obtain⟨⟨r0,r1,r2,r3,r4,r5,r6,r7,r8⟩,-⟩:=bx9 (aD vJ.out pV.out);obtain⟨⟨s0,s1,s2,s3,s4,s5,s6,s7,s8⟩,-⟩:=bx9 (aD vJ.out qA.out);go_wp2_with fail;go_ret;exact⟨aF WC,tZ.out⟩
        |true=>
         cases qn with
         |false=>
          exact R3
         |true=>
          exact R3
     exact SJ
 have g:(nm.toList==nm'.toList)=false:=iS h1;by_cases h5:mv=mv'
 ·subst h5
  cases qo with
  |false=>
   go_enter Tryz.func24,Tryz.ntmps24;go_wp2_with fail;go_at_call 87;refine(HO.out _ pK.out).mono ?_;rintro e w1 ⟨rfl,pN⟩;have pU:=zh pN;have qN:=zh (aA pK.out pU.out);clear pN;clear r0 r1 r2 r3 r4 r5 r6 r7 r8 s0 s1 s2 s3 s4 s5 s6 s7 s8;obtain⟨⟨r0,r1,r2,r3,r4,r5,r6,r7,r8⟩,-⟩:=bx9 (aD pU.out pV.out);obtain⟨⟨s0,s1,s2,s3,s4,s5,s6,s7,s8⟩,-⟩:=bx9 (aD pU.out qA.out);go_wp2_with fail;go_ret;exact⟨aF (by rw[HR.out];simp[h1]),qN.out⟩
  |true=>
   cases qf with
   |false=>
    exact SS
   |true=>
    exact SS
 have g5:(mv==mv')=false:=beq_eq_false_iff_ne.2 h5;go_enter Tryz.func24,Tryz.ntmps24;exact TL
end Go.Proofs.YtiionicikdnnpaaGreatDoor
