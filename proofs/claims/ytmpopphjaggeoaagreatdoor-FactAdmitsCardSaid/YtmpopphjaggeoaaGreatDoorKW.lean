/- Texts of this seat, joined. -/
import Derived.Test.YtmpopphjaggeoaaGreatDoorKU
import Derived.Test.YtmpopphjaggeoaaGreatDoorKV
set_option maxHeartbeats 16000000
set_option maxRecDepth 100000
set_option linter.unusedVariables false
set_option linter.unusedSimpArgs false
set_option linter.constructorNameAsVariable false
namespace Go.Proofs.YtmpopphjaggeoaaGreatDoor
open Go.RowKit
theorem AW{p:Prop}(h:p:=by
 cases sr with
 |true=>
  have pU:=zh (decide_cons HX.out HY.out HT.out (qJ.out.1 rfl));go_wp2_with fail;go_roundw;case rel=>exact⟨q+1,CL,CY,pL,pU⟩
  case measure=>simp[intOf];omega
 |false=>
  have HE:Hid (eqL a b=false):=zh (cG (take_ne HX.out HY.out (fun e=>by have:=qJ.out.2 e;cases this)));go_wp2_with fail;go_ret
  exact⟨aF EL,pL.out⟩):p:=h
theorem BC{p:Prop}(h:p:=by
 have tV:q=a.length:=CL;have HE:Hid (eqL a b=true):=zh (dW (take_full HL.out (by have h:=HT.out;rw[tV] at h;exact h)));go_wp2_with fail;go_ret
 exact⟨aF EL,HW.out⟩):p:=h
theorem BY{p:Prop}(h:p:=by
 go_wp2_with fail;go_ret
 exact⟨aF (by rw[HR.out];simp[h1]),jC.out⟩):p:=h
theorem BZ{p:Prop}(h:p:=by
 go_wp2_with fail;go_ret
 exact⟨aF EL,Below.refl _ _⟩):p:=h
theorem names_any(l m:List bA)(v u:Value)(w:World)(hl:Strs w v l)(hm:Strs w u m):
  Calls Tryz.prog 124 #[v,u] w fun e w'=>e=.returned (.bool (eqL l m))/\Below w.heap.size w w':=by
 rw[eqL_decide];obtain⟨a1,c1,rfl⟩:=strs_slice hl;obtain⟨a2,c2,rfl⟩:=strs_slice hm;by_cases kS:l.length=m.length
 ·rcases hl.cases with⟨rfl,-⟩|⟨b,o,c,e,h0,h1,h2,-,hc⟩
  ·have e:m=[]:=List.eq_nil_of_length_eq_zero (by simpa using kS.symm);subst e;refine(Tryz.slices_Equal_string_empty a1 a2 c1 0 c2 w CL).mono ?_;rintro e w' ⟨rfl,rfl⟩;exact⟨CU,Below.refl _ _⟩
  rcases hm.cases with⟨rfl,-⟩|⟨b',o',c',e',h0',h1',h2',-,jS⟩
  ·simp at kS;rw[kS] at h0;simp at h0
  obtain⟨rfl,rfl⟩:a1=some ⟨b,o,none⟩/\c1=c:=by injection e with e1 e2 e3;exact⟨e1,e3⟩
  obtain⟨rfl,rfl⟩:a2=some ⟨b',o',none⟩/\c2=c':=by injection e' with e1 e2 e3;exact⟨e1,e3⟩
  refine(Tryz.slices_Equal_string b o l.length c1 b' o' m.length c2 l m w (Nat.le_refl _) (Nat.le_refl _) CL CL (fun j hj=>?_) (fun j hj=>?_)).mono ?_
  ·obtain⟨x,hx,-⟩:=getElem?_of_lt hj;rw[(hc j x hx).1,List.getD_eq_getElem?_getD,hx];rfl
  ·obtain⟨x,hx,-⟩:=getElem?_of_lt hj;rw[(jS j x hx).1,List.getD_eq_getElem?_getD,hx];rfl
  rintro e w' ⟨rfl,q,rfl⟩;exact⟨by rw[List.take_length,List.take_length],below_drewN _ q⟩
 refine(Tryz.slices_Equal_string_lens a1 a2 l.length c1 m.length c2 w kS).mono ?_;rintro e w' ⟨rfl,rfl⟩;exact⟨by rw[decide_eq_false (fun h=>kS (by rw[h]))],Below.refl _ _⟩
def SsX(d:Nat):Prop:=∀(x y:Xp)(N N':Nat->Prop)(cx cy:List Value)(w:World),gT x<=d->wX N w x cx->wX N' w y cy->
 Calls Tryz.prog 71 #[.agg cx.toArray,.agg cy.toArray] w fun e w'=>e=.returned (.bool (hZ x y))/\Below w.heap.size w w'
theorem sexps_of(a b:List Xp){d:Nat}(hD:SsX d)(hp:∀x∈a,gT x<=d){N N':Nat->Prop}{va vb:Value}{w:World}(ha:aK 6 wX N w va a)(hb:aK 6 wX N' w vb b):
  Calls Tryz.prog 125 #[va,vb,.func (.func 71) #[] #[]] w fun e w'=>e=.returned (.bool (eqL a b))/\Below w.heap.size w w':=by
 obtain⟨aa,ca,rfl,la1,la2,jF⟩:=ha.at;obtain⟨ab,cb,rfl,lb1,lb2,jC⟩:=hb.at;have HA:=zh jF;have HB:=zh jC;have HD:=zh hD;have HDp:=zh hp;clear hD hp;clear jF jC ha hb;by_cases hl:a.length=b.length
 ·have HL:=zh hl;rw[<-hl] at lb1 ⊢;clear hl;go_enter Tryz.func125,Tryz.ntmps125;go_wp2_with fail;go_loopw [17] (fun iv wr=>∃q:Nat,q<=a.length/\iv=.int .i64 (q:Int)/\Hid (Below w.heap.size w wr)/\Hid (a.take q=b.take q)) (fun iv _=>a.length-(intOf iv).toNat)
  case atStart=>exact⟨0,Nat.zero_le _,rfl,zh (Below.refl _ _),zh rfl⟩
  case round=>
   obtain⟨q,hq,rfl,HW,HT⟩:=hrel;(rename World=>wr);by_cases jL:q<a.length
   ·obtain⟨x,hx,-⟩:=getElem?_of_lt jL;obtain⟨y,hy,-⟩:=getElem?_of_lt (show q<b.length by rw[<-HL.out];exact jL);have tM:(0:Int)<=(q:Int)/\(q:Int)<(a.length:Int):=CL;have HX:=zh hx;have HY:=zh hy;obtain⟨b1,o1,rfl,-,zU,oM,-,mX⟩:=HA.out q x hx;obtain⟨b2,o2,rfl,-,zT,sD,-,pX⟩:=HB.out q y hy;obtain⟨jM,n1,s1,m1,i1,j1,k1,u1,z1,t1,rfl⟩:=bI oM;obtain⟨qR,n2,s2,m2,i2,j2,k2,u2,z2,t2,rfl⟩:=bI sD;have p10:wr.cell? ⟨b1,o1+q*6,none⟩=_:=aD HW.out (mX 0 _ rfl);have p11:wr.cell? ⟨b1,o1+q*6+1,none⟩=_:=aD HW.out (mX 1 _ rfl);have p12:wr.cell? ⟨b1,o1+q*6+2,none⟩=_:=aD HW.out (mX 2 _ rfl);have p13:wr.cell? ⟨b1,o1+q*6+3,none⟩=_:=aD HW.out (mX 3 _ rfl);have p14:wr.cell? ⟨b1,o1+q*6+4,none⟩=_:=aD HW.out (mX 4 _ rfl);have p15:wr.cell? ⟨b1,o1+q*6+5,none⟩=_:=aD HW.out (mX 5 _ rfl);have p20:wr.cell? ⟨b2,o2+q*6,none⟩=_:=aD HW.out (pX 0 _ rfl);have p21:wr.cell? ⟨b2,o2+q*6+1,none⟩=_:=aD HW.out (pX 1 _ rfl);have p22:wr.cell? ⟨b2,o2+q*6+2,none⟩=_:=aD HW.out (pX 2 _ rfl);have p23:wr.cell? ⟨b2,o2+q*6+3,none⟩=_:=aD HW.out (pX 3 _ rfl);have p24:wr.cell? ⟨b2,o2+q*6+4,none⟩=_:=aD HW.out (pX 4 _ rfl);have p25:wr.cell? ⟨b2,o2+q*6+5,none⟩=_:=aD HW.out (pX 5 _ rfl);have yD:=zh (fun W(hb:Below wr.heap.size wr W)=>HD.out x y N N' _ _ W (HDp.out x (List.mem_of_getElem? hx)) (gV _ _ _ _ _ _ (aM.later (aA HW.out hb)) oM) (gV _ _ _ _ _ _ (aM.later (aA HW.out hb)) sD));have qJ:=zh (sameX_iff x y);clear mX pX hx hy oM sD;have jN:=zh (aB wr (.cells #[.int .i64 jM,.int .i64 n1,.string s1,.string m1,.slice i1 j1 k1,.slice u1 z1 t1] 32));have qU:=zh (aA jN.out (aB (wr.alloc (.cells #[.int .i64 jM,.int .i64 n1,.string s1,.string m1,.slice i1 j1 k1,.slice u1 z1 t1] 32)) (.cells #[.int .i64 qR,.int .i64 n2,.string s2,.string m2,.slice i2 j2 k2,.slice u2 z2 t2] 32)));have t20:=aD jN.out p20;have t21:=aD jN.out p21;have t22:=aD jN.out p22;have t23:=aD jN.out p23;have t24:=aD jN.out p24;have t25:=aD jN.out p25;have lE:(wr.alloc (.cells #[.int .i64 jM,.int .i64 n1,.string s1,.string m1,.slice i1 j1 k1,.slice u1 z1 t1] 32)).heap.size=wr.heap.size+1:=CU;have qV:=bY (wr.alloc (.cells #[.int .i64 jM,.int .i64 n1,.string s1,.string m1,.slice i1 j1 k1,.slice u1 z1 t1] 32)) (.cells #[.int .i64 qR,.int .i64 n2,.string s2,.string m2,.slice i2 j2 k2,.slice u2 z2 t2] 32);rw[lE] at qV;obtain⟨⟨x0,x1,x2,x3,x4,x5⟩,-⟩:=bx6 (aC (aB (wr.alloc (.cells #[.int .i64 jM,.int .i64 n1,.string s1,.string m1,.slice i1 j1 k1,.slice u1 z1 t1] 32)) (.cells #[.int .i64 qR,.int .i64 n2,.string s2,.string m2,.slice i2 j2 k2,.slice u2 z2 t2] 32)) (bY wr (.cells #[.int .i64 jM,.int .i64 n1,.string s1,.string m1,.slice i1 j1 k1,.slice u1 z1 t1] 32)));obtain⟨⟨y0,y1,y2,y3,y4,y5⟩,-⟩:=bx6 qV;clear qV;go_wp2_with fail;go_at_call 71;refine(yD.out _ qU.out).mono ?_;rintro e w8 ⟨rfl,rD⟩;have pL:=zh (aA HW.out (aA qU.out rD));generalize hZ x y=sr at *;exact AW
   exact BC
 have HE:Hid (eqL a b=false):=zh (cG (fun e=>hl (by rw[e])));have tO:((a.length:Int)==(b.length:Int))=false:=DH;go_enter Tryz.func125,Tryz.ntmps125;exact BZ
theorem sexp_step(d:Nat)(hD:SsX d):SsX (d+1):=by
 rintro⟨op,n,s,m,ns,xs⟩ ⟨op',n',s',m',ns',xs'⟩ N N' cx cy w hd hx hy;have hR:hZ (.mk op n s m ns xs) (.mk op' n' s' m' ns' xs')=(decide (op=op')&&decide (n=n')&&decide (s=s')&&decide (m=m')&&decide (ns=ns')&&gL xs xs'):=by rw[hZ]
 rw[wX_iff] at hx hy;obtain⟨v1,v2,rfl,-,-,hn,ha⟩:=hx;obtain⟨v3,v4,rfl,-,-,zA,wN⟩:=hy;obtain⟨a1,c1,rfl,-⟩:=id hn;obtain⟨a2,c2,rfl,-⟩:=id ha;obtain⟨xV,xT,rfl,-⟩:=id zA;obtain⟨tQ,sS,rfl,-⟩:=id wN;have sQ:=aA (aB w (.cells #[.int .i64 op,.int .i64 n,.string s,.string m,.slice a1 ns.length c1,.slice a2 xs.length c2] 32)) (aB (w.alloc (.cells #[.int .i64 op,.int .i64 n,.string s,.string m,.slice a1 ns.length c1,.slice a2 xs.length c2] 32)) (.cells #[.int .i64 op',.int .i64 n',.string s',.string m',.slice xV ns'.length xT,.slice tQ xs'.length sS] 32));have jC:=zh sQ;have iM:=aC (aB (w.alloc (.cells #[.int .i64 op,.int .i64 n,.string s,.string m,.slice a1 ns.length c1,.slice a2 xs.length c2] 32)) (.cells #[.int .i64 op',.int .i64 n',.string s',.string m',.slice xV ns'.length xT,.slice tQ xs'.length sS] 32)) (bY w (.cells #[.int .i64 op,.int .i64 n,.string s,.string m,.slice a1 ns.length c1,.slice a2 xs.length c2] 32));have jH:=bY (w.alloc (.cells #[.int .i64 op,.int .i64 n,.string s,.string m,.slice a1 ns.length c1,.slice a2 xs.length c2] 32)) (.cells #[.int .i64 op',.int .i64 n',.string s',.string m',.slice xV ns'.length xT,.slice tQ xs'.length sS] 32);rw[show(w.alloc (.cells #[.int .i64 op,.int .i64 n,.string s,.string m,.slice a1 ns.length c1,.slice a2 xs.length c2] 32)).heap.size=w.heap.size+1 by simp] at jH;obtain⟨⟨x0,x1,x2,x3,x4,x5⟩,-⟩:=bx6 iM;obtain⟨⟨y0,y1,y2,y3,y4,y5⟩,-⟩:=bx6 jH;have HXh:=zh iM;have HYh:=zh jH;have HN:=zh (names_any ns ns' _ _ _ (hn.moves aT (aM.later sQ) CQ).strs (zA.moves aT (aM.later sQ) CQ).strs)
 have HE:=zh (fun W(hb:Below w.heap.size w W)=>sexps_of xs xs' hD (fun x hx=>by
  have h1:=depthXs_mem xs x hx;rw[gT] at hd
  omega) (w:=W) (ha.moves gV (aM.later hb) CQ) (wN.moves gV (aM.later hb) CQ))
 have HSe:Hid (eqL xs xs'=gL xs xs'):=zh (by
  by_cases h:xs=xs'
  ·rw[dW h,(sameXs_iff xs xs').2 h]
  rw[cG h];cases hq:gL xs xs' with
  |false=>rfl
  |true=>exact absurd ((sameXs_iff xs xs').1 hq) h)
 have HSn:Hid (eqL ns ns'=decide (ns=ns')):=zh (by
  by_cases h:ns=ns'
  ·rw[dW h,decide_eq_true h]
  rw[cG h,decide_eq_false h])
 clear hn ha zA wN hD hd sQ iM jH;have HR:=zh hR;clear hR;generalize hZ (.mk op n s m ns xs) (.mk op' n' s' m' ns' xs')=rr at *;rw[HSe.out] at HE;rw[HSn.out] at HN;clear HSe HSn;generalize gL xs xs'=q5 at *;generalize decide (ns=ns')=q4 at *;generalize ns.length=l1 at *;generalize ns'.length=l2 at *;generalize xs.length=l3 at *;generalize xs'.length=l4 at *;by_cases h1:op=op'
 ·subst h1;by_cases h2:n=n'
  ·subst h2;by_cases h3:s=s'
   ·subst h3;by_cases h4:m=m'
    ·subst h4;have oI:Hid (rr=(q4&&q5)):=zh D5;clear HR
     cases q4 with
     |false=>
      go_enter Tryz.func71,Tryz.ntmps71;go_wp2_with(go_at_call 124;refine HN.out.mono ?_;rintro e w3 ⟨rfl,kW⟩);go_ret;exact⟨aF (by rw[oI.out];rfl),aA jC.out kW⟩
     |true=>
      go_enter Tryz.func71,Tryz.ntmps71;go_wp2_with(go_at_call 124;refine HN.out.mono ?_;rintro e w3 ⟨rfl,kW⟩;have kG:=zh (aA jC.out kW);obtain⟨⟨z0,z1,z2,z3,z4,z5⟩,-⟩:=bx6 (aC kW HXh.out);obtain⟨⟨t0,t1,t2,t3,t4,t5⟩,-⟩:=bx6 (aC kW HYh.out);clear kW);go_wp2_with(go_at_call 125;refine(HE.out w3 kG.out).mono ?_;rintro e w4 ⟨rfl,pT⟩);go_ret;exact⟨aF (by rw[oI.out];rfl),aA kG.out pT⟩
    have g:(m.toList==m'.toList)=false:=cO h4;go_enter Tryz.func71,Tryz.ntmps71;go_wp2_with fail;go_ret;exact⟨aF (by rw[HR.out];simp[h4]),jC.out⟩
   have g:(s.toList==s'.toList)=false:=cO h3;go_enter Tryz.func71,Tryz.ntmps71;go_wp2_with fail;go_ret;exact⟨aF (by rw[HR.out];simp[h3]),jC.out⟩
  have g:(n==n')=false:=beq_eq_false_iff_ne.2 h2;go_enter Tryz.func71,Tryz.ntmps71;go_wp2_with fail;go_ret;exact⟨aF (by rw[HR.out];simp[h2]),jC.out⟩
 have g:(op==op')=false:=beq_eq_false_iff_ne.2 h1;go_enter Tryz.func71,Tryz.ntmps71;exact BY
theorem ssX_all:∀d,SsX d
 |0=>fun x y N N' cx cy w h=>by have:=depth_pos x;omega
 |d+1=>sexp_step d (ssX_all d)
theorem sexp_any(x y:Xp){N N':Nat->Prop}{cx cy:List Value}{w:World}(hx:wX N w x cx)(hy:wX N' w y cy):
  Calls Tryz.prog 71 #[.agg cx.toArray,.agg cy.toArray] w fun e w'=>e=.returned (.bool (hZ x y))/\Below w.heap.size w w':=ssX_all _ x y N N' cx cy w (Nat.le_refl _) hx hy
def verC(v:Ver):List Value:=[.int .i64 v.a,.int .i64 v.b,.int .i64 v.c]
def Sz(s:bA):Prop:=s.size<=140737488355328
def encVer(_:Nat->Prop)(_:World)(v:Ver)(cs:List Value):Prop:=cs=verC v
def aZ(_:Nat->Prop)(_:World)(r:Rng)(cs:List Value):Prop:=cs=verC r.lo++verC r.hi
def cQ(_:Nat->Prop)(_:World)(x:Int)(cs:List Value):Prop:=cs=[.int .i64 x]
theorem encVer_ok:cE encVer:=fun _ _ _ _ _ _ _ h=>h
theorem aS:cE aZ:=fun _ _ _ _ _ _ _ h=>h
theorem bG:cE cQ:=fun _ _ _ _ _ _ _ h=>h
theorem aK.ints{N:Nat->Prop}{w:World}{v:Value}{l:List Int}(h:aK 1 cQ N w v l):Ints w v l:=by
 exact B8
def cI(N:Nat->Prop)(w:World)(n:Nd)(cs:List Value):Prop:=
 ∃vr vf,cs=[.string n.name,vr,.int .i64 n.kind,.string n.whn,vf]/\Sz n.name/\Sz n.whn/\aK 6 aZ N w vr n.ranges/\aK 1 cH N w vf n.feats
theorem fC:cE cI:=fun _ _ _ _ _ _ hm ⟨vr,vf,h,h1,h2,h3,h4⟩=>⟨vr,vf,h,h1,h2,h3.moves aS hm CQ,h4.moves aT hm CQ⟩
def dN(N:Nat->Prop)(w:World)(f:Ft)(cs:List Value):Prop:=∃vi,cs=[.string f.name,vi]/\Sz f.name/\aK 1 cH N w vi f.implies
theorem encFt_ok:cE dN:=fun _ _ _ _ _ _ hm ⟨vi,h,h1,h2⟩=>⟨vi,h,h1,h2.moves aT hm CQ⟩
def rlC(r:Rl)(vn vf vp:Value):List Value:=[.string r.name,.int .i64 r.ver.a,.int .i64 r.ver.b,.int .i64 r.ver.c,.string r.source,vn,vf,vp,.string r.lic]
structure RlV (N:Nat->Prop) (w:World) (r:Rl) (vn vf vp:Value):Prop where
 name:Sz r.name
 source:Sz r.source
 lic:Sz r.lic
 needs:aK 5 cI N w vn r.needs
 feats:aK 2 dN N w vf r.feats
 plats:aK 1 cH N w vp r.plats
theorem RlV.moves{N N':Nat->Prop}{w w':World}{r:Rl}{vn vf vp:Value}(h:RlV N w r vn vf vp)(hm:aM N w N' w'):RlV N' w' r vn vf vp:=
 ⟨h.name,h.source,h.lic,h.needs.moves fC hm CQ,h.feats.moves encFt_ok hm CQ,h.plats.moves aT hm CQ⟩
theorem RlV.later{N:Nat->Prop}{w w':World}{r:Rl}{vn vf vp:Value}(h:RlV N w r vn vf vp)(hb:Below w.heap.size w w'):RlV N w' r vn vf vp:=h.moves (aM.later hb)
def adC(a:Ad)(vr:Value)(op n:Int)(s m:bA)(vs va:Value):List Value:=[.int .i64 a.id,.string a.name,vr,.string a.fn,.int .i64 op,.int .i64 n,.string s,.string m,vs,va]
structure AdV (N:Nat->Prop) (w:World) (a:Ad) (vr:Value) (op n:Int) (s m:bA) (vs va:Value):Prop where
 name:Sz a.name
 fn:Sz a.fn
 ranges:aK 6 aZ N w vr a.ranges
 cond:wX N w a.cond [.int .i64 op,.int .i64 n,.string s,.string m,vs,va]
theorem AdV.moves{N N':Nat->Prop}{w w':World}{a:Ad}{vr:Value}{op n:Int}{s m:bA}{vs va:Value}(h:AdV N w a vr op n s m vs va)(hm:aM N w N' w'):AdV N' w' a vr op n s m vs va:=
 ⟨h.name,h.fn,h.ranges.moves aS hm CQ,gV _ _ _ _ _ _ hm h.cond⟩
theorem AdV.later{N:Nat->Prop}{w w':World}{a:Ad}{vr:Value}{op n:Int}{s m:bA}{vs va:Value}(h:AdV N w a vr op n s m vs va)(hb:Below w.heap.size w w'):AdV N w' a vr op n s m vs va:=h.moves (aM.later hb)
structure FcP where
 vn:Value
 vf:Value
 vp:Value
 vr:Value
 op:Int
 n:Int
 s:bA
 m:bA
 vs:Value
 va:Value
 vk:Value
def fcC(f:Fc)(p:FcP):List Value:=
 [.int .i64 f.kind,.string f.name,.int .i64 f.ver.a,.int .i64 f.ver.b,.int .i64 f.ver.c,
  .string f.rel.name,.int .i64 f.rel.ver.a,.int .i64 f.rel.ver.b,.int .i64 f.rel.ver.c,.string f.rel.source,p.vn,p.vf,p.vp,.string f.rel.lic,
  .int .i64 f.adv.id,.string f.adv.name,p.vr,.string f.adv.fn,.int .i64 p.op,.int .i64 p.n,.string p.s,.string p.m,p.vs,p.va,
  p.vk,.int .i64 f.need,.int .i64 f.til,.int .i64 f.print,.int .i64 f.time]
structure FcV (N:Nat->Prop) (w:World) (f:Fc) (p:FcP):Prop where
 name:Sz f.name
 rel:RlV N w f.rel p.vn p.vf p.vp
 adv:AdV N w f.adv p.vr p.op p.n p.s p.m p.vs p.va
 keys:aK 1 cQ N w p.vk f.keys
theorem FcV.moves{N N':Nat->Prop}{w w':World}{f:Fc}{p:FcP}(h:FcV N w f p)(hm:aM N w N' w'):FcV N' w' f p:=⟨h.name,h.rel.moves hm,h.adv.moves hm,h.keys.moves bG hm CQ⟩
theorem FcV.later{N:Nat->Prop}{w w':World}{f:Fc}{p:FcP}(h:FcV N w f p)(hb:Below w.heap.size w w'):FcV N w' f p:=h.moves (aM.later hb)
def encFc(N:Nat->Prop)(w:World)(f:Fc)(cs:List Value):Prop:=∃p,cs=fcC f p/\FcV N w f p
theorem encFc_ok:cE encFc:=fun _ _ _ _ _ _ hm ⟨p,h,h1⟩=>⟨p,h,h1.moves hm⟩
end Go.Proofs.YtmpopphjaggeoaaGreatDoor
namespace Go.Proofs.YtmpopphjaggeoaaGreatDoor
open Go.RowKit Go.Sort
theorem bN{x:Int}(h1: -9223372036854775808<=x)(h2:x<=9223372036854775807):IntKind.i64.wrap x=x:=by
 simp only[IntKind.wrap_i64];omega
theorem bb5{w:World}{b:Nat}{x0 x1 x2 x3 x4:Value}{t:TypeId}(h:w.heap[b]? =some (.cells #[x0,x1,x2,x3,x4] t)):
  (w.cell? ⟨b,0,none⟩=some x0/\w.cell? ⟨b,1,none⟩=some x1/\w.cell? ⟨b,2,none⟩=some x2/\w.cell? ⟨b,3,none⟩=some x3/\w.cell? ⟨b,4,none⟩=some x4)/\True:=
 ⟨⟨(bx h 0 rfl).1,(bx h 1 rfl).1,(bx h 2 rfl).1,(bx h 3 rfl).1,(bx h 4 rfl).1⟩,trivial⟩
def Gw(w w':World):Prop:=∃q os,w'=grow (w.drewN q) os
theorem Gw.refl(w:World):Gw w w:=⟨0,#[],by simp[grow,World.drewN]⟩
theorem Gw.alloc{w w':World}(h:Gw w w')(o:Obj):Gw w (w'.alloc o):=by
 obtain⟨q,os,rfl⟩:=h;exact⟨q,os++#[o],by rw[alloc_eq_grow,grow_grow]⟩
theorem Gw.drew{w w':World}(h:Gw w w'):Gw w w'.drew:=by
 obtain⟨q,os,rfl⟩:=h;exact⟨q+1,os,rfl⟩
theorem below_dq(w:World)(q:Nat):Below w.heap.size w (w.drewN q):=⟨rfl,rfl,rfl,Nat.le_refl _,fun _ _=>rfl⟩
theorem Gw.trans{a b c:World}(h:Gw a b)(k:Gw b c):Gw a c:=by
 obtain⟨q,os,rfl⟩:=h;obtain⟨q',os',rfl⟩:=k;exact⟨q+q',os++os',by simp[grow,World.drewN,Array.append_assoc,Nat.add_assoc]⟩
theorem Gw.below{w w':World}(h:Gw w w'):Below w.heap.size w w':=by
 obtain⟨q,os,rfl⟩:=h;exact⟨rfl,rfl,rfl,by simp[World.drewN],fun b hb=>by simpa[World.drewN] using heap_grow_old (w.drewN q) os (k:=b) hb⟩
theorem ints3{w:World}{b:Nat}{x y z:Int}{t:TypeId}(h:w.heap[b]? =some (.cells #[.int .i64 x,.int .i64 y,.int .i64 z] t)):Ints w (.slice (some ⟨b,0,none⟩) 3 3) [x,y,z]:=by
 obtain⟨⟨x0,x1,x2⟩,-⟩:=bx3 h;refine⟨_,3,rfl,Nat.le_refl _,CQ,fun _=>⟨b,0,rfl,fun i u hu=>?_⟩⟩
 match i with
 |0=>simp at hu;subst hu;exact⟨[_],rfl,rfl,fun j v hv=>by match j with|0=>(simp at hv;subst hv;simpa using x0)|j+1=>simp at hv⟩
 |1=>simp at hu;subst hu;exact⟨[_],rfl,rfl,fun j v hv=>by match j with|0=>(simp at hv;subst hv;simpa using x1)|j+1=>simp at hv⟩
 |2=>simp at hu;subst hu;exact⟨[_],rfl,rfl,fun j v hv=>by match j with|0=>(simp at hv;subst hv;simpa using x2)|j+1=>simp at hv⟩
 |i+3=>simp at hu
def orL:List Int->Int
 |[]=>0
 |x::r=>if x=0 then orL r else x
theorem orL_hit{l:List Int}{k:Nat}{x:Int}(hx:l[k]? =some x)(h:∀y∈l.take k,y=0)(h0:x≠0):orL l=x:=by
 induction l generalizing k with
 |nil=>simp at hx
 |cons y r ih=>
  cases k with
  |zero=>simp at hx;subst hx;simp[orL,h0]
  |succ k=>
   have hy:=h y CU;unfold orL;rw[if_pos hy];exact ih (by simpa using hx) (fun z hz=>h z (by simp[hz]))
theorem orL_none{l:List Int}(h:∀y∈l,y=0):orL l=0:=by
 induction l with
 |nil=>rfl
 |cons y r ih=>unfold orL;rw[if_pos (h y CU)];exact ih (fun z hz=>h z (by simp[hz]))
theorem or_any(l:List Int)(v:Value)(w:World)(hv:Ints w v l):
  Calls Tryz.prog 60 #[v] w fun e w'=>e=.returned (.int .i64 (orL l))/\w'=w:=by
 rcases hv.cases with⟨rfl,a,c,rfl⟩|⟨b,o,c,rfl,h0,h1,h2,hb,hc⟩
 ·clear hv;go_enter Tryz.func60,Tryz.ntmps60;go_wp2_with fail;go_loop [8] (fun i=>i=.int .i64 0) (fun i=>0)
  case atStart=>rfl
  case round=>
   subst hrel;go_wp2_with fail;go_ret;exact⟨rfl,rfl⟩
 clear hv;go_enter Tryz.func60,Tryz.ntmps60;go_wp2_with fail;go_loop [8] (fun i=>∃k:Nat,k<=l.length/\i=.int .i64 k/\Hid (∀y∈l.take k,y=0)) (fun i=>l.length-(intOf i).toNat)
 case atStart=>exact⟨0,Nat.zero_le _,rfl,zh CU⟩
 case round=>
  obtain⟨k,hk,rfl,HN⟩:=hrel;by_cases jL:k<l.length
  ·obtain⟨x,hx,-⟩:=getElem?_of_lt jL;have kO:=hc k x hx;have HX:=zh hx;clear hc hx;by_cases hz:x=0
   ·have HZ:=zh hz;(have kP:(x != 0)=false:=by rw[hz];rfl);clear hz;go_wp2_with fail
    go_round
    case rel=>exact⟨k+1,CL,CY,zh (fun y hy=>by
     rw[List.take_add_one,HX.out] at hy;rcases List.mem_append.1 hy with h|h
     ·exact HN.out y h
     simp at h;rw[h];exact HZ.out)⟩
    case measure=>simp[intOf];omega
   have HZ:=zh hz;(have kP:(x != 0)=true:=by simpa using hz);clear hz;go_wp2_with fail;go_ret;exact⟨aQ (orL_hit HX.out HN.out HZ.out).symm,rfl⟩
  go_wp2_with fail;go_ret;exact⟨aQ (orL_none (fun y hy=>HN.out y (by rw[List.take_of_length_le CL];exact hy))).symm,rfl⟩
theorem cmpV_or(v u:Ver):orL [cmpI v.a u.a,cmpI v.b u.b,cmpI v.c u.c]=bH v u:=by
 unfold bH orL orL orL orL;by_cases h1:cmpI v.a u.a=0
 ·by_cases h2:cmpI v.b u.b=0
  ·by_cases h3:cmpI v.c u.c=0<;>simp[h1,h2,h3]
  simp[h1,h2]
 simp[h1]
theorem gZ(v u:Ver)(w:World):
  Calls Tryz.prog 21 #[.agg #[.int .i64 v.a,.int .i64 v.b,.int .i64 v.c],.agg #[.int .i64 u.a,.int .i64 u.b,.int .i64 u.c]] w fun e w'=>e=.returned (.int .i64 (bH v u))/\Gw w w':=by
 have HV:Hid (orL [Lib.compareInt v.a u.a,Lib.compareInt v.b u.b,Lib.compareInt v.c u.c]=bH v u):=zh (cmpV_or v u);have HC:=zh (fun x y W=>Tryz.cmp_Compare_int x y W);have HO:=zh (fun l b W h=>or_any l b W h);have lE:(w.alloc (.cells #[.int .i64 v.a,.int .i64 v.b,.int .i64 v.c] 23)).heap.size=w.heap.size+1:=CU;have qV:=bY (w.alloc (.cells #[.int .i64 v.a,.int .i64 v.b,.int .i64 v.c] 23)) (.cells #[.int .i64 u.a,.int .i64 u.b,.int .i64 u.c] 23);rw[lE] at qV;obtain⟨⟨x0,x1,x2⟩,-⟩:=bx3 (aC (aB (w.alloc (.cells #[.int .i64 v.a,.int .i64 v.b,.int .i64 v.c] 23)) (.cells #[.int .i64 u.a,.int .i64 u.b,.int .i64 u.c] 23)) (bY w (.cells #[.int .i64 v.a,.int .i64 v.b,.int .i64 v.c] 23)));obtain⟨⟨y0,y1,y2⟩,-⟩:=bx3 qV;clear qV
 have HI:Hid (∀x y z,Ints ((((w.alloc (.cells #[.int .i64 v.a,.int .i64 v.b,.int .i64 v.c] 23)).alloc (.cells #[.int .i64 u.a,.int .i64 u.b,.int .i64 u.c] 23)).alloc (.cells #[.int .i64 x,.int .i64 y,.int .i64 z] 3)).drew) (.slice (some ⟨w.heap.size+1+1,0,none⟩) 3 3) [x,y,z]):=zh (fun x y z=>ints3 (by
  have h:=bY ((w.alloc (.cells #[.int .i64 v.a,.int .i64 v.b,.int .i64 v.c] 23)).alloc (.cells #[.int .i64 u.a,.int .i64 u.b,.int .i64 u.c] 23)) (.cells #[.int .i64 x,.int .i64 y,.int .i64 z] 3);rw[show((w.alloc (.cells #[.int .i64 v.a,.int .i64 v.b,.int .i64 v.c] 23)).alloc (.cells #[.int .i64 u.a,.int .i64 u.b,.int .i64 u.c] 23)).heap.size=w.heap.size+1+1 by simp] at h
  exact h))
 go_enter Tryz.func21,Tryz.ntmps21;go_wp2_with fail;refine wp_region_held_drew (S:=fun W=>Below (((w.alloc (.cells #[.int .i64 v.a,.int .i64 v.b,.int .i64 v.c] 23)).alloc (.cells #[.int .i64 u.a,.int .i64 u.b,.int .i64 u.c] 23))).heap.size (((w.alloc (.cells #[.int .i64 v.a,.int .i64 v.b,.int .i64 v.c] 23)).alloc (.cells #[.int .i64 u.a,.int .i64 u.b,.int .i64 u.c] 23))) W) CK (aL _) fun hS=>?_;refine zq 0 (.pointer (some ⟨w.heap.size,0,none⟩)) rfl ?_;refine zt 1 (.int .i64 v.a) rfl (fun W hW=>by have q0:=aD hW x0;go_simp) ?_;refine zq 2 (.pointer (some ⟨w.heap.size+1,0,none⟩)) rfl ?_;refine zt 3 (.int .i64 u.a) rfl (fun W hW=>by have q0:=aD hW y0;go_simp) ?_;refine zq 5 (.pointer (some ⟨w.heap.size,1,none⟩)) rfl ?_;refine zt 6 (.int .i64 v.b) rfl (fun W hW=>by have q0:=aD hW x1;go_simp) ?_;refine zq 7 (.pointer (some ⟨w.heap.size+1,1,none⟩)) rfl ?_;refine zt 8 (.int .i64 u.b) rfl (fun W hW=>by have q0:=aD hW y1;go_simp) ?_;refine zq 10 (.pointer (some ⟨w.heap.size,2,none⟩)) rfl ?_;refine zt 11 (.int .i64 v.c) rfl (fun W hW=>by have q0:=aD hW x2;go_simp) ?_;refine zq 12 (.pointer (some ⟨w.heap.size+1,2,none⟩)) rfl ?_;refine zt 13 (.int .i64 u.c) rfl (fun W hW=>by have q0:=aD hW y2;go_simp) ?_;try simp only[zn]
 refine zr 4 rfl (fun K hK=>?_);try simp only[z1,z2,z3]
 go_simp;refine(HC.out _ _ _).mono ?_;rintro e w0 ⟨rfl,rfl⟩;refine hK.out _ _ hS (fun hS=>?_);clear hK K;try simp only[zn]
 refine zr 9 rfl (fun K hK=>?_);try simp only[z1,z2,z3]
 go_simp;refine(HC.out _ _ _).mono ?_;rintro e w1 ⟨rfl,rfl⟩;refine hK.out _ _ hS (fun hS=>?_);clear hK K;try simp only[zn]
 refine zr 14 rfl (fun K hK=>?_);try simp only[z1,z2,z3]
 go_simp;refine(HC.out _ _ _).mono ?_;rintro e w2 ⟨rfl,rfl⟩;refine hK.out _ _ hS (fun hS=>?_);clear hK K;try simp only[zn]
 refine zr 15 rfl (fun K hK=>?_);try simp only[z1,z2,z3]
 go_simp;refine hK.out _ _ (aA hS (aB _ _)) (fun hS=>?_);clear hK K;try simp only[zn]
 refine zr 16 rfl (fun K hK=>?_);try simp only[z1,z2,z3]
 go_simp;have hS2:=hS;refine(HO.out _ _ _ (HI.out _ _ _)).mono ?_;rintro e w3 ⟨rfl,rfl⟩;refine hK.out _ _ hS2 (fun hS=>?_);clear hK K;refine zq 17 (.int .i64 (orL [Lib.compareInt v.a u.a,Lib.compareInt v.b u.b,Lib.compareInt v.c u.c])) rfl ?_;try simp only[zn]
 refine wpAnyH_done CK ?_ _;go_wp2_with fail;go_ret;exact⟨aQ HV.out,((((Gw.refl w).alloc _).alloc _).alloc _).drew⟩
end Go.Proofs.YtmpopphjaggeoaaGreatDoor
namespace Go.Proofs.YtmpopphjaggeoaaGreatDoor
open Go.RowKit Go.Shelf
def IdxCon(P:Program)(F k:Nat):Prop:=∀{α:Type}[Inhabited α](enc:α->List Value)(_:∀x,(enc x).length=k)(p:α->Bool)(g:Nat)(lb:Array Value)(_:∀args w,(callFunc g args).run P w=.ok (.enter g args) w)
 (b off n c:Nat) (zs:List α) (w:World) (_:PredBelow P g lb (fun x=>.agg (enc x).toArray) p w) (_:n<=zs.length) (_:n<=9223372036854775807) (_:b<w.heap.size)
 (_:∀j,j<zs.length->∀i v,(enc zs[j]!)[i]? =some v->w.cell? ⟨b,off+j*k+i,none⟩=some v),
 Calls P F #[.slice (some ⟨b,off,none⟩) n c,.func (.func g) #[] lb] w fun e w'=>e=.returned (.int .i64 (Lib.idxBy (fun _ y=>p y) (zs.take n) default))/\Below w.heap.size w w'
theorem idxByFrom_idxOf{α β:Type}[Inhabited α](p:β->Bool)(f:α->β)(d:α):∀(zs:List α)(i:Nat),Lib.idxByFrom (fun _ y=>p (f y)) d zs i=match(zs.map f).findIdx? p with|some k=>((k+i:Nat):Int)|none=> -1
 |[],i=>by simp[Lib.idxByFrom]
 |z::zs,i=>by
  unfold Lib.idxByFrom;rw[idxByFrom_idxOf p f d zs (i+1)]
  cases hz:p (f z) with
  |true=>simp[List.findIdx?_cons,hz]
  |false=>
   simp[List.findIdx?_cons,hz]
   cases (List.findIdx? (p ∘ f) zs) with
   |none=>simp
   |some k=>simp only[Option.map_some];exact congrArg Int.ofNat (show k+(i+1)=k+1+i by omega)
def TestsN{β:Type}(P:Program)(g:FuncId)(lb:Array Value)(k:Nat)(enc:(Nat->Prop)->World->β->List Value->Prop)(N:Nat->Prop)(p:β->Bool)(l:List β)(w:World):Prop:=
 ∀x,x∈l->∀W cs,Below w.heap.size w W->enc N W x cs->cs.length=k->Calls P g (#[.agg cs.toArray]++lb) W fun e w'=>e=.returned (.bool (p x))/\Below W.heap.size W w'
theorem idxFn{P:Program}{F k:Nat}{β:Type}(C:IdxCon P F k){enc:(Nat->Prop)->World->β->List Value->Prop}(he:cE enc)(nM:0<k)(p:β->Bool)(g:FuncId)(lb:Array Value)
  (eg:∀args w,(callFunc g args).run P w=.ok (.enter g args) w) {N:Nat->Prop} {w:World} {v:Value} {l:List β} (hv:aK k enc N w v l) (kP:l≠[]) (hp:TestsN P g lb k enc N p l w):
  Calls P F #[v,.func (.func g) #[] lb] w fun e w'=>e=.returned (.int .i64 (gQ p l))/\Below w.heap.size w w':=by
 obtain⟨a,c,rfl,h1,h2,h3⟩:=hv;obtain⟨b,o,rfl,hN,hc⟩:=h3 kP;let α:={z:List Value×β // enc N w z.2 z.1/\z.1.length=k/\z.2∈l};have hx:∀i(h:i<l.length),∃cs,enc N w l[i] cs/\cs.length=k/\∀j u,cs[j]? =some u->w.cell? ⟨b,o+i*k+j,none⟩=some u:=fun i h=>hc i l[i] (List.getElem?_eq_getElem h)
 have hzs:∃zs:List α,zs.map (fun z=>z.1.2)=l/\∀i z,zs[i]? =some z->∀j u,z.1.1[j]? =some u->w.cell? ⟨b,o+i*k+j,none⟩=some u:=by
  refine⟨List.ofFn (fun i:Fin l.length=>(⟨((hx i.1 i.2).choose,l[i.1]),(hx i.1 i.2).choose_spec.1,(hx i.1 i.2).choose_spec.2.1,List.getElem_mem _⟩:α)),?_,fun i z hz j u hu=>?_⟩
  ·apply List.ext_getElem<;>simp
  rw[List.getElem?_ofFn] at hz;split at hz
  ·rename_i hi;cases hz;exact(hx i hi).choose_spec.2.2 j u hu
  cases hz
 obtain⟨zs,zB,kO⟩:=hzs;have kS:zs.length=l.length:=by rw[<-zB];simp
 have pW:zs≠[]:=fun h=>kP (by rw[<-zB,h];rfl);obtain⟨z0,r0,e0⟩:=List.exists_cons_of_ne_nil pW
 letI:Inhabited α:=⟨z0⟩
 have hb:b<w.heap.size:=by
  have h:=kO 0 z0 (by rw[e0];rfl) 0 (z0.1.1[0]'(by rw[z0.2.2.1];exact nM)) (List.getElem?_eq_getElem _);exact cV h
 have H:=C (fun z:α=>z.1.1) (fun z=>z.2.2.1) (fun z=>p z.1.2) g lb eg b o l.length c zs w
  (fun W z hW=>(hp z.1.2 z.2.2.2 W z.1.1 hW (he _ _ _ _ _ _ (aM.later hW) z.2.1) z.2.2.1).mono fun e w' ⟨h1,h2⟩=>⟨h1,aA hW h2⟩) CL (Nat.le_trans h1 h2) hb
  (fun j hj i u hu=>by
   have:zs[j]? =some zs[j]! :=by rw[List.getElem!_eq_getElem?_getD,List.getElem?_eq_getElem hj];rfl
   exact kO j _ this i u hu)
 refine H.mono fun e w' ⟨h1,h2⟩=>⟨?_,h2⟩;rw[h1,List.take_of_length_le CL];refine aQ ?_;unfold Lib.idxBy gQ;rw[idxByFrom_idxOf p (fun z:α=>z.1.2),zB];cases l.findIdx? p<;>simp
theorem idxNil_rng(a:Option Addr)(c:Nat)(fv:Value)(w:World):Calls Tryz.prog 173 #[.slice a 0 c,fv] w fun e w'=>e=.returned (.int .i64 (-1))/\Below w.heap.size w w':=by
 go_enter Tryz.func173,Tryz.ntmps173;exact BD
theorem idx_rng(p:Rng->Bool)(g:FuncId)(lb:Array Value)(eg:∀args w,(callFunc g args).run Tryz.prog w=.ok (.enter g args) w){N:Nat->Prop}{w:World}{v:Value}{l:List Rng}(hv:aK 6 aZ N w v l)(hp:TestsN Tryz.prog g lb 6 aZ N p l w):
  Calls Tryz.prog 173 #[v,.func (.func g) #[] lb] w fun e w'=>e=.returned (.int .i64 (gQ p l))/\Below w.heap.size w w':=by
 by_cases kP:l=[]
 ·subst kP;obtain⟨a,c,rfl,-⟩:=hv;exact idxNil_rng a c _ w
 exact idxFn (F:=173) (fun enc hk p g lb eg b off n c zs w hp hz kT hb hc=>Tryz.slices_IndexFunc_f173 6 Tryz.isAgg115 Tryz.sizeOf115 enc hk p g lb eg b off n c zs w hp hz kT hb hc) aS CQ p g lb eg hv kP hp
theorem idxNil_nd(a:Option Addr)(c:Nat)(fv:Value)(w:World):Calls Tryz.prog 132 #[.slice a 0 c,fv] w fun e w'=>e=.returned (.int .i64 (-1))/\Below w.heap.size w w':=by
 go_enter Tryz.func132,Tryz.ntmps132;exact BD
theorem idx_nd(p:Nd->Bool)(g:FuncId)(lb:Array Value)(eg:∀args w,(callFunc g args).run Tryz.prog w=.ok (.enter g args) w){N:Nat->Prop}{w:World}{v:Value}{l:List Nd}(hv:aK 5 cI N w v l)(hp:TestsN Tryz.prog g lb 5 cI N p l w):
  Calls Tryz.prog 132 #[v,.func (.func g) #[] lb] w fun e w'=>e=.returned (.int .i64 (gQ p l))/\Below w.heap.size w w':=by
 by_cases kP:l=[]
 ·subst kP;obtain⟨a,c,rfl,-⟩:=hv;exact idxNil_nd a c _ w
 exact idxFn (F:=132) (fun enc hk p g lb eg b off n c zs w hp hz kT hb hc=>Tryz.slices_IndexFunc_f132 5 Tryz.isAgg71 Tryz.sizeOf71 enc hk p g lb eg b off n c zs w hp hz kT hb hc) fC CQ p g lb eg hv kP hp
theorem has_nd(p:Nd->Bool)(g:FuncId)(lb:Array Value)(eg:∀args w,(callFunc g args).run Tryz.prog w=.ok (.enter g args) w){N:Nat->Prop}{w:World}{v:Value}{l:List Nd}(hv:aK 5 cI N w v l)(hp:TestsN Tryz.prog g lb 5 cI N p l w):
  Calls Tryz.prog 79 #[v,.func (.func g) #[] lb] w fun e w'=>e=.returned (.bool (l.any p))/\Below w.heap.size w w':=by
 have h:=zh (idx_nd p g lb eg hv hp);have HA:=zh (idxOf_any p l);generalize gQ p l=r at h HA;generalize l.any p=q at HA ⊢;clear hp hv eg;go_enter Tryz.func79,Tryz.ntmps79;go_wp2_with(go_at_call 132;refine h.out.mono ?_;rintro e w' ⟨rfl,tA⟩);go_ret;exact⟨aF (by rw[<-HA.out]),tA⟩
theorem hP(v:Ver)(w:World):Calls Tryz.prog 34 #[.agg #[.int .i64 v.a,.int .i64 v.b,.int .i64 v.c]] w fun e w'=>e=.returned (.bool (aU v))/\Gw w w':=by
 obtain⟨a,b,c⟩:=v;obtain⟨⟨x0,x1,x2⟩,-⟩:=bx3 (bY w (.cells #[.int .i64 a,.int .i64 b,.int .i64 c] 23));go_enter Tryz.func34,Tryz.ntmps34;go_wp2_with fail
 all_goals
  clear x0 x1 x2;go_ret;exact⟨aF (by unfold aU;rw[Bool.eq_iff_iff];simp;try omega),(Gw.refl _).alloc _⟩
def eF(r:Rng):List Value:=[.int .i64 r.lo.a,.int .i64 r.lo.b,.int .i64 r.lo.c,.int .i64 r.hi.a,.int .i64 r.hi.b,.int .i64 r.hi.c]
theorem itoaV_any(n:Int)(w:World)(hG:bB w)(h0:0<=n)(h1:n<=1099511627776):
  Calls Tryz.prog 87 #[.int .i64 n] w fun e w'=>e=.returned (.string (bs (Lib.itoa n)))/\Below w.heap.size w w':=by
 refine(Tryz.strconv_Itoa n CL CL w hG.pow10).mono ?_;rintro e w1 ⟨rfl,k,os,rfl⟩;exact⟨rfl,Lib.below_grow _ w (Nat.le_refl _) k os⟩
theorem itoaV_size{n:Int}(h0:0<=n)(h1:n<=1099511627776):(bs (Lib.itoa n)).size<=21:=Lib.itoa_length_le n CL CL
theorem verPrint_any(v:Ver)(w:World)(hG:bB w):Calls Tryz.prog 38 #[.agg #[.int .i64 v.a,.int .i64 v.b,.int .i64 v.c]] w fun e w'=>e=.returned (.string (if aU v then bs (fE v) else noB))/\Below w.heap.size w w':=by
 have HO:=zh (fun W=>hP v W);have HX:=zh (bY w (.cells #[.int .i64 v.a,.int .i64 v.b,.int .i64 v.c] 23));obtain⟨⟨x0,x1,x2⟩,-⟩:=bx3 HX.out
 cases hv:aU v with
 |false=>
  rw[hv] at HO;clear hv;go_enter Tryz.func38,Tryz.ntmps38;go_wp2_with(go_at_call 34;refine(HO.out _).mono ?_;rintro e w1 ⟨rfl,rS⟩);go_ret;exact⟨rfl,aA (aB _ _) rS.below⟩
 |true=>
  rw[hv] at HO;obtain⟨a,b,c⟩:=v
  have hr:0<=a/\0<=b/\0<=c/\a<=1048576/\b<=1048576/\c<=1048576:=by
   unfold aU at hv;simp only[Bool.and_eq_true,decide_eq_true_eq] at hv;omega
  have lE:=itoaV_size (n:=a) CL CL;have nN:=itoaV_size (n:=b) CL CL;have hz3:=itoaV_size (n:=c) CL CL;have HI:=zh (fun(n:Int)(h0:0<=n/\n<=1048576)W(hb:Below w.heap.size w W)=>itoaV_any n W (hG.later hb) h0.1 CL)
  have HE:Hid ((((bs (Lib.itoa a)++⟨#[46]⟩)++bs (Lib.itoa b))++⟨#[46]⟩)++bs (Lib.itoa c)=bs (fE ⟨a,b,c⟩)):=zh (by
   apply cU
   simp[fE,bs,ByteArray.data_append])
  have rR:=zh (show 0<=a/\a<=1048576 by omega);have xJ:=zh (show 0<=b/\b<=1048576 by omega);have hr3:=zh (show 0<=c/\c<=1048576 by omega);clear hv hr hG;generalize bs (fE ⟨a,b,c⟩)=res at *;generalize hA:bs (Lib.itoa a)=sa at *;generalize hB:bs (Lib.itoa b)=sb at *;generalize hC:bs (Lib.itoa c)=sc at *;have hd:(⟨#[46]⟩:bA).size=1:=rfl;have nT:(sa++⟨#[46]⟩).size<=22:=CR;have tL:((sa++⟨#[46]⟩)++sb).size<=43:=CR;have hs3:(((sa++⟨#[46]⟩)++sb)++⟨#[46]⟩).size<=44:=CR;have hA:=zh hA;have hB:=zh hB;have hC:=zh hC;go_enter Tryz.func38,Tryz.ntmps38;go_wp2_with fail;go_at_call 34;refine(HO.out _).mono ?_;rintro e w1 ⟨rfl,rS⟩;have HG1:=zh (aA (aB _ _) rS.below);obtain⟨⟨y0,y1,y2⟩,-⟩:=bx3 (aC rS.below HX.out);clear rS x0 x1 x2;go_wp2_with fail;refine wp_region_held_drew (S:=fun W=>Below (w1).heap.size (w1) W) CK (aL _) fun hS=>?_;refine zq 0 (.pointer (some ⟨w.heap.size,0,none⟩)) rfl ?_;refine zt 1 (.int .i64 a) rfl (fun W hW=>by have q0:=aD hW y0;go_simp) ?_;refine zq 4 (.pointer (some ⟨w.heap.size,1,none⟩)) rfl ?_;refine zt 5 (.int .i64 b) rfl (fun W hW=>by have q0:=aD hW y1;go_simp) ?_;refine zq 9 (.pointer (some ⟨w.heap.size,2,none⟩)) rfl ?_;refine zt 10 (.int .i64 c) rfl (fun W hW=>by have q0:=aD hW y2;go_simp) ?_;try simp only[zn]
  refine zr 2 rfl (fun K hK=>?_);try simp only[z1,z2,z3]
  go_simp;have iL:=(aL (w1));refine(HI.out a rR.out _ (aA HG1.out iL)).mono ?_;rintro e w2 ⟨rfl,hw2'⟩;have hw2:=aA iL (hw2');clear iL;refine hK.out _ _ hw2 (fun hS=>?_);clear hK K;refine zt 3 (.string (sa++⟨#[46]⟩)) rfl (fun W hW=>CV) ?_;try simp only[zn]
  refine zr 6 rfl (fun K hK=>?_);try simp only[z1,z2,z3]
  go_simp;have iL:=hw2;refine(HI.out b xJ.out _ (aA HG1.out iL)).mono ?_;rintro e w3 ⟨rfl,hw3'⟩;have tK:=aA iL (hw3');clear iL;refine hK.out _ _ tK (fun hS=>?_);clear hK K;refine zt 7 (.string ((sa++⟨#[46]⟩)++sb)) rfl (fun W hW=>CV) ?_;refine zt 8 (.string (((sa++⟨#[46]⟩)++sb)++⟨#[46]⟩)) rfl (fun W hW=>CV) ?_;try simp only[zn]
  refine zr 11 rfl (fun K hK=>?_);try simp only[z1,z2,z3]
  go_simp;have iL:=tK;refine(HI.out c hr3.out _ (aA HG1.out iL)).mono ?_;rintro e w4 ⟨rfl,hw4'⟩;have yQ:=aA iL (hw4');clear iL;refine hK.out _ _ yQ (fun hS=>?_);clear hK K;refine zt 12 (.string ((((sa++⟨#[46]⟩)++sb)++⟨#[46]⟩)++sc)) rfl (fun W hW=>CV) ?_;refine zq 13 (.string ((((sa++⟨#[46]⟩)++sb)++⟨#[46]⟩)++sc)) rfl ?_;try simp only[zn]
  refine wpAnyH_done CK ?_ _;go_wp2_with fail;go_ret;exact⟨bE HE.out,aA HG1.out yQ⟩
theorem AU{p:Prop}(h:p:=by
 have c1:=aD wS.out (HSb.out j hlj);have tZ:(0:Int)<=(j:Int)/\(j:Int)<(p.size:Int):=CL;have HN:Hid (∀b,dM (p.data.toList.getD j 0)=b->(p.data.toList.take (j+1)).all dM=b/\(b=false->p.data.toList.all dM=false)):=zh (name_next HA.out hlj);generalize p.data.toList.getD j 0=d at *
 cases hn:dM d with
 |true=>
  have nW:=zh (HN.out true hn).1;have hd:=nameB_yes hn;clear hn HN;rcases hd with⟨d1,d2⟩|⟨d1,d2,d3⟩
  all_goals
   go_wp2_with fail;go_roundw;(case rel=>exact⟨j+1,CL,CY,wS,nW⟩);case measure=>simp[intOf];omega
 |false=>
  have hE:Hid (r=false):=zh (by rw[sK.out,(HN.out false hn).2 rfl];rfl);have hd:=nameB_no hn;clear hn HN;have HQ:=zh (aA jK.out (aA HW.out (aA HBb.out wS.out)));rcases hd with⟨d1,d2⟩|⟨d1,d2,d3⟩|⟨d1,d2,d3,d4⟩
  all_goals
   go_wp2_with fail;go_ret
   exact⟨aF hE.out.symm,HQ.out⟩):p:=h
theorem BL{p:Prop}(h:p:=by
 go_wp2_with fail;go_ret
 exact⟨aF hE.out.symm,aA jK.out HW.out⟩):p:=h
theorem BW{p:Prop}(h:p:=by
 have h1:(122:UInt8).toNat=122:=rfl;have h2:(97:UInt8).toNat=97:=rfl;have h3:(48:UInt8).toNat=48:=rfl;have h4:(57:UInt8).toNat=57:=rfl
 omega):p:=h
theorem nmParts_len(s:bA):(eX s).length=Lib.countB s dash+1:=Lib.splitB_all dash CQ 0 _ s rfl
theorem nmParts_size{s x:bA}(h:x∈eX s):x.size<=s.size:=splitB_size dash _ s x h
theorem name_next{l:List UInt8}{j n:Nat}(h:(l.take j).all dM=true)(hj:j<n)(hn:n=l.length:=by rfl):∀b,dM (l.getD j 0)=b->(l.take (j+1)).all dM=b/\(b=false->l.all dM=false):=by
 intro b hb;have hl:j<l.length:=CL;have e:l.getD j 0=l[j]:=by rw[List.getD_eq_getElem?_getD,List.getElem?_eq_getElem hl];rfl
 rw[e] at hb;refine⟨by rw[List.take_succ_eq_append_getElem hl,List.all_append,h,List.all_cons,hb];simp,fun hf=>?_⟩;rw[List.all_eq_false];exact⟨l[j],List.getElem_mem _,by rw[hb,hf];simp⟩
theorem nameB_yes{d:UInt8}(h:dM d=true):(¬(d.toNat:Int)<97/\¬122<(d.toNat:Int))\/((d.toNat:Int)<97/\¬(d.toNat:Int)<48/\¬57<(d.toNat:Int)):=by
 unfold dM dX at h;simp only[Bool.or_eq_true,Bool.and_eq_true,decide_eq_true_eq,UInt8.le_iff_toNat_le] at h;exact BW
theorem nameB_no{d:UInt8}(h:dM d=false):((d.toNat:Int)<97/\(d.toNat:Int)<48)\/((d.toNat:Int)<97/\¬(d.toNat:Int)<48/\57<(d.toNat:Int))\/(¬(d.toNat:Int)<97/\122<(d.toNat:Int)/\¬(d.toNat:Int)<48/\57<(d.toNat:Int)):=by
 have h0:¬dM d=true:=by rw[h];simp
 unfold dM dX at h0;simp only[Bool.or_eq_true,Bool.and_eq_true,decide_eq_true_eq,UInt8.le_iff_toNat_le] at h0;exact BW
theorem eY(s:bA)(w:World)(hG:bB w)(hs:s.size<=140737488355328):
  Calls Tryz.prog 33 #[.string s] w fun e w'=>e=.returned (.bool (bT s))/\Below w.heap.size w w':=by
 by_cases kT:20<s.size
 ·have g:(20:Int)<(s.size:Int):=CL;have HR:Hid (bT s=false):=zh (by unfold bT;rw[decide_eq_false CL];rfl);clear kT;go_enter Tryz.func33,Tryz.ntmps33;go_wp2_with fail;go_ret;exact⟨aF HR.out.symm,Below.refl _ _⟩
 have g:¬(20:Int)<(s.size:Int):=CL;obtain⟨m,hm⟩:=hG.maxLen;have HS:=zh (Tryz.strings_Split s dash m w CL hm CQ);rw[show Lib.countB s dash+1=(eX s).length from(nmParts_len s).symm] at HS;have hHN:Hid (bT s=fN true (eX s)):=zh (by unfold bT;rw[decide_eq_true CL];rfl);have HZ:Hid (∀x∈eX s,x.size<=20):=zh (fun x hx=>by have:=nmParts_size hx;omega)
 have kS:(eX s).length<=100:=by
  have:=nmParts_len s;have h2:=Lib.countB_le dash CQ s.size s (Nat.le_refl _);omega
 change Hid (Calls Tryz.prog 83 #[.string s,.string ⟨#[45]⟩] w fun e w'=>e=.returned (.slice (some ⟨w.heap.size,0,none⟩) (eX s).length (eX s).length)/\w'=w.alloc (.cells ((eX s).map Value.string).toArray 9)) at HS;generalize bT s=r at hHN ⊢;generalize eX s=parts at *;clear hm hG;go_enter Tryz.func33,Tryz.ntmps33;go_wp2_with(go_at_call 83;refine HS.out.mono ?_;rintro e w1 ⟨rfl,rfl⟩)
 have HC:Hid (∀i x,parts[i]? =some x->(w.alloc (.cells (parts.map Value.string).toArray 9)).cell? ⟨w.heap.size,i,none⟩=some (.string x)):=zh (fun i x hx=>by
  refine(bx (bY w (.cells (parts.map Value.string).toArray 9)) i ?_).1
  simp[hx])
 have jK:=zh (aB w (.cells (parts.map Value.string).toArray 9));generalize w.alloc (.cells (parts.map Value.string).toArray 9)=w1 at *;go_loopw [13] (fun i wr=>∃k:Nat,k<=parts.length/\i=.int .i64 k/\Hid (r=fN (decide (k=0)) (parts.drop k))/\Hid (Below w1.heap.size w1 wr)) (fun i _=>parts.length-(intOf i).toNat)
 case atStart=>exact⟨0,Nat.zero_le _,rfl,zh hHN.out,zh (Below.refl _ _)⟩
 case round=>
  obtain⟨k,hk,rfl,HR,HW⟩:=hrel;rename World=>wr
  by_cases jL:k<parts.length
  ·obtain⟨p,hp,mS⟩:=getElem?_of_lt jL;have kO:=aD HW.out (HC.out k p hp);have HP:=zh hp;have hz:=HZ.out p mS;clear hp mS
   have nS:Hid (r=(partOk (decide (k=0)) p&&fN false (parts.drop (k+1)))):=zh (by
    rw[HR.out,List.drop_eq_getElem_cons jL];obtain⟨h1,h2⟩:=Yb.1 HP.out
    rw[h2];rfl)
   clear HR;by_cases sC:p.data.toList=[]
   ·obtain rfl:p=⟨#[]⟩:=cU (by simpa using sC);have hE:Hid (r=false):=zh (by rw[nS.out];rfl);clear sC nS;exact BL
   have he:p.toList≠[]:=by rw[toList_eq];exact sC
   have oK:0<p.size:=by
    rw[<-ByteArray.size_data,<-Array.length_toList];exact List.length_pos_iff.2 sC
   (have hie:p.toList.isEmpty=false:=by simpa using he);obtain⟨c,cr,hcr⟩:=List.exists_cons_of_ne_nil sC
   have hp0:p[0]'(oK)=c:=by
    (have:p.data.toList[0]? =some c:=by rw[hcr];rfl);rw[show p[0]=p.data.toList[0]'(by simpa using oK) from rfl];exact(Yb.1 this).2
   have HO:Hid (∀b,partOk b p=((!b||dX c)&&p.data.toList.all dM)):=zh (fun b=>by unfold partOk;rw[hcr]);have hin0:(0:Int)<=0/\(0:Int)<(p.size:Int):=CL;by_cases qT:k=0/\dX c=false
   ·obtain⟨rfl,tN⟩:=qT;have hE:Hid (r=false):=zh (by rw[nS.out,HO.out,tN];rfl)
    have xQ:(c.toNat:Int)<97\/122<(c.toNat:Int):=by
     unfold dX at tN;by_cases h1:(97:UInt8)<=c
     ·right;(have h2:¬c<=122:=by intro h;rw[decide_eq_true h1,decide_eq_true h] at tN;cases tN);rw[UInt8.le_iff_toNat_le] at h2;have:(122:UInt8).toNat=122:=rfl;omega
     left;rw[UInt8.le_iff_toNat_le] at h1;have:(97:UInt8).toNat=97:=rfl;omega
    clear nS HO hcr tN he sC;by_cases h97:(c.toNat:Int)<97
    ·exact BL
    have h122:122<(c.toNat:Int):=xQ.resolve_left h97;clear xQ;exact BL
   have xP:¬k=0\/(97<=(c.toNat:Int)/\(c.toNat:Int)<=122):=by
    by_cases nM:k=0
    ·right;(have tN:dX c=true:=by cases h:dX c with|true=>rfl|false=>exact absurd ⟨nM,h⟩ qT);unfold dX at tN;simp only[Bool.and_eq_true,decide_eq_true_eq,UInt8.le_iff_toNat_le] at tN;have h1:(122:UInt8).toNat=122:=rfl;have h2:(97:UInt8).toNat=97:=rfl;omega
    exact .inl nM
   have sK:Hid (r=(p.data.toList.all dM&&fN false (parts.drop (k+1)))):=zh (by
    rw[nS.out,HO.out];by_cases nM:k=0
    ·(have tN:dX c=true:=by cases h:dX c with|true=>rfl|false=>exact absurd ⟨nM,h⟩ qT);rw[tN];simp
    rw[decide_eq_false nM];simp)
   clear nS HO hcr qT he sC;have zL:=Lib.run_convert_string_bytes (P:=Tryz.prog) wr 9 127 5 p (u:=.string) Tryz.underlying9 Tryz.underlying127 Tryz.underlying5;have HSb:Hid (∀j,j<p.size->(Lib.bytesWorld wr 5 p).cell? ⟨wr.heap.size,j,none⟩=some (.int .u8 (p.data.toList.getD j 0).toNat)):=zh (fun j hj=>Lib.bytesWorld_cell wr 5 p j hj);have HBb:=zh (show Below wr.heap.size wr (Lib.bytesWorld wr 5 p) from⟨rfl,rfl,rfl,by rw[Lib.bytesWorld_size];omega,fun k hk=>Lib.bytesWorld_at_old wr 5 p k hk⟩);generalize Lib.bytesWorld wr 5 p=w2 at *;generalize grownCap wr p.size 0 5=cp at *;have HG:Hid (¬k=0\/(97<=(c.toNat:Int)/\(c.toNat:Int)<=122)):=zh xP;clear xP;by_cases nM:k=0
   ·subst nM;obtain⟨g1,g2⟩:=HG.out.resolve_left CU;have g3:¬(c.toNat:Int)<97:=CL;have g4:¬122<(c.toNat:Int):=CL;clear HG g1 g2;go_wp2_with fail;(go_loopw [37] (fun jv wi=>∃j:Nat,j<=p.size/\jv=.int .i64 (j:Int)/\Hid (Below w2.heap.size w2 wi)/\Hid ((p.data.toList.take j).all dM=true)) (fun jv _=>p.size-(intOf jv).toNat));case atStart=>exact⟨0,Nat.zero_le _,rfl,zh (Below.refl _ _),zh rfl⟩
    case round=>
     obtain⟨j,hj,rfl,wS,HA⟩:=hrel;(rename World=>wi);by_cases hlj:j<p.size
     ·exact AU
     have pX:j=p.size:=CL
     have oI:Hid (r=fN (decide (0+1=0)) (parts.drop (0+1))):=zh (by
      rw[sK.out];have h:=HA.out;rw[List.take_of_length_le (by rw[pX];simp)] at h
      rw[h];rfl)
     have qF:=zh (aA HW.out (aA HBb.out wS.out));clear sK HA;go_wp2_with fail;go_roundw;(case rel=>exact⟨0+1,CL,CY,oI,qF⟩);case measure=>simp[intOf];omega
   have qE:((k:Int)==0)=false:=DH;clear HG;go_wp2_with fail;(go_loopw [37] (fun jv wi=>∃j:Nat,j<=p.size/\jv=.int .i64 (j:Int)/\Hid (Below w2.heap.size w2 wi)/\Hid ((p.data.toList.take j).all dM=true)) (fun jv _=>p.size-(intOf jv).toNat));case atStart=>exact⟨0,Nat.zero_le _,rfl,zh (Below.refl _ _),zh rfl⟩
   case round=>
    obtain⟨j,hj,rfl,wS,HA⟩:=hrel;(rename World=>wi);by_cases hlj:j<p.size
    ·exact AU
    have pX:j=p.size:=CL
    have oI:Hid (r=fN (decide (k+1=0)) (parts.drop (k+1))):=zh (by
     rw[sK.out];have h:=HA.out;rw[List.take_of_length_le (by rw[pX];simp)] at h
     rw[h];rfl)
    have qF:=zh (aA HW.out (aA HBb.out wS.out));clear sK HA;go_wp2_with fail;go_roundw;(case rel=>exact⟨k+1,CL,CY,oI,qF⟩);case measure=>simp[intOf];omega
  have hE:Hid (r=true):=zh DP;exact BL
theorem CH{p:Prop}(h:p:=by
 go_roundw;case rel=>exact⟨k+1,CL,CY,HE,zh (aA HW.out jO)⟩
 case measure=>simp[intOf];omega):p:=h
theorem run_geq_s(t:TypeId)(a b:bA)(w:World):(binOp .geq t (.string a) (.string b)).run Tryz.prog w=.ok (.bool (!Op.bytesLess a.toList b.toList)) w:=by
 simp[binOp,Op.stringOp]
def prvS(l:List bA)(k:Nat):Option bA:=if k=0 then none else l[k-1]?
theorem list_drop{l:List bA}{k:Nat}{x:bA}{r:Bool}(hx:l[k]? =some x)(hr:r=gO (prvS l k) (l.drop k)):
  r=(bT x&&(match prvS l k with|none=>true|some b=>ltS b x)&&gO (prvS l (k+1)) (l.drop (k+1))):=by
 obtain⟨h1,h2⟩:=Yb.1 hx;rw[hr,List.drop_eq_getElem_cons h1,h2,gO.eq_def];dsimp only;have:prvS l (k+1)=some x:=by unfold prvS;rw[if_neg CL];simpa using hx
 rw[this];rfl
theorem listOk_any(l:List bA)(v:Value)(w:World)(hG:bB w)(hv:Strs w v l):
  Calls Tryz.prog 75 #[v] w fun e w'=>e=.returned (.bool (dC l))/\Below w.heap.size w w':=by
 have HN:=zh (fun(x:bA)(hx:x.size<=140737488355328)W(hb:Below w.heap.size w W)=>eY x W (hG.later hb) hx);have HL:Hid (dC l=(gO none l&&decide (l.length<=12))):=zh rfl;generalize dC l=r at HL ⊢;rcases hv.cases with⟨rfl,a,c,rfl⟩|⟨b,o,c,rfl,h0,h1,h2,hb,hc⟩
 ·clear hv;go_enter Tryz.func75,Tryz.ntmps75;go_wp2_with fail;go_loopw [7] (fun i wr=>i=.int .i64 0/\wr=w) (fun i _=>0)
  case atStart=>exact⟨rfl,rfl⟩
  case round=>
   obtain⟨rfl,rfl⟩:=hrel;go_wp2_with fail;go_ret;exact⟨aF (by rw[HL.out];rfl),Below.refl _ _⟩
 clear hv;go_enter Tryz.func75,Tryz.ntmps75;go_wp2_with fail;go_loopw [7] (fun i wr=>∃k:Nat,k<=l.length/\i=.int .i64 k/\Hid (gO none l=gO (prvS l k) (l.drop k))/\Hid (Below w.heap.size w wr)) (fun i _=>l.length-(intOf i).toNat)
 case atStart=>exact⟨0,Nat.zero_le _,rfl,zh rfl,zh (Below.refl _ _)⟩
 case round=>
  obtain⟨k,hk,rfl,HR,HW⟩:=hrel;rename World=>wr
  by_cases jL:k<l.length
  ·obtain⟨x,hx,-⟩:=getElem?_of_lt jL;obtain⟨c1,mN⟩:=hc k x hx;have c2:=aD HW.out c1;have nM:(0:Int)<=(k:Int)/\(k:Int)<(l.length:Int):=CL;have HD:=zh (list_drop hx HR.out);have HX:=zh hx;clear hx HR c1;have pO:=zh (HN.out x mN wr HW.out)
   cases hn:bT x with
   |false=>
    have HE:Hid (r=false):=zh (by rw[HL.out,HD.out,hn];rfl);rw[hn] at pO;clear hn HD HL hc;go_wp2_with(go_at_call 33;refine pO.out.mono ?_;rintro e w2 ⟨rfl,jO⟩);go_ret;exact⟨aF HE.out.symm,aA HW.out jO⟩
   |true=>
    rw[hn] at pO;by_cases hz:k=0
    ·have HE:Hid (gO none l=gO (prvS l (k+1)) (l.drop (k+1))):=zh (by rw[HD.out,hn,hz];simp[prvS]);have hkp:¬(0:Int)<(k:Int):=CL;clear hn HD hc hz;go_wp2_with(go_at_call 33;refine pO.out.mono ?_;rintro e w2 ⟨rfl,jO⟩);exact CH
    obtain⟨y,hy,-⟩:=getElem?_of_lt (show k-1<l.length by omega);(have tW:prvS l k=some y:=by unfold prvS;rw[if_neg hz];exact hy);have c3:=(hc (k-1) y hy).1;have qE:(0:Int)<=(k:Int)-1/\(k:Int)-1<(l.length:Int):=CL;have hkp:(0:Int)<(k:Int):=CL;have rH:IntKind.i64.wrap ((k:Int)-1)=(k:Int)-1:=bN CL CL;have hkn:((k:Int)-1).toNat=k-1:=CL;have hge:=run_geq_s;have c4:=fun W(hW:Below w.heap.size w W)=>aD hW c3;have C4:=zh c4;clear c4;have mK:Hid (gO none l=(ltS y x&&gO (prvS l (k+1)) (l.drop (k+1)))):=zh (by rw[HD.out,hn,tW];simp);clear hc HD c3 hy hn tW
    cases zD:ltS y x with
    |true=>
     have HE:Hid (gO none l=gO (prvS l (k+1)) (l.drop (k+1))):=zh (by rw[mK.out,zD];simp);have hls2:Op.bytesLess y.toList x.toList=true:=zD;clear zD mK;go_wp2_with(go_at_call 33;refine pO.out.mono ?_;rintro e w2 ⟨rfl,jO⟩;have c5:=C4.out _ (aA HW.out jO));exact CH
    |false=>
     have HE:Hid (r=false):=zh (by rw[HL.out,mK.out,zD];simp);have hls2:Op.bytesLess y.toList x.toList=false:=zD;clear zD mK HL;go_wp2_with(go_at_call 33;refine pO.out.mono ?_;rintro e w2 ⟨rfl,jO⟩;have c5:=C4.out _ (aA HW.out jO));go_ret;exact⟨aF HE.out.symm,aA HW.out jO⟩
  have HE:Hid (gO none l=true):=zh DP;have hd:decide ((l.length:Int)<=12)=decide (l.length<=12):=by rw[decide_eq_decide];omega
  have HF:Hid (r=decide (l.length<=12)):=zh (by rw[HL.out,HE.out];rfl);clear HE HL HR;go_wp2_with fail;go_ret;exact⟨aF (by rw[HF.out,<-hd]),HW.out⟩
end Go.Proofs.YtmpopphjaggeoaaGreatDoor
