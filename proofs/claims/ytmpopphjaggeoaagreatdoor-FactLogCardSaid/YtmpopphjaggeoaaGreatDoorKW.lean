/- Texts of this seat, joined. -/
import Derived.Test.YtmpopphjaggeoaaGreatDoorKU
import Derived.Test.YtmpopphjaggeoaaGreatDoorKV
set_option maxHeartbeats 16000000
set_option maxRecDepth 100000
set_option linter.unusedVariables false
set_option linter.unusedSimpArgs false
set_option linter.constructorNameAsVariable false
namespace Go.Proofs.YtmpopphjaggeoaaGreatDoor
open Go.RowKit
theorem AY{p:Prop}(h:p:=by
 cases sr with
 |true=>
  have pW:=zh (decide_cons HX.out HY.out HT.out (qM.out.1 rfl));go_wp2_with fail;go_roundw;case rel=>exact⟨q+1,CR,C5,pN,pW⟩
  case measure=>simp[intOf];omega
 |false=>
  have HE:Hid (eqL a b=false):=zh (cH (take_ne HX.out HY.out (fun e=>by have:=qM.out.2 e;cases this)));go_wp2_with fail;go_ret
  exact⟨aF ER,pN.out⟩):p:=h
theorem BG{p:Prop}(h:p:=by
 have tW:q=a.length:=CR;have HE:Hid (eqL a b=true):=zh (dW (take_full HL.out (by have h:=HT.out;rw[tW] at h;exact h)));go_wp2_with fail;go_ret
 exact⟨aF ER,HW.out⟩):p:=h
theorem B6{p:Prop}(h:p:=by
 go_wp2_with fail;go_ret
 exact⟨aF (by rw[HR.out];simp[h1]),jD.out⟩):p:=h
theorem B7{p:Prop}(h:p:=by
 go_wp2_with fail;go_ret
 exact⟨aF ER,Below.refl _ _⟩):p:=h
theorem names_any(l m:List bA)(v u:Value)(w:World)(hl:Strs w v l)(hm:Strs w u m):
  Calls Tryz.prog 124 #[v,u] w fun e w'=>e=.returned (.bool (eqL l m))/\Below w.heap.size w w':=by
 rw[eqL_decide];obtain⟨a1,c1,rfl⟩:=strs_slice hl;obtain⟨a2,c2,rfl⟩:=strs_slice hm;by_cases kU:l.length=m.length
 ·rcases hl.cases with⟨rfl,-⟩|⟨b,o,c,e,h0,h1,h2,-,hc⟩
  ·have e:m=[]:=List.eq_nil_of_length_eq_zero (by simpa using kU.symm);subst e;refine(Tryz.slices_Equal_string_empty a1 a2 c1 0 c2 w CR).mono ?_;rintro e w' ⟨rfl,rfl⟩;exact⟨C0,Below.refl _ _⟩
  rcases hm.cases with⟨rfl,-⟩|⟨b',o',c',e',h0',h1',h2',-,jT⟩
  ·simp at kU;rw[kU] at h0;simp at h0
  obtain⟨rfl,rfl⟩:a1=some ⟨b,o,none⟩/\c1=c:=by injection e with e1 e2 e3;exact⟨e1,e3⟩
  obtain⟨rfl,rfl⟩:a2=some ⟨b',o',none⟩/\c2=c':=by injection e' with e1 e2 e3;exact⟨e1,e3⟩
  refine(Tryz.slices_Equal_string b o l.length c1 b' o' m.length c2 l m w (Nat.le_refl _) (Nat.le_refl _) CR CR (fun j hj=>?_) (fun j hj=>?_)).mono ?_
  ·obtain⟨x,hx,-⟩:=getElem?_of_lt hj;rw[(hc j x hx).1,List.getD_eq_getElem?_getD,hx];rfl
  ·obtain⟨x,hx,-⟩:=getElem?_of_lt hj;rw[(jT j x hx).1,List.getD_eq_getElem?_getD,hx];rfl
  rintro e w' ⟨rfl,q,rfl⟩;exact⟨by rw[List.take_length,List.take_length],below_drewN _ q⟩
 refine(Tryz.slices_Equal_string_lens a1 a2 l.length c1 m.length c2 w kU).mono ?_;rintro e w' ⟨rfl,rfl⟩;exact⟨by rw[decide_eq_false (fun h=>kU (by rw[h]))],Below.refl _ _⟩
def SsX(d:Nat):Prop:=∀(x y:Xp)(N N':Nat->Prop)(cx cy:List Value)(w:World),gU x<=d->wX N w x cx->wX N' w y cy->
 Calls Tryz.prog 71 #[.agg cx.toArray,.agg cy.toArray] w fun e w'=>e=.returned (.bool (iA x y))/\Below w.heap.size w w'
theorem sexps_of(a b:List Xp){d:Nat}(hD:SsX d)(hp:∀x∈a,gU x<=d){N N':Nat->Prop}{va vb:Value}{w:World}(ha:aK 6 wX N w va a)(hb:aK 6 wX N' w vb b):
  Calls Tryz.prog 125 #[va,vb,.func (.func 71) #[] #[]] w fun e w'=>e=.returned (.bool (eqL a b))/\Below w.heap.size w w':=by
 obtain⟨aa,ca,rfl,la1,la2,jG⟩:=ha.at;obtain⟨ab,cb,rfl,lb1,lb2,jD⟩:=hb.at;have HA:=zh jG;have HB:=zh jD;have HD:=zh hD;have HDp:=zh hp;clear hD hp;clear jG jD ha hb;by_cases hl:a.length=b.length
 ·have HL:=zh hl;rw[<-hl] at lb1 ⊢;clear hl;go_enter Tryz.func125,Tryz.ntmps125;go_wp2_with fail;go_loopw [17] (fun iv wr=>∃q:Nat,q<=a.length/\iv=.int .i64 (q:Int)/\Hid (Below w.heap.size w wr)/\Hid (a.take q=b.take q)) (fun iv _=>a.length-(intOf iv).toNat)
  case atStart=>exact⟨0,Nat.zero_le _,rfl,zh (Below.refl _ _),zh rfl⟩
  case round=>
   obtain⟨q,hq,rfl,HW,HT⟩:=hrel;(rename World=>wr);by_cases jM:q<a.length
   ·obtain⟨x,hx,-⟩:=getElem?_of_lt jM;obtain⟨y,hy,-⟩:=getElem?_of_lt (show q<b.length by rw[<-HL.out];exact jM);have tN:(0:Int)<=(q:Int)/\(q:Int)<(a.length:Int):=CR;have HX:=zh hx;have HY:=zh hy;obtain⟨b1,o1,rfl,-,zX,oO,-,mY⟩:=HA.out q x hx;obtain⟨b2,o2,rfl,-,zW,sE,-,qA⟩:=HB.out q y hy;obtain⟨jN,n1,s1,m1,i1,j1,k1,u1,z1,t1,rfl⟩:=bI oO;obtain⟨qV,n2,s2,m2,i2,j2,k2,u2,z2,t2,rfl⟩:=bI sE;have p10:wr.cell? ⟨b1,o1+q*6,none⟩=_:=aD HW.out (mY 0 _ rfl);have p11:wr.cell? ⟨b1,o1+q*6+1,none⟩=_:=aD HW.out (mY 1 _ rfl);have p12:wr.cell? ⟨b1,o1+q*6+2,none⟩=_:=aD HW.out (mY 2 _ rfl);have p13:wr.cell? ⟨b1,o1+q*6+3,none⟩=_:=aD HW.out (mY 3 _ rfl);have p14:wr.cell? ⟨b1,o1+q*6+4,none⟩=_:=aD HW.out (mY 4 _ rfl);have p15:wr.cell? ⟨b1,o1+q*6+5,none⟩=_:=aD HW.out (mY 5 _ rfl);have p20:wr.cell? ⟨b2,o2+q*6,none⟩=_:=aD HW.out (qA 0 _ rfl);have p21:wr.cell? ⟨b2,o2+q*6+1,none⟩=_:=aD HW.out (qA 1 _ rfl);have p22:wr.cell? ⟨b2,o2+q*6+2,none⟩=_:=aD HW.out (qA 2 _ rfl);have p23:wr.cell? ⟨b2,o2+q*6+3,none⟩=_:=aD HW.out (qA 3 _ rfl);have p24:wr.cell? ⟨b2,o2+q*6+4,none⟩=_:=aD HW.out (qA 4 _ rfl);have p25:wr.cell? ⟨b2,o2+q*6+5,none⟩=_:=aD HW.out (qA 5 _ rfl);have yG:=zh (fun W(hb:Below wr.heap.size wr W)=>HD.out x y N N' _ _ W (HDp.out x (List.mem_of_getElem? hx)) (gW _ _ _ _ _ _ (aM.later (aA HW.out hb)) oO) (gW _ _ _ _ _ _ (aM.later (aA HW.out hb)) sE));have qM:=zh (sameX_iff x y);clear mY qA hx hy oO sE;have jO:=zh (aB wr (.cells #[.int .i64 jN,.int .i64 n1,.string s1,.string m1,.slice i1 j1 k1,.slice u1 z1 t1] 32));have qY:=zh (aA jO.out (aB (wr.alloc (.cells #[.int .i64 jN,.int .i64 n1,.string s1,.string m1,.slice i1 j1 k1,.slice u1 z1 t1] 32)) (.cells #[.int .i64 qV,.int .i64 n2,.string s2,.string m2,.slice i2 j2 k2,.slice u2 z2 t2] 32)));have t20:=aD jO.out p20;have t21:=aD jO.out p21;have t22:=aD jO.out p22;have t23:=aD jO.out p23;have t24:=aD jO.out p24;have t25:=aD jO.out p25;have lF:(wr.alloc (.cells #[.int .i64 jN,.int .i64 n1,.string s1,.string m1,.slice i1 j1 k1,.slice u1 z1 t1] 32)).heap.size=wr.heap.size+1:=C0;have qE:=bY (wr.alloc (.cells #[.int .i64 jN,.int .i64 n1,.string s1,.string m1,.slice i1 j1 k1,.slice u1 z1 t1] 32)) (.cells #[.int .i64 qV,.int .i64 n2,.string s2,.string m2,.slice i2 j2 k2,.slice u2 z2 t2] 32);rw[lF] at qE;obtain⟨⟨x0,x1,x2,x3,x4,x5⟩,-⟩:=bx6 (aC (aB (wr.alloc (.cells #[.int .i64 jN,.int .i64 n1,.string s1,.string m1,.slice i1 j1 k1,.slice u1 z1 t1] 32)) (.cells #[.int .i64 qV,.int .i64 n2,.string s2,.string m2,.slice i2 j2 k2,.slice u2 z2 t2] 32)) (bY wr (.cells #[.int .i64 jN,.int .i64 n1,.string s1,.string m1,.slice i1 j1 k1,.slice u1 z1 t1] 32)));obtain⟨⟨y0,y1,y2,y3,y4,y5⟩,-⟩:=bx6 qE;clear qE;go_wp2_with fail;go_at_call 71;refine(yG.out _ qY.out).mono ?_;rintro e w8 ⟨rfl,rF⟩;have pN:=zh (aA HW.out (aA qY.out rF));generalize iA x y=sr at *;exact AY
   exact BG
 have HE:Hid (eqL a b=false):=zh (cH (fun e=>hl (by rw[e])));have tP:((a.length:Int)==(b.length:Int))=false:=DN;go_enter Tryz.func125,Tryz.ntmps125;exact B7
theorem sexp_step(d:Nat)(hD:SsX d):SsX (d+1):=by
 rintro⟨op,n,s,m,ns,xs⟩ ⟨op',n',s',m',ns',xs'⟩ N N' cx cy w hd hx hy;have hR:iA (.mk op n s m ns xs) (.mk op' n' s' m' ns' xs')=(decide (op=op')&&decide (n=n')&&decide (s=s')&&decide (m=m')&&decide (ns=ns')&&gO xs xs'):=by rw[iA]
 rw[wX_iff] at hx hy;obtain⟨v1,v2,rfl,-,-,hn,ha⟩:=hx;obtain⟨v3,v4,rfl,-,-,zC,wP⟩:=hy;obtain⟨a1,c1,rfl,-⟩:=id hn;obtain⟨a2,c2,rfl,-⟩:=id ha;obtain⟨xX,xV,rfl,-⟩:=id zC;obtain⟨tR,sU,rfl,-⟩:=id wP;have sT:=aA (aB w (.cells #[.int .i64 op,.int .i64 n,.string s,.string m,.slice a1 ns.length c1,.slice a2 xs.length c2] 32)) (aB (w.alloc (.cells #[.int .i64 op,.int .i64 n,.string s,.string m,.slice a1 ns.length c1,.slice a2 xs.length c2] 32)) (.cells #[.int .i64 op',.int .i64 n',.string s',.string m',.slice xX ns'.length xV,.slice tR xs'.length sU] 32));have jD:=zh sT;have iN:=aC (aB (w.alloc (.cells #[.int .i64 op,.int .i64 n,.string s,.string m,.slice a1 ns.length c1,.slice a2 xs.length c2] 32)) (.cells #[.int .i64 op',.int .i64 n',.string s',.string m',.slice xX ns'.length xV,.slice tR xs'.length sU] 32)) (bY w (.cells #[.int .i64 op,.int .i64 n,.string s,.string m,.slice a1 ns.length c1,.slice a2 xs.length c2] 32));have jI:=bY (w.alloc (.cells #[.int .i64 op,.int .i64 n,.string s,.string m,.slice a1 ns.length c1,.slice a2 xs.length c2] 32)) (.cells #[.int .i64 op',.int .i64 n',.string s',.string m',.slice xX ns'.length xV,.slice tR xs'.length sU] 32);rw[show(w.alloc (.cells #[.int .i64 op,.int .i64 n,.string s,.string m,.slice a1 ns.length c1,.slice a2 xs.length c2] 32)).heap.size=w.heap.size+1 by simp] at jI;obtain⟨⟨x0,x1,x2,x3,x4,x5⟩,-⟩:=bx6 iN;obtain⟨⟨y0,y1,y2,y3,y4,y5⟩,-⟩:=bx6 jI;have HXh:=zh iN;have HYh:=zh jI;have HN:=zh (names_any ns ns' _ _ _ (hn.moves aT (aM.later sT) CX).strs (zC.moves aT (aM.later sT) CX).strs)
 have HE:=zh (fun W(hb:Below w.heap.size w W)=>sexps_of xs xs' hD (fun x hx=>by
  have h1:=depthXs_mem xs x hx;rw[gU] at hd
  omega) (w:=W) (ha.moves gW (aM.later hb) CX) (wP.moves gW (aM.later hb) CX))
 have HSe:Hid (eqL xs xs'=gO xs xs'):=zh (by
  by_cases h:xs=xs'
  ·rw[dW h,(sameXs_iff xs xs').2 h]
  rw[cH h];cases hq:gO xs xs' with
  |false=>rfl
  |true=>exact absurd ((sameXs_iff xs xs').1 hq) h)
 have HSn:Hid (eqL ns ns'=decide (ns=ns')):=zh (by
  by_cases h:ns=ns'
  ·rw[dW h,decide_eq_true h]
  rw[cH h,decide_eq_false h])
 clear hn ha zC wP hD hd sT iN jI;have HR:=zh hR;clear hR;generalize iA (.mk op n s m ns xs) (.mk op' n' s' m' ns' xs')=rr at *;rw[HSe.out] at HE;rw[HSn.out] at HN;clear HSe HSn;generalize gO xs xs'=q5 at *;generalize decide (ns=ns')=q4 at *;generalize ns.length=l1 at *;generalize ns'.length=l2 at *;generalize xs.length=l3 at *;generalize xs'.length=l4 at *;by_cases h1:op=op'
 ·subst h1;by_cases h2:n=n'
  ·subst h2;by_cases h3:s=s'
   ·subst h3;by_cases h4:m=m'
    ·subst h4;have oL:Hid (rr=(q4&&q5)):=zh EB;clear HR
     cases q4 with
     |false=>
      go_enter Tryz.func71,Tryz.ntmps71;go_wp2_with(go_at_call 124;refine HN.out.mono ?_;rintro e w3 ⟨rfl,kX⟩);go_ret;exact⟨aF (by rw[oL.out];rfl),aA jD.out kX⟩
     |true=>
      go_enter Tryz.func71,Tryz.ntmps71;go_wp2_with(go_at_call 124;refine HN.out.mono ?_;rintro e w3 ⟨rfl,kX⟩;have kH:=zh (aA jD.out kX);obtain⟨⟨z0,z1,z2,z3,z4,z5⟩,-⟩:=bx6 (aC kX HXh.out);obtain⟨⟨t0,t1,t2,t3,t4,t5⟩,-⟩:=bx6 (aC kX HYh.out);clear kX);go_wp2_with(go_at_call 125;refine(HE.out w3 kH.out).mono ?_;rintro e w4 ⟨rfl,pV⟩);go_ret;exact⟨aF (by rw[oL.out];rfl),aA kH.out pV⟩
    have g:(m.toList==m'.toList)=false:=cO h4;go_enter Tryz.func71,Tryz.ntmps71;go_wp2_with fail;go_ret;exact⟨aF (by rw[HR.out];simp[h4]),jD.out⟩
   have g:(s.toList==s'.toList)=false:=cO h3;go_enter Tryz.func71,Tryz.ntmps71;go_wp2_with fail;go_ret;exact⟨aF (by rw[HR.out];simp[h3]),jD.out⟩
  have g:(n==n')=false:=beq_eq_false_iff_ne.2 h2;go_enter Tryz.func71,Tryz.ntmps71;go_wp2_with fail;go_ret;exact⟨aF (by rw[HR.out];simp[h2]),jD.out⟩
 have g:(op==op')=false:=beq_eq_false_iff_ne.2 h1;go_enter Tryz.func71,Tryz.ntmps71;exact B6
theorem ssX_all:∀d,SsX d
 |0=>fun x y N N' cx cy w h=>by have:=depth_pos x;omega
 |d+1=>sexp_step d (ssX_all d)
theorem sexp_any(x y:Xp){N N':Nat->Prop}{cx cy:List Value}{w:World}(hx:wX N w x cx)(hy:wX N' w y cy):
  Calls Tryz.prog 71 #[.agg cx.toArray,.agg cy.toArray] w fun e w'=>e=.returned (.bool (iA x y))/\Below w.heap.size w w':=ssX_all _ x y N N' cx cy w (Nat.le_refl _) hx hy
def verC(v:Ver):List Value:=[.int .i64 v.a,.int .i64 v.b,.int .i64 v.c]
def Sz(s:bA):Prop:=s.size<=140737488355328
def encVer(_:Nat->Prop)(_:World)(v:Ver)(cs:List Value):Prop:=cs=verC v
def aW(_:Nat->Prop)(_:World)(r:Rng)(cs:List Value):Prop:=cs=verC r.lo++verC r.hi
def cQ(_:Nat->Prop)(_:World)(x:Int)(cs:List Value):Prop:=cs=[.int .i64 x]
theorem encVer_ok:cF encVer:=fun _ _ _ _ _ _ _ h=>h
theorem aS:cF aW:=fun _ _ _ _ _ _ _ h=>h
theorem bH:cF cQ:=fun _ _ _ _ _ _ _ h=>h
theorem aK.ints{N:Nat->Prop}{w:World}{v:Value}{l:List Int}(h:aK 1 cQ N w v l):Ints w v l:=by
 exact CH
def cI(N:Nat->Prop)(w:World)(n:Nd)(cs:List Value):Prop:=
 ∃vr vf,cs=[.string n.name,vr,.int .i64 n.kind,.string n.whn,vf]/\Sz n.name/\Sz n.whn/\aK 6 aW N w vr n.ranges/\aK 1 cD N w vf n.feats
theorem fC:cF cI:=fun _ _ _ _ _ _ hm ⟨vr,vf,h,h1,h2,h3,h4⟩=>⟨vr,vf,h,h1,h2,h3.moves aS hm CX,h4.moves aT hm CX⟩
def dO(N:Nat->Prop)(w:World)(f:Ft)(cs:List Value):Prop:=∃vi,cs=[.string f.name,vi]/\Sz f.name/\aK 1 cD N w vi f.implies
theorem encFt_ok:cF dO:=fun _ _ _ _ _ _ hm ⟨vi,h,h1,h2⟩=>⟨vi,h,h1,h2.moves aT hm CX⟩
def rlC(r:Rl)(vn vf vp:Value):List Value:=[.string r.name,.int .i64 r.ver.a,.int .i64 r.ver.b,.int .i64 r.ver.c,.string r.source,vn,vf,vp,.string r.lic]
structure RlV (N:Nat->Prop) (w:World) (r:Rl) (vn vf vp:Value):Prop where
 name:Sz r.name
 source:Sz r.source
 lic:Sz r.lic
 needs:aK 5 cI N w vn r.needs
 feats:aK 2 dO N w vf r.feats
 plats:aK 1 cD N w vp r.plats
theorem RlV.moves{N N':Nat->Prop}{w w':World}{r:Rl}{vn vf vp:Value}(h:RlV N w r vn vf vp)(hm:aM N w N' w'):RlV N' w' r vn vf vp:=
 ⟨h.name,h.source,h.lic,h.needs.moves fC hm CX,h.feats.moves encFt_ok hm CX,h.plats.moves aT hm CX⟩
theorem RlV.later{N:Nat->Prop}{w w':World}{r:Rl}{vn vf vp:Value}(h:RlV N w r vn vf vp)(hb:Below w.heap.size w w'):RlV N w' r vn vf vp:=h.moves (aM.later hb)
def adC(a:Ad)(vr:Value)(op n:Int)(s m:bA)(vs va:Value):List Value:=[.int .i64 a.id,.string a.name,vr,.string a.fn,.int .i64 op,.int .i64 n,.string s,.string m,vs,va]
structure AdV (N:Nat->Prop) (w:World) (a:Ad) (vr:Value) (op n:Int) (s m:bA) (vs va:Value):Prop where
 name:Sz a.name
 fn:Sz a.fn
 ranges:aK 6 aW N w vr a.ranges
 cond:wX N w a.cond [.int .i64 op,.int .i64 n,.string s,.string m,vs,va]
theorem AdV.moves{N N':Nat->Prop}{w w':World}{a:Ad}{vr:Value}{op n:Int}{s m:bA}{vs va:Value}(h:AdV N w a vr op n s m vs va)(hm:aM N w N' w'):AdV N' w' a vr op n s m vs va:=
 ⟨h.name,h.fn,h.ranges.moves aS hm CX,gW _ _ _ _ _ _ hm h.cond⟩
theorem AdV.later{N:Nat->Prop}{w w':World}{a:Ad}{vr:Value}{op n:Int}{s m:bA}{vs va:Value}(h:AdV N w a vr op n s m vs va)(hb:Below w.heap.size w w'):AdV N w' a vr op n s m vs va:=h.moves (aM.later hb)
structure FcP where
 vn:Value
 vf:Value
 vp:Value
 vr:Value
 op:Int
 n:Int
 s:bA
 m:bA
 vs:Value
 va:Value
 vk:Value
def fcC(f:Fc)(p:FcP):List Value:=
 [.int .i64 f.kind,.string f.name,.int .i64 f.ver.a,.int .i64 f.ver.b,.int .i64 f.ver.c,
  .string f.rel.name,.int .i64 f.rel.ver.a,.int .i64 f.rel.ver.b,.int .i64 f.rel.ver.c,.string f.rel.source,p.vn,p.vf,p.vp,.string f.rel.lic,
  .int .i64 f.adv.id,.string f.adv.name,p.vr,.string f.adv.fn,.int .i64 p.op,.int .i64 p.n,.string p.s,.string p.m,p.vs,p.va,
  p.vk,.int .i64 f.need,.int .i64 f.til,.int .i64 f.print,.int .i64 f.time]
structure FcV (N:Nat->Prop) (w:World) (f:Fc) (p:FcP):Prop where
 name:Sz f.name
 rel:RlV N w f.rel p.vn p.vf p.vp
 adv:AdV N w f.adv p.vr p.op p.n p.s p.m p.vs p.va
 keys:aK 1 cQ N w p.vk f.keys
theorem FcV.moves{N N':Nat->Prop}{w w':World}{f:Fc}{p:FcP}(h:FcV N w f p)(hm:aM N w N' w'):FcV N' w' f p:=⟨h.name,h.rel.moves hm,h.adv.moves hm,h.keys.moves bH hm CX⟩
theorem FcV.later{N:Nat->Prop}{w w':World}{f:Fc}{p:FcP}(h:FcV N w f p)(hb:Below w.heap.size w w'):FcV N w' f p:=h.moves (aM.later hb)
def encFc(N:Nat->Prop)(w:World)(f:Fc)(cs:List Value):Prop:=∃p,cs=fcC f p/\FcV N w f p
theorem encFc_ok:cF encFc:=fun _ _ _ _ _ _ hm ⟨p,h,h1⟩=>⟨p,h,h1.moves hm⟩
end Go.Proofs.YtmpopphjaggeoaaGreatDoor
namespace Go.Proofs.YtmpopphjaggeoaaGreatDoor
open Go.RowKit Go.Sort
theorem bN{x:Int}(h1: -9223372036854775808<=x)(h2:x<=9223372036854775807):IntKind.i64.wrap x=x:=by
 simp only[IntKind.wrap_i64];omega
theorem bb5{w:World}{b:Nat}{x0 x1 x2 x3 x4:Value}{t:TypeId}(h:w.heap[b]? =some (.cells #[x0,x1,x2,x3,x4] t)):
  (w.cell? ⟨b,0,none⟩=some x0/\w.cell? ⟨b,1,none⟩=some x1/\w.cell? ⟨b,2,none⟩=some x2/\w.cell? ⟨b,3,none⟩=some x3/\w.cell? ⟨b,4,none⟩=some x4)/\True:=
 ⟨⟨(bx h 0 rfl).1,(bx h 1 rfl).1,(bx h 2 rfl).1,(bx h 3 rfl).1,(bx h 4 rfl).1⟩,trivial⟩
def Gw(w w':World):Prop:=∃q os,w'=grow (w.drewN q) os
theorem Gw.refl(w:World):Gw w w:=⟨0,#[],by simp[grow,World.drewN]⟩
theorem Gw.alloc{w w':World}(h:Gw w w')(o:Obj):Gw w (w'.alloc o):=by
 obtain⟨q,os,rfl⟩:=h;exact⟨q,os++#[o],by rw[alloc_eq_grow,grow_grow]⟩
theorem Gw.drew{w w':World}(h:Gw w w'):Gw w w'.drew:=by
 obtain⟨q,os,rfl⟩:=h;exact⟨q+1,os,rfl⟩
theorem below_dq(w:World)(q:Nat):Below w.heap.size w (w.drewN q):=⟨rfl,rfl,rfl,Nat.le_refl _,fun _ _=>rfl⟩
theorem Gw.trans{a b c:World}(h:Gw a b)(k:Gw b c):Gw a c:=by
 obtain⟨q,os,rfl⟩:=h;obtain⟨q',os',rfl⟩:=k;exact⟨q+q',os++os',by simp[grow,World.drewN,Array.append_assoc,Nat.add_assoc]⟩
theorem Gw.below{w w':World}(h:Gw w w'):Below w.heap.size w w':=by
 obtain⟨q,os,rfl⟩:=h;exact⟨rfl,rfl,rfl,by simp[World.drewN],fun b hb=>by simpa[World.drewN] using heap_grow_old (w.drewN q) os (k:=b) hb⟩
theorem ints3{w:World}{b:Nat}{x y z:Int}{t:TypeId}(h:w.heap[b]? =some (.cells #[.int .i64 x,.int .i64 y,.int .i64 z] t)):Ints w (.slice (some ⟨b,0,none⟩) 3 3) [x,y,z]:=by
 obtain⟨⟨x0,x1,x2⟩,-⟩:=bx3 h;refine⟨_,3,rfl,Nat.le_refl _,CX,fun _=>⟨b,0,rfl,fun i u hu=>?_⟩⟩
 match i with
 |0=>simp at hu;subst hu;exact⟨[_],rfl,rfl,fun j v hv=>by match j with|0=>(simp at hv;subst hv;simpa using x0)|j+1=>simp at hv⟩
 |1=>simp at hu;subst hu;exact⟨[_],rfl,rfl,fun j v hv=>by match j with|0=>(simp at hv;subst hv;simpa using x1)|j+1=>simp at hv⟩
 |2=>simp at hu;subst hu;exact⟨[_],rfl,rfl,fun j v hv=>by match j with|0=>(simp at hv;subst hv;simpa using x2)|j+1=>simp at hv⟩
 |i+3=>simp at hu
def orL:List Int->Int
 |[]=>0
 |x::r=>if x=0 then orL r else x
theorem orL_hit{l:List Int}{k:Nat}{x:Int}(hx:l[k]? =some x)(h:∀y∈l.take k,y=0)(h0:x≠0):orL l=x:=by
 induction l generalizing k with
 |nil=>simp at hx
 |cons y r ih=>
  cases k with
  |zero=>simp at hx;subst hx;simp[orL,h0]
  |succ k=>
   have hy:=h y C0;unfold orL;rw[if_pos hy];exact ih (by simpa using hx) (fun z hz=>h z (by simp[hz]))
theorem orL_none{l:List Int}(h:∀y∈l,y=0):orL l=0:=by
 induction l with
 |nil=>rfl
 |cons y r ih=>unfold orL;rw[if_pos (h y C0)];exact ih (fun z hz=>h z (by simp[hz]))
theorem or_any(l:List Int)(v:Value)(w:World)(hv:Ints w v l):
  Calls Tryz.prog 60 #[v] w fun e w'=>e=.returned (.int .i64 (orL l))/\w'=w:=by
 rcases hv.cases with⟨rfl,a,c,rfl⟩|⟨b,o,c,rfl,h0,h1,h2,hb,hc⟩
 ·clear hv;go_enter Tryz.func60,Tryz.ntmps60;go_wp2_with fail;go_loop [8] (fun i=>i=.int .i64 0) (fun i=>0)
  case atStart=>rfl
  case round=>
   subst hrel;go_wp2_with fail;go_ret;exact⟨rfl,rfl⟩
 clear hv;go_enter Tryz.func60,Tryz.ntmps60;go_wp2_with fail;go_loop [8] (fun i=>∃k:Nat,k<=l.length/\i=.int .i64 k/\Hid (∀y∈l.take k,y=0)) (fun i=>l.length-(intOf i).toNat)
 case atStart=>exact⟨0,Nat.zero_le _,rfl,zh C0⟩
 case round=>
  obtain⟨k,hk,rfl,HN⟩:=hrel;by_cases jM:k<l.length
  ·obtain⟨x,hx,-⟩:=getElem?_of_lt jM;have kP:=hc k x hx;have HX:=zh hx;clear hc hx;by_cases hz:x=0
   ·have HZ:=zh hz;(have kQ:(x != 0)=false:=by rw[hz];rfl);clear hz;go_wp2_with fail
    go_round
    case rel=>exact⟨k+1,CR,C5,zh (fun y hy=>by
     rw[List.take_add_one,HX.out] at hy;rcases List.mem_append.1 hy with h|h
     ·exact HN.out y h
     simp at h;rw[h];exact HZ.out)⟩
    case measure=>simp[intOf];omega
   have HZ:=zh hz;(have kQ:(x != 0)=true:=by simpa using hz);clear hz;go_wp2_with fail;go_ret;exact⟨aQ (orL_hit HX.out HN.out HZ.out).symm,rfl⟩
  go_wp2_with fail;go_ret;exact⟨aQ (orL_none (fun y hy=>HN.out y (by rw[List.take_of_length_le CR];exact hy))).symm,rfl⟩
theorem cmpV_or(v u:Ver):orL [cmpI v.a u.a,cmpI v.b u.b,cmpI v.c u.c]=bB v u:=by
 unfold bB orL orL orL orL;by_cases h1:cmpI v.a u.a=0
 ·by_cases h2:cmpI v.b u.b=0
  ·by_cases h3:cmpI v.c u.c=0<;>simp[h1,h2,h3]
  simp[h1,h2]
 simp[h1]
theorem fS(v u:Ver)(w:World):
  Calls Tryz.prog 21 #[.agg #[.int .i64 v.a,.int .i64 v.b,.int .i64 v.c],.agg #[.int .i64 u.a,.int .i64 u.b,.int .i64 u.c]] w fun e w'=>e=.returned (.int .i64 (bB v u))/\Gw w w':=by
 have HV:Hid (orL [Lib.compareInt v.a u.a,Lib.compareInt v.b u.b,Lib.compareInt v.c u.c]=bB v u):=zh (cmpV_or v u);have HC:=zh (fun x y W=>Tryz.cmp_Compare_int x y W);have HO:=zh (fun l b W h=>or_any l b W h);have lF:(w.alloc (.cells #[.int .i64 v.a,.int .i64 v.b,.int .i64 v.c] 23)).heap.size=w.heap.size+1:=C0;have qE:=bY (w.alloc (.cells #[.int .i64 v.a,.int .i64 v.b,.int .i64 v.c] 23)) (.cells #[.int .i64 u.a,.int .i64 u.b,.int .i64 u.c] 23);rw[lF] at qE;obtain⟨⟨x0,x1,x2⟩,-⟩:=bx3 (aC (aB (w.alloc (.cells #[.int .i64 v.a,.int .i64 v.b,.int .i64 v.c] 23)) (.cells #[.int .i64 u.a,.int .i64 u.b,.int .i64 u.c] 23)) (bY w (.cells #[.int .i64 v.a,.int .i64 v.b,.int .i64 v.c] 23)));obtain⟨⟨y0,y1,y2⟩,-⟩:=bx3 qE;clear qE
 have HI:Hid (∀x y z,Ints ((((w.alloc (.cells #[.int .i64 v.a,.int .i64 v.b,.int .i64 v.c] 23)).alloc (.cells #[.int .i64 u.a,.int .i64 u.b,.int .i64 u.c] 23)).alloc (.cells #[.int .i64 x,.int .i64 y,.int .i64 z] 3)).drew) (.slice (some ⟨w.heap.size+1+1,0,none⟩) 3 3) [x,y,z]):=zh (fun x y z=>ints3 (by
  have h:=bY ((w.alloc (.cells #[.int .i64 v.a,.int .i64 v.b,.int .i64 v.c] 23)).alloc (.cells #[.int .i64 u.a,.int .i64 u.b,.int .i64 u.c] 23)) (.cells #[.int .i64 x,.int .i64 y,.int .i64 z] 3);rw[show((w.alloc (.cells #[.int .i64 v.a,.int .i64 v.b,.int .i64 v.c] 23)).alloc (.cells #[.int .i64 u.a,.int .i64 u.b,.int .i64 u.c] 23)).heap.size=w.heap.size+1+1 by simp] at h
  exact h))
 go_enter Tryz.func21,Tryz.ntmps21;go_wp2_with fail;refine wp_region_held_drew (S:=fun W=>Below (((w.alloc (.cells #[.int .i64 v.a,.int .i64 v.b,.int .i64 v.c] 23)).alloc (.cells #[.int .i64 u.a,.int .i64 u.b,.int .i64 u.c] 23))).heap.size (((w.alloc (.cells #[.int .i64 v.a,.int .i64 v.b,.int .i64 v.c] 23)).alloc (.cells #[.int .i64 u.a,.int .i64 u.b,.int .i64 u.c] 23))) W) CQ (aL _) fun hS=>?_;refine zq 0 (.pointer (some ⟨w.heap.size,0,none⟩)) rfl ?_;refine zt 1 (.int .i64 v.a) rfl (fun W hW=>by have q0:=aD hW x0;go_simp) ?_;refine zq 2 (.pointer (some ⟨w.heap.size+1,0,none⟩)) rfl ?_;refine zt 3 (.int .i64 u.a) rfl (fun W hW=>by have q0:=aD hW y0;go_simp) ?_;refine zq 5 (.pointer (some ⟨w.heap.size,1,none⟩)) rfl ?_;refine zt 6 (.int .i64 v.b) rfl (fun W hW=>by have q0:=aD hW x1;go_simp) ?_;refine zq 7 (.pointer (some ⟨w.heap.size+1,1,none⟩)) rfl ?_;refine zt 8 (.int .i64 u.b) rfl (fun W hW=>by have q0:=aD hW y1;go_simp) ?_;refine zq 10 (.pointer (some ⟨w.heap.size,2,none⟩)) rfl ?_;refine zt 11 (.int .i64 v.c) rfl (fun W hW=>by have q0:=aD hW x2;go_simp) ?_;refine zq 12 (.pointer (some ⟨w.heap.size+1,2,none⟩)) rfl ?_;refine zt 13 (.int .i64 u.c) rfl (fun W hW=>by have q0:=aD hW y2;go_simp) ?_;try simp only[zn]
 refine zr 4 rfl (fun K hK=>?_);try simp only[z1,z2,z3]
 go_simp;refine(HC.out _ _ _).mono ?_;rintro e w0 ⟨rfl,rfl⟩;refine hK.out _ _ hS (fun hS=>?_);clear hK K;try simp only[zn]
 refine zr 9 rfl (fun K hK=>?_);try simp only[z1,z2,z3]
 go_simp;refine(HC.out _ _ _).mono ?_;rintro e w1 ⟨rfl,rfl⟩;refine hK.out _ _ hS (fun hS=>?_);clear hK K;try simp only[zn]
 refine zr 14 rfl (fun K hK=>?_);try simp only[z1,z2,z3]
 go_simp;refine(HC.out _ _ _).mono ?_;rintro e w2 ⟨rfl,rfl⟩;refine hK.out _ _ hS (fun hS=>?_);clear hK K;try simp only[zn]
 refine zr 15 rfl (fun K hK=>?_);try simp only[z1,z2,z3]
 go_simp;refine hK.out _ _ (aA hS (aB _ _)) (fun hS=>?_);clear hK K;try simp only[zn]
 refine zr 16 rfl (fun K hK=>?_);try simp only[z1,z2,z3]
 go_simp;have hS2:=hS;refine(HO.out _ _ _ (HI.out _ _ _)).mono ?_;rintro e w3 ⟨rfl,rfl⟩;refine hK.out _ _ hS2 (fun hS=>?_);clear hK K;refine zq 17 (.int .i64 (orL [Lib.compareInt v.a u.a,Lib.compareInt v.b u.b,Lib.compareInt v.c u.c])) rfl ?_;try simp only[zn]
 refine wpAnyH_done CQ ?_ _;go_wp2_with fail;go_ret;exact⟨aQ HV.out,((((Gw.refl w).alloc _).alloc _).alloc _).drew⟩
end Go.Proofs.YtmpopphjaggeoaaGreatDoor
namespace Go.Proofs.YtmpopphjaggeoaaGreatDoor
open Go.RowKit Go.Shelf
def IdxCon(P:Program)(F k:Nat):Prop:=∀{α:Type}[Inhabited α](enc:α->List Value)(_:∀x,(enc x).length=k)(p:α->Bool)(g:Nat)(lb:Array Value)(_:∀args w,(callFunc g args).run P w=.ok (.enter g args) w)
 (b off n c:Nat) (zs:List α) (w:World) (_:PredBelow P g lb (fun x=>.agg (enc x).toArray) p w) (_:n<=zs.length) (_:n<=9223372036854775807) (_:b<w.heap.size)
 (_:∀j,j<zs.length->∀i v,(enc zs[j]!)[i]? =some v->w.cell? ⟨b,off+j*k+i,none⟩=some v),
 Calls P F #[.slice (some ⟨b,off,none⟩) n c,.func (.func g) #[] lb] w fun e w'=>e=.returned (.int .i64 (Lib.idxBy (fun _ y=>p y) (zs.take n) default))/\Below w.heap.size w w'
theorem idxByFrom_idxOf{α β:Type}[Inhabited α](p:β->Bool)(f:α->β)(d:α):∀(zs:List α)(i:Nat),Lib.idxByFrom (fun _ y=>p (f y)) d zs i=match(zs.map f).findIdx? p with|some k=>((k+i:Nat):Int)|none=> -1
 |[],i=>by simp[Lib.idxByFrom]
 |z::zs,i=>by
  unfold Lib.idxByFrom;rw[idxByFrom_idxOf p f d zs (i+1)]
  cases hz:p (f z) with
  |true=>simp[List.findIdx?_cons,hz]
  |false=>
   simp[List.findIdx?_cons,hz]
   cases (List.findIdx? (p ∘ f) zs) with
   |none=>simp
   |some k=>simp only[Option.map_some];exact congrArg Int.ofNat (show k+(i+1)=k+1+i by omega)
def TestsN{β:Type}(P:Program)(g:FuncId)(lb:Array Value)(k:Nat)(enc:(Nat->Prop)->World->β->List Value->Prop)(N:Nat->Prop)(p:β->Bool)(l:List β)(w:World):Prop:=
 ∀x,x∈l->∀W cs,Below w.heap.size w W->enc N W x cs->cs.length=k->Calls P g (#[.agg cs.toArray]++lb) W fun e w'=>e=.returned (.bool (p x))/\Below W.heap.size W w'
theorem idxFn{P:Program}{F k:Nat}{β:Type}(C:IdxCon P F k){enc:(Nat->Prop)->World->β->List Value->Prop}(he:cF enc)(nN:0<k)(p:β->Bool)(g:FuncId)(lb:Array Value)
  (eg:∀args w,(callFunc g args).run P w=.ok (.enter g args) w) {N:Nat->Prop} {w:World} {v:Value} {l:List β} (hv:aK k enc N w v l) (kQ:l≠[]) (hp:TestsN P g lb k enc N p l w):
  Calls P F #[v,.func (.func g) #[] lb] w fun e w'=>e=.returned (.int .i64 (fQ p l))/\Below w.heap.size w w':=by
 obtain⟨a,c,rfl,h1,h2,h3⟩:=hv;obtain⟨b,o,rfl,hN,hc⟩:=h3 kQ;let α:={z:List Value×β // enc N w z.2 z.1/\z.1.length=k/\z.2∈l};have hx:∀i(h:i<l.length),∃cs,enc N w l[i] cs/\cs.length=k/\∀j u,cs[j]? =some u->w.cell? ⟨b,o+i*k+j,none⟩=some u:=fun i h=>hc i l[i] (List.getElem?_eq_getElem h)
 have hzs:∃zs:List α,zs.map (fun z=>z.1.2)=l/\∀i z,zs[i]? =some z->∀j u,z.1.1[j]? =some u->w.cell? ⟨b,o+i*k+j,none⟩=some u:=by
  refine⟨List.ofFn (fun i:Fin l.length=>(⟨((hx i.1 i.2).choose,l[i.1]),(hx i.1 i.2).choose_spec.1,(hx i.1 i.2).choose_spec.2.1,List.getElem_mem _⟩:α)),?_,fun i z hz j u hu=>?_⟩
  ·apply List.ext_getElem<;>simp
  rw[List.getElem?_ofFn] at hz;split at hz
  ·rename_i hi;cases hz;exact(hx i hi).choose_spec.2.2 j u hu
  cases hz
 obtain⟨zs,zD,kP⟩:=hzs;have kU:zs.length=l.length:=by rw[<-zD];simp
 have pY:zs≠[]:=fun h=>kQ (by rw[<-zD,h];rfl);obtain⟨z0,r0,e0⟩:=List.exists_cons_of_ne_nil pY
 letI:Inhabited α:=⟨z0⟩
 have hb:b<w.heap.size:=by
  have h:=kP 0 z0 (by rw[e0];rfl) 0 (z0.1.1[0]'(by rw[z0.2.2.1];exact nN)) (List.getElem?_eq_getElem _);exact cV h
 have H:=C (fun z:α=>z.1.1) (fun z=>z.2.2.1) (fun z=>p z.1.2) g lb eg b o l.length c zs w
  (fun W z hW=>(hp z.1.2 z.2.2.2 W z.1.1 hW (he _ _ _ _ _ _ (aM.later hW) z.2.1) z.2.2.1).mono fun e w' ⟨h1,h2⟩=>⟨h1,aA hW h2⟩) CR (Nat.le_trans h1 h2) hb
  (fun j hj i u hu=>by
   have:zs[j]? =some zs[j]! :=by rw[List.getElem!_eq_getElem?_getD,List.getElem?_eq_getElem hj];rfl
   exact kP j _ this i u hu)
 refine H.mono fun e w' ⟨h1,h2⟩=>⟨?_,h2⟩;rw[h1,List.take_of_length_le CR];refine aQ ?_;unfold Lib.idxBy fQ;rw[idxByFrom_idxOf p (fun z:α=>z.1.2),zD];cases l.findIdx? p<;>simp
theorem idxNil_rng(a:Option Addr)(c:Nat)(fv:Value)(w:World):Calls Tryz.prog 173 #[.slice a 0 c,fv] w fun e w'=>e=.returned (.int .i64 (-1))/\Below w.heap.size w w':=by
 go_enter Tryz.func173,Tryz.ntmps173;exact BB
theorem idx_rng(p:Rng->Bool)(g:FuncId)(lb:Array Value)(eg:∀args w,(callFunc g args).run Tryz.prog w=.ok (.enter g args) w){N:Nat->Prop}{w:World}{v:Value}{l:List Rng}(hv:aK 6 aW N w v l)(hp:TestsN Tryz.prog g lb 6 aW N p l w):
  Calls Tryz.prog 173 #[v,.func (.func g) #[] lb] w fun e w'=>e=.returned (.int .i64 (fQ p l))/\Below w.heap.size w w':=by
 by_cases kQ:l=[]
 ·subst kQ;obtain⟨a,c,rfl,-⟩:=hv;exact idxNil_rng a c _ w
 exact idxFn (F:=173) (fun enc hk p g lb eg b off n c zs w hp hz kS hb hc=>Tryz.slices_IndexFunc_f173 6 Tryz.isAgg115 Tryz.sizeOf115 enc hk p g lb eg b off n c zs w hp hz kS hb hc) aS CX p g lb eg hv kQ hp
theorem has_rng(p:Rng->Bool)(g:FuncId)(lb:Array Value)(eg:∀args w,(callFunc g args).run Tryz.prog w=.ok (.enter g args) w){N:Nat->Prop}{w:World}{v:Value}{l:List Rng}(hv:aK 6 aW N w v l)(hp:TestsN Tryz.prog g lb 6 aW N p l w):
  Calls Tryz.prog 114 #[v,.func (.func g) #[] lb] w fun e w'=>e=.returned (.bool (l.any p))/\Below w.heap.size w w':=by
 have h:=zh (idx_rng p g lb eg hv hp);have HA:=zh (idxOf_any p l);generalize fQ p l=r at h HA;generalize l.any p=q at HA ⊢;clear hp hv eg;go_enter Tryz.func114,Tryz.ntmps114;go_wp2_with(go_at_call 173;refine h.out.mono ?_;rintro e w' ⟨rfl,sF⟩);go_ret;exact⟨aF (by rw[<-HA.out]),sF⟩
theorem idxNil_nd(a:Option Addr)(c:Nat)(fv:Value)(w:World):Calls Tryz.prog 132 #[.slice a 0 c,fv] w fun e w'=>e=.returned (.int .i64 (-1))/\Below w.heap.size w w':=by
 go_enter Tryz.func132,Tryz.ntmps132;exact BB
theorem idx_nd(p:Nd->Bool)(g:FuncId)(lb:Array Value)(eg:∀args w,(callFunc g args).run Tryz.prog w=.ok (.enter g args) w){N:Nat->Prop}{w:World}{v:Value}{l:List Nd}(hv:aK 5 cI N w v l)(hp:TestsN Tryz.prog g lb 5 cI N p l w):
  Calls Tryz.prog 132 #[v,.func (.func g) #[] lb] w fun e w'=>e=.returned (.int .i64 (fQ p l))/\Below w.heap.size w w':=by
 by_cases kQ:l=[]
 ·subst kQ;obtain⟨a,c,rfl,-⟩:=hv;exact idxNil_nd a c _ w
 exact idxFn (F:=132) (fun enc hk p g lb eg b off n c zs w hp hz kS hb hc=>Tryz.slices_IndexFunc_f132 5 Tryz.isAgg71 Tryz.sizeOf71 enc hk p g lb eg b off n c zs w hp hz kS hb hc) fC CX p g lb eg hv kQ hp
theorem has_nd(p:Nd->Bool)(g:FuncId)(lb:Array Value)(eg:∀args w,(callFunc g args).run Tryz.prog w=.ok (.enter g args) w){N:Nat->Prop}{w:World}{v:Value}{l:List Nd}(hv:aK 5 cI N w v l)(hp:TestsN Tryz.prog g lb 5 cI N p l w):
  Calls Tryz.prog 79 #[v,.func (.func g) #[] lb] w fun e w'=>e=.returned (.bool (l.any p))/\Below w.heap.size w w':=by
 have h:=zh (idx_nd p g lb eg hv hp);have HA:=zh (idxOf_any p l);generalize fQ p l=r at h HA;generalize l.any p=q at HA ⊢;clear hp hv eg;go_enter Tryz.func79,Tryz.ntmps79;go_wp2_with(go_at_call 132;refine h.out.mono ?_;rintro e w' ⟨rfl,sF⟩);go_ret;exact⟨aF (by rw[<-HA.out]),sF⟩
theorem idxNil_fct(a:Option Addr)(c:Nat)(fv:Value)(w:World):Calls Tryz.prog 58 #[.slice a 0 c,fv] w fun e w'=>e=.returned (.int .i64 (-1))/\Below w.heap.size w w':=by
 go_enter Tryz.func58,Tryz.ntmps58;exact BB
theorem idx_fct(p:Fc->Bool)(g:FuncId)(lb:Array Value)(eg:∀args w,(callFunc g args).run Tryz.prog w=.ok (.enter g args) w){N:Nat->Prop}{w:World}{v:Value}{l:List Fc}(hv:aK 29 encFc N w v l)(hp:TestsN Tryz.prog g lb 29 encFc N p l w):
  Calls Tryz.prog 58 #[v,.func (.func g) #[] lb] w fun e w'=>e=.returned (.int .i64 (fQ p l))/\Below w.heap.size w w':=by
 by_cases kQ:l=[]
 ·subst kQ;obtain⟨a,c,rfl,-⟩:=hv;exact idxNil_fct a c _ w
 exact idxFn (F:=58) (fun enc hk p g lb eg b off n c zs w hp hz kS hb hc=>Tryz.slices_IndexFunc_f58 29 Tryz.isAgg37 Tryz.sizeOf37 enc hk p g lb eg b off n c zs w hp hz kS hb hc) encFc_ok CX p g lb eg hv kQ hp
theorem hU(v:Ver)(w:World):Calls Tryz.prog 34 #[.agg #[.int .i64 v.a,.int .i64 v.b,.int .i64 v.c]] w fun e w'=>e=.returned (.bool (aU v))/\Gw w w':=by
 obtain⟨a,b,c⟩:=v;obtain⟨⟨x0,x1,x2⟩,-⟩:=bx3 (bY w (.cells #[.int .i64 a,.int .i64 b,.int .i64 c] 23));go_enter Tryz.func34,Tryz.ntmps34;go_wp2_with fail
 all_goals
  clear x0 x1 x2;go_ret;exact⟨aF (by unfold aU;rw[Bool.eq_iff_iff];simp;try omega),(Gw.refl _).alloc _⟩
theorem in_any(r:Rng)(v:Ver)(w:World):Calls Tryz.prog 116 #[.agg #[.int .i64 r.lo.a,.int .i64 r.lo.b,.int .i64 r.lo.c,.int .i64 r.hi.a,.int .i64 r.hi.b,.int .i64 r.hi.c],.agg #[.int .i64 v.a,.int .i64 v.b,.int .i64 v.c]] w fun e w'=>e=.returned (.bool (inR r v))/\Gw w w':=by
 have HC:=zh (fun(v u:Ver)W=>fS v u W);have HR:Hid (inR r v=(decide (bB r.lo v<=0)&&decide (bB v r.hi<0))):=zh rfl;have hG0:=zh (((Gw.refl w).alloc (.cells #[.int .i64 r.lo.a,.int .i64 r.lo.b,.int .i64 r.lo.c,.int .i64 r.hi.a,.int .i64 r.hi.b,.int .i64 r.hi.c] 115)).alloc (.cells #[.int .i64 v.a,.int .i64 v.b,.int .i64 v.c] 23));have lF:(w.alloc (.cells #[.int .i64 r.lo.a,.int .i64 r.lo.b,.int .i64 r.lo.c,.int .i64 r.hi.a,.int .i64 r.hi.b,.int .i64 r.hi.c] 115)).heap.size=w.heap.size+1:=C0;have qE:=bY (w.alloc (.cells #[.int .i64 r.lo.a,.int .i64 r.lo.b,.int .i64 r.lo.c,.int .i64 r.hi.a,.int .i64 r.hi.b,.int .i64 r.hi.c] 115)) (.cells #[.int .i64 v.a,.int .i64 v.b,.int .i64 v.c] 23);rw[lF] at qE;have HX:=zh (aC (aB (w.alloc (.cells #[.int .i64 r.lo.a,.int .i64 r.lo.b,.int .i64 r.lo.c,.int .i64 r.hi.a,.int .i64 r.hi.b,.int .i64 r.hi.c] 115)) (.cells #[.int .i64 v.a,.int .i64 v.b,.int .i64 v.c] 23)) (bY w (.cells #[.int .i64 r.lo.a,.int .i64 r.lo.b,.int .i64 r.lo.c,.int .i64 r.hi.a,.int .i64 r.hi.b,.int .i64 r.hi.c] 115)));have HY:=zh qE;clear qE;obtain⟨⟨x0,x1,x2,x3,x4,x5⟩,-⟩:=bx6 HX.out;obtain⟨⟨y0,y1,y2⟩,-⟩:=bx3 HY.out;generalize inR r v=q at HR ⊢;by_cases h1:bB r.lo v<=0
 ·have H1:=zh h1;go_enter Tryz.func116,Tryz.ntmps116;go_wp2_with fail;go_at_call 21;refine(HC.out r.lo v _).mono ?_;rintro e w1 ⟨rfl,pJ⟩;have vX:=zh (hG0.out.trans pJ);obtain⟨⟨z0,z1,z2,z3,z4,z5⟩,-⟩:=bx6 (aC pJ.below HX.out);obtain⟨⟨t0,t1,t2⟩,-⟩:=bx3 (aC pJ.below HY.out);clear pJ x0 x1 x2 x3 x4 x5 y0 y1 y2;go_wp2_with fail;go_at_call 21;refine(HC.out v r.hi _).mono ?_;rintro e w2 ⟨rfl,oB⟩;have qO:=zh (vX.out.trans oB);clear oB;generalize bB v r.hi=c2 at *;go_wp2_with fail;go_ret;exact⟨aF (by rw[HR.out,decide_eq_true H1.out];rfl),qO.out⟩
 have Hd:Hid (decide (bB r.lo v<=0)=false):=zh (decide_eq_false h1);go_enter Tryz.func116,Tryz.ntmps116;go_wp2_with fail;go_at_call 21;refine(HC.out r.lo v _).mono ?_;rintro e w1 ⟨rfl,pJ⟩;have vX:=zh (hG0.out.trans pJ);clear pJ x0 x1 x2 x3 x4 x5 y0 y1 y2;have hd:=Hd.out;generalize bB r.lo v=c1 at *;go_wp2_with fail;go_ret;exact⟨aF (by rw[HR.out,Hd.out];rfl),vX.out⟩
def eD(r:Rng):List Value:=[.int .i64 r.lo.a,.int .i64 r.lo.b,.int .i64 r.lo.c,.int .i64 r.hi.a,.int .i64 r.hi.b,.int .i64 r.hi.c]
theorem has1_any(r:Rng)(v:Ver)(b:Nat)(w:World)(hb:w.heap[b]? =some (.cells #[.int .i64 v.a,.int .i64 v.b,.int .i64 v.c] 23)):
  Calls Tryz.prog 115 #[.agg (eD r).toArray,.pointer (some ⟨b,0,none⟩)] w fun e w'=>e=.returned (.bool (inR r v))/\Below w.heap.size w w':=by
 show Calls Tryz.prog 115 #[.agg #[.int .i64 r.lo.a,.int .i64 r.lo.b,.int .i64 r.lo.c,.int .i64 r.hi.a,.int .i64 r.hi.b,.int .i64 r.hi.c],.pointer (some ⟨b,0,none⟩)] w _;have HI:=zh (fun W=>in_any r v W);obtain⟨⟨x0,x1,x2,x3,x4,x5⟩,-⟩:=bx6 (bY w (.cells #[.int .i64 r.lo.a,.int .i64 r.lo.b,.int .i64 r.lo.c,.int .i64 r.hi.a,.int .i64 r.hi.b,.int .i64 r.hi.c] 115));obtain⟨⟨y0,y1,y2⟩,-⟩:=bx3 (aC (aB w (.cells #[.int .i64 r.lo.a,.int .i64 r.lo.b,.int .i64 r.lo.c,.int .i64 r.hi.a,.int .i64 r.hi.b,.int .i64 r.hi.c] 115)) hb);clear hb;go_enter Tryz.func115,Tryz.ntmps115;go_wp2_with fail;go_at_call 116;refine(HI.out _).mono ?_;rintro e w1 ⟨rfl,pJ⟩;have vX:=zh (aA (aB _ _) pJ.below);clear pJ x0 x1 x2 x3 x4 x5 y0 y1 y2;go_wp2_with fail;go_ret;exact⟨rfl,vX.out⟩
theorem hasV_any(l:List Rng)(v:Ver){N:Nat->Prop}{vl:Value}{w:World}(hv:aK 6 aW N w vl l):
  Calls Tryz.prog 64 #[vl,.agg #[.int .i64 v.a,.int .i64 v.b,.int .i64 v.c]] w fun e w'=>e=.returned (.bool (hasV l v))/\Below w.heap.size w w':=by
 obtain⟨a,c,rfl,-⟩:=id hv;have HB:=bY w (.cells #[.int .i64 v.a,.int .i64 v.b,.int .i64 v.c] 23)
 have HH:Hid (Calls Tryz.prog 114 #[.slice a l.length c,.func (.func 115) #[] #[.pointer (some ⟨w.heap.size,0,none⟩)]] (w.alloc (.cells #[.int .i64 v.a,.int .i64 v.b,.int .i64 v.c] 23)) fun e w'=>e=.returned (.bool (hasV l v))/\Below (w.alloc (.cells #[.int .i64 v.a,.int .i64 v.b,.int .i64 v.c] 23)).heap.size (w.alloc (.cells #[.int .i64 v.a,.int .i64 v.b,.int .i64 v.c] 23)) w'):=
  zh (has_rng (fun r=>inR r v) 115 #[.pointer (some ⟨w.heap.size,0,none⟩)] (enters_of Tryz.func115 CQ rfl) (hv.moves aS (aM.later (aB w (.cells #[.int .i64 v.a,.int .i64 v.b,.int .i64 v.c] 23))) CX) (fun x _ W cs hW hx _=>by
   cases hx
   exact has1_any x v w.heap.size W (aC hW HB)))
 clear hv HB;generalize hasV l v=q at *;generalize l.length=n at *;go_enter Tryz.func64,Tryz.ntmps64;go_wp2_with(go_at_call 114;refine HH.out.mono ?_;rintro e w1 ⟨rfl,kK⟩);go_ret;exact⟨rfl,aA (aB _ _) kK⟩
theorem itoaV_any(n:Int)(w:World)(hG:bC w)(h0:0<=n)(h1:n<=1099511627776):
  Calls Tryz.prog 87 #[.int .i64 n] w fun e w'=>e=.returned (.string (bs (Lib.itoa n)))/\Below w.heap.size w w':=by
 refine(Tryz.strconv_Itoa n CR CR w hG.pow10).mono ?_;rintro e w1 ⟨rfl,k,os,rfl⟩;exact⟨rfl,Lib.below_grow _ w (Nat.le_refl _) k os⟩
theorem itoaV_size{n:Int}(h0:0<=n)(h1:n<=1099511627776):(bs (Lib.itoa n)).size<=21:=Lib.itoa_length_le n CR CR
theorem verPrint_any(v:Ver)(w:World)(hG:bC w):Calls Tryz.prog 38 #[.agg #[.int .i64 v.a,.int .i64 v.b,.int .i64 v.c]] w fun e w'=>e=.returned (.string (if aU v then bs (fE v) else noB))/\Below w.heap.size w w':=by
 have HO:=zh (fun W=>hU v W);have HX:=zh (bY w (.cells #[.int .i64 v.a,.int .i64 v.b,.int .i64 v.c] 23));obtain⟨⟨x0,x1,x2⟩,-⟩:=bx3 HX.out
 cases hv:aU v with
 |false=>
  rw[hv] at HO;clear hv;go_enter Tryz.func38,Tryz.ntmps38;go_wp2_with(go_at_call 34;refine(HO.out _).mono ?_;rintro e w1 ⟨rfl,pJ⟩);go_ret;exact⟨rfl,aA (aB _ _) pJ.below⟩
 |true=>
  rw[hv] at HO;obtain⟨a,b,c⟩:=v
  have hr:0<=a/\0<=b/\0<=c/\a<=1048576/\b<=1048576/\c<=1048576:=by
   unfold aU at hv;simp only[Bool.and_eq_true,decide_eq_true_eq] at hv;omega
  have lF:=itoaV_size (n:=a) CR CR;have nO:=itoaV_size (n:=b) CR CR;have hz3:=itoaV_size (n:=c) CR CR;have HI:=zh (fun(n:Int)(h0:0<=n/\n<=1048576)W(hb:Below w.heap.size w W)=>itoaV_any n W (hG.later hb) h0.1 CR)
  have HE:Hid ((((bs (Lib.itoa a)++⟨#[46]⟩)++bs (Lib.itoa b))++⟨#[46]⟩)++bs (Lib.itoa c)=bs (fE ⟨a,b,c⟩)):=zh (by
   apply cU
   simp[fE,bs,ByteArray.data_append])
  have rT:=zh (show 0<=a/\a<=1048576 by omega);have xL:=zh (show 0<=b/\b<=1048576 by omega);have hr3:=zh (show 0<=c/\c<=1048576 by omega);clear hv hr hG;generalize bs (fE ⟨a,b,c⟩)=res at *;generalize hA:bs (Lib.itoa a)=sa at *;generalize hB:bs (Lib.itoa b)=sb at *;generalize hC:bs (Lib.itoa c)=sc at *;have hd:(⟨#[46]⟩:bA).size=1:=rfl;have nU:(sa++⟨#[46]⟩).size<=22:=CY;have tM:((sa++⟨#[46]⟩)++sb).size<=43:=CY;have hs3:(((sa++⟨#[46]⟩)++sb)++⟨#[46]⟩).size<=44:=CY;have hA:=zh hA;have hB:=zh hB;have hC:=zh hC;go_enter Tryz.func38,Tryz.ntmps38;go_wp2_with fail;go_at_call 34;refine(HO.out _).mono ?_;rintro e w1 ⟨rfl,pJ⟩;have vX:=zh (aA (aB _ _) pJ.below);obtain⟨⟨y0,y1,y2⟩,-⟩:=bx3 (aC pJ.below HX.out);clear pJ x0 x1 x2;go_wp2_with fail;refine wp_region_held_drew (S:=fun W=>Below (w1).heap.size (w1) W) CQ (aL _) fun hS=>?_;refine zq 0 (.pointer (some ⟨w.heap.size,0,none⟩)) rfl ?_;refine zt 1 (.int .i64 a) rfl (fun W hW=>by have q0:=aD hW y0;go_simp) ?_;refine zq 4 (.pointer (some ⟨w.heap.size,1,none⟩)) rfl ?_;refine zt 5 (.int .i64 b) rfl (fun W hW=>by have q0:=aD hW y1;go_simp) ?_;refine zq 9 (.pointer (some ⟨w.heap.size,2,none⟩)) rfl ?_;refine zt 10 (.int .i64 c) rfl (fun W hW=>by have q0:=aD hW y2;go_simp) ?_;try simp only[zn]
  refine zr 2 rfl (fun K hK=>?_);try simp only[z1,z2,z3]
  go_simp;have iM:=(aL (w1));refine(HI.out a rT.out _ (aA vX.out iM)).mono ?_;rintro e w2 ⟨rfl,hw2'⟩;have hw2:=aA iM (hw2');clear iM;refine hK.out _ _ hw2 (fun hS=>?_);clear hK K;refine zt 3 (.string (sa++⟨#[46]⟩)) rfl (fun W hW=>C1) ?_;try simp only[zn]
  refine zr 6 rfl (fun K hK=>?_);try simp only[z1,z2,z3]
  go_simp;have iM:=hw2;refine(HI.out b xL.out _ (aA vX.out iM)).mono ?_;rintro e w3 ⟨rfl,hw3'⟩;have tL:=aA iM (hw3');clear iM;refine hK.out _ _ tL (fun hS=>?_);clear hK K;refine zt 7 (.string ((sa++⟨#[46]⟩)++sb)) rfl (fun W hW=>C1) ?_;refine zt 8 (.string (((sa++⟨#[46]⟩)++sb)++⟨#[46]⟩)) rfl (fun W hW=>C1) ?_;try simp only[zn]
  refine zr 11 rfl (fun K hK=>?_);try simp only[z1,z2,z3]
  go_simp;have iM:=tL;refine(HI.out c hr3.out _ (aA vX.out iM)).mono ?_;rintro e w4 ⟨rfl,hw4'⟩;have yS:=aA iM (hw4');clear iM;refine hK.out _ _ yS (fun hS=>?_);clear hK K;refine zt 12 (.string ((((sa++⟨#[46]⟩)++sb)++⟨#[46]⟩)++sc)) rfl (fun W hW=>C1) ?_;refine zq 13 (.string ((((sa++⟨#[46]⟩)++sb)++⟨#[46]⟩)++sc)) rfl ?_;try simp only[zn]
  refine wpAnyH_done CQ ?_ _;go_wp2_with fail;go_ret;exact⟨bF HE.out,aA vX.out yS⟩
theorem AW{p:Prop}(h:p:=by
 have c1:=aD wU.out (HSb.out j hlj);have uA:(0:Int)<=(j:Int)/\(j:Int)<(p.size:Int):=CR;have HN:Hid (∀b,dN (p.data.toList.getD j 0)=b->(p.data.toList.take (j+1)).all dN=b/\(b=false->p.data.toList.all dN=false)):=zh (name_next HA.out hlj);generalize p.data.toList.getD j 0=d at *
 cases hn:dN d with
 |true=>
  have nX:=zh (HN.out true hn).1;have hd:=nameB_yes hn;clear hn HN;rcases hd with⟨d1,d2⟩|⟨d1,d2,d3⟩
  all_goals
   go_wp2_with fail;go_roundw;(case rel=>exact⟨j+1,CR,C5,wU,nX⟩);case measure=>simp[intOf];omega
 |false=>
  have hE:Hid (r=false):=zh (by rw[sM.out,(HN.out false hn).2 rfl];rfl);have hd:=nameB_no hn;clear hn HN;have HQ:=zh (aA jL.out (aA HW.out (aA HBb.out wU.out)));rcases hd with⟨d1,d2⟩|⟨d1,d2,d3⟩|⟨d1,d2,d3,d4⟩
  all_goals
   go_wp2_with fail;go_ret
   exact⟨aF hE.out.symm,HQ.out⟩):p:=h
theorem BO{p:Prop}(h:p:=by
 go_wp2_with fail;go_ret
 exact⟨aF hE.out.symm,aA jL.out HW.out⟩):p:=h
theorem B1{p:Prop}(h:p:=by
 have h1:(122:UInt8).toNat=122:=rfl;have h2:(97:UInt8).toNat=97:=rfl;have h3:(48:UInt8).toNat=48:=rfl;have h4:(57:UInt8).toNat=57:=rfl
 omega):p:=h
theorem nmParts_len(s:bA):(eX s).length=Lib.countB s dash+1:=Lib.splitB_all dash CX 0 _ s rfl
theorem nmParts_size{s x:bA}(h:x∈eX s):x.size<=s.size:=splitB_size dash _ s x h
theorem name_next{l:List UInt8}{j n:Nat}(h:(l.take j).all dN=true)(hj:j<n)(hn:n=l.length:=by rfl):∀b,dN (l.getD j 0)=b->(l.take (j+1)).all dN=b/\(b=false->l.all dN=false):=by
 intro b hb;have hl:j<l.length:=CR;have e:l.getD j 0=l[j]:=by rw[List.getD_eq_getElem?_getD,List.getElem?_eq_getElem hl];rfl
 rw[e] at hb;refine⟨by rw[List.take_succ_eq_append_getElem hl,List.all_append,h,List.all_cons,hb];simp,fun hf=>?_⟩;rw[List.all_eq_false];exact⟨l[j],List.getElem_mem _,by rw[hb,hf];simp⟩
theorem nameB_yes{d:UInt8}(h:dN d=true):(¬(d.toNat:Int)<97/\¬122<(d.toNat:Int))\/((d.toNat:Int)<97/\¬(d.toNat:Int)<48/\¬57<(d.toNat:Int)):=by
 unfold dN dX at h;simp only[Bool.or_eq_true,Bool.and_eq_true,decide_eq_true_eq,UInt8.le_iff_toNat_le] at h;exact B1
theorem nameB_no{d:UInt8}(h:dN d=false):((d.toNat:Int)<97/\(d.toNat:Int)<48)\/((d.toNat:Int)<97/\¬(d.toNat:Int)<48/\57<(d.toNat:Int))\/(¬(d.toNat:Int)<97/\122<(d.toNat:Int)/\¬(d.toNat:Int)<48/\57<(d.toNat:Int)):=by
 have h0:¬dN d=true:=by rw[h];simp
 unfold dN dX at h0;simp only[Bool.or_eq_true,Bool.and_eq_true,decide_eq_true_eq,UInt8.le_iff_toNat_le] at h0;exact B1
theorem eY(s:bA)(w:World)(hG:bC w)(hs:s.size<=140737488355328):
  Calls Tryz.prog 33 #[.string s] w fun e w'=>e=.returned (.bool (bT s))/\Below w.heap.size w w':=by
 by_cases kS:20<s.size
 ·have g:(20:Int)<(s.size:Int):=CR;have HR:Hid (bT s=false):=zh (by unfold bT;rw[decide_eq_false CR];rfl);clear kS;go_enter Tryz.func33,Tryz.ntmps33;go_wp2_with fail;go_ret;exact⟨aF HR.out.symm,Below.refl _ _⟩
 have g:¬(20:Int)<(s.size:Int):=CR;obtain⟨m,hm⟩:=hG.maxLen;have HS:=zh (Tryz.strings_Split s dash m w CR hm CX);rw[show Lib.countB s dash+1=(eX s).length from(nmParts_len s).symm] at HS;have hHN:Hid (bT s=fN true (eX s)):=zh (by unfold bT;rw[decide_eq_true CR];rfl);have HZ:Hid (∀x∈eX s,x.size<=20):=zh (fun x hx=>by have:=nmParts_size hx;omega)
 have kU:(eX s).length<=100:=by
  have:=nmParts_len s;have h2:=Lib.countB_le dash CX s.size s (Nat.le_refl _);omega
 change Hid (Calls Tryz.prog 83 #[.string s,.string ⟨#[45]⟩] w fun e w'=>e=.returned (.slice (some ⟨w.heap.size,0,none⟩) (eX s).length (eX s).length)/\w'=w.alloc (.cells ((eX s).map Value.string).toArray 9)) at HS;generalize bT s=r at hHN ⊢;generalize eX s=parts at *;clear hm hG;go_enter Tryz.func33,Tryz.ntmps33;go_wp2_with(go_at_call 83;refine HS.out.mono ?_;rintro e w1 ⟨rfl,rfl⟩)
 have HC:Hid (∀i x,parts[i]? =some x->(w.alloc (.cells (parts.map Value.string).toArray 9)).cell? ⟨w.heap.size,i,none⟩=some (.string x)):=zh (fun i x hx=>by
  refine(bx (bY w (.cells (parts.map Value.string).toArray 9)) i ?_).1
  simp[hx])
 have jL:=zh (aB w (.cells (parts.map Value.string).toArray 9));generalize w.alloc (.cells (parts.map Value.string).toArray 9)=w1 at *;go_loopw [13] (fun i wr=>∃k:Nat,k<=parts.length/\i=.int .i64 k/\Hid (r=fN (decide (k=0)) (parts.drop k))/\Hid (Below w1.heap.size w1 wr)) (fun i _=>parts.length-(intOf i).toNat)
 case atStart=>exact⟨0,Nat.zero_le _,rfl,zh hHN.out,zh (Below.refl _ _)⟩
 case round=>
  obtain⟨k,hk,rfl,HR,HW⟩:=hrel;rename World=>wr
  by_cases jM:k<parts.length
  ·obtain⟨p,hp,mT⟩:=getElem?_of_lt jM;have kP:=aD HW.out (HC.out k p hp);have HP:=zh hp;have hz:=HZ.out p mT;clear hp mT
   have nT:Hid (r=(partOk (decide (k=0)) p&&fN false (parts.drop (k+1)))):=zh (by
    rw[HR.out,List.drop_eq_getElem_cons jM];obtain⟨h1,h2⟩:=Yb.1 HP.out
    rw[h2];rfl)
   clear HR;by_cases sD:p.data.toList=[]
   ·obtain rfl:p=⟨#[]⟩:=cU (by simpa using sD);have hE:Hid (r=false):=zh (by rw[nT.out];rfl);clear sD nT;exact BO
   have he:p.toList≠[]:=by rw[toList_eq];exact sD
   have nZ:0<p.size:=by
    rw[<-ByteArray.size_data,<-Array.length_toList];exact List.length_pos_iff.2 sD
   (have hie:p.toList.isEmpty=false:=by simpa using he);obtain⟨c,cr,hcr⟩:=List.exists_cons_of_ne_nil sD
   have hp0:p[0]'(nZ)=c:=by
    (have:p.data.toList[0]? =some c:=by rw[hcr];rfl);rw[show p[0]=p.data.toList[0]'(by simpa using nZ) from rfl];exact(Yb.1 this).2
   have HO:Hid (∀b,partOk b p=((!b||dX c)&&p.data.toList.all dN)):=zh (fun b=>by unfold partOk;rw[hcr]);have hin0:(0:Int)<=0/\(0:Int)<(p.size:Int):=CR;by_cases qX:k=0/\dX c=false
   ·obtain⟨rfl,tO⟩:=qX;have hE:Hid (r=false):=zh (by rw[nT.out,HO.out,tO];rfl)
    have xS:(c.toNat:Int)<97\/122<(c.toNat:Int):=by
     unfold dX at tO;by_cases h1:(97:UInt8)<=c
     ·right;(have h2:¬c<=122:=by intro h;rw[decide_eq_true h1,decide_eq_true h] at tO;cases tO);rw[UInt8.le_iff_toNat_le] at h2;have:(122:UInt8).toNat=122:=rfl;omega
     left;rw[UInt8.le_iff_toNat_le] at h1;have:(97:UInt8).toNat=97:=rfl;omega
    clear nT HO hcr tO he sD;by_cases h97:(c.toNat:Int)<97
    ·exact BO
    have h122:122<(c.toNat:Int):=xS.resolve_left h97;clear xS;exact BO
   have xR:¬k=0\/(97<=(c.toNat:Int)/\(c.toNat:Int)<=122):=by
    by_cases nN:k=0
    ·right;(have tO:dX c=true:=by cases h:dX c with|true=>rfl|false=>exact absurd ⟨nN,h⟩ qX);unfold dX at tO;simp only[Bool.and_eq_true,decide_eq_true_eq,UInt8.le_iff_toNat_le] at tO;have h1:(122:UInt8).toNat=122:=rfl;have h2:(97:UInt8).toNat=97:=rfl;omega
    exact .inl nN
   have sM:Hid (r=(p.data.toList.all dN&&fN false (parts.drop (k+1)))):=zh (by
    rw[nT.out,HO.out];by_cases nN:k=0
    ·(have tO:dX c=true:=by cases h:dX c with|true=>rfl|false=>exact absurd ⟨nN,h⟩ qX);rw[tO];simp
    rw[decide_eq_false nN];simp)
   clear nT HO hcr qX he sD;have zN:=Lib.run_convert_string_bytes (P:=Tryz.prog) wr 9 127 5 p (u:=.string) Tryz.underlying9 Tryz.underlying127 Tryz.underlying5;have HSb:Hid (∀j,j<p.size->(Lib.bytesWorld wr 5 p).cell? ⟨wr.heap.size,j,none⟩=some (.int .u8 (p.data.toList.getD j 0).toNat)):=zh (fun j hj=>Lib.bytesWorld_cell wr 5 p j hj);have HBb:=zh (show Below wr.heap.size wr (Lib.bytesWorld wr 5 p) from⟨rfl,rfl,rfl,by rw[Lib.bytesWorld_size];omega,fun k hk=>Lib.bytesWorld_at_old wr 5 p k hk⟩);generalize Lib.bytesWorld wr 5 p=w2 at *;generalize grownCap wr p.size 0 5=cp at *;have HG:Hid (¬k=0\/(97<=(c.toNat:Int)/\(c.toNat:Int)<=122)):=zh xR;clear xR;by_cases nN:k=0
   ·subst nN;obtain⟨g1,g2⟩:=HG.out.resolve_left C0;have g3:¬(c.toNat:Int)<97:=CR;have g4:¬122<(c.toNat:Int):=CR;clear HG g1 g2;go_wp2_with fail;(go_loopw [37] (fun jv wi=>∃j:Nat,j<=p.size/\jv=.int .i64 (j:Int)/\Hid (Below w2.heap.size w2 wi)/\Hid ((p.data.toList.take j).all dN=true)) (fun jv _=>p.size-(intOf jv).toNat));case atStart=>exact⟨0,Nat.zero_le _,rfl,zh (Below.refl _ _),zh rfl⟩
    case round=>
     obtain⟨j,hj,rfl,wU,HA⟩:=hrel;(rename World=>wi);by_cases hlj:j<p.size
     ·exact AW
     have qA:j=p.size:=CR
     have oL:Hid (r=fN (decide (0+1=0)) (parts.drop (0+1))):=zh (by
      rw[sM.out];have h:=HA.out;rw[List.take_of_length_le (by rw[qA];simp)] at h
      rw[h];rfl)
     have qI:=zh (aA HW.out (aA HBb.out wU.out));clear sM HA;go_wp2_with fail;go_roundw;(case rel=>exact⟨0+1,CR,C5,oL,qI⟩);case measure=>simp[intOf];omega
   have qH:((k:Int)==0)=false:=DN;clear HG;go_wp2_with fail;(go_loopw [37] (fun jv wi=>∃j:Nat,j<=p.size/\jv=.int .i64 (j:Int)/\Hid (Below w2.heap.size w2 wi)/\Hid ((p.data.toList.take j).all dN=true)) (fun jv _=>p.size-(intOf jv).toNat));case atStart=>exact⟨0,Nat.zero_le _,rfl,zh (Below.refl _ _),zh rfl⟩
   case round=>
    obtain⟨j,hj,rfl,wU,HA⟩:=hrel;(rename World=>wi);by_cases hlj:j<p.size
    ·exact AW
    have qA:j=p.size:=CR
    have oL:Hid (r=fN (decide (k+1=0)) (parts.drop (k+1))):=zh (by
     rw[sM.out];have h:=HA.out;rw[List.take_of_length_le (by rw[qA];simp)] at h
     rw[h];rfl)
    have qI:=zh (aA HW.out (aA HBb.out wU.out));clear sM HA;go_wp2_with fail;go_roundw;(case rel=>exact⟨k+1,CR,C5,oL,qI⟩);case measure=>simp[intOf];omega
  have hE:Hid (r=true):=zh DV;exact BO
end Go.Proofs.YtmpopphjaggeoaaGreatDoor
