/- Texts of this seat, joined. -/
import Derived.Test.YtacgopankhpnbaaGreatDoorSAJ
set_option maxHeartbeats 32000000
set_option maxRecDepth 100000
set_option linter.unusedVariables false
set_option linter.unusedSimpArgs false
namespace Go.Proofs.YtacgopankhpnbaaGreatDoor
open Go.RowKit
theorem bs_data(l:List UInt8):(bs l).data.toList=l:=by simp[bs]
theorem app_data(a b:ByteArray):(a++b).data.toList=a.data.toList++b.data.toList:=by simp[ByteArray.data_append]
theorem mk_data(a:Array UInt8):(⟨a⟩:ByteArray).data.toList=a.toList:=rfl
theorem TF{p:Prop}(h:p:=by
 clear tC pZ;go_wp2_with(go_at_call 147;refine(dX x wr KD (HG.out _ HB.out)).mono ?_;rintro e w5 ⟨rfl,rfl⟩;rw[sT]);go_ret
 exact⟨aD WG,HB.out⟩):p:=h
theorem dX(s:ByteArray)(w:World)(hs:s.size<=140737488355328)(hg:dH w):
  Calls Tryz.prog 147 #[.string s] w fun e w'=>e=.returned (.bool (aP s))/\w=w':=by
 exact SZ
theorem namesOk_at{l:List ByteArray}{q:Nat}{x:ByteArray}(hx:l[q]? =some x)(before:Option ByteArray):nY before (l.drop q)=(aP x&&(match before with|none=>true|some b=>gtB x b)&&nY (some x) (l.drop (q+1))):=by
 exact UI
def lE(l:List ByteArray)(q:Nat):Option ByteArray:=if q=0 then none else l[q-1]?
theorem leaf_13(n:Int)(s m:ByteArray)(names:List ByteArray)(args:List Xp)(N:Nat->Prop)(vn:Value)(a2:Option Addr)(n2 c2:Nat)(w:World)(hg:dH w)(hr:aK 1 cK N w vn names):fG (.mk 13 n s m names args) 13 n s m vn (.slice a2 n2 c2) w:=by
 unfold fG;have HG:=zh (fun W(hb:Below w.heap.size w W)=>hg.later hb);have HR:Hid (gX (.mk 13 n s m names args)=(nY none names&&decide (names.length<=8))):=zh rfl;have HD:Hid (decide ((names.length:Int)<=8)=decide (names.length<=8)):=zh WC;clear hg;have A8:names.length<=9223372036854775807:=Y5;rcases hr.cases VI with⟨rfl,a,c,rfl⟩|⟨b,o,c,rfl,h0,h1,h2,hb,hN,hc⟩
 ·clear hr;go_enter Tryz.func225,Tryz.ntmps225;go_wp2_with fail;go_loop [82] (fun i=>i=.int .i64 0) (fun _=>0)
  case atStart=>rfl
  case round=>
   subst hrel;go_wp2_with fail;go_ret;exact⟨aD WM,aA _ _⟩
 ·have HC:=zh hc;have DN:=zh (heap_alloc_new w (.cells #[.int .i64 13,.int .i64 n,.string s,.string m,.slice (some ⟨b,o,none⟩) names.length c,.slice a2 n2 c2] 177));clear hc hr;go_enter Tryz.func225,Tryz.ntmps225;go_wp2_with fail;go_loopw [82] (fun iv wr=>∃q:Nat,q<=names.length/\iv=.int .i64 (q:Int)/\Hid (Below (w.alloc (.cells #[.int .i64 13,.int .i64 n,.string s,.string m,.slice (some ⟨b,o,none⟩) names.length c,.slice a2 n2 c2] 177)).heap.size (w.alloc (.cells #[.int .i64 13,.int .i64 n,.string s,.string m,.slice (some ⟨b,o,none⟩) names.length c,.slice a2 n2 c2] 177)) wr)/\Hid (gX (.mk 13 n s m names args)=(nY (lE names q) (names.drop q)&&decide (names.length<=8)))) (fun iv _=>names.length-(intOf iv).toNat)
  case atStart=>exact⟨0,Nat.zero_le _,rfl,zh (Below.refl _ _),HR⟩
  case round=>
   obtain⟨q,hq,rfl,qQ,pZ⟩:=hrel;(rename World=>wr);have HB:=zh (aB (aA w (.cells #[.int .i64 13,.int .i64 n,.string s,.string m,.slice (some ⟨b,o,none⟩) names.length c,.slice a2 n2 c2] 177)) qQ.out);obtain⟨⟨t0,t1,t2,t3,t4,t5⟩,-⟩:=bx6 (aF qQ.out DN.out);by_cases pT:q<names.length
   ·obtain⟨x,hx,tU⟩:=getElem?_of_lt pT;obtain⟨cs,⟨rfl,KD⟩,-,hj⟩:=HC.out q x hx;have p0:wr.cell? ⟨b,o+q,none⟩=some (.string x):=aC HB.out XH;have tC:=zh (pZ.out.trans (congrArg (fun z=>z&&decide (names.length<=8)) (namesOk_at hx (lE names q))));(have hpv:lE names (q+1)=some x:=by unfold lE;rw[if_neg VG,Nat.add_sub_cancel,hx]);rw[<-hpv] at tC;clear hj hpv tU
    cases sT:aP x with
    |false=>
     have HF:Hid (gX (.mk 13 n s m names args)=false):=zh (by rw[tC.out,sT];rfl);exact TF
    |true=>
     by_cases vY:q=0
     ·subst vY;(have p00:wr.cell? ⟨b,o,none⟩=some (.string x):=by simpa using p0);have uO:Hid (gX (.mk 13 n s m names args)=(nY (lE names (0+1)) (names.drop (0+1))&&decide (names.length<=8))):=zh (by rw[tC.out,sT];simp[lE]);clear tC pZ;go_wp2_with(go_at_call 147;refine(dX x wr KD (HG.out _ HB.out)).mono ?_;rintro e w5 ⟨rfl,rfl⟩;rw[sT]);go_roundw;(case rel=>exact⟨0+1,VG,VT,qQ,uO⟩);case measure=>simp[intOf];omega
     ·have yV:0<q:=VG;obtain⟨y,hy,-⟩:=getElem?_of_lt (l:=names) (k:=q-1) VG;obtain⟨cs',⟨rfl,-⟩,-,yM⟩:=HC.out (q-1) y hy;have hp0:wr.cell? ⟨b,o+(q-1),none⟩=some (.string y):=aC HB.out YO;(have hpv:lE names q=some y:=by unfold lE;rw[if_neg vY,hy]);rw[hpv] at tC;clear yM hpv;have tF:(0:Int)<(q:Int):=VG;have B8:(0:Int)<=(q:Int)-1:=VG;have GO:(q:Int)-1<(names.length:Int):=VG;have NZ:((q:Int)-1).toNat=q-1:=VG;have hi4:¬(q:Int)<1:=VG
      cases EX:gtB x y with
      |false=>
       (have DV:∀W,(binOp .leq 9 (.string x) (.string y)).run Tryz.prog W=.ok (.bool true) W:=fun W=>by rw[nT,EX];rfl);have HF:Hid (gX (.mk 13 n s m names args)=false):=zh W8;exact TF
      |true=>
       (have DV:∀W,(binOp .leq 9 (.string x) (.string y)).run Tryz.prog W=.ok (.bool false) W:=fun W=>by rw[nT,EX];rfl);have uO:Hid (gX (.mk 13 n s m names args)=(nY (lE names (q+1)) (names.drop (q+1))&&decide (names.length<=8))):=zh W8;clear tC pZ;go_wp2_with(go_at_call 147;refine(dX x wr KD (HG.out _ HB.out)).mono ?_;rintro e w5 ⟨rfl,rfl⟩;rw[sT]);go_roundw;(case rel=>exact⟨q+1,VG,VT,qQ,uO⟩);case measure=>simp[intOf];omega
   ·have wY:q=names.length:=VG;have HT:Hid (gX (.mk 13 n s m names args)=decide (names.length<=8)):=zh XD;exact UC
def cleanN(op n:Int):Int:=if op=0\/op=1\/op=16 then n else 0
def cleanS(op:Int)(s:ByteArray):ByteArray:=if op=2\/op=17\/op=18\/op=14\/op=12\/op=15 then s else noB
def cleanM(op:Int)(m:ByteArray):ByteArray:=if op=15 then m else noB
def nL(op:Int)(k:Nat):Int:=if op=0\/op=1\/op=2\/op=17 then 0 else if op=18\/op=14\/op=16\/op=10 then 1 else if op=11 then 3 else if op=13 then k else if op=15 then -1 else 2
theorem clean_all(op n:Int)(s m:ByteArray)(a1:Option Addr)(n1 c1:Nat)(a2:Option Addr)(n2 c2:Nat)(w:World)(h0:0<=op)(h1:op<19):
  Calls Tryz.prog 224 #[.agg #[.int .i64 op,.int .i64 n,.string s,.string m,.slice a1 n1 c1,.slice a2 n2 c2]] w fun e w'=>e=.returned (.tuple #[.agg #[.int .i64 op,.int .i64 (cleanN op n),.string (cleanS op s),.string (cleanM op m),if op=13 then .slice a1 n1 c1 else .slice none 0 0,.slice a2 n2 c2],.int .i64 (nL op n1)])/\Below w.heap.size w w':=by
 obtain⟨V,HV⟩:∃V,Hid (V=Value.tuple #[.agg #[.int .i64 op,.int .i64 (cleanN op n),.string (cleanS op s),.string (cleanM op m),if op=13 then .slice a1 n1 c1 else .slice none 0 0,.slice a2 n2 c2],.int .i64 (nL op n1)]):=⟨_,zh rfl⟩;rw[<-HV.out];have hc:(op=0\/op=1\/op=2\/op=3\/op=4\/op=5\/op=6\/op=7\/op=8\/op=9\/op=10\/op=11\/op=12\/op=14\/op=16\/op=17\/op=18)\/op=13\/op=15:=VG;clear h0 h1;rcases hc with(rfl|rfl|rfl|rfl|rfl|rfl|rfl|rfl|rfl|rfl|rfl|rfl|rfl|rfl|rfl|rfl|rfl)|rfl|rfl
 all_goals
  go_enter Tryz.func224,Tryz.ntmps224;go_wp2_with fail;try go_region
  all_goals try go_wp2_with fail
  all_goals refine bodyPost_ret (v:=V) (by rw[HV.out];simp[results,Tryz.results224,go_sem,cleanN,cleanS,cleanM,nL,noB]) rfl ⟨rfl,?_⟩
  all_goals repeat(first|exact Below.refl _ _|refine Below.drew ?_|refine Below.alloc ?_ WV _|refine Below.setCell ?_ WV _)
theorem leaf_any(op n:Int)(s m:ByteArray)(names:List ByteArray)(args:List Xp)(N:Nat->Prop)(vn va:Value)(w:World)(h0:0<=op)(h1:op<19)(hg:dH w)(he:bV N w (.mk op n s m names args) [.int .i64 op,.int .i64 n,.string s,.string m,vn,va]):
  fG (.mk op n s m names args) op n s m vn va w:=by
 rw[aZ] at he;obtain⟨v1,v2,e,hs,hm,hn,a2,c2,rfl,-⟩:=he;cases e;have hn':=hn;obtain⟨a1,c1,rfl,-⟩:=hn';have hc:op=0\/op=1\/op=2\/op=3\/op=4\/op=5\/op=6\/op=7\/op=8\/op=9\/op=10\/op=11\/op=12\/op=13\/op=14\/op=15\/op=16\/op=17\/op=18:=VG;rcases hc with rfl|rfl|rfl|rfl|rfl|rfl|rfl|rfl|rfl|rfl|rfl|rfl|rfl|rfl|rfl|rfl|rfl|rfl|rfl
 ·exact leaf_0 n s m names args a1 names.length c1 a2 c2 w hg hs hm
 ·exact leaf_1 n s m names args a1 names.length c1 a2 c2 w hg hs hm
 ·exact pC 2 VL n s m names args a1 names.length c1 a2 c2 w hg hs hm
 ·exact jP 3 VL n s m names args a1 names.length c1 a2 c2 w hg hs hm
 ·exact jP 4 VL n s m names args a1 names.length c1 a2 c2 w hg hs hm
 ·exact jP 5 VL n s m names args a1 names.length c1 a2 c2 w hg hs hm
 ·exact jP 6 VL n s m names args a1 names.length c1 a2 c2 w hg hs hm
 ·exact jP 7 VL n s m names args a1 names.length c1 a2 c2 w hg hs hm
 ·exact jP 8 VL n s m names args a1 names.length c1 a2 c2 w hg hs hm
 ·exact jP 9 VL n s m names args a1 names.length c1 a2 c2 w hg hs hm
 ·exact jP 10 VL n s m names args a1 names.length c1 a2 c2 w hg hs hm
 ·exact jP 11 VL n s m names args a1 names.length c1 a2 c2 w hg hs hm
 ·exact pC 12 VL n s m names args a1 names.length c1 a2 c2 w hg hs hm
 ·exact leaf_13 n s m names args N _ a2 args.length c2 w hg hn
 ·exact pC 14 VL n s m names args a1 names.length c1 a2 c2 w hg hs hm
 ·exact leaf_15 n s m names args a1 names.length c1 a2 c2 w hg hs hm
 ·exact leaf_16 n s m names args a1 names.length c1 a2 c2 w hg hs hm
 ·exact pC 17 VL n s m names args a1 names.length c1 a2 c2 w hg hs hm
 ·exact pC 18 VL n s m names args a1 names.length c1 a2 c2 w hg hs hm
def CleanSays(op n:Int)(s m:ByteArray)(a1:Option Addr)(n1 c1:Nat)(va:Value)(w:World):Prop:=Calls Tryz.prog 224 #[.agg #[.int .i64 op,.int .i64 n,.string s,.string m,.slice a1 n1 c1,va]] w fun e w'=>∃a3 n3 c3,e=.returned (.tuple #[.agg #[.int .i64 op,.int .i64 (cleanN op n),.string (cleanS op s),.string (cleanM op m),.slice a3 n3 c3,va],.int .i64 (nL op n1)])/\n3=(if op=13 then n1 else 0)/\Below w.heap.size w w'
theorem clean_any(op n:Int)(s m:ByteArray)(a1:Option Addr)(n1 c1:Nat)(a2:Option Addr)(n2 c2:Nat)(w:World)(h0:0<=op)(h1:op<19):CleanSays op n s m a1 n1 c1 (.slice a2 n2 c2) w:=by
 by_cases h:op=13
 ·subst h;exact(clean_all 13 n s m a1 n1 c1 a2 n2 c2 w VG VG).mono fun e w' h=>⟨a1,n1,c1,h.1,rfl,h.2⟩
 ·refine(clean_all op n s m a1 n1 c1 a2 n2 c2 w h0 h1).mono fun e w' h2=>?_;rw[if_neg h] at h2;exact⟨none,0,0,h2.1,by rw[if_neg h],h2.2⟩
theorem cleanX_eq(op n:Int)(s m:ByteArray)(names:List ByteArray)(args:List Xp)(h0:0<=op)(h1:op<19):cleanX (.mk op n s m names args)=((cleanN op n,cleanS op s,cleanM op m,if op=13 then names else[]),nL op names.length):=by
 have hc:op=0\/op=1\/op=2\/op=3\/op=4\/op=5\/op=6\/op=7\/op=8\/op=9\/op=10\/op=11\/op=12\/op=13\/op=14\/op=15\/op=16\/op=17\/op=18:=VG;rcases hc with rfl|rfl|rfl|rfl|rfl|rfl|rfl|rfl|rfl|rfl|rfl|rfl|rfl|rfl|rfl|rfl|rfl|rfl|rfl<;>rfl
theorem U6{p:Prop}(h:p:=by
 go_ret
 exact⟨aD WG,rT.out⟩):p:=h
theorem aL{B:Nat}{a b:World}(h:Below B a b)(n:Nat):Below B a (b.drewN n):=⟨h.os,h.tape,h.output,h.size,h.block⟩
theorem flds_bad{l:List Fld}{k:Nat}{x:Fld}{aI:List ByteArray}{r:Bool}(hx:l[k]? =some x)(h:(aI.any fun y=>decide (y=x.1))=true\/aP x.1=false\/bX 4 x.2=false)
  (hr:r=cV (l.drop k) aI):r=false:=by
 obtain⟨hk,rfl⟩:=List.getElem?_eq_some_iff.1 hx;rw[hr,List.drop_eq_getElem_cons hk];revert h;obtain⟨n,t⟩:=l[k];intro h;rw[cV];rcases h with h|h|h<;>simp[h]
theorem flds_good{l:List Fld}{k:Nat}{x:Fld}{aI:List ByteArray}{r:Bool}(hx:l[k]? =some x)(h1:(aI.any fun y=>decide (y=x.1))=false)(h2:aP x.1=true)(h3:bX 4 x.2=true)
  (hr:r=cV (l.drop k) aI):r=cV (l.drop (k+1)) (x.1::aI):=by
 obtain⟨hk,rfl⟩:=List.getElem?_eq_some_iff.1 hx;rw[hr,List.drop_eq_getElem_cons hk];revert h1 h2 h3;obtain⟨n,t⟩:=l[k];intro h1 h2 h3;rw[cV,h1,h2,h3];rfl
theorem flds_end{l:List Fld}{k:Nat}{aI:List ByteArray}{r:Bool}(hk:l.length<=k)(hr:r=cV (l.drop k) aI):r=true:=by
 rw[hr,List.drop_of_length_le hk,cV]
theorem lX(l:List Fld)(most:Nat)(N:Nat->Prop)(v:Value)(w:World)(hn:most<=1000)(hg:dH w)(he:aK 3 fR N w v l):
  Calls Tryz.prog 148 #[v,.int .i64 (most:Int)] w fun e w'=>e=.returned (.bool (dQ l most))/\Below w.heap.size w w':=by
 have HG:=zh (fun W(hb:Below w.heap.size w W)=>hg.later hb);have A8:l.length<=9223372036854775807:=by obtain⟨_,_,_,h1,h2,-⟩:=he;omega
 have zL:(most:Int)<=1000:=VG;have HR:Hid (dQ l most=(cV l []&&decide (l.length<=most))):=zh rfl;generalize dQ l most=res at HR;have HD:Hid (decide ((l.length:Int)<=(most:Int))=decide (l.length<=most)):=zh (by rw[Bool.eq_iff_iff];simp);have vZ:=@run_makeMap Tryz.prog;have HRT:=zh (rightType_any);clear hg;rcases he.cases VI with⟨rfl,a,c,rfl⟩|⟨b,o,c,rfl,h0,h1,h2,hb,hN,hc⟩
 ·clear he;go_enter Tryz.func148,Tryz.ntmps148;go_wp2_with fail;go_loop [11] (fun i=>i=.int .i64 0) (fun _=>0)
  case atStart=>rfl
  case round=>
   subst hrel;go_wp2_with fail;go_ret;exact⟨aD (by rw[HR.out,<-HD.out];simp[cV]),aA _ _⟩
 ·have HC:=zh hc;clear hc he;go_enter Tryz.func148,Tryz.ntmps148;go_wp2_with fail;clear vZ;go_loopw [11] (fun iv wr=>∃(q:Nat)(aI:List ByteArray),q<=l.length/\iv=.int .i64 (q:Int)/\Hid (Below w.heap.size w wr)/\Hid (cV l []=cV (l.drop q) aI)/\Hid (aW eI dD wr w.heap.size q (lS aI))) (fun iv _=>l.length-(intOf iv).toNat)
  case atStart=>exact⟨0,[],Nat.zero_le _,rfl,zh (aA _ _),zh rfl,zh ((aW.made w).ext (fun _=>rfl))⟩
  case round=>
   obtain⟨q,aI,hq,rfl,HB,pZ,HM⟩:=hrel;(rename World=>wr);have QH:w.heap.size<wr.heap.size:=HM.out.lt;by_cases pT:q<l.length
   ·obtain⟨x,hx,-⟩:=getElem?_of_lt pT;obtain⟨cs,tI,-,hj⟩:=HC.out q x hx;obtain⟨nm,t⟩:=x;obtain⟨ct,rfl,qX,FD⟩:=tI;have hty0:=FD
    cases t with
    |mk kd fs=>
     rw[gE] at hty0;obtain⟨vf,rfl,uW⟩:=hty0;obtain⟨a1,OG,rfl,-⟩:=uW;have c0:wr.cell? ⟨b,o+q*3,none⟩=some (.string nm):=aC HB.out (hj 0 _ rfl);have c1:=aC HB.out (hj 1 _ rfl);have c2:=aC HB.out (hj 2 _ rfl);have s1:nm.size<=140737488355328:=Nat.le_trans (show nm.size<=8000 from qX) VI;have HL:=zh (fun W(h:Below w.heap.size w W)=>RightType_any HRT.out (.mk kd fs) N kd _ W (HG.out W h) (eS _ _ _ _ _ _ (bM.later h) FD));have HS:=zh (fun W(h:Below w.heap.size w W)=>dX nm W s1 (HG.out W h));have HK:=zh (kX aI nm);have HX:=zh hx;have rT:=zh (aB HB.out (aA wr (.cells #[.string nm,.int .i64 kd,.slice a1 fs.length OG] 184)));clear hj FD hx HC;generalize yV:(aI.any fun y=>decide (y=nm))=r1 at HK;generalize DR:aP nm=r2 at HS;generalize PK:bX 4 (.mk kd fs)=r3 at HL;have OI:=zh yV;have OH:=zh DR;have Hq3:=zh PK;clear yV DR PK;generalize fs.length=ln at *
     cases r1 with
     |true=>
      have HF:Hid (res=false):=zh (by rw[HR.out,flds_bad HX.out (.inl OI.out) pZ.out];rfl);go_wp2_with(at_lookup;refine bI (HM.out.alloc _) s1 HK.out rfl rfl rfl rfl ?_);exact U6
     |false=>
      cases r2 with
      |false=>
       have HF:Hid (res=false):=zh (by rw[HR.out,flds_bad HX.out (.inr (.inl OH.out)) pZ.out];rfl);go_wp2_with(first|(at_lookup;refine bI (HM.out.alloc _) s1 HK.out rfl rfl rfl rfl ?_)|(go_at_call 147;refine(HS.out _ rT.out).mono ?_;rintro e w1 ⟨rfl,rfl⟩));exact U6
      |true=>
       cases r3 with
       |false=>
        have HF:Hid (res=false):=zh (by rw[HR.out,flds_bad HX.out (.inr (.inr Hq3.out)) pZ.out];rfl);go_wp2_with(first|(at_lookup;refine bI (HM.out.alloc _) s1 HK.out rfl rfl rfl rfl ?_)|(go_at_call 147;refine(HS.out _ rT.out).mono ?_;rintro e w1 ⟨rfl,rfl⟩)|(go_at_call 149;refine(HL.out _ rT.out).mono ?_;rintro e w2 ⟨rfl,pR⟩));go_ret;exact⟨aD WG,aB rT.out pR⟩
       |true=>
        have uO:=zh (flds_good HX.out OI.out OH.out Hq3.out pZ.out);have uN:=rT.out.size;go_wp2_with(first|(at_lookup;refine bI (HM.out.alloc _) s1 HK.out rfl rfl rfl rfl ?_)|(go_at_call 147;refine(HS.out _ rT.out).mono ?_;rintro e w1 ⟨rfl,rfl⟩)|(go_at_call 149;refine(HL.out _ rT.out).mono ?_;rintro e w2 ⟨rfl,pR⟩;have HM2:=zh ((HM.out.alloc (.cells #[.string nm,.int .i64 kd,.slice a1 ln OG] 184)).later pR);obtain⟨u0,u1,u2⟩:=(bx3 (aF pR (heap_alloc_new wr (.cells #[.string nm,.int .i64 kd,.slice a1 ln OG] 184)))).1)|(at_mapUpdate;refine jV HM2.out VG s1 rfl rfl rfl rfl rfl ?_;intro w3 hm3 KN));go_roundw;(case rel=>exact⟨q+1,nm::aI,VG,VT,zh ((aB rT.out pR).grown KN (by have:=(aB rT.out pR).size;omega) (fun i hi=>by cases hi;exact Nat.le_refl _)),uO,zh (hm3.ext (fun z=>congrFun (mM aI nm) z))⟩);case measure=>simp[intOf];omega
   ·have wY:l.length<=q:=VG;have HT:Hid (res=decide (l.length<=most)):=zh (by rw[HR.out,flds_end wY pZ.out];simp);exact UC
def nI(N:Nat->Prop)(w:World)(i:Ins)(cs:List Value):Prop:=∃vn,cs=[.int .i64 i.op,.int .i64 i.a,.string i.s,.string i.m,vn]/\i.s.size<=8000/\i.m.size<=8000/\aK 1 cK N w vn i.names/\ -1<=i.a/\i.a<=1099511627776
theorem fZ:eD nI:=fun _ _ _ _ _ cs hm h=>by
 obtain⟨vn,h1,h2,h3,h4,h5⟩:=h;exact⟨vn,h1,h2,h3,h4.moves aQ hm VI,h5⟩
def encCod(N:Nat->Prop)(w:World)(c:Cod)(cs:List Value):Prop:=∃vc,cs=[.string c.name,.int .i64 (c.params:Int),.int .i64 (c.locals:Int),vc]/\c.name.size<=8000/\aK 5 nI N w vc c.code
theorem mW:eD encCod:=fun _ _ _ _ _ cs hm h=>by
 obtain⟨vc,h1,h2,h3⟩:=h;exact⟨vc,h1,h2,h3.moves fZ hm VI⟩
abbrev gJ(cb:Nat)(v:Value):Nat->Prop:=fun b=>b≠cb/\v.ownBlock≠some b
abbrev inC(cb:Nat)(v:Value):Nat->Prop:=fun b=>b=cb\/v.ownBlock=some b
structure Cp (B cb:Nat) (vars:List Fld) (vv:Value) (c:Cmp) (css:List (List Value)) (v:Value) (w:World):Prop where
 box:w.heap[cb]? =some (.cells #[vv,v,.int .i64 (c.locals:Int)] 182)
 gro:Gro 5 171 nI B c.code css v w
 row:aK 3 fR (gJ cb v) w vv vars
 hcb:cb<B
 h11:11<=cb
 nv:vars.length<=1000
 glob:dH w
structure Ext (cb:Nat) (v:Value) (w:World) (v':Value) (w':World):Prop where
 off:Off (inC cb v) w w'
 own:∀b,v'.ownBlock=some b->v.ownBlock=some b\/w.heap.size<=b
section
variable {B cb:Nat} {vars:List Fld} {vv v v' v'':Value} {c:Cmp} {css:List (List Value)} {w w' w'':World}
theorem Ext.refl(cb:Nat)(v:Value)(w:World):Ext cb v w v w:=⟨Off.refl _ _,fun _ h=>.inl h⟩
theorem Ext.below(cb:Nat)(v:Value)(hb:Below w.heap.size w w'):Ext cb v w v w':=⟨Off.of_below hb,fun _ h=>.inl h⟩
theorem Ext.trans(h:Ext cb v w v' w')(k:Ext cb v' w' v'' w''):Ext cb v w v'' w'':=by
 refine⟨Off.fresh (B:=w.heap.size) ((h.off.or _).trans (k.off.mono fun b hb=>?_)) (Nat.le_refl _),fun b hb=>?_⟩
 ·rcases hb with hb|hb
  ·exact .inl (.inl hb)
  ·rcases h.own b hb with h1|h1
   ·exact .inl (.inr h1)
   ·exact .inr h1
 ·rcases k.own b hb with h1|h1
  ·exact h.own b h1
  ·exact .inr (Nat.le_trans h.off.size h1)
theorem Ext.moves(h:Ext cb v w v' w'):bM (gJ cb v) w (gJ cb v') w':=fun b hb pT=>
 ⟨⟨hb.1,fun e=>(h.own b e).elim hb.2 (fun h1=>VG)⟩,fun _ _ hu=>h.off.cell (fun hs=>hs.elim hb.1 hb.2) hu⟩
theorem Cp.lt(h:Cp B cb vars vv c css v w):cb<w.heap.size:=(Array.getElem?_eq_some_iff.1 h.box).1
theorem Cp.own(h:Cp B cb vars vv c css v w):∀b,v.ownBlock=some b->B<=b/\b<w.heap.size:=h.gro.lt
theorem Cp.n11(h:Cp B cb vars vv c css v w):∀k,k<11->¬inC cb v k:=fun k hk hs=>by
 have h1:=h.h11;have h2:=h.hcb;rcases hs with hs|hs
 ·omega
 ·have:=(h.own k hs).1;omega
theorem Cp.later(h:Cp B cb vars vv c css v w)(hb:Below w.heap.size w w'):Cp B cb vars vv c css v w':=
 ⟨aF hb h.box,h.gro.later fZ hb,h.row.moves aV (bM.later hb) VI,h.hcb,h.h11,h.nv,h.glob.later hb⟩
theorem Cp.size_le(h:Cp B cb vars vv c css v w):B<=w.heap.size:=h.gro.big
theorem Cp.put{c':Cmp}{css':List (List Value)}(h:Cp B cb vars vv c css v w)(hx:Ext cb v w v' w')(D0:w'.heap[cb]? =some (.cells #[vv,v',.int .i64 (c'.locals:Int)] 182))
  (hgro:Gro 5 171 nI B c'.code css' v' w'):Cp B cb vars vv c' css' v' w':=
 ⟨D0,hgro,h.row.moves aV hx.moves VI,h.hcb,h.h11,h.nv,h.glob.off hx.off h.n11⟩
end
theorem set_flat{k:Nat}{u:Value}{j:Nat}(hj:j<k):∀(css:List (List Value))(i:Nat)(c:List Value),(∀c,c∈css->c.length=k)->css[i]? =some c->(css.set i (c.set j u)).flatten=css.flatten.set (i*k+j) u
 |[],i,c,_,h=>W9
 |d::css,0,c,hk,h=>by
  simp at h;subst h;have hd:=hk d VL;rw[List.set_cons_zero,List.flatten_cons,List.flatten_cons,Nat.zero_mul,Nat.zero_add,List.set_append,if_pos VG]
 |d::css,i+1,c,hk,h=>by
  have hd:=hk d VL;rw[List.set_cons_succ,List.flatten_cons,List.flatten_cons,set_flat hj css i c (fun c hc=>hk c (by simp[hc])) WI,List.set_append,if_neg (by rw[hd,Nat.succ_mul];omega),hd];congr 2;rw[Nat.succ_mul];omega
theorem Gro.set1{α:Type}{k:Nat}{T:TypeId}{enc:(Nat->Prop)->World->α->List Value->Prop}{B:Nat}{l:List α}{css:List (List Value)}{w:World}{g cap n i j:Nat}{x y:α}{c:List Value}{u:Value}(he:eD enc)
  (h:Gro k T enc B l css (.slice (some ⟨g,0,none⟩) n cap) w) (hx:l[i]? =some x) (hc:css[i]? =some c) (hj:j<k)
  (hy:∀N W,enc N W x c->enc N W y (c.set j u)):Gro k T enc B (l.set i y) (css.set i (c.set j u)) (.slice (some ⟨g,0,none⟩) n cap) (w.setCell ⟨g,i*k+j,none⟩ u):=by
 have hm:bM (lC B (.slice (some ⟨g,0,none⟩) n cap)) w (lC B (.slice (some ⟨g,0,none⟩) n cap)) (w.setCell ⟨g,i*k+j,none⟩ u):=fun b hb pT=>by
  refine⟨hb,fun o z hz=>?_⟩;have pQ:b≠g:=fun e=>hb.2 (by rw[e];rfl);exact(Off.setCell (S:=fun b=>b=g) w rfl).cell pQ hz
 obtain⟨h1,h2⟩:=h.own;have hi:=(List.getElem?_eq_some_iff.1 hc).1;refine⟨⟨?_,?_⟩,by simp[h.len],fun d hd=>?_,fun a z d hz hd=>?_,by simpa using h.big⟩
 ·rw[set_flat hj css i c h.ks hc,List.length_set,h1,List.length_set]
 ·rcases h2 with⟨h2,-⟩|⟨g',cap',cur,hv,hg,DW,r1,r2,r3,r4⟩
  ·cases h2
  ·cases hv;refine .inr ⟨g,cap,cur.setIfInBounds (i*k+j) u,by rw[List.length_set],hg,aO DW u,by rw[List.length_set];exact r1,r2,by simpa using r3,?_⟩;rw[set_flat hj css i c h.ks hc,<-r4,Array.toList_setIfInBounds,List.length_set,List.take_set]
 ·rcases List.mem_or_eq_of_mem_set hd with hd|rfl
  ·exact h.ks d hd
  ·rw[List.length_set];exact h.ks c (List.mem_of_getElem? hc)
 ·by_cases ha:a=i
  ·subst ha;(have hil:a<l.length:=by rw[<-h.len];exact hi);rw[List.getElem?_set_self hil] at hz;rw[List.getElem?_set_self hi] at hd;cases hz;cases hd;exact hy _ _ (he _ _ _ _ _ _ hm (h.enc a x c hx hc))
  ·rw[List.getElem?_set_ne (fun e=>ha e.symm)] at hz hd;exact he _ _ _ _ _ _ hm (h.enc a z d hz hd)
theorem bx5{w:World}{b:Nat}{x0 x1 x2 x3 x4:Value}{t:TypeId}(h:w.heap[b]? =some (.cells #[x0,x1,x2,x3,x4] t)):
  (w.cell? ⟨b,0,none⟩=some x0/\w.cell? ⟨b,1,none⟩=some x1/\w.cell? ⟨b,2,none⟩=some x2/\w.cell? ⟨b,3,none⟩=some x3/\w.cell? ⟨b,4,none⟩=some x4)/\(w.frozen? ⟨b,0,none⟩=false/\w.frozen? ⟨b,1,none⟩=false/\w.frozen? ⟨b,2,none⟩=false/\w.frozen? ⟨b,3,none⟩=false/\w.frozen? ⟨b,4,none⟩=false):=
 ⟨⟨(bx h 0 rfl).1,(bx h 1 rfl).1,(bx h 2 rfl).1,(bx h 3 rfl).1,(bx h 4 rfl).1⟩,(bx h 0 (u:=x0) rfl).2,(bx h 1 (u:=x1) rfl).2,(bx h 2 (u:=x2) rfl).2,(bx h 3 (u:=x3) rfl).2,(bx h 4 (u:=x4) rfl).2⟩
def setI5(w:World)(b:Nat)(x0 x1 x2 x3 x4:Value):World:=((((w.setCell ⟨b,0,none⟩ x0).setCell ⟨b,1,none⟩ x1).setCell ⟨b,2,none⟩ x2).setCell ⟨b,3,none⟩ x3).setCell ⟨b,4,none⟩ x4
theorem setI5_off(w:World)(b:Nat)(x0 x1 x2 x3 x4:Value):Off (fun k=>k=b) w (setI5 w b x0 x1 x2 x3 x4):=by
 unfold setI5;exact(Off.refl _ _).one.one.one.one.one
theorem setI5_heap{w:World}{b:Nat}{y0 y1 y2 y3 y4:Value}{t:TypeId}(h:w.heap[b]? =some (.cells #[y0,y1,y2,y3,y4] t))(x0 x1 x2 x3 x4:Value):(setI5 w b x0 x1 x2 x3 x4).heap[b]? =some (.cells #[x0,x1,x2,x3,x4] t):=by
 unfold setI5;rw[aO (aO (aO (aO (aO h _) _) _) _) _];rfl
theorem insInfo:(Tryz.prog.info? 171).map (fun i=>(i.zero,i.size,i.bytes))=some (some (.agg #[.int .i64 0,.int .i64 0,.string ByteArray.empty,.string ByteArray.empty,.slice none 0 0]),5,72):=VH
theorem codInfo:(Tryz.prog.info? 168).map (fun i=>(i.zero,i.size,i.bytes))=some (some (.agg #[.string ByteArray.empty,.int .i64 0,.int .i64 0,.slice none 0 0]),4,56):=VH
end Go.Proofs.YtacgopankhpnbaaGreatDoor
namespace Go.Proofs.YtacgopankhpnbaaGreatDoor
open Go.RowKit
theorem ascOk_at{l:List ByteArray}{q:Nat}{x:ByteArray}(hx:l[q]? =some x)(before:Option ByteArray):nM before (l.drop q)=(aP x&&(match before with|none=>true|some b=>Op.bytesLess b.toList x.toList)&&nM (some x) (l.drop (q+1))):=by
 exact UI
theorem run_geq_str(t:TypeId)(a b:ByteArray)(w:World):(binOp .geq t (.string a) (.string b)).run Tryz.prog w=.ok (.bool (!Op.bytesLess a.toList b.toList)) w:=by
 simp[binOp,Op.stringOp]
theorem ascending_any(names:List ByteArray)(N:Nat->Prop)(vn:Value)(w:World)(hg:dH w)(hr:aK 1 cK N w vn names):
  Calls Tryz.prog 223 #[vn] w fun e w'=>e=.returned (.bool (nM none names&&decide (names.length<=8)))/\Below w.heap.size w w':=by
 have HG:=zh (fun W(hb:Below w.heap.size w W)=>hg.later hb);generalize LH:(nM none names&&decide (names.length<=8))=res;have HR:Hid (res=(nM none names&&decide (names.length<=8))):=zh LH.symm;clear LH;have HD:Hid (decide ((names.length:Int)<=8)=decide (names.length<=8)):=zh WC;clear hg;have A8:names.length<=9223372036854775807:=Y5;rcases hr.cases VI with⟨rfl,a,c,rfl⟩|⟨b,o,c,rfl,h0,h1,h2,hb,hN,hc⟩
 ·clear hr;go_enter Tryz.func223,Tryz.ntmps223;go_wp2_with fail;go_loop [7] (fun i=>i=.int .i64 0) (fun _=>0)
  case atStart=>rfl
  case round=>
   subst hrel;go_wp2_with fail;go_ret;exact⟨aD WM,Below.refl _ _⟩
 ·have HC:=zh hc;clear hc hr;go_enter Tryz.func223,Tryz.ntmps223;go_wp2_with fail;go_loopw [7] (fun iv wr=>∃q:Nat,q<=names.length/\iv=.int .i64 (q:Int)/\Hid (Below w.heap.size w wr)/\Hid (res=(nM (lE names q) (names.drop q)&&decide (names.length<=8)))) (fun iv _=>names.length-(intOf iv).toNat)
  case atStart=>exact⟨0,Nat.zero_le _,rfl,zh (Below.refl _ _),HR⟩
  case round=>
   obtain⟨q,hq,rfl,HB,pZ⟩:=hrel;(rename World=>wr);by_cases pT:q<names.length
   ·obtain⟨x,hx,tU⟩:=getElem?_of_lt pT;obtain⟨cs,⟨rfl,KD⟩,-,hj⟩:=HC.out q x hx;have p0:wr.cell? ⟨b,o+q,none⟩=some (.string x):=aC HB.out XH;have tC:=zh (pZ.out.trans (congrArg (fun z=>z&&decide (names.length<=8)) (ascOk_at hx (lE names q))));(have hpv:lE names (q+1)=some x:=by unfold lE;rw[if_neg VG,Nat.add_sub_cancel,hx]);rw[<-hpv] at tC;clear hj hpv tU
    cases sT:aP x with
    |false=>
     have HF:Hid (res=false):=zh (by rw[tC.out,sT];rfl);exact TF
    |true=>
     by_cases vY:q=0
     ·subst vY;(have p00:wr.cell? ⟨b,o,none⟩=some (.string x):=by simpa using p0);have uO:Hid (res=(nM (lE names (0+1)) (names.drop (0+1))&&decide (names.length<=8))):=zh (by rw[tC.out,sT];simp[lE]);clear tC pZ;go_wp2_with(go_at_call 147;refine(dX x wr KD (HG.out _ HB.out)).mono ?_;rintro e w5 ⟨rfl,rfl⟩;rw[sT]);go_roundw;(case rel=>exact⟨0+1,VG,VT,HB,uO⟩);case measure=>simp[intOf];omega
     ·have yV:0<q:=VG;obtain⟨y,hy,-⟩:=getElem?_of_lt (l:=names) (k:=q-1) VG;obtain⟨cs',⟨rfl,-⟩,-,yM⟩:=HC.out (q-1) y hy;have hp0:wr.cell? ⟨b,o+(q-1),none⟩=some (.string y):=aC HB.out YO;(have hpv:lE names q=some y:=by unfold lE;rw[if_neg vY,hy]);rw[hpv] at tC;clear yM hpv;have tF:(0:Int)<(q:Int):=VG;have B8:(0:Int)<=(q:Int)-1:=VG;have GO:(q:Int)-1<(names.length:Int):=VG;have NZ:((q:Int)-1).toNat=q-1:=VG;have hi4:¬(q:Int)<1:=VG
      cases EX:Op.bytesLess y.toList x.toList with
      |false=>
       (have DV:∀W,(binOp .geq 9 (.string y) (.string x)).run Tryz.prog W=.ok (.bool true) W:=fun W=>by rw[run_geq_str,EX];rfl);have HF:Hid (res=false):=zh W8;exact TF
      |true=>
       (have DV:∀W,(binOp .geq 9 (.string y) (.string x)).run Tryz.prog W=.ok (.bool false) W:=fun W=>by rw[run_geq_str,EX];rfl);have uO:Hid (res=(nM (lE names (q+1)) (names.drop (q+1))&&decide (names.length<=8))):=zh W8;clear tC pZ;go_wp2_with(go_at_call 147;refine(dX x wr KD (HG.out _ HB.out)).mono ?_;rintro e w5 ⟨rfl,rfl⟩;rw[sT]);go_roundw;(case rel=>exact⟨q+1,VG,VT,HB,uO⟩);case measure=>simp[intOf];omega
   ·have wY:q=names.length:=VG;have HT:Hid (res=decide (names.length<=8)):=zh XD;exact UC
def bT(c:Cod)(i:Ins)(vc vn:Value)(w:World):Prop:=
 Calls Tryz.prog 193 #[.agg #[.string c.name,.int .i64 (c.params:Int),.int .i64 (c.locals:Int),vc],.agg #[.int .i64 i.op,.int .i64 i.a,.string i.s,.string i.m,vn]] w fun e w'=>e=.returned (.bool (bS c i))/\Below w.heap.size w w'
theorem U3{p:Prop}(h:p:=by
 try simp only[zn]
 refine wpAnyH_done VH ?_ _;clear hS;go_wp2_with fail;go_ret
 exact⟨mG HF.out,aB hb rD⟩):p:=h
def iP(i:Ins)(vn:Value)(w:World):Prop:=
 Calls Tryz.prog 112 #[.agg #[.int .i64 i.op,.int .i64 i.a,.string i.s,.string i.m,vn]] w fun e w'=>e=.returned (.string (bs (gP i)))/\Below w.heap.size w w'
theorem oE(l:List UInt8):(bs l).size=l.length:=by show l.toArray.size=_;simp
theorem line_bare(op:Int)(ho:op=4\/op=5\/op=6\/op=7\/op=8\/op=9\/op=18\/op=19){wd:List UInt8}(BP:iV[op.toNat]? =some wd)(KF:wd.length<=6)(a:Int)(s m:ByteArray)(names:List ByteArray)(an:Option Addr)(cn:Nat)(w:World)(hg:dH w)(tP: -1<=a)(qD:a<=1099511627776):
  iP ⟨op,a,s,m,names⟩ (.slice an names.length cn) w:=by
 unfold iP;dsimp only;have hb:=aA w (.cells #[.int .i64 op,.int .i64 a,.string s,.string m,.slice an names.length cn] 171);have hw:=aC hb (hg.words _ _ BP);have hwl:(bs wd).size<=6:=by rw[oE];exact KF
 have HF:Hid ((bs wd++⟨#[10]⟩:ByteArray)=bs (gP ⟨op,a,s,m,names⟩)):=zh (iU (by
  unfold gP;dsimp only;rw[List.getD_eq_getElem?_getD,BP];clear BP hw
  rcases ho with rfl|rfl|rfl|rfl|rfl|rfl|rfl|rfl<;>simp[app_data,mk_data,bs_data]))
 generalize bs wd=W at *;clear hg BP KF;rcases ho with rfl|rfl|rfl|rfl|rfl|rfl|rfl|rfl
 all_goals
  simp only[Int.reduceToNat] at hw;go_enter Tryz.func112,Tryz.ntmps112;go_wp2_with fail;go_ret;exact⟨mG HF.out,hb⟩
theorem line_num(op:Int)(ho:op=0\/op=1\/op=2\/op=3\/op=10\/op=11\/op=15\/op=16\/op=17){wd:List UInt8}(BP:iV[op.toNat]? =some wd)(KF:wd.length<=6)(a:Int)(s m:ByteArray)(names:List ByteArray)(an:Option Addr)(cn:Nat)(w:World)(hg:dH w)(tP: -1<=a)(qD:a<=1099511627776):
  iP ⟨op,a,s,m,names⟩ (.slice an names.length cn) w:=by
 unfold iP;dsimp only;have hb:=aA w (.cells #[.int .i64 op,.int .i64 a,.string s,.string m,.slice an names.length cn] 171);have hw:=aC hb (hg.words _ _ BP);have hwl:(bs wd).size<=6:=by rw[oE];exact KF
 have HI:=zh (Tryz.strconv_Itoa a VG VG (w.alloc (.cells #[.int .i64 op,.int .i64 a,.string s,.string m,.slice an names.length cn] 171)) (hg.later hb).pow10);have hil:=Lib.itoa_length_le a VG VG;have GA:=zh (fun k os=>Lib.below_grow _ (w.alloc (.cells #[.int .i64 op,.int .i64 a,.string s,.string m,.slice an names.length cn] 171)) (Nat.le_refl _) k os)
 have HF:Hid (((bs wd++(⟨#[32]⟩++⟨(Lib.itoa a).toArray⟩))++⟨#[10]⟩:ByteArray)=bs (gP ⟨op,a,s,m,names⟩)):=zh (iU (by
  unfold gP;dsimp only;rw[List.getD_eq_getElem?_getD,BP];clear BP hw
  rcases ho with rfl|rfl|rfl|rfl|rfl|rfl|rfl|rfl|rfl<;>simp[app_data,mk_data,bs_data,itoaB]))
 generalize bs wd=W at *;generalize Lib.itoa a=it at *;clear hg BP KF;rcases ho with rfl|rfl|rfl|rfl|rfl|rfl|rfl|rfl|rfl
 all_goals
  simp only[Int.reduceToNat] at hw;go_enter Tryz.func112,Tryz.ntmps112;go_wp2_with(go_at_call 106;refine HI.out.mono ?_;rintro e w1 ⟨rfl,k,os,hw1⟩;have rD:=GA.out k os;rw[<-hw1] at rD;clear hw1);go_ret;exact⟨mG HF.out,aB hb rD⟩
theorem line_12(a:Int)(s m:ByteArray)(names:List ByteArray)(an:Option Addr)(cn:Nat)(N:Nat->Prop)(w:World)(hg:dH w)(tP: -1<=a)(qD:a<=1099511627776)(hs:s.size<=8000)(hm:m.size<=8000)(hn:aK 1 cK N w (.slice an names.length cn) names)(hl:names.length<=1000):
  iP ⟨12,a,s,m,names⟩ (.slice an names.length cn) w:=by
 unfold iP;dsimp only;have hb:=aA w (.cells #[.int .i64 12,.int .i64 a,.string s,.string m,.slice an names.length cn] 171);have hw:(w.alloc (.cells #[.int .i64 12,.int .i64 a,.string s,.string m,.slice an names.length cn] 171)).cell? ⟨0,12,none⟩=some (.string (bs [114,101,99])):=aC hb (hg.words 12 _ rfl);have hwl:=oE [114,101,99];have HG:=zh (fun(q:Nat)(x:ByteArray)(hx:names[q]? =some x)=>(show(bs ([114,101,99]++(names.take (q+1)).flatMap (fun x=>[32]++x.data.toList)):ByteArray)=bs ([114,101,99]++(names.take q).flatMap (fun x=>[32]++x.data.toList))++(⟨#[32]⟩++x) from iU (by rw[List.take_add_one,hx];simp[app_data,mk_data,bs_data])));have HF:Hid ((bs ([114,101,99]++names.flatMap (fun x=>[32]++x.data.toList))++⟨#[10]⟩:ByteArray)=bs (gP ⟨12,a,s,m,names⟩)):=zh (iU (by simp[app_data,mk_data,bs_data,gP,iV]))
 have HS:Hid (∀q,(bs ([114,101,99]++(names.take q).flatMap (fun x=>[32]++x.data.toList))).size<=3+q*140737488355329):=zh (fun q=>by
  rw[oE,List.length_append]
  have:∀(l:List ByteArray),(∀x∈l,x.size<=140737488355328)->(l.flatMap (fun x=>[32]++x.data.toList)).length<=l.length*140737488355329:=by
   intro l hl
   induction l with
   |nil=>simp
   |cons x l ih=>
    have h1:=ih (fun y hy=>hl y (by simp[hy]));have h2:=hl x VL;rw[List.flatMap_cons,List.length_append,List.length_cons,Nat.succ_mul];(have h3:([32]++x.data.toList).length=x.size+1:=by simp[Nat.add_comm]);omega
  have h4:=this (names.take q) (fun x hx=>lI hn.strs (List.mem_of_mem_take hx));have h5:(names.take q).length*140737488355329<=q*140737488355329:=Nat.mul_le_mul_right _ (by rw[List.length_take];omega);simp only[List.length_cons,List.length_nil]
  omega)
 obtain⟨a9,c9,e9,xX,xW,hca⟩:=hn.at;cases e9;have HC:=zh hca;have rK:=(bx5 (heap_alloc_new w (.cells #[.int .i64 12,.int .i64 a,.string s,.string m,.slice an names.length cn] 171))).1;clear hg hn hca;go_enter Tryz.func112,Tryz.ntmps112;go_wp2_with fail;go_loop [3,50] (fun sv iv=>∃q:Nat,q<=names.length/\iv=.int .i64 (q:Int)/\sv=.string (bs ([114,101,99]++(names.take q).flatMap (fun x=>[32]++x.data.toList)))) (fun _ iv=>names.length-(intOf iv).toNat)
 case atStart=>exact⟨0,Nat.zero_le _,rfl,rfl⟩
 case round=>
  obtain⟨q,hq,rfl,rfl⟩:=hrel;by_cases pT:q<names.length
  ·obtain⟨x,hx,-⟩:=getElem?_of_lt pT;obtain⟨b,o,rfl,-,cs,⟨rfl,KD⟩,-,hj⟩:=HC.out q x hx;have p0:w.cell? ⟨b,o+q,none⟩=some (.string x):=XH;have hp:=aC hb p0;have hG:=HG.out q x hx;have hSz:=HS.out q;have HGq:=zh hG;have LO:q*140737488355329<=1000*140737488355329:=Nat.mul_le_mul_right _ VG;clear hj hx hG;generalize bs ([114,101,99]++(names.take q).flatMap (fun x=>[32]++x.data.toList))=acc at *;go_wp2_with fail
   go_round
   (case rel=>exact⟨q+1,VG,VT,by rw[HGq.out]⟩);case measure=>simp[intOf];omega
  ·have wY:names.take q=names:=List.take_of_length_le VG;have hSz:=HS.out q;have LO:q*140737488355329<=1000*140737488355329:=Nat.mul_le_mul_right _ VG;rw[wY] at hSz ⊢;generalize bs ([114,101,99]++names.flatMap (fun x=>[32]++x.data.toList))=acc at *;go_wp2_with fail;go_ret;exact⟨mG HF.out,hb⟩
theorem line_13(a:Int)(s m:ByteArray)(names:List ByteArray)(an:Option Addr)(cn:Nat)(N:Nat->Prop)(w:World)(hg:dH w)(tP: -1<=a)(qD:a<=1099511627776)(hs:s.size<=8000)(hm:m.size<=8000)(hn:aK 1 cK N w (.slice an names.length cn) names)(hl:names.length<=1000):
  iP ⟨13,a,s,m,names⟩ (.slice an names.length cn) w:=by
 unfold iP;dsimp only;have hb:=aA w (.cells #[.int .i64 13,.int .i64 a,.string s,.string m,.slice an names.length cn] 171);have hw:(w.alloc (.cells #[.int .i64 13,.int .i64 a,.string s,.string m,.slice an names.length cn] 171)).cell? ⟨0,13,none⟩=some (.string (bs [102,105,101,108,100])):=aC hb (hg.words 13 _ rfl);have hwl:=oE [102,105,101,108,100];have HF:Hid (((bs [102,105,101,108,100]++(⟨#[32]⟩++s))++⟨#[10]⟩:ByteArray)=bs (gP ⟨13,a,s,m,names⟩)):=zh (iU (by simp[app_data,mk_data,bs_data,gP,iV]));generalize bs [102,105,101,108,100]=W at *;clear hg hn;go_enter Tryz.func112,Tryz.ntmps112;go_wp2_with fail;go_ret;exact⟨mG HF.out,hb⟩
theorem line_14(a:Int)(s m:ByteArray)(names:List ByteArray)(an:Option Addr)(cn:Nat)(N:Nat->Prop)(w:World)(hg:dH w)(tP: -1<=a)(qD:a<=1099511627776)(hs:s.size<=8000)(hm:m.size<=8000)(hn:aK 1 cK N w (.slice an names.length cn) names)(hl:names.length<=1000):
  iP ⟨14,a,s,m,names⟩ (.slice an names.length cn) w:=by
 unfold iP;dsimp only;have hb:=aA w (.cells #[.int .i64 14,.int .i64 a,.string s,.string m,.slice an names.length cn] 171);have hw:(w.alloc (.cells #[.int .i64 14,.int .i64 a,.string s,.string m,.slice an names.length cn] 171)).cell? ⟨0,14,none⟩=some (.string (bs [99,97,108,108])):=aC hb (hg.words 14 _ rfl);have hwl:=oE [99,97,108,108];have HI:=zh (fun W(h:Below (w.alloc (.cells #[.int .i64 14,.int .i64 a,.string s,.string m,.slice an names.length cn] 171)).heap.size (w.alloc (.cells #[.int .i64 14,.int .i64 a,.string s,.string m,.slice an names.length cn] 171)) W)=>Tryz.strconv_Itoa a VG VG W (hg.later (aB hb h)).pow10);have hil:=Lib.itoa_length_le a VG VG;have rT:=zh (heap_alloc_new w (.cells #[.int .i64 14,.int .i64 a,.string s,.string m,.slice an names.length cn] 171));have rK:=(bx5 rT.out).1;clear hg hn;by_cases qT:m=noB
 ·subst qT;have HF:Hid ((bs [99,97,108,108]++(((((⟨#[32]⟩++⟨#[46]⟩)++⟨#[32]⟩)++s)++⟨#[32]⟩)++⟨(Lib.itoa a).toArray⟩))++⟨#[10]⟩=bs (gP ⟨14,a,s,noB,names⟩)):=zh (iU (by simp[app_data,mk_data,bs_data,gP,iV,itoaB]));generalize bs [99,97,108,108]=W at *;generalize Lib.itoa a=it at *;go_enter Tryz.func112,Tryz.ntmps112;go_wp2_with fail;refine wp_region_held_drew (S:=fun W=>Below (w.alloc (.cells #[.int .i64 14,.int .i64 a,.string s,.string noB,.slice an names.length cn] 171)).heap.size (w.alloc (.cells #[.int .i64 14,.int .i64 a,.string s,.string noB,.slice an names.length cn] 171)) W) VH (aE _) fun hS=>?_;refine zt 0 (.string W) rfl (fun W hW=>V2) hS ?_;try simp only[zn]
  refine zt 1 (.string ⟨#[46]⟩) rfl (fun W hW=>V2) hS ?_;try simp only[zn]
  refine zt 2 (.string (⟨#[32]⟩++⟨#[46]⟩)) rfl (fun W hW=>V2) hS ?_;try simp only[zn]
  refine zt 3 (.string ((⟨#[32]⟩++⟨#[46]⟩)++⟨#[32]⟩)) rfl (fun W hW=>V2) hS ?_;try simp only[zn]
  refine zt 4 (.pointer (some ⟨w.heap.size,2,none⟩)) rfl (fun W hW=>V2) hS ?_;try simp only[zn]
  refine zt 5 (.string s) rfl (fun W hW=>WL) hS ?_;try simp only[zn]
  refine zt 6 (.string (((⟨#[32]⟩++⟨#[46]⟩)++⟨#[32]⟩)++s)) rfl (fun W hW=>V2) hS ?_;try simp only[zn]
  refine zt 7 (.string ((((⟨#[32]⟩++⟨#[46]⟩)++⟨#[32]⟩)++s)++⟨#[32]⟩)) rfl (fun W hW=>V2) hS ?_;try simp only[zn]
  refine zt 8 (.pointer (some ⟨w.heap.size,1,none⟩)) rfl (fun W hW=>V2) hS ?_;try simp only[zn]
  refine zt 9 (.int .i64 a) rfl (fun W hW=>WL) hS ?_;try simp only[zn]
  refine zr 10 rfl (fun K hK=>?_);try simp only[z1,z2,z3]
  go_simp;refine(HI.out (w.alloc (.cells #[.int .i64 14,.int .i64 a,.string s,.string noB,.slice an names.length cn] 171)).drew (aE _)).mono ?_;rintro e w1 ⟨rfl,k,os,rfl⟩;have rD:=aB (aE (w.alloc (.cells #[.int .i64 14,.int .i64 a,.string s,.string noB,.slice an names.length cn] 171))) (Lib.below_grow _ (w.alloc (.cells #[.int .i64 14,.int .i64 a,.string s,.string noB,.slice an names.length cn] 171)).drew (Nat.le_refl _) k os);generalize Sort.grow (World.drewN (w.alloc (.cells #[.int .i64 14,.int .i64 a,.string s,.string noB,.slice an names.length cn] 171)).drew k) os=w1 at rD ⊢;refine hK.out _ _ rD (fun hS=>?_);clear hK K;try simp only[zn]
  refine zt 11 (.string (((((⟨#[32]⟩++⟨#[46]⟩)++⟨#[32]⟩)++s)++⟨#[32]⟩)++⟨it.toArray⟩)) rfl (fun W hW=>V2) hS ?_;try simp only[zn]
  refine zt 12 (.string (W++(((((⟨#[32]⟩++⟨#[46]⟩)++⟨#[32]⟩)++s)++⟨#[32]⟩)++⟨it.toArray⟩))) rfl (fun W hW=>V2) hS ?_;try simp only[zn]
  refine zt 13 (.string (W++(((((⟨#[32]⟩++⟨#[46]⟩)++⟨#[32]⟩)++s)++⟨#[32]⟩)++⟨it.toArray⟩))) rfl (fun W hW=>V2) hS ?_;exact U3
 ·have xB:(m.toList==[])=false:=VU;have HF:Hid ((bs [99,97,108,108]++(((((⟨#[32]⟩++m)++⟨#[32]⟩)++s)++⟨#[32]⟩)++⟨(Lib.itoa a).toArray⟩))++⟨#[10]⟩=bs (gP ⟨14,a,s,m,names⟩)):=zh (iU (by simp[app_data,mk_data,bs_data,gP,iV,itoaB,qT]));generalize bs [99,97,108,108]=W at *;generalize Lib.itoa a=it at *;clear qT;go_enter Tryz.func112,Tryz.ntmps112;go_wp2_with fail;refine wp_region_held_drew (S:=fun W=>Below (w.alloc (.cells #[.int .i64 14,.int .i64 a,.string s,.string m,.slice an names.length cn] 171)).heap.size (w.alloc (.cells #[.int .i64 14,.int .i64 a,.string s,.string m,.slice an names.length cn] 171)) W) VH (aE _) fun hS=>?_;refine zt 0 (.string W) rfl (fun W hW=>V2) hS ?_;try simp only[zn]
  refine zt 1 (.string m) rfl (fun W hW=>V2) hS ?_;try simp only[zn]
  refine zt 2 (.string (⟨#[32]⟩++m)) rfl (fun W hW=>V2) hS ?_;try simp only[zn]
  refine zt 3 (.string ((⟨#[32]⟩++m)++⟨#[32]⟩)) rfl (fun W hW=>V2) hS ?_;try simp only[zn]
  refine zt 4 (.pointer (some ⟨w.heap.size,2,none⟩)) rfl (fun W hW=>V2) hS ?_;try simp only[zn]
  refine zt 5 (.string s) rfl (fun W hW=>WL) hS ?_;try simp only[zn]
  refine zt 6 (.string (((⟨#[32]⟩++m)++⟨#[32]⟩)++s)) rfl (fun W hW=>V2) hS ?_;try simp only[zn]
  refine zt 7 (.string ((((⟨#[32]⟩++m)++⟨#[32]⟩)++s)++⟨#[32]⟩)) rfl (fun W hW=>V2) hS ?_;try simp only[zn]
  refine zt 8 (.pointer (some ⟨w.heap.size,1,none⟩)) rfl (fun W hW=>V2) hS ?_;try simp only[zn]
  refine zt 9 (.int .i64 a) rfl (fun W hW=>WL) hS ?_;try simp only[zn]
  refine zr 10 rfl (fun K hK=>?_);try simp only[z1,z2,z3]
  go_simp;refine(HI.out (w.alloc (.cells #[.int .i64 14,.int .i64 a,.string s,.string m,.slice an names.length cn] 171)).drew (aE _)).mono ?_;rintro e w1 ⟨rfl,k,os,rfl⟩;have rD:=aB (aE (w.alloc (.cells #[.int .i64 14,.int .i64 a,.string s,.string m,.slice an names.length cn] 171))) (Lib.below_grow _ (w.alloc (.cells #[.int .i64 14,.int .i64 a,.string s,.string m,.slice an names.length cn] 171)).drew (Nat.le_refl _) k os);generalize Sort.grow (World.drewN (w.alloc (.cells #[.int .i64 14,.int .i64 a,.string s,.string m,.slice an names.length cn] 171)).drew k) os=w1 at rD ⊢;refine hK.out _ _ rD (fun hS=>?_);clear hK K;try simp only[zn]
  refine zt 11 (.string (((((⟨#[32]⟩++m)++⟨#[32]⟩)++s)++⟨#[32]⟩)++⟨it.toArray⟩)) rfl (fun W hW=>V2) hS ?_;try simp only[zn]
  refine zt 12 (.string (W++(((((⟨#[32]⟩++m)++⟨#[32]⟩)++s)++⟨#[32]⟩)++⟨it.toArray⟩))) rfl (fun W hW=>V2) hS ?_;try simp only[zn]
  refine zt 13 (.string (W++(((((⟨#[32]⟩++m)++⟨#[32]⟩)++s)++⟨#[32]⟩)++⟨it.toArray⟩))) rfl (fun W hW=>V2) hS ?_;exact U3
theorem SM{p:Prop}(h:p:=by
 go_enter Tryz.func193,Tryz.ntmps193;go_wp2_with fail;go_quiet(fail)
 go_wp2_with(go_at_call 147;refine(HS.out _ (aL (aB (aA _ _) (aA _ _)) _)).mono ?_;rintro e w2 ⟨rfl,rfl⟩);go_ret
 exact⟨aD V4,aL (aB (aA _ _) (aA _ _)) _⟩):p:=h
theorem formed_0(c:Cod)(a:Int)(s m:ByteArray)(names:List ByteArray)(ac:Option Addr)(cc:Nat)(an:Option Addr)(cn:Nat)(N:Nat->Prop)(w:World)(hg:dH w)(hs:s.size<=8000)(hm:m.size<=8000)(hn:aK 1 cK N w (.slice an names.length cn) names):
  bT c ⟨0,a,s,m,names⟩ (.slice ac c.code.length cc) (.slice an names.length cn) w:=by
 unfold bT;dsimp only;have HR:Hid (bS c ⟨0,a,s,m,names⟩=(decide (s=noB)&&decide (m=noB)&&decide (names.length=0))):=zh rfl;have vH:=aB (aA w (.cells #[.string c.name,.int .i64 (c.params:Int),.int .i64 (c.locals:Int),.slice ac c.code.length cc] 168)) (aA _ (.cells #[.int .i64 0,.int .i64 a,.string s,.string m,.slice an names.length cn] 171));clear hg hn;by_cases rF:s=noB
 focus
  subst rF;simp only[decide_true,Bool.true_and,Bool.and_true] at HR;by_cases qT:m=noB
  focus
   subst qT;simp only[decide_true,Bool.true_and,Bool.and_true] at HR;by_cases rV:names.length=0
   focus
    rw[decide_eq_true rV] at HR;rw[rV]
   rotate_right
   focus
    have xX:((names.length:Int)==0)=false:=VQ;rw[decide_eq_false rV] at HR
  rotate_right
  focus
   have xB:(m.toList==[])=false:=VU;rw[decide_eq_false qT] at HR
 rotate_right
 focus
  have uK:(s.toList==[])=false:=V1;rw[decide_eq_false rF] at HR
 all_goals
  go_enter Tryz.func193,Tryz.ntmps193;go_wp2_with fail;go_quiet(fail)
  go_wp2_with fail;go_ret;exact⟨aD V4,aL (aB (aA _ _) (aA _ _)) _⟩
theorem formed_1(c:Cod)(a:Int)(s m:ByteArray)(names:List ByteArray)(ac:Option Addr)(cc:Nat)(an:Option Addr)(cn:Nat)(N:Nat->Prop)(w:World)(hg:dH w)(hs:s.size<=8000)(hm:m.size<=8000)(hn:aK 1 cK N w (.slice an names.length cn) names):
  bT c ⟨1,a,s,m,names⟩ (.slice ac c.code.length cc) (.slice an names.length cn) w:=by
 unfold bT;dsimp only;have HR:Hid (bS c ⟨1,a,s,m,names⟩=((decide (a=0)||decide (a=1))&&decide (s=noB)&&decide (m=noB)&&decide (names.length=0))):=zh rfl;have vH:=aB (aA w (.cells #[.string c.name,.int .i64 (c.params:Int),.int .i64 (c.locals:Int),.slice ac c.code.length cc] 168)) (aA _ (.cells #[.int .i64 1,.int .i64 a,.string s,.string m,.slice an names.length cn] 171));clear hg hn;by_cases h0:a=0
 focus
  subst h0;simp only[decide_true,Bool.true_or,Bool.or_true,Bool.true_and] at HR;by_cases rF:s=noB
  focus
   subst rF;simp only[decide_true,Bool.true_and,Bool.and_true] at HR;by_cases qT:m=noB
   focus
    subst qT;simp only[decide_true,Bool.true_and,Bool.and_true] at HR;by_cases rV:names.length=0
    focus
     rw[decide_eq_true rV] at HR;rw[rV]
    rotate_right
    focus
     have xX:((names.length:Int)==0)=false:=VQ;rw[decide_eq_false rV] at HR
   rotate_right
   focus
    have xB:(m.toList==[])=false:=VU;rw[decide_eq_false qT] at HR
  rotate_right
  focus
   have uK:(s.toList==[])=false:=V1;rw[decide_eq_false rF] at HR
 rotate_right
 focus
  have g0:(a==0)=false:=by rw[beq_eq_false_iff_ne];exact h0
  rw[decide_eq_false h0] at HR;by_cases h1:a=1
  focus
   subst h1;simp only[decide_true,Bool.true_or,Bool.or_true,Bool.true_and] at HR;by_cases rF:s=noB
   focus
    subst rF;simp only[decide_true,Bool.true_and,Bool.and_true] at HR;by_cases qT:m=noB
    focus
     subst qT;simp only[decide_true,Bool.true_and,Bool.and_true] at HR;by_cases rV:names.length=0
     focus
      rw[decide_eq_true rV] at HR;rw[rV]
     rotate_right
     focus
      have xX:((names.length:Int)==0)=false:=VQ;rw[decide_eq_false rV] at HR
    rotate_right
    focus
     have xB:(m.toList==[])=false:=VU;rw[decide_eq_false qT] at HR
   rotate_right
   focus
    have uK:(s.toList==[])=false:=V1;rw[decide_eq_false rF] at HR
  rotate_right
  focus
   have g1:(a==1)=false:=XG;rw[decide_eq_false h1] at HR;simp only[Bool.false_or,Bool.or_false,Bool.false_and] at HR
 all_goals
  go_enter Tryz.func193,Tryz.ntmps193;go_wp2_with fail;go_quiet(fail)
  go_wp2_with fail;go_ret;exact⟨aD V4,aL (aB (aA _ _) (aA _ _)) _⟩
theorem formed_13(c:Cod)(a:Int)(s m:ByteArray)(names:List ByteArray)(ac:Option Addr)(cc:Nat)(an:Option Addr)(cn:Nat)(N:Nat->Prop)(w:World)(hg:dH w)(hs:s.size<=8000)(hm:m.size<=8000)(hn:aK 1 cK N w (.slice an names.length cn) names):
  bT c ⟨13,a,s,m,names⟩ (.slice ac c.code.length cc) (.slice an names.length cn) w:=by
 unfold bT;dsimp only;have HR:Hid (bS c ⟨13,a,s,m,names⟩=(aP s&&decide (a=0)&&decide (m=noB)&&decide (names.length=0))):=zh rfl;have vH:=aB (aA w (.cells #[.string c.name,.int .i64 (c.params:Int),.int .i64 (c.locals:Int),.slice ac c.code.length cc] 168)) (aA _ (.cells #[.int .i64 13,.int .i64 a,.string s,.string m,.slice an names.length cn] 171));have HS:=zh (fun W(hb:Below w.heap.size w W)=>dX s W VG (hg.later hb));clear hg hn
 cases sT:aP s with
 |false=>
  rw[sT] at HS HR;clear sT;exact SM
 |true=>
  rw[sT] at HS HR;clear sT;simp only[Bool.true_and] at HR;by_cases ha:a=0
  ·subst ha;simp only[decide_true,Bool.true_and,Bool.and_true] at HR;by_cases qT:m=noB
   ·subst qT;simp only[decide_true,Bool.true_and,Bool.and_true] at HR;by_cases rV:names.length=0
    ·rw[decide_eq_true rV] at HR;rw[rV];exact SM
    ·have xX:((names.length:Int)==0)=false:=VQ;rw[decide_eq_false rV] at HR;exact SM
   ·have xB:(m.toList==[])=false:=VU;rw[decide_eq_false qT] at HR;exact SM
  ·have qD:(a==0)=false:=YP;rw[decide_eq_false ha] at HR;exact SM
end Go.Proofs.YtacgopankhpnbaaGreatDoor
