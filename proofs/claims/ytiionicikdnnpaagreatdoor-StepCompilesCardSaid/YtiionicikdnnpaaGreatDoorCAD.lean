/- Texts of this seat, joined. -/
import Derived.Test.YtiionicikdnnpaaGreatDoorCAC
set_option maxHeartbeats 32000000
set_option maxRecDepth 100000
set_option linter.unusedVariables false
set_option linter.unusedSimpArgs false
namespace Go.Proofs.YtiionicikdnnpaaGreatDoor
open Go.RowKit
def cleanN(op n:Int):Int:=if op=0\/op=1\/op=16 then n else 0
def cleanS(op:Int)(s:bA):bA:=if op=2\/op=17\/op=18\/op=14\/op=12\/op=15 then s else noB
def cleanM(op:Int)(m:bA):bA:=if op=15 then m else noB
def pH(op:Int)(k:Nat):Int:=if op=0\/op=1\/op=2\/op=17 then 0 else if op=18\/op=14\/op=16\/op=10 then 1 else if op=11 then 3 else if op=13 then k else if op=15 then -1 else 2
theorem clean_all(op n:Int)(s m:bA)(a1:Option Addr)(n1 c1:Nat)(a2:Option Addr)(n2 c2:Nat)(w:World)(h0:0<=op)(h1:op<19):
  Calls Tryz.prog 162 #[eK op n s m a1 n1 c1 a2 n2 c2] w fun e w'=>e=.returned (.tuple #[.agg #[.int .i64 op,.int .i64 (cleanN op n),.string (cleanS op s),.string (cleanM op m),if op=13 then .slice a1 n1 c1 else .slice none 0 0,.slice a2 n2 c2],.int .i64 (pH op n1)])/\Below w.heap.size w w':=by
 obtain⟨V,HV⟩:∃V,Hid (V=Value.tuple #[.agg #[.int .i64 op,.int .i64 (cleanN op n),.string (cleanS op s),.string (cleanM op m),if op=13 then .slice a1 n1 c1 else .slice none 0 0,.slice a2 n2 c2],.int .i64 (pH op n1)]):=⟨_,zh rfl⟩;rw[<-HV.out];have hc:(op=0\/op=1\/op=2\/op=3\/op=4\/op=5\/op=6\/op=7\/op=8\/op=9\/op=10\/op=11\/op=12\/op=14\/op=16\/op=17\/op=18)\/op=13\/op=15:=YM;clear h0 h1;rcases hc with(rfl|rfl|rfl|rfl|rfl|rfl|rfl|rfl|rfl|rfl|rfl|rfl|rfl|rfl|rfl|rfl|rfl)|rfl|rfl
 all_goals
  go_enter Tryz.func162,Tryz.ntmps162;go_wp2_with fail;try go_region
  all_goals try go_wp2_with fail
  all_goals refine bodyPost_ret (v:=V) (by rw[HV.out];simp[results,Tryz.results162,go_sem,cleanN,cleanS,cleanM,pH,noB]) rfl ⟨rfl,?_⟩
  all_goals repeat(first|exact Below.refl _ _|refine Below.drew ?_|refine Below.alloc ?_ Z5 _|refine Below.setCell ?_ Z5 _)
theorem leaf_any(op n:Int)(s m:bA)(names:List bA)(args:List Xp)(N:Nat->Prop)(vn va:Value)(w:World)(h0:0<=op)(h1:op<19)(hg:eJ w)(he:bN N w (.mk op n s m names args) [.int .i64 op,.int .i64 n,.string s,.string m,vn,va]):
  gW (.mk op n s m names args) op n s m vn va w:=by
 rw[aU] at he;obtain⟨v1,v2,e,hs,hm,hn,a2,c2,rfl,-⟩:=he;cases e;have hn':=hn;obtain⟨a1,c1,rfl,-⟩:=hn';have hc:op=0\/op=1\/op=2\/op=3\/op=4\/op=5\/op=6\/op=7\/op=8\/op=9\/op=10\/op=11\/op=12\/op=13\/op=14\/op=15\/op=16\/op=17\/op=18:=YM;rcases hc with rfl|rfl|rfl|rfl|rfl|rfl|rfl|rfl|rfl|rfl|rfl|rfl|rfl|rfl|rfl|rfl|rfl|rfl|rfl
 ·exact leaf_0 n s m names args a1 names.length c1 a2 c2 w hg hs hm
 ·exact leaf_1 n s m names args a1 names.length c1 a2 c2 w hg hs hm
 ·exact rB 2 YR n s m names args a1 names.length c1 a2 c2 w hg hs hm
 ·exact kY 3 YR n s m names args a1 names.length c1 a2 c2 w hg hs hm
 ·exact kY 4 YR n s m names args a1 names.length c1 a2 c2 w hg hs hm
 ·exact kY 5 YR n s m names args a1 names.length c1 a2 c2 w hg hs hm
 ·exact kY 6 YR n s m names args a1 names.length c1 a2 c2 w hg hs hm
 ·exact kY 7 YR n s m names args a1 names.length c1 a2 c2 w hg hs hm
 ·exact kY 8 YR n s m names args a1 names.length c1 a2 c2 w hg hs hm
 ·exact kY 9 YR n s m names args a1 names.length c1 a2 c2 w hg hs hm
 ·exact kY 10 YR n s m names args a1 names.length c1 a2 c2 w hg hs hm
 ·exact kY 11 YR n s m names args a1 names.length c1 a2 c2 w hg hs hm
 ·exact rB 12 YR n s m names args a1 names.length c1 a2 c2 w hg hs hm
 ·exact leaf_13 n s m names args N _ a2 args.length c2 w hg hn
 ·exact rB 14 YR n s m names args a1 names.length c1 a2 c2 w hg hs hm
 ·exact leaf_15 n s m names args a1 names.length c1 a2 c2 w hg hs hm
 ·exact leaf_16 n s m names args a1 names.length c1 a2 c2 w hg hs hm
 ·exact rB 17 YR n s m names args a1 names.length c1 a2 c2 w hg hs hm
 exact rB 18 YR n s m names args a1 names.length c1 a2 c2 w hg hs hm
def CleanSays(op n:Int)(s m:bA)(a1:Option Addr)(n1 c1:Nat)(va:Value)(w:World):Prop:=Calls Tryz.prog 162 #[.agg #[.int .i64 op,.int .i64 n,.string s,.string m,.slice a1 n1 c1,va]] w fun e w'=>∃a3 n3 c3,e=.returned (.tuple #[.agg #[.int .i64 op,.int .i64 (cleanN op n),.string (cleanS op s),.string (cleanM op m),.slice a3 n3 c3,va],.int .i64 (pH op n1)])/\n3=(if op=13 then n1 else 0)/\Below w.heap.size w w'
theorem clean_any(op n:Int)(s m:bA)(a1:Option Addr)(n1 c1:Nat)(a2:Option Addr)(n2 c2:Nat)(w:World)(h0:0<=op)(h1:op<19):CleanSays op n s m a1 n1 c1 (.slice a2 n2 c2) w:=by
 by_cases h:op=13
 ·subst h;exact(clean_all 13 n s m a1 n1 c1 a2 n2 c2 w YM YM).mono fun e w' h=>⟨a1,n1,c1,h.1,rfl,h.2⟩
 refine(clean_all op n s m a1 n1 c1 a2 n2 c2 w h0 h1).mono fun e w' h2=>?_;rw[if_neg h] at h2;exact⟨none,0,0,h2.1,by rw[if_neg h],h2.2⟩
theorem cleanX_eq(op n:Int)(s m:bA)(names:List bA)(args:List Xp)(h0:0<=op)(h1:op<19):fQ (.mk op n s m names args)=((cleanN op n,cleanS op s,cleanM op m,if op=13 then names else[]),pH op names.length):=by
 have hc:op=0\/op=1\/op=2\/op=3\/op=4\/op=5\/op=6\/op=7\/op=8\/op=9\/op=10\/op=11\/op=12\/op=13\/op=14\/op=15\/op=16\/op=17\/op=18:=YM;rcases hc with rfl|rfl|rfl|rfl|rfl|rfl|rfl|rfl|rfl|rfl|rfl|rfl|rfl|rfl|rfl|rfl|rfl|rfl|rfl<;>rfl
theorem YC{p:Prop}(h:p:=by
 go_ret
 exact⟨aF ZL,tB.out⟩):p:=h
theorem aS{B:Nat}{a b:World}(h:Below B a b)(n:Nat):Below B a (b.drewN n):=⟨h.os,h.tape,h.output,h.size,h.block⟩
theorem flds_bad{l:List Fld}{k:Nat}{x:Fld}{known:List bA}{r:Bool}(hx:l[k]? =some x)(h:(known.any fun y=>decide (y=x.1))=true\/aK x.1=false\/aR 4 x.2=false)
  (hr:r=bC (l.drop k) known):r=false:=by
 obtain⟨hk,rfl⟩:=Yb.1 hx;rw[hr,List.drop_eq_getElem_cons hk];revert h;obtain⟨n,t⟩:=l[k];intro h;rw[bC];rcases h with h|h|h<;>simp[h]
theorem flds_good{l:List Fld}{k:Nat}{x:Fld}{known:List bA}{r:Bool}(hx:l[k]? =some x)(h1:(known.any fun y=>decide (y=x.1))=false)(h2:aK x.1=true)(h3:aR 4 x.2=true)
  (hr:r=bC (l.drop k) known):r=bC (l.drop (k+1)) (x.1::known):=by
 obtain⟨hk,rfl⟩:=Yb.1 hx;rw[hr,List.drop_eq_getElem_cons hk];revert h1 h2 h3;obtain⟨n,t⟩:=l[k];intro h1 h2 h3;rw[bC,h1,h2,h3];rfl
theorem flds_end{l:List Fld}{k:Nat}{known:List bA}{r:Bool}(hk:l.length<=k)(hr:r=bC (l.drop k) known):r=true:=by
 rw[hr,List.drop_of_length_le hk,bC]
theorem nP(l:List Fld)(most:Nat)(N:Nat->Prop)(v:Value)(w:World)(hn:most<=1000)(hg:eJ w)(he:aO 3 gS N w v l):
  Calls Tryz.prog 80 #[v,.int .i64 (most:Int)] w fun e w'=>e=.returned (.bool (bL l most))/\Below w.heap.size w w':=by
 have HG:=zh (fun W(hb:Below w.heap.size w W)=>hg.later hb);have NH:l.length<=9223372036854775807:=by obtain⟨_,_,_,h1,h2,-⟩:=he;omega
 have DM:(most:Int)<=1000:=YM;have HR:Hid (bL l most=(bC l []&&decide (l.length<=most))):=zh rfl;generalize bL l most=res at HR;have HD:Hid (decide ((l.length:Int)<=(most:Int))=decide (l.length<=most)):=zh (by rw[Bool.eq_iff_iff];simp);have H8:=@run_makeMap Tryz.prog;have HRT:=zh (rightType_any);clear hg;rcases he.cases YO with⟨rfl,a,c,rfl⟩|⟨b,o,c,rfl,h0,h1,h2,hb,hN,hc⟩
 ·clear he;go_enter Tryz.func80,Tryz.ntmps80;go_wp2_with fail;go_loop [11] (fun i=>i=.int .i64 0) (fun _=>0)
  case atStart=>rfl
  case round=>
   subst hrel;go_wp2_with fail;go_ret;exact⟨aF (by rw[HR.out,<-HD.out];simp[bC]),aA _ _⟩
 have HC:=zh hc;clear hc he;go_enter Tryz.func80,Tryz.ntmps80;go_wp2_with fail;clear H8;go_loopw [11] (fun iv wr=>∃(q:Nat)(known:List bA),q<=l.length/\iv=.int .i64 (q:Int)/\Hid (Below w.heap.size w wr)/\Hid (bC l []=bC (l.drop q) known)/\Hid (bV kG fZ wr w.heap.size q (nD known))) (fun iv _=>l.length-(intOf iv).toNat)
 case atStart=>exact⟨0,[],Nat.zero_le _,rfl,zh (aA _ _),zh rfl,zh ((bV.made w).ext (fun _=>rfl))⟩
 case round=>
  obtain⟨q,known,hq,rfl,HB,sA,HM⟩:=hrel;rename World=>wr
  have EF:w.heap.size<wr.heap.size:=HM.out.lt;by_cases rU:q<l.length
  ·obtain⟨x,hx,-⟩:=getElem?_of_lt rU;obtain⟨cs,uG,-,hj⟩:=HC.out q x hx;obtain⟨nm,t⟩:=x;obtain⟨ct,rfl,tK,IT⟩:=uG;have hty0:=IT
   cases t with
   |mk kd fs=>
    rw[gV] at hty0;obtain⟨vf,rfl,xQ⟩:=hty0;obtain⟨a1,RW,rfl,-⟩:=xQ;have c0:wr.cell? ⟨b,o+q*3,none⟩=some (.string nm):=aD HB.out (hj 0 _ rfl);have c1:=aD HB.out (hj 1 _ rfl);have c2:=aD HB.out (hj 2 _ rfl);have s1:nm.size<=140737488355328:=Nat.le_trans (show nm.size<=8000 from tK) YO;have HL:=zh (fun W(h:Below w.heap.size w W)=>RightType_any HRT.out (.mk kd fs) N kd _ W (HG.out W h) (fU _ _ _ _ _ _ (bU.later h) IT));have HS:=zh (fun W(h:Below w.heap.size w W)=>fB nm W s1 (HG.out W h));have HK:=zh (mG known nm);have HX:=zh hx;have tB:=zh (aC HB.out (aA wr (dB nm kd a1 fs.length RW)));clear hj IT hx HC;generalize AJ:(known.any fun y=>decide (y=nm))=r1 at HK;generalize BR:aK nm=r2 at HS;generalize SP:aR 4 (.mk kd fs)=r3 at HL;have RY:=zh AJ;have RX:=zh BR;have Hq3:=zh SP;clear AJ BR SP;generalize fs.length=ln at *
    cases r1 with
    |true=>
     have HF:Hid (res=false):=zh (by rw[HR.out,flds_bad HX.out (.inl RY.out) sA.out];rfl);go_wp2_with(at_lookup;refine bZ (HM.out.alloc _) s1 HK.out rfl rfl rfl rfl ?_);exact YC
    |false=>
     cases r2 with
     |false=>
      have HF:Hid (res=false):=zh (by rw[HR.out,flds_bad HX.out (.inr (.inl RX.out)) sA.out];rfl);go_wp2_with(first|(at_lookup;refine bZ (HM.out.alloc _) s1 HK.out rfl rfl rfl rfl ?_)|(go_at_call 17;refine(HS.out _ tB.out).mono ?_;rintro e w1 ⟨rfl,rfl⟩));exact YC
     |true=>
      cases r3 with
      |false=>
       have HF:Hid (res=false):=zh (by rw[HR.out,flds_bad HX.out (.inr (.inr Hq3.out)) sA.out];rfl);go_wp2_with(first|(at_lookup;refine bZ (HM.out.alloc _) s1 HK.out rfl rfl rfl rfl ?_)|(go_at_call 17;refine(HS.out _ tB.out).mono ?_;rintro e w1 ⟨rfl,rfl⟩)|(go_at_call 29;refine(HL.out _ tB.out).mono ?_;rintro e w2 ⟨rfl,rQ⟩));go_ret;exact⟨aF ZL,aC tB.out rQ⟩
      |true=>
       have yG:=zh (flds_good HX.out RY.out RX.out Hq3.out sA.out);have vG:=tB.out.size;go_wp2_with(first|(at_lookup;refine bZ (HM.out.alloc _) s1 HK.out rfl rfl rfl rfl ?_)|(go_at_call 17;refine(HS.out _ tB.out).mono ?_;rintro e w1 ⟨rfl,rfl⟩)|(go_at_call 29;refine(HL.out _ tB.out).mono ?_;rintro e w2 ⟨rfl,rQ⟩;have HM2:=zh ((HM.out.alloc (dB nm kd a1 ln RW)).later rQ);obtain⟨u0,u1,u2⟩:=(bx3 (aH rQ (bY wr (dB nm kd a1 ln RW)))).1)|(at_mapUpdate;refine lF HM2.out YM s1 rfl rfl rfl rfl rfl ?_;intro w3 hm3 TC));go_roundw;(case rel=>exact⟨q+1,nm::known,YM,YZ,zh ((aC tB.out rQ).grown TC (by have:=(aC tB.out rQ).size;omega) (fun i hi=>by cases hi;exact Nat.le_refl _)),yG,zh (hm3.ext (fun z=>congrFun (oD known nm) z))⟩);case measure=>simp[intOf];omega
  have wK:l.length<=q:=YM;have HT:Hid (res=decide (l.length<=most)):=zh (by rw[HR.out,flds_end wK sA.out];simp);exact XC
theorem ascOk_at{l:List bA}{q:Nat}{x:bA}(hx:l[q]? =some x)(before:Option bA):pI before (l.drop q)=(aK x&&(match before with|none=>true|some b=>Op.bytesLess b.toList x.toList)&&pI (some x) (l.drop (q+1))):=by
 exact X2
theorem run_geq_str(t:TypeId)(a b:bA)(w:World):(binOp .geq t (.string a) (.string b)).run Tryz.prog w=.ok (.bool (!Op.bytesLess a.toList b.toList)) w:=by
 simp[binOp,Op.stringOp]
theorem ascending_any(names:List bA)(N:Nat->Prop)(vn:Value)(w:World)(hg:eJ w)(hr:aO 1 dD N w vn names):
  Calls Tryz.prog 287 #[vn] w fun e w'=>e=.returned (.bool (pI none names&&decide (names.length<=8)))/\Below w.heap.size w w':=by
 have HG:=zh (fun W(hb:Below w.heap.size w W)=>hg.later hb);generalize OI:(pI none names&&decide (names.length<=8))=res;have HR:Hid (res=(pI none names&&decide (names.length<=8))):=zh OI.symm;clear OI;have HD:Hid (decide ((names.length:Int)<=8)=decide (names.length<=8)):=zh ZJ;clear hg;have NH:names.length<=9223372036854775807:=aBn;rcases hr.cases YO with⟨rfl,a,c,rfl⟩|⟨b,o,c,rfl,h0,h1,h2,hb,hN,hc⟩
 ·clear hr;go_enter Tryz.func287,Tryz.ntmps287;go_wp2_with fail;go_loop [7] (fun i=>i=.int .i64 0) (fun _=>0)
  case atStart=>rfl
  case round=>
   subst hrel;go_wp2_with fail;go_ret;exact⟨aF ZT,Below.refl _ _⟩
 have HC:=zh hc;clear hc hr;go_enter Tryz.func287,Tryz.ntmps287;go_wp2_with fail;go_loopw [7] (fun iv wr=>∃q:Nat,q<=names.length/\iv=.int .i64 (q:Int)/\Hid (Below w.heap.size w wr)/\Hid (res=(pI (mP names q) (names.drop q)&&decide (names.length<=8)))) (fun iv _=>names.length-(intOf iv).toNat)
 case atStart=>exact⟨0,Nat.zero_le _,rfl,zh (Below.refl _ _),HR⟩
 case round=>
  obtain⟨q,hq,rfl,HB,sA⟩:=hrel;rename World=>wr
  by_cases rU:q<names.length
  ·obtain⟨x,hx,tD⟩:=getElem?_of_lt rU;obtain⟨cs,⟨rfl,NA⟩,-,hj⟩:=HC.out q x hx;have p0:wr.cell? ⟨b,o+q,none⟩=some (.string x):=aD HB.out ZR;have vL:=zh (sA.out.trans (congrArg (fun z=>z&&decide (names.length<=8)) (ascOk_at hx (mP names q))));(have hpv:mP names (q+1)=some x:=by unfold mP;rw[if_neg YM,Nat.add_sub_cancel,hx]);rw[<-hpv] at vL;clear hj hpv tD
   cases uY:aK x with
   |false=>
    have HF:Hid (res=false):=zh (by rw[vL.out,uY];rfl);exact WD
   |true=>
    by_cases wI:q=0
    ·subst wI;(have DX:wr.cell? ⟨b,o,none⟩=some (.string x):=by simpa using p0);have yG:Hid (res=(pI (mP names (0+1)) (names.drop (0+1))&&decide (names.length<=8))):=zh (by rw[vL.out,uY];simp[mP]);clear vL sA;go_wp2_with(go_at_call 17;refine(fB x wr NA (HG.out _ HB.out)).mono ?_;rintro e w5 ⟨rfl,rfl⟩;rw[uY]);go_roundw;(case rel=>exact⟨0+1,YM,YZ,HB,yG⟩);case measure=>simp[intOf];omega
    have AJ:0<q:=YM;obtain⟨y,hy,-⟩:=getElem?_of_lt (l:=names) (k:=q-1) YM;obtain⟨cs',⟨rfl,-⟩,-,BI⟩:=HC.out (q-1) y hy;have hp0:wr.cell? ⟨b,o+(q-1),none⟩=some (.string y):=aD HB.out aA7;(have hpv:mP names q=some y:=by unfold mP;rw[if_neg wI,hy]);rw[hpv] at vL;clear BI hpv;have xK:(0:Int)<(q:Int):=YM;have I8:(0:Int)<=(q:Int)-1:=YM;have LH:(q:Int)-1<(names.length:Int):=YM;have TA:((q:Int)-1).toNat=q-1:=YM;have hi4:¬(q:Int)<1:=YM
    cases zI:Op.bytesLess y.toList x.toList with
    |false=>
     (have FX:∀W,(binOp .geq 9 (.string y) (.string x)).run Tryz.prog W=.ok (.bool true) W:=fun W=>by rw[run_geq_str,zI];rfl);have HF:Hid (res=false):=zh aAj;exact WD
    |true=>
     (have FX:∀W,(binOp .geq 9 (.string y) (.string x)).run Tryz.prog W=.ok (.bool false) W:=fun W=>by rw[run_geq_str,zI];rfl);have yG:Hid (res=(pI (mP names (q+1)) (names.drop (q+1))&&decide (names.length<=8))):=zh aAj;clear vL sA;go_wp2_with(go_at_call 17;refine(fB x wr NA (HG.out _ HB.out)).mono ?_;rintro e w5 ⟨rfl,rfl⟩;rw[uY]);go_roundw;(case rel=>exact⟨q+1,YM,YZ,HB,yG⟩);case measure=>simp[intOf];omega
  have wK:q=names.length:=YM;have HT:Hid (res=decide (names.length<=8)):=zh aAn;exact XC
def cT(c:Cod)(i:Ins)(vc vn:Value)(w:World):Prop:=
 Calls Tryz.prog 268 #[.agg #[.string c.name,.int .i64 (c.params:Int),.int .i64 (c.locals:Int),vc],.agg #[.int .i64 i.op,.int .i64 i.a,.string i.s,.string i.m,vn]] w fun e w'=>e=.returned (.bool (cQ c i))/\Below w.heap.size w w'
theorem X5{p:Prop}(h:p:=by
 try simp only[zn]
 refine wpAnyH_done YN ?_ _;clear hS;go_wp2_with fail;go_ret
 exact⟨nY HF.out,aC hb tI⟩):p:=h
def jU(i:Ins)(vn:Value)(w:World):Prop:=
 Calls Tryz.prog 213 #[.agg #[.int .i64 i.op,.int .i64 i.a,.string i.s,.string i.m,vn]] w fun e w'=>e=.returned (.string (bs (iZ i)))/\Below w.heap.size w w'
theorem pZ(l:List UInt8):(bs l).data.toList=l:=by simp[bs]
theorem pY(l:List UInt8):(bs l).size=l.length:=by show l.toArray.size=_;simp
theorem nM(a b:bA):(a++b).data.toList=a.data.toList++b.data.toList:=by simp[ByteArray.data_append]
theorem pT(a:Array UInt8):(⟨a⟩:bA).data.toList=a.toList:=rfl
theorem line_bare(op:Int)(ho:op=4\/op=5\/op=6\/op=7\/op=8\/op=9\/op=18\/op=19){wd:List UInt8}(DK:jZ[op.toNat]? =some wd)(NC:wd.length<=6)(a:Int)(s m:bA)(names:List bA)(an:Option Addr)(cn:Nat)(w:World)(hg:eJ w)(vW: -1<=a)(sG:a<=1099511627776):
  jU ⟨op,a,s,m,names⟩ (.slice an names.length cn) w:=by
 unfold jU;dsimp only;have hb:=aA w (eQ op a s m an names.length cn);have hw:=aD hb (hg.words rfl _ _ DK);have hwl:(bs wd).size<=6:=by rw[pY];exact NC
 have HF:Hid ((bs wd++⟨#[10]⟩:bA)=bs (iZ ⟨op,a,s,m,names⟩)):=zh (iN (by
  unfold iZ;dsimp only;rw[List.getD_eq_getElem?_getD,DK];clear DK hw
  rcases ho with rfl|rfl|rfl|rfl|rfl|rfl|rfl|rfl<;>simp[nM,pT,pZ]))
 generalize bs wd=W at *;clear hg DK NC;rcases ho with rfl|rfl|rfl|rfl|rfl|rfl|rfl|rfl
 all_goals
  simp only[Int.reduceToNat] at hw;go_enter Tryz.func213,Tryz.ntmps213;go_wp2_with fail;go_ret;exact⟨nY HF.out,hb⟩
theorem line_num(op:Int)(ho:op=0\/op=1\/op=2\/op=3\/op=10\/op=11\/op=15\/op=16\/op=17){wd:List UInt8}(DK:jZ[op.toNat]? =some wd)(NC:wd.length<=6)(a:Int)(s m:bA)(names:List bA)(an:Option Addr)(cn:Nat)(w:World)(hg:eJ w)(vW: -1<=a)(sG:a<=1099511627776):
  jU ⟨op,a,s,m,names⟩ (.slice an names.length cn) w:=by
 unfold jU;dsimp only;have hb:=aA w (eQ op a s m an names.length cn);have hw:=aD hb (hg.words rfl _ _ DK);have hwl:(bs wd).size<=6:=by rw[pY];exact NC
 have HI:=zh (Tryz.strconv_Itoa a YM YM (w.alloc (eQ op a s m an names.length cn)) (hg.later hb).pow10);have hil:=Lib.itoa_length_le a YM YM;have FI:=zh (fun k os=>Lib.below_grow _ (w.alloc (eQ op a s m an names.length cn)) (Nat.le_refl _) k os)
 have HF:Hid (((bs wd++(⟨#[32]⟩++⟨(Lib.itoa a).toArray⟩))++⟨#[10]⟩:bA)=bs (iZ ⟨op,a,s,m,names⟩)):=zh (iN (by
  unfold iZ;dsimp only;rw[List.getD_eq_getElem?_getD,DK];clear DK hw
  rcases ho with rfl|rfl|rfl|rfl|rfl|rfl|rfl|rfl|rfl<;>simp[nM,pT,pZ,itoaB]))
 generalize bs wd=W at *;generalize Lib.itoa a=it at *;clear hg DK NC;rcases ho with rfl|rfl|rfl|rfl|rfl|rfl|rfl|rfl|rfl
 all_goals
  simp only[Int.reduceToNat] at hw;go_enter Tryz.func213,Tryz.ntmps213;go_wp2_with(go_at_call 196;refine HI.out.mono ?_;rintro e w1 ⟨rfl,k,os,QS⟩;have tI:=FI.out k os;rw[<-QS] at tI;clear QS);go_ret;exact⟨nY HF.out,aC hb tI⟩
theorem line_12(a:Int)(s m:bA)(names:List bA)(an:Option Addr)(cn:Nat)(N:Nat->Prop)(w:World)(hg:eJ w)(vW: -1<=a)(sG:a<=1099511627776)(hs:s.size<=8000)(hm:m.size<=8000)(hn:aO 1 dD N w (.slice an names.length cn) names)(hl:names.length<=1000):
  jU ⟨12,a,s,m,names⟩ (.slice an names.length cn) w:=by
 unfold jU;dsimp only;have hb:=aA w (eQ 12 a s m an names.length cn);have hw:(w.alloc (eQ 12 a s m an names.length cn)).cell? ⟨4,12,none⟩=some (.string (bs [114,101,99])):=aD hb (hg.words rfl 12 _ rfl);have hwl:=pY [114,101,99];have HG:=zh (fun(q:Nat)(x:bA)(hx:names[q]? =some x)=>(show(bs ([114,101,99]++(names.take (q+1)).flatMap (fun x=>[32]++x.data.toList)):bA)=bs ([114,101,99]++(names.take q).flatMap (fun x=>[32]++x.data.toList))++(⟨#[32]⟩++x) from iN (by rw[List.take_add_one,hx];simp[nM,pT,pZ])));have HF:Hid ((bs ([114,101,99]++names.flatMap (fun x=>[32]++x.data.toList))++⟨#[10]⟩:bA)=bs (iZ ⟨12,a,s,m,names⟩)):=zh (iN (by simp[nM,pT,pZ,iZ,jZ]))
 have HS:Hid (∀q,(bs ([114,101,99]++(names.take q).flatMap (fun x=>[32]++x.data.toList))).size<=3+q*140737488355329):=zh (fun q=>by
  rw[pY,List.length_append]
  have:∀(l:List bA),(∀x∈l,x.size<=140737488355328)->(l.flatMap (fun x=>[32]++x.data.toList)).length<=l.length*140737488355329:=by
   intro l hl
   induction l with
   |nil=>simp
   |cons x l ih=>
    have h1:=ih (fun y hy=>hl y (by simp[hy]));have h2:=hl x YR;rw[List.flatMap_cons,List.length_append,List.length_cons,Nat.succ_mul];(have h3:([32]++x.data.toList).length=x.size+1:=by simp[Nat.add_comm]);omega
  have h4:=this (names.take q) (fun x hx=>oL hn.strs (List.mem_of_mem_take hx));have h5:(names.take q).length*140737488355329<=q*140737488355329:=Nat.mul_le_mul_right _ (by rw[List.length_take];omega);simp only[List.length_cons,List.length_nil]
  omega)
 obtain⟨a9,c9,e9,A2,zC,hca⟩:=hn.at;cases e9;have HC:=zh hca;have sQ:=(bx5 (bY w (eQ 12 a s m an names.length cn))).1;clear hg hn hca;go_enter Tryz.func213,Tryz.ntmps213;go_wp2_with fail;go_loop [3,50] (fun sv iv=>∃q:Nat,q<=names.length/\iv=.int .i64 (q:Int)/\sv=.string (bs ([114,101,99]++(names.take q).flatMap (fun x=>[32]++x.data.toList)))) (fun _ iv=>names.length-(intOf iv).toNat)
 case atStart=>exact⟨0,Nat.zero_le _,rfl,rfl⟩
 case round=>
  obtain⟨q,hq,rfl,rfl⟩:=hrel;by_cases rU:q<names.length
  ·obtain⟨x,hx,-⟩:=getElem?_of_lt rU;obtain⟨b,o,rfl,-,cs,⟨rfl,NA⟩,-,hj⟩:=HC.out q x hx;have p0:w.cell? ⟨b,o+q,none⟩=some (.string x):=ZR;have hp:=aD hb p0;have hG:=HG.out q x hx;have hSz:=HS.out q;have HGq:=zh hG;have OP:q*140737488355329<=1000*140737488355329:=Nat.mul_le_mul_right _ YM;clear hj hx hG;generalize bs ([114,101,99]++(names.take q).flatMap (fun x=>[32]++x.data.toList))=acc at *;go_wp2_with fail
   go_round
   (case rel=>exact⟨q+1,YM,YZ,by rw[HGq.out]⟩);case measure=>simp[intOf];omega
  have wK:names.take q=names:=List.take_of_length_le YM;have hSz:=HS.out q;have OP:q*140737488355329<=1000*140737488355329:=Nat.mul_le_mul_right _ YM;rw[wK] at hSz ⊢;generalize bs ([114,101,99]++names.flatMap (fun x=>[32]++x.data.toList))=acc at *;go_wp2_with fail;go_ret;exact⟨nY HF.out,hb⟩
theorem line_13(a:Int)(s m:bA)(names:List bA)(an:Option Addr)(cn:Nat)(N:Nat->Prop)(w:World)(hg:eJ w)(vW: -1<=a)(sG:a<=1099511627776)(hs:s.size<=8000)(hm:m.size<=8000)(hn:aO 1 dD N w (.slice an names.length cn) names)(hl:names.length<=1000):
  jU ⟨13,a,s,m,names⟩ (.slice an names.length cn) w:=by
 unfold jU;dsimp only;have hb:=aA w (eQ 13 a s m an names.length cn);have hw:(w.alloc (eQ 13 a s m an names.length cn)).cell? ⟨4,13,none⟩=some (.string (bs [102,105,101,108,100])):=aD hb (hg.words rfl 13 _ rfl);have hwl:=pY [102,105,101,108,100];have HF:Hid (((bs [102,105,101,108,100]++(⟨#[32]⟩++s))++⟨#[10]⟩:bA)=bs (iZ ⟨13,a,s,m,names⟩)):=zh (iN (by simp[nM,pT,pZ,iZ,jZ]));generalize bs [102,105,101,108,100]=W at *;clear hg hn;go_enter Tryz.func213,Tryz.ntmps213;go_wp2_with fail;go_ret;exact⟨nY HF.out,hb⟩
theorem line_14(a:Int)(s m:bA)(names:List bA)(an:Option Addr)(cn:Nat)(N:Nat->Prop)(w:World)(hg:eJ w)(vW: -1<=a)(sG:a<=1099511627776)(hs:s.size<=8000)(hm:m.size<=8000)(hn:aO 1 dD N w (.slice an names.length cn) names)(hl:names.length<=1000):
  jU ⟨14,a,s,m,names⟩ (.slice an names.length cn) w:=by
 unfold jU;dsimp only;have hb:=aA w (eQ 14 a s m an names.length cn);have hw:(w.alloc (eQ 14 a s m an names.length cn)).cell? ⟨4,14,none⟩=some (.string (bs [99,97,108,108])):=aD hb (hg.words rfl 14 _ rfl);have hwl:=pY [99,97,108,108];have HI:=zh (fun W(h:Below (w.alloc (eQ 14 a s m an names.length cn)).heap.size (w.alloc (eQ 14 a s m an names.length cn)) W)=>Tryz.strconv_Itoa a YM YM W (hg.later (aC hb h)).pow10);have hil:=Lib.itoa_length_le a YM YM;have tB:=zh (bY w (eQ 14 a s m an names.length cn));have sQ:=(bx5 tB.out).1;clear hg hn;by_cases sM:m=noB
 ·subst sM;have HF:Hid ((bs [99,97,108,108]++(((((⟨#[32]⟩++⟨#[46]⟩)++⟨#[32]⟩)++s)++⟨#[32]⟩)++⟨(Lib.itoa a).toArray⟩))++⟨#[10]⟩=bs (iZ ⟨14,a,s,noB,names⟩)):=zh (iN (by simp[nM,pT,pZ,iZ,jZ,itoaB]));generalize bs [99,97,108,108]=W at *;generalize Lib.itoa a=it at *;go_enter Tryz.func213,Tryz.ntmps213;go_wp2_with fail;refine wp_region_held_drew (S:=fun W=>Below (w.alloc (eQ 14 a s noB an names.length cn)).heap.size (w.alloc (eQ 14 a s noB an names.length cn)) W) YN (aE _) fun hS=>?_;refine zt 0 (.string W) rfl (fun W hW=>Y8) ?_;refine zt 1 (.string ⟨#[46]⟩) rfl (fun W hW=>Y8) ?_;refine zt 2 (.string (⟨#[32]⟩++⟨#[46]⟩)) rfl (fun W hW=>Y8) ?_;refine zt 3 (.string ((⟨#[32]⟩++⟨#[46]⟩)++⟨#[32]⟩)) rfl (fun W hW=>Y8) ?_;refine zt 4 (.pointer (some ⟨w.heap.size,2,none⟩)) rfl (fun W hW=>Y8) ?_;refine zt 5 (.string s) rfl (fun W hW=>ZU) ?_;refine zt 6 (.string (((⟨#[32]⟩++⟨#[46]⟩)++⟨#[32]⟩)++s)) rfl (fun W hW=>Y8) ?_;refine zt 7 (.string ((((⟨#[32]⟩++⟨#[46]⟩)++⟨#[32]⟩)++s)++⟨#[32]⟩)) rfl (fun W hW=>Y8) ?_;refine zt 8 (.pointer (some ⟨w.heap.size,1,none⟩)) rfl (fun W hW=>Y8) ?_;refine zt 9 (.int .i64 a) rfl (fun W hW=>ZU) ?_;try simp only[zn]
  refine zr 10 rfl (fun K hK=>?_);try simp only[z1,z2,z3]
  go_simp;refine(HI.out (w.alloc (eQ 14 a s noB an names.length cn)).drew (aE _)).mono ?_;rintro e w1 ⟨rfl,k,os,rfl⟩;have tI:=aC (aE (w.alloc (eQ 14 a s noB an names.length cn))) (Lib.below_grow _ (w.alloc (eQ 14 a s noB an names.length cn)).drew (Nat.le_refl _) k os);generalize Sort.grow (World.drewN (w.alloc (eQ 14 a s noB an names.length cn)).drew k) os=w1 at tI ⊢;refine hK.out _ _ tI (fun hS=>?_);clear hK K;refine zt 11 (.string (((((⟨#[32]⟩++⟨#[46]⟩)++⟨#[32]⟩)++s)++⟨#[32]⟩)++⟨it.toArray⟩)) rfl (fun W hW=>Y8) ?_;refine zt 12 (.string (W++(((((⟨#[32]⟩++⟨#[46]⟩)++⟨#[32]⟩)++s)++⟨#[32]⟩)++⟨it.toArray⟩))) rfl (fun W hW=>Y8) ?_;refine zt 13 (.string (W++(((((⟨#[32]⟩++⟨#[46]⟩)++⟨#[32]⟩)++s)++⟨#[32]⟩)++⟨it.toArray⟩))) rfl (fun W hW=>Y8) ?_;exact X5
 have AK:(m.toList==[])=false:=YY;have HF:Hid ((bs [99,97,108,108]++(((((⟨#[32]⟩++m)++⟨#[32]⟩)++s)++⟨#[32]⟩)++⟨(Lib.itoa a).toArray⟩))++⟨#[10]⟩=bs (iZ ⟨14,a,s,m,names⟩)):=zh (iN (by simp[nM,pT,pZ,iZ,jZ,itoaB,sM]));generalize bs [99,97,108,108]=W at *;generalize Lib.itoa a=it at *;clear sM;go_enter Tryz.func213,Tryz.ntmps213;go_wp2_with fail;refine wp_region_held_drew (S:=fun W=>Below (w.alloc (eQ 14 a s m an names.length cn)).heap.size (w.alloc (eQ 14 a s m an names.length cn)) W) YN (aE _) fun hS=>?_;refine zt 0 (.string W) rfl (fun W hW=>Y8) ?_;refine zt 1 (.string m) rfl (fun W hW=>Y8) ?_;refine zt 2 (.string (⟨#[32]⟩++m)) rfl (fun W hW=>Y8) ?_;refine zt 3 (.string ((⟨#[32]⟩++m)++⟨#[32]⟩)) rfl (fun W hW=>Y8) ?_;refine zt 4 (.pointer (some ⟨w.heap.size,2,none⟩)) rfl (fun W hW=>Y8) ?_;refine zt 5 (.string s) rfl (fun W hW=>ZU) ?_;refine zt 6 (.string (((⟨#[32]⟩++m)++⟨#[32]⟩)++s)) rfl (fun W hW=>Y8) ?_;refine zt 7 (.string ((((⟨#[32]⟩++m)++⟨#[32]⟩)++s)++⟨#[32]⟩)) rfl (fun W hW=>Y8) ?_;refine zt 8 (.pointer (some ⟨w.heap.size,1,none⟩)) rfl (fun W hW=>Y8) ?_;refine zt 9 (.int .i64 a) rfl (fun W hW=>ZU) ?_;try simp only[zn]
 refine zr 10 rfl (fun K hK=>?_);try simp only[z1,z2,z3]
 go_simp;refine(HI.out (w.alloc (eQ 14 a s m an names.length cn)).drew (aE _)).mono ?_;rintro e w1 ⟨rfl,k,os,rfl⟩;have tI:=aC (aE (w.alloc (eQ 14 a s m an names.length cn))) (Lib.below_grow _ (w.alloc (eQ 14 a s m an names.length cn)).drew (Nat.le_refl _) k os);generalize Sort.grow (World.drewN (w.alloc (eQ 14 a s m an names.length cn)).drew k) os=w1 at tI ⊢;refine hK.out _ _ tI (fun hS=>?_);clear hK K;refine zt 11 (.string (((((⟨#[32]⟩++m)++⟨#[32]⟩)++s)++⟨#[32]⟩)++⟨it.toArray⟩)) rfl (fun W hW=>Y8) ?_;refine zt 12 (.string (W++(((((⟨#[32]⟩++m)++⟨#[32]⟩)++s)++⟨#[32]⟩)++⟨it.toArray⟩))) rfl (fun W hW=>Y8) ?_;refine zt 13 (.string (W++(((((⟨#[32]⟩++m)++⟨#[32]⟩)++s)++⟨#[32]⟩)++⟨it.toArray⟩))) rfl (fun W hW=>Y8) ?_;exact X5
theorem VN{p:Prop}(h:p:=by
 go_enter Tryz.func268,Tryz.ntmps268;go_wp2_with fail;go_quiet(fail)
 go_wp2_with(go_at_call 17;refine(HS.out _ (aS (aC (aA _ _) (aA _ _)) _)).mono ?_;rintro e w2 ⟨rfl,rfl⟩);go_ret
 exact⟨aF ZB,aS (aC (aA _ _) (aA _ _)) _⟩):p:=h
theorem formed_0(c:Cod)(a:Int)(s m:bA)(names:List bA)(ac:Option Addr)(cc:Nat)(an:Option Addr)(cn:Nat)(N:Nat->Prop)(w:World)(hg:eJ w)(hs:s.size<=8000)(hm:m.size<=8000)(hn:aO 1 dD N w (.slice an names.length cn) names):
  cT c ⟨0,a,s,m,names⟩ (.slice ac c.code.length cc) (.slice an names.length cn) w:=by
 unfold cT;dsimp only;have HR:Hid (cQ c ⟨0,a,s,m,names⟩=(decide (s=noB)&&decide (m=noB)&&decide (names.length=0))):=zh rfl;have yH:=aC (aA w (iK c.name (c.params:Int) (c.locals:Int) ac c.code.length cc)) (aA _ (eQ 0 a s m an names.length cn));clear hg hn;by_cases tS:s=noB
 focus
  subst tS;simp only[decide_true,Bool.true_and,Bool.and_true] at HR;by_cases sM:m=noB
  focus
   subst sM;simp only[decide_true,Bool.true_and,Bool.and_true] at HR;by_cases tU:names.length=0
   focus
    rw[decide_eq_true tU] at HR;rw[tU]
   rotate_right
   focus
    have A2:((names.length:Int)==0)=false:=YV;rw[decide_eq_false tU] at HR
  rotate_right
  focus
   have AK:(m.toList==[])=false:=YY;rw[decide_eq_false sM] at HR
 rotate_right
 focus
  have xD:(s.toList==[])=false:=Y6;rw[decide_eq_false tS] at HR
 all_goals
  go_enter Tryz.func268,Tryz.ntmps268;go_wp2_with fail;go_quiet(fail)
  go_wp2_with fail;go_ret;exact⟨aF ZB,aS (aC (aA _ _) (aA _ _)) _⟩
theorem formed_1(c:Cod)(a:Int)(s m:bA)(names:List bA)(ac:Option Addr)(cc:Nat)(an:Option Addr)(cn:Nat)(N:Nat->Prop)(w:World)(hg:eJ w)(hs:s.size<=8000)(hm:m.size<=8000)(hn:aO 1 dD N w (.slice an names.length cn) names):
  cT c ⟨1,a,s,m,names⟩ (.slice ac c.code.length cc) (.slice an names.length cn) w:=by
 unfold cT;dsimp only;have HR:Hid (cQ c ⟨1,a,s,m,names⟩=((decide (a=0)||decide (a=1))&&decide (s=noB)&&decide (m=noB)&&decide (names.length=0))):=zh rfl;have yH:=aC (aA w (iK c.name (c.params:Int) (c.locals:Int) ac c.code.length cc)) (aA _ (eQ 1 a s m an names.length cn));clear hg hn;by_cases h0:a=0
 focus
  subst h0;simp only[decide_true,Bool.true_or,Bool.or_true,Bool.true_and] at HR;by_cases tS:s=noB
  focus
   subst tS;simp only[decide_true,Bool.true_and,Bool.and_true] at HR;by_cases sM:m=noB
   focus
    subst sM;simp only[decide_true,Bool.true_and,Bool.and_true] at HR;by_cases tU:names.length=0
    focus
     rw[decide_eq_true tU] at HR;rw[tU]
    rotate_right
    focus
     have A2:((names.length:Int)==0)=false:=YV;rw[decide_eq_false tU] at HR
   rotate_right
   focus
    have AK:(m.toList==[])=false:=YY;rw[decide_eq_false sM] at HR
  rotate_right
  focus
   have xD:(s.toList==[])=false:=Y6;rw[decide_eq_false tS] at HR
 rotate_right
 focus
  have g0:(a==0)=false:=by rw[beq_eq_false_iff_ne];exact h0
  rw[decide_eq_false h0] at HR;by_cases h1:a=1
  focus
   subst h1;simp only[decide_true,Bool.true_or,Bool.or_true,Bool.true_and] at HR;by_cases tS:s=noB
   focus
    subst tS;simp only[decide_true,Bool.true_and,Bool.and_true] at HR;by_cases sM:m=noB
    focus
     subst sM;simp only[decide_true,Bool.true_and,Bool.and_true] at HR;by_cases tU:names.length=0
     focus
      rw[decide_eq_true tU] at HR;rw[tU]
     rotate_right
     focus
      have A2:((names.length:Int)==0)=false:=YV;rw[decide_eq_false tU] at HR
    rotate_right
    focus
     have AK:(m.toList==[])=false:=YY;rw[decide_eq_false sM] at HR
   rotate_right
   focus
    have xD:(s.toList==[])=false:=Y6;rw[decide_eq_false tS] at HR
  rotate_right
  focus
   have g1:(a==1)=false:=aAr;rw[decide_eq_false h1] at HR;simp only[Bool.false_or,Bool.or_false,Bool.false_and] at HR
 all_goals
  go_enter Tryz.func268,Tryz.ntmps268;go_wp2_with fail;go_quiet(fail)
  go_wp2_with fail;go_ret;exact⟨aF ZB,aS (aC (aA _ _) (aA _ _)) _⟩
theorem formed_13(c:Cod)(a:Int)(s m:bA)(names:List bA)(ac:Option Addr)(cc:Nat)(an:Option Addr)(cn:Nat)(N:Nat->Prop)(w:World)(hg:eJ w)(hs:s.size<=8000)(hm:m.size<=8000)(hn:aO 1 dD N w (.slice an names.length cn) names):
  cT c ⟨13,a,s,m,names⟩ (.slice ac c.code.length cc) (.slice an names.length cn) w:=by
 unfold cT;dsimp only;have HR:Hid (cQ c ⟨13,a,s,m,names⟩=(aK s&&decide (a=0)&&decide (m=noB)&&decide (names.length=0))):=zh rfl;have yH:=aC (aA w (iK c.name (c.params:Int) (c.locals:Int) ac c.code.length cc)) (aA _ (eQ 13 a s m an names.length cn));have HS:=zh (fun W(hb:Below w.heap.size w W)=>fB s W YM (hg.later hb));clear hg hn
 cases uY:aK s with
 |false=>
  rw[uY] at HS HR;clear uY;exact VN
 |true=>
  rw[uY] at HS HR;clear uY;simp only[Bool.true_and] at HR;by_cases ha:a=0
  ·subst ha;simp only[decide_true,Bool.true_and,Bool.and_true] at HR;by_cases sM:m=noB
   ·subst sM;simp only[decide_true,Bool.true_and,Bool.and_true] at HR;by_cases tU:names.length=0
    ·rw[decide_eq_true tU] at HR;rw[tU];exact VN
    have A2:((names.length:Int)==0)=false:=YV;rw[decide_eq_false tU] at HR;exact VN
   have AK:(m.toList==[])=false:=YY;rw[decide_eq_false sM] at HR;exact VN
  have sG:(a==0)=false:=aA8;rw[decide_eq_false ha] at HR;exact VN
theorem formed_loc(op:Int)(ho:op=2\/op=3)(c:Cod)(a:Int)(s m:bA)(names:List bA)(ac:Option Addr)(cc:Nat)(an:Option Addr)(cn:Nat)(N:Nat->Prop)(w:World)(hg:eJ w)(hs:s.size<=8000)(hm:m.size<=8000)(hn:aO 1 dD N w (.slice an names.length cn) names):
  cT c ⟨op,a,s,m,names⟩ (.slice ac c.code.length cc) (.slice an names.length cn) w:=by
 unfold cT;dsimp only;have HR:Hid (cQ c ⟨op,a,s,m,names⟩=((decide (0<=a)&&decide (a<(c.locals:Int)))&&decide (s=noB)&&decide (m=noB)&&decide (names.length=0))):=zh (by rcases ho with rfl|rfl<;>rfl);have yH:=aC (aA w (iK c.name (c.params:Int) (c.locals:Int) ac c.code.length cc)) (aA _ (eQ op a s m an names.length cn));clear hg hn;by_cases h0:0<=a
 focus
  rw[decide_eq_true h0] at HR;by_cases h1:a<(c.locals:Int)
  focus
   rw[decide_eq_true h1] at HR;simp only[Bool.true_and] at HR;by_cases tS:s=noB
   focus
    subst tS;simp only[decide_true,Bool.true_and,Bool.and_true] at HR;by_cases sM:m=noB
    focus
     subst sM;simp only[decide_true,Bool.true_and,Bool.and_true] at HR;by_cases tU:names.length=0
     focus
      rw[decide_eq_true tU] at HR;rw[tU]
     rotate_right
     focus
      have A2:((names.length:Int)==0)=false:=YV;rw[decide_eq_false tU] at HR
    rotate_right
    focus
     have AK:(m.toList==[])=false:=YY;rw[decide_eq_false sM] at HR
   rotate_right
   focus
    have xD:(s.toList==[])=false:=Y6;rw[decide_eq_false tS] at HR
  rotate_right
  focus
   rw[decide_eq_false h1] at HR
 rotate_right
 focus
  rw[decide_eq_false h0] at HR
 all_goals rcases ho with rfl|rfl
 all_goals
  go_enter Tryz.func268,Tryz.ntmps268;go_wp2_with fail;go_quiet(fail)
  go_wp2_with fail;go_ret;exact⟨aF ZB,aS (aC (aA _ _) (aA _ _)) _⟩
theorem formed_code(op:Int)(ho:op=10\/op=11)(c:Cod)(a:Int)(s m:bA)(names:List bA)(ac:Option Addr)(cc:Nat)(an:Option Addr)(cn:Nat)(N:Nat->Prop)(w:World)(hg:eJ w)(hs:s.size<=8000)(hm:m.size<=8000)(hn:aO 1 dD N w (.slice an names.length cn) names):
  cT c ⟨op,a,s,m,names⟩ (.slice ac c.code.length cc) (.slice an names.length cn) w:=by
 unfold cT;dsimp only;have HR:Hid (cQ c ⟨op,a,s,m,names⟩=((decide (0<=a)&&decide (a<(c.code.length:Int)))&&decide (s=noB)&&decide (m=noB)&&decide (names.length=0))):=zh (by rcases ho with rfl|rfl<;>rfl);have yH:=aC (aA w (iK c.name (c.params:Int) (c.locals:Int) ac c.code.length cc)) (aA _ (eQ op a s m an names.length cn));clear hg hn;by_cases h0:0<=a
 focus
  rw[decide_eq_true h0] at HR;by_cases h1:a<(c.code.length:Int)
  focus
   rw[decide_eq_true h1] at HR;simp only[Bool.true_and] at HR;by_cases tS:s=noB
   focus
    subst tS;simp only[decide_true,Bool.true_and,Bool.and_true] at HR;by_cases sM:m=noB
    focus
     subst sM;simp only[decide_true,Bool.true_and,Bool.and_true] at HR;by_cases tU:names.length=0
     focus
      rw[decide_eq_true tU] at HR;rw[tU]
     rotate_right
     focus
      have A2:((names.length:Int)==0)=false:=YV;rw[decide_eq_false tU] at HR
    rotate_right
    focus
     have AK:(m.toList==[])=false:=YY;rw[decide_eq_false sM] at HR
   rotate_right
   focus
    have xD:(s.toList==[])=false:=Y6;rw[decide_eq_false tS] at HR
  rotate_right
  focus
   rw[decide_eq_false h1] at HR
 rotate_right
 focus
  rw[decide_eq_false h0] at HR
 all_goals rcases ho with rfl|rfl
 all_goals
  go_enter Tryz.func268,Tryz.ntmps268;go_wp2_with fail;go_quiet(fail)
  go_wp2_with fail;go_ret;exact⟨aF ZB,aS (aC (aA _ _) (aA _ _)) _⟩
theorem formed_eight(op:Int)(ho:op=16\/op=17)(c:Cod)(a:Int)(s m:bA)(names:List bA)(ac:Option Addr)(cc:Nat)(an:Option Addr)(cn:Nat)(N:Nat->Prop)(w:World)(hg:eJ w)(hs:s.size<=8000)(hm:m.size<=8000)(hn:aO 1 dD N w (.slice an names.length cn) names):
  cT c ⟨op,a,s,m,names⟩ (.slice ac c.code.length cc) (.slice an names.length cn) w:=by
 unfold cT;dsimp only;have HR:Hid (cQ c ⟨op,a,s,m,names⟩=((decide (0<=a)&&decide (a<8))&&decide (s=noB)&&decide (m=noB)&&decide (names.length=0))):=zh (by rcases ho with rfl|rfl<;>rfl);have yH:=aC (aA w (iK c.name (c.params:Int) (c.locals:Int) ac c.code.length cc)) (aA _ (eQ op a s m an names.length cn));clear hg hn;by_cases h0:0<=a
 focus
  rw[decide_eq_true h0] at HR;by_cases h1:a<8
  focus
   rw[decide_eq_true h1] at HR;simp only[Bool.true_and] at HR;by_cases tS:s=noB
   focus
    subst tS;simp only[decide_true,Bool.true_and,Bool.and_true] at HR;by_cases sM:m=noB
    focus
     subst sM;simp only[decide_true,Bool.true_and,Bool.and_true] at HR;by_cases tU:names.length=0
     focus
      rw[decide_eq_true tU] at HR;rw[tU]
     rotate_right
     focus
      have A2:((names.length:Int)==0)=false:=YV;rw[decide_eq_false tU] at HR
    rotate_right
    focus
     have AK:(m.toList==[])=false:=YY;rw[decide_eq_false sM] at HR
   rotate_right
   focus
    have xD:(s.toList==[])=false:=Y6;rw[decide_eq_false tS] at HR
  rotate_right
  focus
   rw[decide_eq_false h1] at HR
 rotate_right
 focus
  rw[decide_eq_false h0] at HR
 all_goals rcases ho with rfl|rfl
 all_goals
  go_enter Tryz.func268,Tryz.ntmps268;go_wp2_with fail;go_quiet(fail)
  go_wp2_with fail;go_ret;exact⟨aF ZB,aS (aC (aA _ _) (aA _ _)) _⟩
theorem VO{p:Prop}(h:p:=by
 go_enter Tryz.func268,Tryz.ntmps268;go_wp2_with fail;go_quiet(fail)
 go_wp2_with(go_at_call 17;refine(HS.out _ (aS (aC (aA _ _) (aA _ _)) _)).mono ?_;rintro e w2 ⟨rfl,rfl⟩);go_ret
 exact⟨aF ZB,aS (aC (aA _ _) (aA _ _)) _⟩):p:=h
theorem VV{p:Prop}(h:p:=by
 go_enter Tryz.func268,Tryz.ntmps268;go_wp2_with fail;go_quiet(fail)
 go_wp2_with(go_at_call 287;refine(HA.out _ (aS (aC (aA _ _) (aA _ _)) _)).mono ?_;rintro e w2 ⟨rfl,rQ⟩;have DG:=zh (aC (aS yH _) rQ);obtain⟨⟨t0,t1,t2,t3,t4⟩,-⟩:=bx5 (aH rQ HBI.out));go_ret
 exact⟨aF ZB,DG.out⟩):p:=h
theorem VY{p:Prop}(h:p:=by
 go_ret
 exact⟨aF ZB,aS (aC (aA _ _) (aA _ _)) _⟩):p:=h
theorem formed_15(c:Cod)(a:Int)(s m:bA)(names:List bA)(ac:Option Addr)(cc:Nat)(an:Option Addr)(cn:Nat)(N:Nat->Prop)(w:World)(hg:eJ w)(hs:s.size<=8000)(hm:m.size<=8000)(hn:aO 1 dD N w (.slice an names.length cn) names):
  cT c ⟨15,a,s,m,names⟩ (.slice ac c.code.length cc) (.slice an names.length cn) w:=by
 unfold cT;dsimp only;have HR:Hid (cQ c ⟨15,a,s,m,names⟩=((decide (a=1)||decide (a=2)||decide (a=4)||decide (a=8))&&decide (s=noB)&&decide (m=noB)&&decide (names.length=0))):=zh rfl;have yH:=aC (aA w (iK c.name (c.params:Int) (c.locals:Int) ac c.code.length cc)) (aA _ (eQ 15 a s m an names.length cn));rw[Bool.or_assoc,Bool.or_assoc] at HR;clear hg hn;by_cases h1:a=1
 focus
  subst h1;simp only[decide_true,Bool.true_or,Bool.or_true,Bool.true_and] at HR;by_cases tS:s=noB
  focus
   subst tS;simp only[decide_true,Bool.true_and,Bool.and_true] at HR;by_cases sM:m=noB
   focus
    subst sM;simp only[decide_true,Bool.true_and,Bool.and_true] at HR;by_cases tU:names.length=0
    focus
     rw[decide_eq_true tU] at HR;rw[tU]
    rotate_right
    focus
     have A2:((names.length:Int)==0)=false:=YV;rw[decide_eq_false tU] at HR
   rotate_right
   focus
    have AK:(m.toList==[])=false:=YY;rw[decide_eq_false sM] at HR
  rotate_right
  focus
   have xD:(s.toList==[])=false:=Y6;rw[decide_eq_false tS] at HR
 rotate_right
 focus
  have g1:(a==1)=false:=aAr;rw[decide_eq_false h1] at HR;by_cases h2:a=2
  focus
   subst h2;simp only[decide_true,Bool.true_or,Bool.or_true,Bool.true_and] at HR;by_cases tS:s=noB
   focus
    subst tS;simp only[decide_true,Bool.true_and,Bool.and_true] at HR;by_cases sM:m=noB
    focus
     subst sM;simp only[decide_true,Bool.true_and,Bool.and_true] at HR;by_cases tU:names.length=0
     focus
      rw[decide_eq_true tU] at HR;rw[tU]
     rotate_right
     focus
      have A2:((names.length:Int)==0)=false:=YV;rw[decide_eq_false tU] at HR
    rotate_right
    focus
     have AK:(m.toList==[])=false:=YY;rw[decide_eq_false sM] at HR
   rotate_right
   focus
    have xD:(s.toList==[])=false:=Y6;rw[decide_eq_false tS] at HR
  rotate_right
  focus
   (have g2:(a==2)=false:=by rw[beq_eq_false_iff_ne];exact h2);rw[decide_eq_false h2] at HR;by_cases h4:a=4
   focus
    subst h4;simp only[decide_true,Bool.true_or,Bool.or_true,Bool.true_and] at HR;by_cases tS:s=noB
    focus
     subst tS;simp only[decide_true,Bool.true_and,Bool.and_true] at HR;by_cases sM:m=noB
     focus
      subst sM;simp only[decide_true,Bool.true_and,Bool.and_true] at HR;by_cases tU:names.length=0
      focus
       rw[decide_eq_true tU] at HR;rw[tU]
      rotate_right
      focus
       have A2:((names.length:Int)==0)=false:=YV;rw[decide_eq_false tU] at HR
     rotate_right
     focus
      have AK:(m.toList==[])=false:=YY;rw[decide_eq_false sM] at HR
    rotate_right
    focus
     have xD:(s.toList==[])=false:=Y6;rw[decide_eq_false tS] at HR
   rotate_right
   focus
    (have g4:(a==4)=false:=by rw[beq_eq_false_iff_ne];exact h4);rw[decide_eq_false h4] at HR;by_cases h8:a=8
    focus
     subst h8;simp only[decide_true,Bool.true_or,Bool.or_true,Bool.true_and] at HR;by_cases tS:s=noB
     focus
      subst tS;simp only[decide_true,Bool.true_and,Bool.and_true] at HR;by_cases sM:m=noB
      focus
       subst sM;simp only[decide_true,Bool.true_and,Bool.and_true] at HR;by_cases tU:names.length=0
       focus
        rw[decide_eq_true tU] at HR;rw[tU]
       rotate_right
       focus
        have A2:((names.length:Int)==0)=false:=YV;rw[decide_eq_false tU] at HR
      rotate_right
      focus
       have AK:(m.toList==[])=false:=YY;rw[decide_eq_false sM] at HR
     rotate_right
     focus
      have xD:(s.toList==[])=false:=Y6;rw[decide_eq_false tS] at HR
    rotate_right
    focus
     (have g8:(a==8)=false:=by rw[beq_eq_false_iff_ne];exact h8);rw[decide_eq_false h8] at HR;simp only[Bool.false_or,Bool.or_false,Bool.false_and] at HR
 all_goals
  go_enter Tryz.func268,Tryz.ntmps268;go_wp2_with fail;go_quiet(fail)
  go_wp2_with fail;go_ret;exact⟨aF ZB,aS (aC (aA _ _) (aA _ _)) _⟩
theorem formed_14(c:Cod)(a:Int)(s m:bA)(names:List bA)(ac:Option Addr)(cc:Nat)(an:Option Addr)(cn:Nat)(N:Nat->Prop)(w:World)(hg:eJ w)(hs:s.size<=8000)(hm:m.size<=8000)(hn:aO 1 dD N w (.slice an names.length cn) names):
  cT c ⟨14,a,s,m,names⟩ (.slice ac c.code.length cc) (.slice an names.length cn) w:=by
 unfold cT;dsimp only;have HR:Hid (cQ c ⟨14,a,s,m,names⟩=((decide (0<=a)&&decide (a<=6)&&aK s&&(decide (m=noB)||aK m))&&decide (names.length=0))):=zh rfl;have yH:=aC (aA w (iK c.name (c.params:Int) (c.locals:Int) ac c.code.length cc)) (aA _ (eQ 14 a s m an names.length cn));have HS:=zh (fun W(hb:Below w.heap.size w W)=>fB s W YM (hg.later hb));have HM:=zh (fun W(hb:Below w.heap.size w W)=>fB m W YM (hg.later hb));clear hg hn;by_cases h0:0<=a
 ·rw[decide_eq_true h0] at HR;by_cases h1:a<=6
  ·rw[decide_eq_true h1] at HR;simp only[Bool.true_and] at HR
   cases uY:aK s with
   |false=>
    rw[uY] at HS HR;clear uY;exact VO
   |true=>
    rw[uY] at HS HR;clear uY;by_cases sM:m=noB
    ·subst sM;simp only[decide_true,Bool.true_or,Bool.true_and] at HR;by_cases tU:names.length=0
     ·rw[decide_eq_true tU] at HR;rw[tU];exact VO
     have A2:((names.length:Int)==0)=false:=YV;rw[decide_eq_false tU] at HR;exact VO
    have AK:(m.toList==[])=false:=YY;rw[decide_eq_false sM] at HR;clear sM;simp only[Bool.false_or,Bool.true_and] at HR
    cases K5:aK m with
    |false=>
     rw[K5] at HM HR;clear K5;go_enter Tryz.func268,Tryz.ntmps268;go_wp2_with fail;(go_quiet(fail));go_wp2_with fail;go_at_call 17;refine(HS.out _ (aS (aC (aA _ _) (aA _ _)) _)).mono ?_;rintro e w2 ⟨rfl,rfl⟩;go_wp2_with fail;go_at_call 17;refine(HM.out _ (aS (aC (aA _ _) (aA _ _)) _)).mono ?_;rintro e w3 ⟨rfl,rfl⟩;go_wp2_with fail;exact VY
    |true=>
     rw[K5] at HM HR;clear K5;simp only[Bool.true_and] at HR;by_cases tU:names.length=0
     ·rw[decide_eq_true tU] at HR;rw[tU];go_enter Tryz.func268,Tryz.ntmps268;go_wp2_with fail;(go_quiet(fail));go_wp2_with fail;go_at_call 17;refine(HS.out _ (aS (aC (aA _ _) (aA _ _)) _)).mono ?_;rintro e w2 ⟨rfl,rfl⟩;go_wp2_with fail;go_at_call 17;refine(HM.out _ (aS (aC (aA _ _) (aA _ _)) _)).mono ?_;rintro e w3 ⟨rfl,rfl⟩;go_wp2_with fail;exact VY
     have A2:((names.length:Int)==0)=false:=YV;rw[decide_eq_false tU] at HR;go_enter Tryz.func268,Tryz.ntmps268;go_wp2_with fail;(go_quiet(fail));go_wp2_with fail;go_at_call 17;refine(HS.out _ (aS (aC (aA _ _) (aA _ _)) _)).mono ?_;rintro e w2 ⟨rfl,rfl⟩;go_wp2_with fail;go_at_call 17;refine(HM.out _ (aS (aC (aA _ _) (aA _ _)) _)).mono ?_;rintro e w3 ⟨rfl,rfl⟩;go_wp2_with fail;exact VY
  rw[decide_eq_false h1] at HR;go_enter Tryz.func268,Tryz.ntmps268;go_wp2_with fail;go_quiet(fail)
  go_wp2_with fail;exact VY
 rw[decide_eq_false h0] at HR;go_enter Tryz.func268,Tryz.ntmps268;go_wp2_with fail;go_quiet(fail)
 go_wp2_with fail;exact VY
theorem formed_12(c:Cod)(a:Int)(s m:bA)(names:List bA)(ac:Option Addr)(cc:Nat)(an:Option Addr)(cn:Nat)(N:Nat->Prop)(w:World)(hg:eJ w)(hs:s.size<=8000)(hm:m.size<=8000)(hn:aO 1 dD N w (.slice an names.length cn) names):
  cT c ⟨12,a,s,m,names⟩ (.slice ac c.code.length cc) (.slice an names.length cn) w:=by
 unfold cT;dsimp only;have HR:Hid (cQ c ⟨12,a,s,m,names⟩=((pI none names&&decide (names.length<=8))&&decide (a=0)&&decide (s=noB)&&decide (m=noB))):=zh rfl;have yH:=aC (aA w (iK c.name (c.params:Int) (c.locals:Int) ac c.code.length cc)) (aA _ (eQ 12 a s m an names.length cn));have HA:=zh (fun W(hb:Below w.heap.size w W)=>ascending_any names N _ W (hg.later hb) (hn.moves aV (bU.later hb) YO));have HBI:=zh (bY (w.alloc (iK c.name (c.params:Int) (c.locals:Int) ac c.code.length cc)) (eQ 12 a s m an names.length cn));clear hg hn;generalize (pI none names&&decide (names.length<=8))=r at HA HR
 cases r with
 |false=>
  exact VV
 |true=>
  simp only[Bool.true_and] at HR;by_cases ha:a=0
  ·subst ha;simp only[decide_true,Bool.true_and,Bool.and_true] at HR;by_cases tS:s=noB
   ·subst tS;simp only[decide_true,Bool.true_and,Bool.and_true] at HR;by_cases sM:m=noB
    ·subst sM;simp only[decide_true,Bool.true_and,Bool.and_true] at HR;exact VV
    have AK:(m.toList==[])=false:=YY;rw[decide_eq_false sM] at HR;exact VV
   have xD:(s.toList==[])=false:=Y6;rw[decide_eq_false tS] at HR;exact VV
  have sG:(a==0)=false:=aA8;rw[decide_eq_false ha] at HR;exact VV
theorem jL(op:Int)(ho:op=4\/op=5\/op=6\/op=7\/op=8\/op=9\/op=18\/op=19)(c:Cod)(a:Int)(s m:bA)(names:List bA)(ac:Option Addr)(cc:Nat)(an:Option Addr)(cn:Nat)(N:Nat->Prop)(w:World)(hg:eJ w)(hs:s.size<=8000)(hm:m.size<=8000)(hn:aO 1 dD N w (.slice an names.length cn) names):
  cT c ⟨op,a,s,m,names⟩ (.slice ac c.code.length cc) (.slice an names.length cn) w:=by
 unfold cT;dsimp only;have HR:Hid (cQ c ⟨op,a,s,m,names⟩=(decide (a=0)&&decide (s=noB)&&decide (m=noB)&&decide (names.length=0))):=zh (by rcases ho with rfl|rfl|rfl|rfl|rfl|rfl|rfl|rfl<;>rfl);have yH:=aC (aA w (iK c.name (c.params:Int) (c.locals:Int) ac c.code.length cc)) (aA _ (eQ op a s m an names.length cn));clear hg hn;by_cases ha:a=0
 focus
  subst ha;simp only[decide_true,Bool.true_and,Bool.and_true] at HR;by_cases tS:s=noB
  focus
   subst tS;simp only[decide_true,Bool.true_and,Bool.and_true] at HR;by_cases sM:m=noB
   focus
    subst sM;simp only[decide_true,Bool.true_and,Bool.and_true] at HR;by_cases tU:names.length=0
    focus
     rw[decide_eq_true tU] at HR;rw[tU]
    rotate_right
    focus
     have A2:((names.length:Int)==0)=false:=YV;rw[decide_eq_false tU] at HR
   rotate_right
   focus
    have AK:(m.toList==[])=false:=YY;rw[decide_eq_false sM] at HR
  rotate_right
  focus
   have xD:(s.toList==[])=false:=Y6;rw[decide_eq_false tS] at HR
 rotate_right
 focus
  have sG:(a==0)=false:=aA8;rw[decide_eq_false ha] at HR
 all_goals rcases ho with rfl|rfl|rfl|rfl|rfl|rfl|rfl|rfl
 all_goals
  go_enter Tryz.func268,Tryz.ntmps268;go_wp2_with fail;go_quiet(fail)
  go_wp2_with fail;go_ret;exact⟨aF ZB,aS (aC (aA _ _) (aA _ _)) _⟩
end Go.Proofs.YtiionicikdnnpaaGreatDoor
