/- Texts of this seat, joined. -/
import Derived.Test.YtacgopankhpnbaaGreatDoorTQAK
import Derived.Test.YtacgopankhpnbaaGreatDoorTQAL
import Derived.Test.YtacgopankhpnbaaGreatDoorTQAM
set_option maxHeartbeats 16000000
set_option maxRecDepth 100000
set_option linter.unusedVariables false
set_option linter.unusedSimpArgs false
namespace Go.Proofs.YtacgopankhpnbaaGreatDoor
open Go.RowKit
theorem txV_eq(t:Option bA):txV t=.tuple #[.string (t.getD ⟨#[]⟩),.bool t.isSome]:=by cases t<;>rfl
theorem fiV_eq(t:Option Nat):fiV t=.tuple #[.int .i64 ((t.getD 0:Nat):Int),.bool t.isSome]:=by cases t<;>rfl
theorem YF{p:Prop}(h:p:=by
 go_wp2_with fail;go_ret
 exact⟨rfl,HB.out.below⟩):p:=h
theorem aAi{p:Prop}(h:p:=by
 clear wM;go_wp2_with(go_at_call 18;refine sK.out.mono ?_;rintro e I4 ⟨rfl,hb⟩;rw[K6.out]);go_ret
 exact⟨rfl,aB HB.out.below hb⟩):p:=h
theorem blameBuilds_any(r:Rcp)(L:List (Value×Stp))(vi vs vc vo vn P6 PZ J2:Value)(ck od nx BY BN ME:List Int)(name:bA)(w:World)(h:dR r L vi vs w)(h1:nC ck od nx vc vo vn w)(h2:nC BY BN ME P6 PZ J2 w)(hG:dL w)(xY:name.size<=140737488355328):
  Calls Tryz.prog 12 #[jD vi vs r.output,.agg #[vc,vo,vn],.agg #[P6,PZ,J2],.string name] w (OkBelow w):=by
 have HR:=zh h;have HV:=zh h1;have HW:=zh h2;have HG:=zh hG;obtain⟨⟨a1,c1,rfl⟩,⟨a2,c2,rfl⟩,⟨a3,c3,rfl⟩⟩:=h1.slices;obtain⟨⟨b1,d1,rfl⟩,⟨b2,d2,rfl⟩,⟨b3,d3,rfl⟩⟩:=h2.slices;obtain⟨ai,ci,av,cv,rfl,rfl⟩:=h.slices;have hlen:=h.len;have vB:=zh hlen;have TF:L.length<=9223372036854775807:=aBH;have hoz:=h.out;clear h h1 h2 hG hlen;have HB:=zh (BsW.first w (aY (.slice ai r.inputs.length ci) (.slice av L.length cv) r.output) (kF (.slice a1 ck.length c1) (.slice a2 od.length c2) (.slice a3 nx.length c3)) (kF (.slice b1 BY.length d1) (.slice b2 BN.length d2) (.slice b3 ME.length d3)));go_enter Tryz.func12,Tryz.ntmps12;go_wp2_with fail;refine(small35_any _ (HG.out.later HB.out.below)).mono ?_;rintro e w1 ⟨rfl,hb⟩
 replace HB:=zh (HB.out.later hb)
 clear hb;obtain⟨r0,r1,r2⟩:=bD HB.out.r0;obtain⟨v0,v1,v2⟩:=bD HB.out.r1;obtain⟨x0,x1,x2⟩:=bD HB.out.r2;go_wp2_with fail;refine(few35_any r L _ _ w1 (HR.out.later HB.out.below)).mono ?_;rintro e w2 ⟨q,rfl,hb⟩
 replace HB:=zh (HB.out.later hb)
 clear hb;clear r0 r1 r2 v0 v1 v2 x0 x1 x2
 cases q with
 |false=>
  exact YF
 |true=>
  obtain⟨r0,r1,r2⟩:=bD HB.out.r0;obtain⟨v0,v1,v2⟩:=bD HB.out.r1;obtain⟨x0,x1,x2⟩:=bD HB.out.r2;go_wp2_with fail;refine(nR _ _ _ _ _ _ _ _ _ w2).mono ?_;rintro e w3 ⟨q,rfl,hb⟩
  replace HB:=zh (HB.out.later hb)
  clear hb;clear r0 r1 r2 v0 v1 v2 x0 x1 x2
  cases q with
  |false=>
   exact YF
  |true=>
   obtain⟨r0,r1,r2⟩:=bD HB.out.r0;obtain⟨v0,v1,v2⟩:=bD HB.out.r1;obtain⟨x0,x1,x2⟩:=bD HB.out.r2;go_wp2_with fail;refine(nR _ _ _ _ _ _ _ _ _ w3).mono ?_;rintro e w4 ⟨q,rfl,hb⟩
   replace HB:=zh (HB.out.later hb)
   clear hb;clear r0 r1 r2 v0 v1 v2 x0 x1 x2
   cases q with
   |false=>
    exact YF
   |true=>
    obtain⟨r0,r1,r2⟩:=bD HB.out.r0;obtain⟨v0,v1,v2⟩:=bD HB.out.r1;obtain⟨x0,x1,x2⟩:=bD HB.out.r2;go_wp2_with fail;refine(qI r L _ _ _ _ _ ck od nx w4 (HR.out.later HB.out.below) (HV.out.later HB.out.below) (HG.out.later HB.out.below)).mono ?_;rintro e w6 ⟨xa,na,ca,sa,ea,rfl,JV,hb⟩
    replace HB:=zh (HB.out.later hb)
    clear hb;clear r0 r1 r2 v0 v1 v2 x0 x1 x2;obtain⟨r0,r1,r2⟩:=bD HB.out.r0;obtain⟨v0,v1,v2⟩:=bD HB.out.r1;obtain⟨x0,x1,x2⟩:=bD HB.out.r2;go_wp2_with fail;refine(qI r L _ _ _ _ _ BY BN ME w6 (HR.out.later HB.out.below) (HW.out.later HB.out.below) (HG.out.later HB.out.below)).mono ?_;rintro e w7 ⟨xb,nb,cb,sb,eb,rfl,tZ,hb⟩
    replace HB:=zh (HB.out.later hb)
    replace JV:=zh (JV.out.later hb)
    clear hb;clear r0 r1 r2 v0 v1 v2 x0 x1 x2;by_cases wY:ea=0
    ·by_cases DY:eb=0
     ·subst wY DY;obtain⟨outA,La,U3,hda,hma⟩:=JV.out.ok;obtain⟨outB,Lb,QV,hdb,hmb⟩:=tZ.out.ok;obtain⟨X,Y,hX,hY,xR,his,sC,A2⟩:=builds_law U3 QV;have C6:=run_text U3 hX;have yU:=wrong_none U3;subst hma hmb;have xF:=zh hda;have xV:=zh hdb;have HT:Hid (txV (textOf r (bQ r (La.map (·.2))) r.output)=.tuple #[.string sa,.bool true]):=zh (by rw[hX];show txV (cW r X r.output)=_;rw[C6];rfl);have BJ:Hid (txV (pI (lR r) (bQ r (La.map (·.2))) (bQ r (Lb.map (·.2))))=.tuple #[.string ⟨#[]⟩,.bool false]):=zh (by rw[hX,hY];show txV (lR r X Y)=_;rw[xR];rfl);have CK:Hid (fiV (nD bC r (La.map (·.2)))=.tuple #[.int .i64 0,.bool false]):=zh (by rw[yU];rfl);have HFa:Hid ((bQ r (La.map (·.2))).isSome=true):=zh (by rw[hX];rfl);have XM:Hid ((bQ r (Lb.map (·.2))).isSome=true):=zh (by rw[hY];rfl);have HNa:Hid (txV (textOf r (bQ r (La.map (·.2))) name)=.tuple #[.string ((cW r X name).getD ⟨#[]⟩),.bool (cW r X name).isSome]):=zh (by rw[hX];exact txV_eq _);have HNb:Hid (txV (textOf r (bQ r (Lb.map (·.2))) name)=.tuple #[.string ((cW r Y name).getD ⟨#[]⟩),.bool (cW r X name).isSome]):=zh (by rw[hY,his];exact txV_eq _);have PV:Hid (fiV (pI (mS r) (bQ r (La.map (·.2))) (bQ r (Lb.map (·.2))))=.tuple #[.int .i64 (((mS r X Y).getD 0:Nat):Int),.bool (mS r X Y).isSome]):=zh (by rw[hX,hY];exact fiV_eq _);have UJ:=zh (sC name);have BB:=zh A2;clear U3 QV hda hdb hX hY xR his sC A2 C6 yU JV tZ;obtain⟨r0,r1,r2⟩:=bD HB.out.r0;obtain⟨v0,v1,v2⟩:=bD HB.out.r1;obtain⟨x0,x1,x2⟩:=bD HB.out.r2;go_wp2_with fail;refine(oR r L La _ _ _ r.output w7 (HR.out.later HB.out.below) xF.out hoz).mono ?_;rintro e w8 ⟨rfl,hb⟩;rw[HT.out]
      replace HB:=zh (HB.out.later hb)
      replace xF:=zh (xF.out.later hb)
      replace xV:=zh (xV.out.later hb)
      clear hb;clear r0 r1 r2 v0 v1 v2 x0 x1 x2;obtain⟨r0,r1,r2⟩:=bD HB.out.r0;obtain⟨v0,v1,v2⟩:=bD HB.out.r1;obtain⟨x0,x1,x2⟩:=bD HB.out.r2;go_wp2_with fail;refine(input_any r L La Lb _ _ _ _ w8 (HR.out.later HB.out.below) xF.out xV.out).mono ?_;rintro e w9 ⟨rfl,hb⟩;rw[BJ.out]
      replace HB:=zh (HB.out.later hb)
      replace xF:=zh (xF.out.later hb)
      replace xV:=zh (xV.out.later hb)
      clear hb;clear r0 r1 r2 v0 v1 v2 x0 x1 x2;obtain⟨r0,r1,r2⟩:=bD HB.out.r0;obtain⟨v0,v1,v2⟩:=bD HB.out.r1;obtain⟨x0,x1,x2⟩:=bD HB.out.r2;go_wp2_with fail;refine(wrong_any bC r L La _ _ _ w9 (HR.out.later HB.out.below) xF.out (HG.out.later HB.out.below) (fun s _ _=>rS s)).mono ?_;rintro e tB ⟨rfl,hb⟩;rw[CK.out]
      replace HB:=zh (HB.out.later hb)
      replace xF:=zh (xF.out.later hb)
      replace xV:=zh (xV.out.later hb)
      clear hb;clear r0 r1 r2 v0 v1 v2 x0 x1 x2;obtain⟨r0,r1,r2⟩:=bD HB.out.r0;obtain⟨v0,v1,v2⟩:=bD HB.out.r1;obtain⟨x0,x1,x2⟩:=bD HB.out.r2;go_wp2_with fail;refine(pO r L La _ _ _ tB (HR.out.later HB.out.below) xF.out).mono ?_;rintro e xK ⟨rfl,hb⟩;rw[HFa.out]
      replace HB:=zh (HB.out.later hb)
      replace xF:=zh (xF.out.later hb)
      replace xV:=zh (xV.out.later hb)
      clear hb;clear r0 r1 r2 v0 v1 v2 x0 x1 x2;obtain⟨r0,r1,r2⟩:=bD HB.out.r0;obtain⟨v0,v1,v2⟩:=bD HB.out.r1;obtain⟨x0,x1,x2⟩:=bD HB.out.r2;go_wp2_with fail;refine(pO r L Lb _ _ _ xK (HR.out.later HB.out.below) xV.out).mono ?_;rintro e tG ⟨rfl,hb⟩;rw[XM.out]
      replace HB:=zh (HB.out.later hb)
      replace xF:=zh (xF.out.later hb)
      replace xV:=zh (xV.out.later hb)
      clear hb;clear r0 r1 r2 v0 v1 v2 x0 x1 x2;obtain⟨r0,r1,r2⟩:=bD HB.out.r0;obtain⟨v0,v1,v2⟩:=bD HB.out.r1;obtain⟨x0,x1,x2⟩:=bD HB.out.r2;go_wp2_with fail;refine(oR r L La _ _ _ name tG (HR.out.later HB.out.below) xF.out xY).mono ?_;rintro e vL ⟨rfl,hb⟩;rw[HNa.out]
      replace HB:=zh (HB.out.later hb)
      replace xF:=zh (xF.out.later hb)
      replace xV:=zh (xV.out.later hb)
      clear hb;clear r0 r1 r2 v0 v1 v2 x0 x1 x2;obtain⟨r0,r1,r2⟩:=bD HB.out.r0;obtain⟨v0,v1,v2⟩:=bD HB.out.r1;obtain⟨x0,x1,x2⟩:=bD HB.out.r2;go_wp2_with fail;refine(oR r L Lb _ _ _ name vL (HR.out.later HB.out.below) xV.out xY).mono ?_;rintro e CC ⟨rfl,hb⟩;rw[HNb.out]
      replace HB:=zh (HB.out.later hb)
      replace xF:=zh (xF.out.later hb)
      replace xV:=zh (xV.out.later hb)
      clear hb;clear r0 r1 r2 v0 v1 v2 x0 x1 x2;obtain⟨r0,r1,r2⟩:=bD HB.out.r0;obtain⟨v0,v1,v2⟩:=bD HB.out.r1;obtain⟨x0,x1,x2⟩:=bD HB.out.r2;go_wp2_with fail;refine(first_any r L La Lb _ _ _ _ CC (HR.out.later HB.out.below) xF.out xV.out).mono ?_;rintro e GZ ⟨rfl,hb⟩;rw[PV.out]
      replace HB:=zh (HB.out.later hb)
      replace xF:=zh (xF.out.later hb)
      replace xV:=zh (xV.out.later hb)
      clear hb;clear r0 r1 r2 v0 v1 v2 x0 x1 x2;obtain⟨r0,r1,r2⟩:=bD HB.out.r0;obtain⟨v0,v1,v2⟩:=bD HB.out.r1;obtain⟨x0,x1,x2⟩:=bD HB.out.r2
      cases hf:mS r X Y with
      |none=>
       have wM:(cW r X name).getD ⟨#[]⟩=(cW r Y name).getD ⟨#[]⟩:=by
        rcases Classical.em (cW r X name=cW r Y name) with h|h
        ·rw[h]
        have h1:=UJ.out h;rw[hf] at h1;cases h1
       rw[wM];clear wM hf UJ BB;exact YF
      |some i=>
       obtain⟨st,vO,EQ⟩:=BB.out i hf;have hiL:i<L.length:=by have:=(Yb.1 vO).1;rw[vB.out] at this;exact this
       obtain⟨y,hy,CE⟩:∃y,L[i]? =some y/\y.2=st:=by
        obtain⟨y,hy,-⟩:=getElem?_of_lt hiL;refine⟨y,hy,?_⟩;(have:(L.map (·.2))[i]? =some st:=by rw[HR.out.map];exact vO);rw[List.getElem?_map,hy] at this;exact Option.some.inj this
       subst CE;obtain⟨sl,cs,e,-,sM⟩:=stps_at (HR.out.later HB.out.below).stp;obtain⟨rfl,rfl⟩:av=sl/\cv=cs:=aAT;obtain⟨bs,os,rfl,s0,s1,s2,s3,hS,hz⟩:=sM i y hy;have sK:=zh (oE y.2 y.1 GZ hS hz);have K6:=zh EQ;obtain⟨yv,s⟩:=y;dsimp only at s0 s1 s2 s3 hS sK K6;obtain⟨sa0,sc0,rfl⟩:=bW hS;have vA:¬(i:Int)<0:=aAM;have DD:¬(L.length:Int)<=(i:Int):=aAM;have JI:(0:Int)<=(i:Int):=aAM;have Q9:(i:Int)<(L.length:Int):=aAM;simp only[Option.getD_some,Option.isSome_some];clear hf UJ BB vO EQ hy sM e hS hz;by_cases wM:(cW r X name).getD ⟨#[]⟩=(cW r Y name).getD ⟨#[]⟩
       ·rw[wM];exact aAi
       have hxy2:(((cW r X name).getD ⟨#[]⟩).toList==((cW r Y name).getD ⟨#[]⟩).toList)=false:=aC7;exact aAi
     (have e2:(eb==0)=false:=by rw[beq_eq_false_iff_ne];exact DY);(have e3:(eb != 0)=true:=by rw[bne_iff_ne];exact DY);subst wY;clear DY;exact YF
    have e0:(ea==0)=false:=aC3;(have e1:(ea != 0)=true:=by rw[bne_iff_ne];exact wY);clear wY;exact YF
end Go.Proofs.YtacgopankhpnbaaGreatDoor
