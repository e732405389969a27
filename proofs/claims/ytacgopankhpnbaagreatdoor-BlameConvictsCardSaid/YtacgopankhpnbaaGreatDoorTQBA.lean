/- -/
import Derived.Test.YtacgopankhpnbaaGreatDoorTQAZ
import Derived.Test.YtacgopankhpnbaaGreatDoorTQAQ
set_option maxHeartbeats 16000000
set_option maxRecDepth 100000
set_option linter.unusedVariables false
set_option linter.unusedSimpArgs false
namespace Go.Proofs.YtacgopankhpnbaaGreatDoor
open Go.RowKit
structure B2 (w:World) (a b:Obj) (wr:World):Prop where
 r0:wr.heap[w.heap.size]? =some a
 r1:wr.heap[w.heap.size+1]? =some b
 below:Below w.heap.size w wr
theorem B2.later{w:World}{a b:Obj}{wr w':World}(h:B2 w a b wr)(hb:Below wr.heap.size wr w'):B2 w a b w':=
 ⟨aD hb h.r0,aD hb h.r1,aB h.below hb⟩
theorem B2.first(w:World)(a b:Obj):B2 w a b ((w.alloc a).alloc b):=by
 have e1:=aH (w.alloc a) b;simp only[World.size_alloc] at e1;exact⟨aD (aA _ _) (aH w a),e1,aB (aA _ _) (aA _ _)⟩
theorem replay_back(C:bA->Int×bA)(r:Rcp)(L:List (Value×Stp))(vi vs vd vc vo vn:Value)(s:Stp)(i:Nat)(saw:List bA)(out:bA)(clock order next:List Int)(w:World)(h:dR r L vi vs w)(hw:nC clock order next vc vo vn w)(hG:dL w)
  (he:aP r=0) (hs:r.steps[i]? =some s) (hd:Strs w vd saw) (hl:saw.length=iC s) (hD:DoAll C s):
  Calls Tryz.prog 49 #[jD vi vs r.output,.agg #[.int .i64 i,vd,.string out],.agg #[vc,vo,vn]] w fun e w'=>∃t c,e=.returned (.tuple #[.string t,.int .i64 c])/\Hid (c=0->t=out->eX C s saw clock order=.ok out)/\Below w.heap.size w w':=by
 refine(replay_good C r L vi vs vd vc vo vn s i saw out clock order next w h hw hG he hs hd hl hD).mono ?_;rintro e w' ⟨hb,hm⟩
 cases hr:eX C s saw clock order with
 |error c=>
  rw[hr] at hm;exact⟨_,_,hm,zh (fun h0=>absurd h0 (replayL_err hr)),hb⟩
 |ok t=>
  rw[hr] at hm;exact⟨_,_,hm,zh (fun _ h=>by rw[h]),hb⟩
theorem input_text{r:Rcp}(hR:qA r)(X:RSt){f:Fil}(hf:f∈r.inputs):∃u,cW r X f.name=some u:=by
 obtain⟨h1,h2⟩:=input_named hR hf;unfold cW;rw[h2];simp only
 cases X.inp f.name with
 |some u=>exact⟨u,rfl⟩
 |none=>rw[h1];exact⟨_,rfl⟩
def RepTo(r:Rcp)(ck od:List Int)(l:List Dn)(z:Nat):Prop:=∀(j:Nat)d,j<z->l[j]? =some d->∀(i:Nat)st,d.step=(i:Int)->i∈eI r->r.steps[i]? =some st->eX bC st d.saw ck od=.ok d.out
theorem RepTo.first(r:Rcp)(ck od:List Int)(l:List Dn):RepTo r ck od l 0:=fun j d hj=>absurd hj (Nat.not_lt_zero _)
theorem RepTo.next{r:Rcp}{ck od:List Int}{l:List Dn}{z i:Nat}{d:Dn}{st:Stp}(h:RepTo r ck od l z)(hd:l[z]? =some d)(hi:d.step=(i:Int))(hs:r.steps[i]? =some st)(hr:i∈eI r->eX bC st d.saw ck od=.ok d.out):RepTo r ck od l (z+1):=by
 intro j d' hj hd' i' st' VH hm hs';rcases Nat.lt_or_ge j z with h1|h1
 ·exact h j d' h1 hd' i' st' VH hm hs'
 obtain rfl:j=z:=aAM;rw[hd] at hd';cases hd';obtain rfl:i=i':=by rw[hi] at VH;exact Int.ofNat_inj.1 VH
 rw[hs] at hs';cases hs';exact hr hm
theorem RepTo.last{r:Rcp}{ck od:List Int}{l:List Dn}{z:Nat}(h:RepTo r ck od l z)(hz:l.length<=z):∀d∈l,∀(i:Nat)st,d.step=(i:Int)->i∈eI r->r.steps[i]? =some st->eX bC st d.saw ck od=.ok d.out:=by
 intro d hd;obtain⟨j,hj⟩:=List.getElem?_of_mem hd;exact h j d (by have:=(Yb.1 hj).1;omega) hj
theorem mem_next{l:List Nat}{q x i:Nat}(hx:l[q]? =some x)(b:Bool)(h:b=true↔i∈l.take q):(b||(x:Int)==(i:Int))=true↔i∈l.take (q+1):=by
 rw[List.take_add_one,hx,List.mem_append,<-h,Bool.or_eq_true,beq_iff_eq];simp only[Option.toList_some,List.mem_singleton];constructor
 ·rintro(h|h)
  ·exact .inl h
  exact .inr aAM
 rintro(h|h)
 ·exact .inl h
 exact .inr aAM
theorem YH{p:Prop}(h:p:=by
 go_wp2_with fail;go_ret
 exact⟨rfl,HB.out.below⟩):p:=h
theorem aAm{p:Prop}(h:p:=by
 clear LX D7 HBi;go_wp2_with fail;go_roundw;case rel=>exact⟨z+1,aAM,aAV,HB,wH,UG⟩
 case measure=>simp[intOf];omega):p:=h
theorem blameConvicts_any(r:Rcp)(L:List (Value×Stp))(La:List (Value×Dn))(vi vs vl vc vo vn:Value)(ck od nx:List Int)(w:World)(h:dR r L vi vs w)(hl:Dns w vl La)(h1:nC ck od nx vc vo vn w)(hG:dL w):
  Calls Tryz.prog 14 #[jD vi vs r.output,vl,.agg #[vc,vo,vn]] w (OkBelow w):=by
 have HR:=zh h;have HV:=zh h1;have HG:=zh hG;have xF:=zh hl;obtain⟨⟨a1,c1,rfl⟩,⟨a2,c2,rfl⟩,⟨a3,c3,rfl⟩⟩:=h1.slices;obtain⟨ai,ci,av,cv,rfl,rfl⟩:=h.slices;obtain⟨al,cl,e9,hll2,sM⟩:=dns_at hl;subst e9;obtain⟨_,_,e8,xR,hati⟩:=fils_at h.inp;cases e8;have yT:=zh sM;have BJ:=zh hati;have TF:L.length<=9223372036854775807:=aBH;have hoz:=h.out;clear h h1 hG hl sM hati;have HB:=zh (B2.first w (aY (.slice ai r.inputs.length ci) (.slice av L.length cv) r.output) (kF (.slice a1 ck.length c1) (.slice a2 od.length c2) (.slice a3 nx.length c3)));go_enter Tryz.func14,Tryz.ntmps14;go_wp2_with fail;refine(small35_any _ (HG.out.later HB.out.below)).mono ?_;rintro e w1 ⟨rfl,hb⟩
 replace HB:=zh (HB.out.later hb)
 clear hb;obtain⟨r0,r1,r2⟩:=bD HB.out.r0;obtain⟨v0,v1,v2⟩:=bD HB.out.r1;go_wp2_with fail;refine(few35_any r L _ _ w1 (HR.out.later HB.out.below)).mono ?_;rintro e w2 ⟨q,rfl,hb⟩
 replace HB:=zh (HB.out.later hb)
 clear hb;clear r0 r1 r2 v0 v1 v2
 cases q with
 |false=>
  exact YH
 |true=>
  obtain⟨r0,r1,r2⟩:=bD HB.out.r0;obtain⟨v0,v1,v2⟩:=bD HB.out.r1;go_wp2_with fail;refine(fewDone_any La _ w2 (xF.out.later HB.out.below)).mono ?_;rintro e w3 ⟨q,rfl,hb⟩
  replace HB:=zh (HB.out.later hb)
  clear hb;clear r0 r1 r2 v0 v1 v2
  cases q with
  |false=>
   exact YH
  |true=>
   obtain⟨r0,r1,r2⟩:=bD HB.out.r0;obtain⟨v0,v1,v2⟩:=bD HB.out.r1;go_wp2_with fail;refine(nR _ _ _ _ _ _ _ _ _ w3).mono ?_;rintro e w4 ⟨q,rfl,hb⟩
   replace HB:=zh (HB.out.later hb)
   clear hb;clear r0 r1 r2 v0 v1 v2
   cases q with
   |false=>
    exact YH
   |true=>
    obtain⟨r0,r1,r2⟩:=bD HB.out.r0;obtain⟨v0,v1,v2⟩:=bD HB.out.r1;go_wp2_with fail;refine(pure_any r L _ _ w4 (HR.out.later HB.out.below)).mono ?_;rintro e w5 ⟨rfl,hb⟩
    replace HB:=zh (HB.out.later hb)
    clear hb;clear r0 r1 r2 v0 v1 v2
    cases EQ:pureL r with
    |false=>
     clear EQ;exact YH
    |true=>
     have K6:=zh EQ;clear EQ;obtain⟨r0,r1,r2⟩:=bD HB.out.r0;obtain⟨v0,v1,v2⟩:=bD HB.out.r1;go_wp2_with fail;refine(pO r L La _ _ _ w5 (HR.out.later HB.out.below) (xF.out.later HB.out.below)).mono ?_;rintro e w6 ⟨rfl,hb⟩
     replace HB:=zh (HB.out.later hb)
     clear hb;clear r0 r1 r2 v0 v1 v2
     cases hX:bQ r (La.map (·.2)) with
     |none=>
      clear hX;rw[show(none:Option RSt).isSome=false from rfl];exact YH
     |some X=>
      rw[show(some X).isSome=true from rfl];have HX:=zh hX;clear hX;have HIt:=zh (fun f(hf:f∈r.inputs)=>input_text (pureL_ok K6.out).1 X hf);have HE:=zh (readL_each HX.out);obtain⟨u0,hu0⟩:∃u,cW r X r.output=some u:=Option.isSome_iff_exists.1 (text_known (pureL_ok K6.out).1.out);have HU0:=zh hu0;have HTo:Hid (txV (textOf r (bQ r (La.map (·.2))) r.output)=.tuple #[.string u0,.bool true]):=zh (by rw[HX.out];show txV (cW r X r.output)=_;rw[hu0];rfl);clear hu0;obtain⟨r0,r1,r2⟩:=bD HB.out.r0;obtain⟨v0,v1,v2⟩:=bD HB.out.r1;go_wp2_with fail;refine(qI r L _ _ _ _ _ ck od nx w6 (HR.out.later HB.out.below) (HV.out.later HB.out.below) (HG.out.later HB.out.below)).mono ?_;rintro e w7 ⟨xa,na,ca,sa,ea,rfl,JV,hb⟩
      replace HB:=zh (HB.out.later hb)
      clear hb;clear r0 r1 r2 v0 v1 v2;have zY:Hid (ea=0->∃a,mZ bC r ck od nx=.ok (a,sa)):=zh (fun e0=>by subst e0;obtain⟨a,_,h,-⟩:=JV.out.ok;exact⟨a,h⟩);clear JV;go_wp2_with fail;(go_loopw [11] (fun iv wr=>∃k:Nat,k<=r.inputs.length/\iv=.int .i64 (k:Int)/\Hid (B2 w (aY (.slice ai r.inputs.length ci) (.slice av L.length cv) r.output) (kF (.slice a1 ck.length c1) (.slice a2 od.length c2) (.slice a3 nx.length c3)) wr)/\Hid (∀(j:Nat)f,j<k->r.inputs[j]? =some f->cW r X f.name=some f.text)) (fun iv _=>r.inputs.length-(intOf iv).toNat));case atStart=>exact⟨0,Nat.zero_le _,rfl,HB,zh (fun j f hj=>absurd hj (Nat.not_lt_zero _))⟩
      case round=>
       clear HB;obtain⟨k,hk,rfl,HB,JM⟩:=hrel;(rename World=>wr);obtain⟨r0,r1,r2⟩:=bD HB.out.r0;obtain⟨v0,v1,v2⟩:=bD HB.out.r1;by_cases sE:k<r.inputs.length
       ·obtain⟨f,hf,LN⟩:=getElem?_of_lt sE;obtain⟨bi,oi,rfl,n0,n1,nz,-⟩:=BJ.out k f hf
        replace n0:=aC HB.out.below n0
        replace n1:=aC HB.out.below n1
        obtain⟨u,hu⟩:=HIt.out f LN;have HT:Hid (txV (textOf r (bQ r (La.map (·.2))) f.name)=.tuple #[.string u,.bool true]):=zh (by rw[HX.out];show txV (cW r X f.name)=_;rw[hu];rfl);have HU:=zh hu;have HF:=zh hf;have LM:(0:Int)<=(k:Int):=aAM;have BF:(k:Int)<(r.inputs.length:Int):=aAM;clear hu hf LN;go_wp2_with fail;refine wp_region_held_drew (S:=fun W=>Below wr.heap.size wr W) aAN (Below.refl _ _).drew fun hS=>?_;refine zt 0 (oBx25 (some ⟨bi,oi,none⟩) r.inputs.length ci av L.length cv r.output) rfl (fun W hW=>aBp) ?_;refine zq 1 (.slice al La.length cl) rfl ?_;refine zq 2 (.pointer (some ⟨w.heap.size,0,none⟩)) rfl ?_;refine zt 3 (.slice (some ⟨bi,oi,none⟩) r.inputs.length ci) rfl (fun W hW=>by have r0:=aC hW r0;go_simp) ?_;refine zq 4 (.int .i64 (k:Int)) rfl ?_;refine zq 5 (.pointer (some ⟨bi,oi+k*2,none⟩)) rfl ?_;refine zq 6 (.pointer (some ⟨bi,oi+k*2,none⟩)) rfl ?_;refine zt 7 (.string f.name) rfl (fun W hW=>by have n0:=aC hW n0;go_simp) ?_;(try simp only[zn]);refine zr 8 rfl (fun K hK=>?_);(try simp only[z1,z2,z3]);go_simp;have XP:=zh (aE wr);have AO:=zh (HB.out.later XP.out);refine(oR r L La _ _ _ f.name wr.drew (HR.out.later AO.out.below) (xF.out.later AO.out.below) nz).mono ?_;rintro e wq ⟨rfl,hb⟩;rw[HT.out];have wW:=zh (aB XP.out hb);clear hb AO XP;refine hK.out _ _ wW.out (fun hS=>?_);clear hK K;refine zq 9 (.tuple #[.string u,.bool true]) rfl ?_;refine zq 10 (.string u) rfl ?_;refine zq 11 (.bool true) rfl ?_;refine zq 12 (.string u) rfl ?_;refine zq 13 (.bool true) rfl ?_;(try simp only[zn]);refine wpAnyH_done aAN ?_ _;clear hS
        replace HB:=zh (HB.out.later wW.out)
        replace n1:=aC wW.out n1
        clear wW HT n0;clear r0 r1 r2 v0 v1 v2;obtain⟨r0,r1,r2⟩:=bD HB.out.r0;obtain⟨v0,v1,v2⟩:=bD HB.out.r1;by_cases hux:u=f.text
        ·subst hux
         have HTx2:Hid (∀(j:Nat)g,j<k+1->r.inputs[j]? =some g->cW r X g.name=some g.text):=zh (fun j g hj hg=>by
          rcases Nat.lt_or_ge j k with h|h
          ·exact JM.out j g h hg
          obtain rfl:j=k:=aAM;rw[HF.out] at hg;cases hg
          exact HU.out)
         go_wp2_with fail;go_roundw;(case rel=>exact⟨k+1,aAM,aAV,HB,HTx2⟩);case measure=>simp[intOf];omega
        (have hux2:(u.toList==f.text.toList)=false:=by rw[bI];exact Qb hux);clear hux;exact YH
       obtain rfl:k=r.inputs.length:=aAM
       have HInp:Hid (∀f∈r.inputs,cW r X f.name=some f.text):=zh (fun f hf=>by
        obtain⟨j,hj⟩:=List.getElem?_of_mem hf
        exact JM.out j f (Yb.1 hj).1 hj)
       clear JM sE;go_wp2_with fail;refine(slice_any r L _ _ wr (HR.out.later HB.out.below)).mono ?_;rintro e w9 ⟨v9,rfl,hI,-,hb⟩
       replace HB:=zh (HB.out.later hb)
       clear hb;clear r0 r1 r2 v0 v1 v2;obtain⟨a9,c9,rfl,h9,hat9⟩:=ints_at hI;rw[show(aU (eI r)).length=(eI r).length by simp[aU]] at h9 ⊢;have HS:=zh hat9;clear hI hat9;go_wp2_with fail;(go_loopw [15] (fun iv wz=>∃z:Nat,z<=La.length/\iv=.int .i64 (z:Int)/\Hid (B2 w (aY (.slice ai r.inputs.length ci) (.slice av L.length cv) r.output) (kF (.slice a1 ck.length c1) (.slice a2 od.length c2) (.slice a3 nx.length c3)) wz)/\Hid (Below w9.heap.size w9 wz)/\Hid (RepTo r ck od (La.map (·.2)) z)) (fun iv _=>La.length-(intOf iv).toNat));case atStart=>exact⟨0,Nat.zero_le _,rfl,HB,zh (Below.refl _ _),zh (RepTo.first _ _ _ _)⟩
       case round=>
        clear HB;obtain⟨z,hz,rfl,HB,wH,LX⟩:=hrel;(rename World=>wz);by_cases TC:z<La.length
        ·obtain⟨y,hy,CE⟩:=getElem?_of_lt TC;obtain⟨i,st,VN,vO,hsaw⟩:=HE.out y.2 (List.mem_map.2 ⟨y,CE,rfl⟩);obtain⟨bl,ol,rfl,p0,p1,p2,RJ,hzo⟩:=yT.out z y hy;have HY:Hid ((La.map (·.2))[z]? =some y.2):=zh (by rw[List.getElem?_map,hy];rfl);obtain⟨yv,dstep,dsaw,dout⟩:=y;dsimp only at p0 p1 p2 RJ hzo VN vO hsaw HY;subst VN;obtain⟨sa0,sc0,rfl⟩:=bW RJ;have CU:=zh vO;have F5:=zh hsaw;have HSs:=zh RJ
         replace p0:=aC HB.out.below p0
         replace p1:=aC HB.out.below p1
         replace p2:=aC HB.out.below p2
         have tM:(0:Int)<=(z:Int):=aAM;have sY:(z:Int)<(La.length:Int):=aAM;clear hy CE vO hsaw RJ hzo;go_wp2_with fail;(go_loopw [16,17] (fun bv kv wk=>∃(q:Nat)(bb:Bool),q<=(eI r).length/\bv=.bool bb/\kv=.int .i64 (q:Int)/\Hid (bb=true↔i∈(eI r).take q)/\Hid (Below wz.heap.size wz wk)) (fun _ kv _=>(eI r).length-(intOf kv).toNat));case atStart=>exact⟨0,false,Nat.zero_le _,rfl,rfl,zh aAQ,zh (Below.refl _ _)⟩
         case round=>
          obtain⟨q,bb,hq,rfl,rfl,wF,GJ⟩:=hrel;(rename World=>wk);by_cases hlq:q<(eI r).length
          ·obtain⟨x,hx,-⟩:=getElem?_of_lt hlq;obtain⟨bs,os,rfl,s0⟩:=HS.out q (x:Int) (by rw[aU,List.getElem?_map,hx];rfl)
           replace s0:=aC GJ.out (aC wH.out s0)
           have m0:=aC GJ.out p0;have yP:(0:Int)<=(q:Int):=aAM;have AQ:(q:Int)<((eI r).length:Int):=aAM;have sS:=zh (mem_next hx bb wF.out);clear hx wF
           cases bb with
           |true=>
            have HIm:=zh (sS.out.1 rfl);clear sS;go_wp2_with fail;(go_quiet(fail));generalize S7:World.drewN wk _=wq;have wW:Hid (Below wk.heap.size wk wq):=zh aCC;clear S7;have tP:=zh (aB GJ.out wW.out);go_wp2_with fail;go_roundw;(case rel=>exact⟨q+1,_,aAM,rfl,aAV,zh ⟨fun _=>HIm.out,fun _=>rfl⟩,tP⟩);case measure=>simp[intOf];omega
           |false=>
            replace sS:=zh (show((x:Int)==(i:Int))=true↔i∈(eI r).take (q+1) from sS.out)
            go_wp2_with fail;(go_quiet(fail));generalize S7:World.drewN wk _=wq;have wW:Hid (Below wk.heap.size wk wq):=zh aCC;clear S7;have tP:=zh (aB GJ.out wW.out);go_wp2_with fail;go_roundw;(case rel=>exact⟨q+1,_,aAM,rfl,aAV,sS,tP⟩);case measure=>simp[intOf];omega
          obtain rfl:q=(eI r).length:=aAM;have HBi:Hid (bb=true↔i∈eI r):=zh (by have h:=wF.out;rwa [List.take_length] at h)
          replace HB:=zh (HB.out.later GJ.out)
          replace wH:=zh (aB wH.out GJ.out)
          replace p0:=aC GJ.out p0
          replace p1:=aC GJ.out p1
          replace p2:=aC GJ.out p2
          clear wF GJ hlq;obtain⟨r0,r1,r2⟩:=bD HB.out.r0;obtain⟨v0,v1,v2⟩:=bD HB.out.r1;go_wp2_with fail;refine wp_region_held_drew (S:=fun W=>Below wk.heap.size wk W) aAN (Below.refl _ _).drew fun hS=>?_;refine zt 0 (oBx25 ai r.inputs.length ci av L.length cv r.output) rfl (fun W hW=>aBp) ?_;refine zq 1 (.slice (some ⟨bl,ol,none⟩) La.length cl) rfl ?_;refine zq 2 (.int .i64 (z:Int)) rfl ?_;refine zq 3 (.pointer (some ⟨bl,ol+z*3,none⟩)) rfl ?_;refine zt 4 (oBx34 (i:Int) sa0 dsaw.length sc0 dout) rfl (fun W hW=>aDc) ?_;refine zt 5 (mQ a1 ck.length c1 a2 od.length c2 a3 nx.length c3) rfl (fun W hW=>by have v0:=aC hW v0;have v1:=aC hW v1;have v2:=aC hW v2;go_simp) ?_;(try simp only[zn]);refine zr 6 rfl (fun K hK=>?_);(try simp only[z1,z2,z3]);go_simp;have XP:=zh (aE wk);have AO:=zh (HB.out.later XP.out);refine(replay_back bC r L _ _ _ _ _ _ st i dsaw dout ck od nx wk.drew (HR.out.later AO.out.below) (HV.out.later AO.out.below) (HG.out.later AO.out.below) (readL_right HX.out) CU.out (HSs.out.later AO.out.below) F5.out (rS st)).mono ?_;rintro e wq ⟨t7,c7,rfl,D7,hb⟩;have wW:=zh (aB XP.out hb);clear hb AO XP;refine hK.out _ _ wW.out (fun hS=>?_);clear hK K;refine zq 7 (.tuple #[.string t7,.int .i64 c7]) rfl ?_;refine zq 8 (.string t7) rfl ?_;refine zq 9 (.int .i64 c7) rfl ?_;refine zq 10 (.string t7) rfl ?_;refine zq 11 (.int .i64 c7) rfl ?_;(try simp only[zn]);refine wpAnyH_done aAN ?_ _;clear hS
          replace HB:=zh (HB.out.later wW.out)
          replace wH:=zh (aB wH.out wW.out)
          replace p2:=aC wW.out p2
          clear wW p0 p1;clear r0 r1 r2 v0 v1 v2
          cases bb with
          |false=>
           have UG:=zh (LX.out.next HY.out rfl CU.out (fun hm=>absurd (HBi.out.2 hm) Bool.false_ne_true));exact aAm
          |true=>
           by_cases hc:c7=0
           ·by_cases ht:t7=dout
            ·have UG:=zh (LX.out.next HY.out rfl CU.out (fun _=>D7.out hc ht));subst hc ht;exact aAm
            (have ht2:(t7.toList==dout.toList)=false:=by rw[bI];exact Qb ht);subst hc;clear ht D7;exact YH
           (have e0:(c7==0)=false:=by rw[Qa];exact hc);(have e1:(c7 != 0)=true:=by rw[bne_iff_ne];exact hc);clear hc D7;exact YH
        obtain rfl:z=La.length:=aAM
        have HC:Hid (ea=0->sa=u0):=zh (fun e0=>by
         obtain⟨a,ha⟩:=zY.out e0;have h:=convicts_law K6.out HX.out HInp.out (LX.out.last (by rw[List.length_map];exact Nat.le_refl _)) ha;rw[HU0.out] at h
         exact(Option.some.inj h).symm)
        clear LX zY TC;obtain⟨r0,r1,r2⟩:=bD HB.out.r0;obtain⟨v0,v1,v2⟩:=bD HB.out.r1;go_wp2_with fail;refine(oR r L La _ _ _ r.output wz (HR.out.later HB.out.below) (xF.out.later HB.out.below) hoz).mono ?_;rintro e w20 ⟨rfl,hb⟩;rw[HTo.out]
        replace HB:=zh (HB.out.later hb)
        clear hb;clear r0 r1 r2 v0 v1 v2;by_cases wY:ea=0
        ·have hsu:=HC.out wY;clear HC HU0 HTo;subst wY hsu;exact YH
        have e0:(ea==0)=false:=aC3;(have e1:(ea != 0)=true:=by rw[bne_iff_ne];exact wY);clear wY HC;exact YH
end Go.Proofs.YtacgopankhpnbaaGreatDoor
