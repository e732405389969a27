/- Texts of this seat, joined. -/
import Derived.Test.YtacgopankhpnbaaGreatDoorRunAxSa
import Derived.Test.YtacgopankhpnbaaGreatDoorSameLawxSa
import Derived.Test.YtacgopankhpnbaaGreatDoorKBE
set_option linter.unusedVariables false
set_option linter.unusedSimpArgs false
namespace Go.Proofs.YtacgopankhpnbaaGreatDoor
set_option maxHeartbeats 4000000
set_option maxRecDepth 100000
open Go.RowKit
theorem set3{w:World}{k:Nat}{x y z x' y' z':Value}{t:TypeId}(h:w.heap[k]? =some (.cells #[x,y,z] t)):(((w.setCell ⟨k,0,none⟩ x').setCell ⟨k,1,none⟩ y').setCell ⟨k,2,none⟩ z').heap[k]? =some (.cells #[x',y',z'] t):=by
 exact tS
theorem RunIs.later{res:Except Int (List Dn×ByteArray)}{va:Value}{sa:ByteArray}{ea:Int}{w w':World}(h:RunIs res va sa ea w)(hb:Below w.heap.size w w'):RunIs res va sa ea w':=by
 rcases h with h|⟨out,L,h1,h2,h3,h4⟩
 ·exact .inl h
 ·exact .inr ⟨out,L,h1,h2,h3.later hb,h4⟩
theorem pQ{Ld:List (Value×Dn)}{i:Int}{d:Dn}(h:dnFind (Ld.map (·.2)) i=some d):∃k v,Ld[k]? =some (v,d)/\d.step=i/\∀y∈Ld.take k,decide (y.2.step=i)=false:=by
 unfold dnFind at h;rw[List.find?_eq_some_iff_getElem] at h;obtain⟨h1,k,hk,e,h2⟩:=h;rw[List.length_map] at hk;refine⟨k,Ld[k].1,?_,by simpa using h1,fun y hy=>?_⟩
 ·rw[List.getElem?_eq_getElem hk];rw[List.getElem_map] at e;rw[<-e]
 ·obtain⟨j,hj,ej⟩:=List.getElem_of_mem hy;rw[List.length_take] at hj;have:=h2 j vT;rw[List.getElem_map] at this;rw[List.getElem_take] at ej;rw[<-ej];simpa using this
def FindPost(y:Value×Dn)(w:World)(e:Ending)(w':World):Prop:=e=.returned (.tuple #[.agg #[.int .i64 y.2.step,y.1,.string y.2.out],.bool true])/\Below w.heap.size w w'
theorem find33_any(Ld:List (Value×Dn))(vl:Value)(i:Int)(q:Nat)(y:Value×Dn)(w:World)(h:Dns w vl Ld)(hq:Ld[q]? =some y)(hi:y.2.step=i)(hno:∀y∈Ld.take q,decide (y.2.step=i)=false):
  Calls Tryz.prog 31 #[vl,.int .i64 i] w (FindPost y w):=by
 obtain⟨a1,c1,rfl,hl,h1⟩:=dns_at h;have H1:=zh h1;have HNo:=zh hno;have hqn:q<Ld.length:=(List.getElem?_eq_some_iff.1 hq).1;have HQ:=zh hq;clear h h1 hno hq;subst hi;obtain⟨W,hW⟩:∃W,W=w.alloc (.cells #[.int .i64 0,.slice none 0 0,.string ⟨#[]⟩] 59):=⟨_,rfl⟩;have HB:=zh (show Below w.heap.size w W by rw[hW];exact aA _ _);have hX:=heap_alloc_new w (.cells #[.int .i64 0,.slice none 0 0,.string ⟨#[]⟩] 59);rw[<-hW] at hX;have HX:=zh hX;clear hX;go_enter Tryz.func31,Tryz.ntmps31;go_wp2_with fail;rw[<-hW];clear hW;go_loop [6] (fun kv=>∃k:Nat,k<=q/\kv=.int .i64 k) (fun kv=>Ld.length-(intOf kv).toNat)
 case atStart=>exact⟨0,Nat.zero_le _,rfl⟩
 case round=>
  obtain⟨k,hk,rfl⟩:=hrel;have hlt:k<Ld.length:=vT;obtain⟨z,hz,-⟩:=getElem?_of_lt hlt;obtain⟨b,o,rfl,d0,d1,d2,hS,-⟩:=H1.out k z hz;have d0:=aC HB.out d0;have d1:=aC HB.out d1;have d2:=aC HB.out d2;obtain⟨⟨x0,x1,x2⟩,f0,f1,f2⟩:=bx3 HX.out;by_cases hkq:k=q
  ·subst hkq;(have hyz:z=y:=by have:=HQ.out;rw[hz] at this;exact Option.some.inj this);subst hyz;obtain⟨sa,sc,hs⟩:=cB hS;obtain⟨yv,d⟩:=z;dsimp only at d0 d1 d2 hs ⊢;subst hs;clear hz hS;go_wp2_with fail;have HZ:=zh (set3 (x':=.int .i64 d.step) (y':=.slice sa d.saw.length sc) (z':=.string d.out) HX.out);have HBz:=zh (((HB.out.setCell (p:=⟨w.heap.size,0,none⟩) (Nat.le_refl _) (.int .i64 d.step)).setCell (p:=⟨w.heap.size,1,none⟩) (Nat.le_refl _) (.slice sa d.saw.length sc)).setCell (p:=⟨w.heap.size,2,none⟩) (Nat.le_refl _) (.string d.out));generalize ((W.setCell ⟨w.heap.size,0,none⟩ (.int .i64 d.step)).setCell ⟨w.heap.size,1,none⟩ (.slice sa d.saw.length sc)).setCell ⟨w.heap.size,2,none⟩ (.string d.out)=W3 at HZ HBz ⊢;clear x0 x1 x2 f0 f1 f2;obtain⟨⟨x0,x1,x2⟩,-⟩:=bx3 HZ.out;refine bodyPost_ret (v:=.tuple #[.agg #[.int .i64 d.step,.slice sa d.saw.length sc,.string d.out],.bool true]) (by simp[results,Tryz.results31,go_sem,x0,x1,x2]) rfl ?_;exact⟨rfl,HBz.out⟩
  ·have hne:(z.2.step==y.2.step)=false:=by
    rw[beq_eq_false_iff_ne];have:=HNo.out z (List.mem_of_getElem? (i:=k) (by rw[List.getElem?_take,if_pos vT];exact hz));simpa using this
   clear hz hS;go_wp2_with fail
   go_round
   (case rel=>exact⟨k+1,vT,wH⟩);case measure=>simp[intOf];omega
def lZ(r:Rcp)(k:Nat):Bool:=(r.steps.take k).all cH
theorem pureTo_succ{r:Rcp}{k:Nat}{s:Stp}(h:r.steps[k]? =some s):lZ r (k+1)=(lZ r k&&cH s):=by
 unfold lZ;rw[List.take_add_one,h];simp
theorem pureTo_all{r:Rcp}(h:lZ r r.steps.length=true):∀s∈r.steps,cH s=true:=by
 unfold lZ at h;rw[List.take_length] at h;exact List.all_eq_true.1 h
set_option maxHeartbeats 16000000
theorem rE{p:Prop}(h:p:=by
 clear hb;clear r0 r1 r2 v0 v1 v2 x0 x1 x2;obtain⟨a9,c9,rfl,h9,hat⟩:=ints_at hI;rw[show(bI (eG r)).length=(eG r).length by simp[bI]] at h9 ⊢;have HI:=zh hat;clear hI hat;go_wp2_with fail;go_loopw [17] (fun iv wz=>∃z:Nat,z<=(eG r).length/\iv=.int .i64 (z:Int)/\Hid (BsW w (dG (.slice ai r.inputs.length ci) (.slice av L.length cv) r.output) (kY (.slice a1 ck.length c1) (.slice a2 od.length c2) (.slice a3 nx.length c3)) (kY (.slice b1 ck2.length d1) (.slice b2 od2.length d2) (.slice b3 nx2.length d3)) wz)/\Hid (Below w9.heap.size w9 wz)) (fun iv _=>(eG r).length-(intOf iv).toNat)
 case atStart=>exact⟨0,Nat.zero_le _,rfl,HB,zh (Below.refl _ _)⟩
 case round=>
  clear HB;obtain⟨z,hz,rfl,HB,HBz⟩:=hrel;rename World=>wz
  by_cases hlz:z<(eG r).length
  ·obtain⟨i,hi,him⟩:=getElem?_of_lt hlz;obtain⟨x,y,hx,hy,e1,e2,e3⟩:=HSl.out i him;obtain⟨qa,va,ga,ia,na⟩:=pQ hx;obtain⟨qb,vb,gb,ib,nb⟩:=pQ hy;obtain⟨b,o,rfl,hc⟩:=HI.out z (i:Int) (by rw[bI,List.getElem?_map,hi];rfl);have hc:=aC HBz.out hc;have HFa:=zh (fun W(hb:Below w9.heap.size w9 W)=>find33_any La _ (i:Int) qa (va,x) W (HDa.out.later hb) ga ia na);have HFb:=zh (fun W(hb:Below w9.heap.size w9 W)=>find33_any Lb _ (i:Int) qb (vb,y) W (HDb.out.later hb) gb ib nb);obtain⟨_,_,-,-,hata⟩:=dns_at HDa.out;obtain⟨_,_,-,-,hatb⟩:=dns_at HDb.out;obtain⟨_,_,-,-,-,-,hSx,-⟩:=hata qa _ ga;obtain⟨_,_,-,-,-,-,hSy,-⟩:=hatb qb _ gb;dsimp only at hSx hSy;rw[<-e2] at hSy;obtain⟨sxa,sxc,rfl⟩:=cB hSx;obtain⟨sya,syc,rfl⟩:=cB hSy;have HSx:=zh hSx;have HSy:=zh hSy;obtain⟨xs,xsaw,xo⟩:=x;obtain⟨ys,ysaw,yo⟩:=y;dsimp only[FindPost] at e1 e2 e3 HFa HFb HSx HSy ia ib;subst e1 e2 e3;clear ga gb ia ib na nb hx hy hi him hata hatb hSx hSy;go_wp2_with fail;refine(HFa.out _ HBz.out).mono ?_;rintro e w10 ⟨rfl,hb10⟩;have HB10:=zh (aB HBz.out hb10);have hc:=aC hb10 hc;have HXa:=zh (heap_alloc_new w10 (.cells #[.int .i64 xs,.slice sxa xsaw.length sxc,.string xo] 59));have HB11:=zh (aB HB10.out (aA w10 (.cells #[.int .i64 xs,.slice sxa xsaw.length sxc,.string xo] 59)));have hc:=aC (aA w10 (.cells #[.int .i64 xs,.slice sxa xsaw.length sxc,.string xo] 59)) hc;have HBb:=zh (HB.out.later (aB hb10 (aA w10 (.cells #[.int .i64 xs,.slice sxa xsaw.length sxc,.string xo] 59))));clear hb10;go_wp2_with fail;refine(HFb.out _ HB11.out).mono ?_;rintro e w12 ⟨rfl,hb12⟩;have HXa2:=zh (aD (aB hb12 (aA w12 (.cells #[.int .i64 xs,.slice sya xsaw.length syc,.string xo] 59))) HXa.out);have HXb:=zh (heap_alloc_new w12 (.cells #[.int .i64 xs,.slice sya xsaw.length syc,.string xo] 59));have HB13:=zh (aB (aB HB11.out hb12) (aA w12 (.cells #[.int .i64 xs,.slice sya xsaw.length syc,.string xo] 59)))
   replace HBb:=zh (HBb.out.later (aB hb12 (aA w12 (.cells #[.int .i64 xs,.slice sya xsaw.length syc,.string xo] 59))))
   obtain⟨⟨p0,p1,p2⟩,-⟩:=bx3 HXa2.out;obtain⟨⟨q0,q1,q2⟩,-⟩:=bx3 HXb.out;clear hb12 hc;go_wp2_with fail;refine(sameOne_same xs xo xsaw _ _ _ (HSx.out.later HB13.out) (HSy.out.later HB13.out)).mono ?_;rintro e w14 ⟨rfl,hb14⟩;go_wp2_with fail;go_roundw;(case rel=>exact⟨z+1,vT,wH,zh (HBb.out.later hb14),zh (aB HB13.out hb14)⟩);case measure=>simp[intOf];omega
  ·go_wp2_with fail;go_ret
   exact⟨rfl,HB.out.below⟩):p:=h
theorem sC{p:Prop}(h:p:=by
 go_wp2_with fail;go_ret
 exact⟨rfl,HB.out.below⟩):p:=h
structure BsW (w:World) (a b c:Obj) (wr:World):Prop where
 r0:wr.heap[w.heap.size]? =some a
 r1:wr.heap[w.heap.size+1]? =some b
 r2:wr.heap[w.heap.size+1+1]? =some c
 below:Below w.heap.size w wr
theorem BsW.later{w:World}{a b c:Obj}{wr w':World}(h:BsW w a b c wr)(hb:Below wr.heap.size wr w'):BsW w a b c w':=
 ⟨aD hb h.r0,aD hb h.r1,aD hb h.r2,aB h.below hb⟩
theorem BsW.first(w:World)(a b c:Obj):BsW w a b c (((w.alloc a).alloc b).alloc c):=by
 have e1:=aN (w.alloc a) b;have e2:=aN ((w.alloc a).alloc b) c;simp only[World.size_alloc] at e1 e2;exact⟨aD (aB (aA _ _) (aA _ _)) (aN w a),aD (aA _ _) e1,e2,aB (aB (aA _ _) (aA _ _)) (aA _ _)⟩
theorem buildSame_any(r:Rcp)(L:List (Value×Stp))(vi vs vc vo vn vc2 vo2 vn2:Value)(ck od nx ck2 od2 nx2:List Int)(w:World)(h:fZ r L vi vs w)(h1:oX ck od nx vc vo vn w)(h2:oX ck2 od2 nx2 vc2 vo2 vn2 w)(hG:bV w):
  Calls Tryz.prog 7 #[nD vi vs r.output,.agg #[vc,vo,vn],.agg #[vc2,vo2,vn2]] w (OkBelow w):=by
 have HR:=zh h;have HV:=zh h1;have HW:=zh h2;have HG:=zh hG;obtain⟨⟨a1,c1,rfl⟩,⟨a2,c2,rfl⟩,⟨a3,c3,rfl⟩⟩:=h1.slices;obtain⟨⟨b1,d1,rfl⟩,⟨b2,d2,rfl⟩,⟨b3,d3,rfl⟩⟩:=h2.slices;obtain⟨ai,ci,av,cv,rfl,rfl⟩:=h.slices;have hlen:=h.len;have HLen:=zh hlen;have hll:L.length<=9223372036854775807:=by obtain⟨a,c,e,hl,-⟩:=stps_at h.stp;exact hl
 clear h h1 h2 hG hlen;have HB:=zh (BsW.first w (dG (.slice ai r.inputs.length ci) (.slice av L.length cv) r.output) (kY (.slice a1 ck.length c1) (.slice a2 od.length c2) (.slice a3 nx.length c3)) (kY (.slice b1 ck2.length d1) (.slice b2 od2.length d2) (.slice b3 nx2.length d3)));go_enter Tryz.func7,Tryz.ntmps7;go_wp2_with fail;refine(small33_any _ (HG.out.later HB.out.below)).mono ?_;rintro e w1 ⟨rfl,hb⟩
 replace HB:=zh (HB.out.later hb)
 clear hb;obtain⟨r0,r1,r2⟩:=gY HB.out.r0;obtain⟨v0,v1,v2⟩:=gY HB.out.r1;obtain⟨x0,x1,x2⟩:=gY HB.out.r2;go_wp2_with fail;refine(few_any r L _ _ w1 (HR.out.later HB.out.below)).mono ?_;rintro e w2 ⟨q,rfl,-,hb⟩
 replace HB:=zh (HB.out.later hb)
 clear hb;clear r0 r1 r2 v0 v1 v2 x0 x1 x2
 cases q with
 |false=>
  exact sC
 |true=>
  obtain⟨r0,r1,r2⟩:=gY HB.out.r0;obtain⟨v0,v1,v2⟩:=gY HB.out.r1;obtain⟨x0,x1,x2⟩:=gY HB.out.r2;go_wp2_with fail;refine(light_any _ _ _ _ _ _ _ _ _ w2).mono ?_;rintro e w3 ⟨q,rfl,hb⟩
  replace HB:=zh (HB.out.later hb)
  clear hb;clear r0 r1 r2 v0 v1 v2 x0 x1 x2
  cases q with
  |false=>
   exact sC
  |true=>
   obtain⟨r0,r1,r2⟩:=gY HB.out.r0;obtain⟨v0,v1,v2⟩:=gY HB.out.r1;obtain⟨x0,x1,x2⟩:=gY HB.out.r2;go_wp2_with fail;refine(light_any _ _ _ _ _ _ _ _ _ w3).mono ?_;rintro e w4 ⟨q,rfl,hb⟩
   replace HB:=zh (HB.out.later hb)
   clear hb;clear r0 r1 r2 v0 v1 v2 x0 x1 x2
   cases q with
   |false=>
    exact sC
   |true=>
    obtain⟨r0,r1,r2⟩:=gY HB.out.r0;obtain⟨v0,v1,v2⟩:=gY HB.out.r1;obtain⟨x0,x1,x2⟩:=gY HB.out.r2;go_wp2_with fail;refine(pure_any r L _ _ w4 (HR.out.later HB.out.below)).mono ?_;rintro e w5 ⟨rfl,hb⟩
    replace HB:=zh (HB.out.later hb)
    clear hb;clear r0 r1 r2 v0 v1 v2 x0 x1 x2
    cases hpu:pureL r with
    |false=>
     exact sC
    |true=>
     have HPu:=zh hpu;clear hpu;obtain⟨r0,r1,r2⟩:=gY HB.out.r0;obtain⟨v0,v1,v2⟩:=gY HB.out.r1;obtain⟨x0,x1,x2⟩:=gY HB.out.r2;go_wp2_with fail;refine(pF r L _ _ _ _ _ ck od nx w5 (HR.out.later HB.out.below) (HV.out.later HB.out.below) (HG.out.later HB.out.below)).mono ?_;rintro e w6 ⟨xa,na,ca,sa,ea,rfl,HRa,hb⟩
     replace HB:=zh (HB.out.later hb)
     clear hb;clear r0 r1 r2 v0 v1 v2 x0 x1 x2;obtain⟨r0,r1,r2⟩:=gY HB.out.r0;obtain⟨v0,v1,v2⟩:=gY HB.out.r1;obtain⟨x0,x1,x2⟩:=gY HB.out.r2;go_wp2_with fail;refine(pF r L _ _ _ _ _ ck2 od2 nx2 w6 (HR.out.later HB.out.below) (HW.out.later HB.out.below) (HG.out.later HB.out.below)).mono ?_;rintro e w7 ⟨xb,nb,cb,sb,eb,rfl,HRb,hb⟩
     replace HB:=zh (HB.out.later hb)
     replace HRa:=zh (HRa.out.later hb)
     clear hb;clear r0 r1 r2 v0 v1 v2 x0 x1 x2;go_wp2_with fail;(go_loopw [14,15] (fun pv iv wr=>∃k:Nat,k<=L.length/\pv=.bool (lZ r k)/\iv=.int .i64 (k:Int)/\Hid (BsW w (dG (.slice ai r.inputs.length ci) (.slice av L.length cv) r.output) (kY (.slice a1 ck.length c1) (.slice a2 od.length c2) (.slice a3 nx.length c3)) (kY (.slice b1 ck2.length d1) (.slice b2 od2.length d2) (.slice b3 nx2.length d3)) wr)/\Hid (Below w7.heap.size w7 wr)) (fun _ iv _=>L.length-(intOf iv).toNat));case atStart=>exact⟨0,Nat.zero_le _,rfl,rfl,HB,zh (Below.refl _ _)⟩
     case round=>
      clear HB;obtain⟨k,hk,rfl,rfl,HB,HBr⟩:=hrel;(rename World=>wr);obtain⟨r0,r1,r2⟩:=gY HB.out.r0;obtain⟨v0,v1,v2⟩:=gY HB.out.r1;obtain⟨x0,x1,x2⟩:=gY HB.out.r2;by_cases hlt:k<L.length
      ·obtain⟨y,hy,-⟩:=getElem?_of_lt hlt;have HPs:Hid (lZ r (k+1)=(lZ r k&&cH y.2)):=zh (pureTo_succ (by rw[<-HR.out.map,List.getElem?_map,hy];rfl))
       cases hpk:lZ r k with
       |false=>
        have HPk:Hid (lZ r (k+1)=false):=zh (by rw[HPs.out,hpk];rfl);clear hpk HPs hy;go_wp2_with fail;go_roundw;(case rel=>exact⟨k+1,vT,by rw[HPk.out],wH,HB,HBr⟩);case measure=>simp[intOf];omega
       |true=>
        have HPk:Hid (lZ r (k+1)=cH y.2):=zh (by rw[HPs.out,hpk];rfl);obtain⟨sl,cs,e,-,hat⟩:=stps_at (HR.out.later HB.out.below).stp;obtain⟨rfl,rfl⟩:av=sl/\cv=cs:=xM;obtain⟨b,o,rfl,y0,y1,y2,y3,hS,hz⟩:=hat k y hy;have HSp:=zh (lU y.2 y.1 wr hS hz);obtain⟨yv,s⟩:=y;dsimp only at y0 y1 y2 y3 HSp HPk hS;obtain⟨sa0,sc0,rfl⟩:=cB hS;clear hpk HPs hy hat e hS;go_wp2_with(go_at_call 18;refine HSp.out.mono ?_;rintro e w8 ⟨rfl,hb8⟩);go_roundw;(case rel=>exact⟨k+1,vT,by rw[HPk.out],wH,zh (HB.out.later hb8),zh (aB HBr.out hb8)⟩);case measure=>simp[intOf];omega
      ·obtain rfl:k=L.length:=vT
       replace HRa:=zh (HRa.out.later HBr.out)
       replace HRb:=zh (HRb.out.later HBr.out)
       clear HBr hlt;by_cases hea:ea=0
       ·by_cases heb:eb=0
        ·subst hea heb;obtain⟨outA,La,hra,hda,hma⟩:=HRa.out.ok;obtain⟨outB,Lb,hrb,hdb,hmb⟩:=HRb.out.ok;obtain⟨hst,hsl⟩:=same_law HPu.out hra hrb;subst hst hma hmb;have HSl:=zh hsl;have HDa:=zh hda;have HDb:=zh hdb;clear hra hrb hda hdb hsl HRa HRb
         cases lZ r L.length with
         |false=>
          go_wp2_with fail;refine(qC r L _ _ wr (HR.out.later HB.out.below)).mono ?_;rintro e w9 ⟨v9,rfl,hI,-,hb⟩
          replace HB:=zh (HB.out.later hb)
          replace HDa:=zh (HDa.out.later hb)
          replace HDb:=zh (HDb.out.later hb)
          exact rE
         |true=>
          go_wp2_with fail;refine(qC r L _ _ wr (HR.out.later HB.out.below)).mono ?_;rintro e w9 ⟨v9,rfl,hI,-,hb⟩
          replace HB:=zh (HB.out.later hb)
          replace HDa:=zh (HDa.out.later hb)
          replace HDb:=zh (HDb.out.later hb)
          exact rE
        ·(have e2:(eb==0)=false:=by rw[beq_eq_false_iff_ne];exact heb);(have e3:(eb != 0)=true:=by rw[bne_iff_ne];exact heb);subst hea
         have HNo:Hid (lZ r L.length=false):=zh (by
          rw[<-Bool.not_eq_true];intro hp;rw[<-HLen.out] at hp;obtain⟨outA,La,hra,-⟩:=HRa.out.ok;obtain⟨q,hq⟩:=all_law (ck2:=ck2) (od2:=od2) (nx2:=nx2) (pureTo_all hp) hra (pureL_ok HPu.out).1 rfl (fun s hs=>hs);have:=(HRb.out.bad heb).1;rw[hq] at this
          cases this)
         rw[HNo.out];clear heb;exact sC
       ·(have e0:(ea==0)=false:=by rw[beq_eq_false_iff_ne];exact hea);have e1:(ea != 0)=true:=by rw[bne_iff_ne];exact hea
        cases hp:lZ r L.length with
        |false=>
         clear hp hea;exact sC
        |true=>
         have heb:eb≠0:=by
          intro e;subst e;rw[<-HLen.out] at hp;obtain⟨outB,Lb,hrb,-⟩:=HRb.out.ok;obtain⟨q,hq⟩:=all_law (ck2:=ck) (od2:=od) (nx2:=nx) (pureTo_all hp) hrb (pureL_ok HPu.out).1 rfl (fun s hs=>hs);have:=(HRa.out.bad hea).1;rw[hq] at this;cases this
         (have e2:(eb==0)=false:=by rw[beq_eq_false_iff_ne];exact heb);(have e3:(eb != 0)=true:=by rw[bne_iff_ne];exact heb);clear hp hea heb;exact sC
end Go.Proofs.YtacgopankhpnbaaGreatDoor
