/- Texts of this seat, joined. -/
import Derived.Test.YtmpopphjaggeoaaGreatDoorKAA
set_option maxHeartbeats 16000000
set_option maxRecDepth 100000
set_option linter.unusedVariables false
set_option linter.unusedSimpArgs false
set_option linter.constructorNameAsVariable false
namespace Go.Proofs.YtmpopphjaggeoaaGreatDoor
open Go.RowKit Go.Shelf
def pbH(pb:Nat)(w:World)(k:Nat):Prop:=k=pb\/k=w.heap.size
theorem licPart_par(d:Nat)(r:List bA):bX (d+1) (kParL::r)=match licAlt d r with
   |none=>none
   |some (_,[])=>none
   |some (e,u::r')=>if u=kParR then some (e,r') else none:=by
 rw[bX,if_pos rfl];rfl
theorem licPart_word(d:Nat)(t:bA)(r:List bA)(h:t≠kParL):bX (d+1) (t::r)=if eA t then some (.mk 0 t [],r) else none:=by
 rw[bX,if_neg h]
theorem skip_moves{pb B:Nat}{w w3 w5:World}(pM:pb<w.heap.size)(hB:w.heap.size+1<=B)(ho:Off (dY pb) w3 w5):aM (cP B) w3 (cP B) w5:=fun b hb _=>
 ⟨hb,fun o v hv=>ho.cell (fun e=>by have e':b=pb:=e;have h:B<=b:=hb;omega) hv⟩
theorem lpart_one(pb n d:Nat)(HP:∀l w,eE pb l w->l.length<n->Calls Tryz.prog 135 #[.pointer (some ⟨pb,0,none⟩)] w fun e w'=>PartQ (fun l=>eR 2 kOrL (fun l=>eR 1 iG (bX d) (l.length+1) [] l) (l.length+1) [] l) pb l w e w')
  (l:List bA) (w:World) (h:eE pb l w) (hn:l.length<=n):Calls Tryz.prog 217 #[.pointer (some ⟨pb,0,none⟩)] w fun e w'=>PartQ (bX (d+1)) pb l w e w':=by
 have pM:pb<w.heap.size:=by obtain⟨v,h1,-⟩:=h;exact(Array.getElem?_eq_some_iff.1 h1).1
 have HA:=zh (bY w (.cells #[.int .i64 0,.string ⟨#[]⟩,.slice none 0 0] 123));have HK:=zh (lskip_any pb kParL l (w.alloc (.cells #[.int .i64 0,.string ⟨#[]⟩,.slice none 0 0] 123)) (h.later (aB _ _)));clear h;go_enter Tryz.func217,Tryz.ntmps217;go_wp2_with fail;refine HK.out.mono ?_;rintro e w1 ⟨b0,l1,rfl,pH,oF,jG⟩;have lE:w.heap.size+1<=w1.heap.size:=by have:=oF.size;simpa using this
 have R1:=zh (oF.heap (show ¬dY pb _ from fun e=>DN) HA.out);have lO:=zh ((Ba (S:=dY pb) (aB w (.cells #[.int .i64 0,.string ⟨#[]⟩,.slice none 0 0] 123))).trans oF);have sU:=zh pH;clear HK pH oF;rcases jG with⟨rfl,sB⟩|⟨rfl,rfl,-,nA⟩
 ·have HL:=zh sB;have hln:l1.length<n:=by rw[sB,List.length_cons] at hn;omega
  clear sB;go_wp2_with fail;refine(HP l1 w1 sU.out hln).mono ?_;rintro e w2 ⟨cs,x,ok,l2,rfl,hx,ht,ho,oF,nD⟩;obtain⟨nm,a,c,rfl,-,oU⟩:=dJ hx;clear oU;obtain⟨xo,nH⟩:∃xo,xo=x.op:=⟨_,rfl⟩;rw[<-nH] at hx ⊢;clear nH;have nN:w.heap.size+1<=w2.heap.size:=Nat.le_trans lE ho.size;obtain⟨w3,tK⟩:∃w3,w3=w2.alloc (.cells #[.int .i64 xo,.string nm,.slice a x.args.length c] 123):=⟨_,rfl⟩;have kW:Below w2.heap.size w2 w3:=by rw[tK];exact aB _ _
  have nO:=zh (aX _ _ _ _ _ _ (aM.later (N:=cP w1.heap.size) kW) hx);have HT3:=zh (ht.later kW);have tI:=zh ((lO.out.trans ho).trans (Ba kW));have R3:=zh (aC kW (ho.heap (show ¬dY pb _ from fun e=>DN) R1.out));have nK:Hid (w3.heap[w2.heap.size]? =some (.cells #[.int .i64 xo,.string nm,.slice a x.args.length c] 123)):=zh (by rw[tK];exact bY w2 _);have qL:=zh oF;have lB:=zh nD;have vJ:¬pbH pb w w2.heap.size:=fun e=>by rcases e with e|e<;>omega
  obtain⟨⟨x0,x1,x2⟩,-⟩:=bx3 nK.out;clear hx ht ho oF nD
  cases ok with
  |false=>
   have HEx:=zh (show licAlt d l1=none from lB.out rfl);clear qL lB;go_wp2_with fail;rw[<-tK];clear tK kW;refine wp_region_held_drew (S:=fun W=>Off (pbH pb w) w3 W) CK ((Off.refl (pbH pb w) w3).drew) fun hS=>?_;refine zt 0 (.agg #[.int .i64 xo,.string nm,.slice a x.args.length c]) rfl (fun W hW=>EW) ?_;refine zq 1 (.bool false) rfl ?_;refine zq 2 (.bool false) rfl ?_;refine zu 3 rfl ?_;refine zu 4 rfl ?_;refine zu 5 rfl ?_;refine zu 6 rfl ?_;refine zq 7 (.bool false) rfl ?_;(try simp only[zn]);have R5:Hid (w3.drew.heap[w.heap.size]? =some (.cells #[.int .i64 0,.string ⟨#[]⟩,.slice none 0 0] 123)):=zh R3.out;have HOW:=zh tI.out.drew;have HTW:=zh (HT3.out.later (aL w3));have HSW:=zh ((Off.refl (pbH pb w) w3).drew);have HSP:=zh ((Off.refl (dY pb) w3).drew);generalize w3.drew=w5 at *;have kR:=zh (sev_out HTW.out HOW.out pM R5.out (.int .i64 xo) (.string nm) (.slice a x.args.length c));have qX:=zh (((HSW.out.trans (Off.setCell (S:=pbH pb w) (b:=w.heap.size) (o:=0) (v:=.int .i64 xo) _ (.inr rfl))).trans (Off.setCell (S:=pbH pb w) (b:=w.heap.size) (o:=1) (v:=.string nm) _ (.inr rfl))).trans (Off.setCell (S:=pbH pb w) (b:=w.heap.size) (o:=2) (v:=.slice a x.args.length c) _ (.inr rfl)));obtain⟨⟨p0,p1,p2⟩,r0,r1,r2⟩:=bx3 R5.out;refine zr 8 rfl (fun K hK=>?_);(try simp only[z1,z2,z3]);go_simp;refine hK.out _ _ qX.out (fun hS=>?_);clear hK K;refine zq 9 (.bool false) rfl ?_;(try simp only[zn]);refine wpAnyH_done CK ?_ _;have HMv:=zh (kR.out.2.2.2 (cP w1.heap.size) (fun b hb=>by have h:w1.heap.size<=b:=hb;omega));clear hS p0 p1 p2 r0 r1 r2;generalize ((w5.setCell ⟨w.heap.size,0,none⟩ (.int .i64 xo)).setCell ⟨w.heap.size,1,none⟩ (.string nm)).setCell ⟨w.heap.size,2,none⟩ (.slice a x.args.length c)=w6 at *;obtain⟨⟨c0,c1,c2⟩,-⟩:=bx3 kR.out.1;have HXW:=zh (aX _ _ _ _ _ _ HMv.out (aX _ _ _ _ _ _ (skip_moves pM lE HSP.out) (nO.out:fF (cP w1.heap.size) w3 x _)));go_wp2_with fail;refine bodyPost_ret (v:=.tuple #[.agg #[.int .i64 xo,.string nm,.slice a x.args.length c],.bool false]) EI rfl ?_;exact⟨_,x,false,l2,rfl,HXW.out,kR.out.2.1,kR.out.2.2.1,(fun h=>DX),fun _=>by rw[HL.out,licPart_par,HEx.out]⟩
  |true=>
   have HEx:=zh (show licAlt d l1=some (x,l2) from qL.out rfl);clear qL lB;go_wp2_with fail;rw[<-tK];clear tK kW;refine wp_region_held_drew (S:=fun W=>Off (pbH pb w) w3 W) CK ((Off.refl (pbH pb w) w3).drew) fun hS=>?_;refine zt 0 (.agg #[.int .i64 xo,.string nm,.slice a x.args.length c]) rfl (fun W hW=>EW) ?_;refine zq 1 (.bool true) rfl ?_;refine zq 2 (.bool true) rfl ?_;refine zq 3 (.pointer (some ⟨pb,0,none⟩)) rfl ?_;refine zq 4 (.pointer (some ⟨pb,0,none⟩)) rfl ?_;refine zq 5 (.pointer (some ⟨pb,0,none⟩)) rfl ?_;(try simp only[zn]);refine zr 6 rfl (fun K hK=>?_);(try simp only[z1,z2,z3]);go_simp;refine(lskip_any pb kParR l2 _ (HT3.out.later (aL w3))).mono ?_;rintro e w5 ⟨b,l3,rfl,ht5,ho5,xR⟩;have HO5:=zh (((Off.refl (dY pb) w3).drew).trans ho5);have HO6:=zh (HO5.out.mono (S':=pbH pb w) (fun k hk=>.inl hk));have HT5:=zh ht5;have HC5:=zh xR;clear ht5 ho5 xR;refine hK.out _ _ HO6.out (fun hS=>?_);clear hK K;refine zq 7 (.bool b) rfl ?_;(try simp only[zn]);have R5:=zh (HO5.out.heap (show ¬dY pb _ from fun e=>DN) R3.out);have HOW:=zh (tI.out.trans HO5.out);have HTW:=HT5;have HSW:=HO6;have kR:=zh (sev_out HTW.out HOW.out pM R5.out (.int .i64 xo) (.string nm) (.slice a x.args.length c));have qX:=zh (((HSW.out.trans (Off.setCell (S:=pbH pb w) (b:=w.heap.size) (o:=0) (v:=.int .i64 xo) _ (.inr rfl))).trans (Off.setCell (S:=pbH pb w) (b:=w.heap.size) (o:=1) (v:=.string nm) _ (.inr rfl))).trans (Off.setCell (S:=pbH pb w) (b:=w.heap.size) (o:=2) (v:=.slice a x.args.length c) _ (.inr rfl)));obtain⟨⟨p0,p1,p2⟩,r0,r1,r2⟩:=bx3 R5.out;refine zr 8 rfl (fun K hK=>?_);(try simp only[z1,z2,z3]);go_simp;refine hK.out _ _ qX.out (fun hS=>?_);clear hK K;refine zq 9 (.bool b) rfl ?_;(try simp only[zn]);refine wpAnyH_done CK ?_ _;have HMv:=zh (kR.out.2.2.2 (cP w1.heap.size) (fun b hb=>by have h:w1.heap.size<=b:=hb;omega));clear hS p0 p1 p2 r0 r1 r2;generalize ((w5.setCell ⟨w.heap.size,0,none⟩ (.int .i64 xo)).setCell ⟨w.heap.size,1,none⟩ (.string nm)).setCell ⟨w.heap.size,2,none⟩ (.slice a x.args.length c)=w6 at *;obtain⟨⟨c0,c1,c2⟩,-⟩:=bx3 kR.out.1;have HXW:=zh (aX _ _ _ _ _ _ HMv.out (aX _ _ _ _ _ _ (skip_moves pM (Nat.le_trans lE (Nat.le_refl _)) HO5.out) (nO.out:fF (cP w1.heap.size) w3 x _)));go_wp2_with fail;refine bodyPost_ret (v:=.tuple #[.agg #[.int .i64 xo,.string nm,.slice a x.args.length c],.bool b]) EI rfl ?_;refine⟨_,x,b,l3,rfl,HXW.out,kR.out.2.1,kR.out.2.2.1,fun hb=>?_,fun hb=>?_⟩
   ·rcases HC5.out with⟨-,tO⟩|⟨jO,-⟩
    ·rw[HL.out,licPart_par,HEx.out,tO];rfl
    rw[hb] at jO;cases jO
   rcases HC5.out with⟨jO,-⟩|⟨-,hl3,-,nA⟩
   ·rw[hb] at jO;cases jO
   rw[HL.out,licPart_par,HEx.out]
   cases l2 with
   |nil=>rfl
   |cons u r=>
    have:¬u=kParR:=fun e=>nA r (by rw[e]);simp only[if_neg this]
 have qY:=zh nA;have HW:=zh (lword_any pb l1 w1 sU.out);go_wp2_with fail;refine HW.out.mono ?_;rintro e w2 ⟨nm,b,l2,rfl,vK,nD,mF⟩;have R2:=nD.heap (show ¬dY pb _ from fun e=>DN) R1.out;have kR:=zh (sev_out vK (lO.out.trans nD) pM R2 (.int .i64 0) (.string nm) (.slice none 0 0));have lG:=zh mF;obtain⟨⟨p0,p1,p2⟩,r0,r1,r2⟩:=bx3 R2;clear vK nD mF R2 HW nA;go_wp2_with fail;clear p0 p1 p2 r0 r1 r2;generalize ((w2.setCell ⟨w.heap.size,0,none⟩ (.int .i64 0)).setCell ⟨w.heap.size,1,none⟩ (.string nm)).setCell ⟨w.heap.size,2,none⟩ (.slice none 0 0)=w4 at *;obtain⟨⟨c0,c1,c2⟩,-⟩:=bx3 kR.out.1;refine bodyPost_ret (v:=.tuple #[.agg #[.int .i64 0,.string nm,.slice none 0 0],.bool b]) EI rfl ?_;refine⟨_,.mk 0 nm [],b,l2,rfl,encL_leaf 0 nm,kR.out.2.1,kR.out.2.2.1,fun hb=>?_,fun hb=>?_⟩
 ·rcases lG.out with⟨-,tO,mR⟩|⟨jO,-⟩
  ·rw[tO,licPart_word _ _ _ (fun e=>qY.out l2 (by rw[tO,e])),if_pos mR]
  rw[hb] at jO;cases jO
 rcases lG.out with⟨jO,-⟩|⟨-,hl3,-,tY⟩
 ·rw[hb] at jO;cases jO
 cases l1 with
 |nil=>rw[bX]
 |cons t r=>rw[licPart_word _ _ _ (fun e=>qY.out r (by rw[e])),tY t r rfl];rfl
theorem lparts_any(pb:Nat):∀(n:Nat),n<=100000->∀(d:Nat),n<d->∀(l:List bA)(w:World),eE pb l w->l.length<=n->
  Calls Tryz.prog 217 #[.pointer (some ⟨pb,0,none⟩)] w fun e w'=>PartQ (bX d) pb l w e w'
 |n,pR,0,hd=>CL
 |0,pR,d+1,_=>fun l w h hl=>lpart_one pb 0 d (fun l w _ hl=>absurd hl (Nat.not_lt_zero _)) l w h hl
 |n+1,pR,d+1,hd=>fun l w h hl=>lpart_one pb (n+1) d (fun l w h hl=>
   lalt_any pb n d CL (fun l w h hl=>lseq_any pb n d CL (fun l w h hl=>lparts_any pb n CL d CL l w h hl) l w h hl) l w h CL) l w h hl
theorem lalts_any(pb n d:Nat)(pR:n<=100000)(hd:n<d)(l:List bA)(w:World)(h:eE pb l w)(hl:l.length<=n):
  Calls Tryz.prog 135 #[.pointer (some ⟨pb,0,none⟩)] w fun e w'=>PartQ (licAlt d) pb l w e w':=
 lalt_any pb n d pR (fun l w h hl=>lseq_any pb n d pR (fun l w h hl=>lparts_any pb n pR d hd l w h hl) l w h hl) l w h hl
theorem AZ{p:Prop}(h:p:=by
 have rY:op=1\/((op != 1)=true/\(op != 2)=false):=by rcases pQ with rfl|rfl;exact .inl rfl;exact .inr ⟨rfl,rfl⟩
 clear HE qL pQ HN HI HR;rcases rY with rfl|⟨hp1,hp2⟩
 ·go_enter Tryz.func179,Tryz.ntmps179;go_wp2_with fail;go_ret;exact⟨aQ hR.out.symm,HA.out⟩
 go_enter Tryz.func179,Tryz.ntmps179;go_wp2_with fail;go_ret
 exact⟨aQ hR.out.symm,HA.out⟩):p:=h
theorem BG{p:Prop}(h:p:=by
 have zR:¬(16:Int)<m+sz:=wP;have qE:IntKind.i64.wrap ((k:Int)+1)=(k:Int)+1:=bN CL CL;go_wp2_with fail;go_roundw;case rel=>exact⟨k+1,m+sz,CL,CY,rfl,hbn,CL,hR,qF⟩
 case measure=>simp[intOf];omega):p:=h
theorem BK{p:Prop}(h:p:=by
 rw[List.drop_eq_getElem_cons (by rw[nP.out];exact jL)];congr 1;have:=List.getElem?_eq_getElem (show k<args.length by rw[nP.out];exact jL);rw[hx] at this
 exact(Option.some.inj this).symm):p:=h
theorem BT{p:Prop}(h:p:=by
 have hR:Hid (R=m+sz):=zh (by rw[HNy.out,if_pos wP]);have zR:(16:Int)<m+sz:=wP;go_wp2_with fail;go_ret
 exact⟨aQ hR.out.symm,aA HA.out qF.out⟩):p:=h
theorem B0{p:Prop}(h:p:=by
 clear qL hq;go_wp2_with fail;go_ret
 exact⟨aQ hR.out.symm,jK.out⟩):p:=h
theorem B5{p:Prop}(h:p:=by
 have hR:Hid (R=17):=zh (by rw[pO.out,if_pos nX]);clear nX;go_wp2_with fail;go_ret
 exact⟨aQ hR.out.symm,aA HA.out zZ.out⟩):p:=h
theorem B9{p:Prop}(h:p:=by
 go_wp2_with fail;go_ret
 exact⟨aQ (by rw[AC.out,List.drop_eq_nil_of_le (by rw[nP.out];omega),bR]),aA HA.out HW.out⟩):p:=h
mutual
theorem licSize_le:∀(e:Lic)(lv:Nat),0<=bJ lv e/\bJ lv e<=17+16*(17-lv:Nat)
 | .mk op name args,lv=>by
  unfold bJ;split
  ·split<;>omega
  split
  ·rename_i h;have:=licSizes_le args op lv 0 CL CL h.2.2.2;omega
  omega
theorem licSizes_le:∀(l:List Lic)(op:Int)(lv:Nat)(n:Int),0<=n->n<=16->lv<=16->0<=bR op lv n l/\bR op lv n l<=17+16*(17-lv:Nat)
 |[],op,lv,n,h1,h2,h3=>by unfold bR;omega
 |x::r,op,lv,n,h1,h2,h3=>by
  have hx:=licSize_le x (lv+1);unfold bR;split
  ·omega
  split
  ·omega
  exact licSizes_le r op lv _ CL CL h3
end
theorem licSizes_next{op:Int}{lv:Nat}{n:Int}{x:Lic}{r:List Lic}:bR op lv n (x::r)=if x.op=op then 17 else if n+bJ (lv+1) x>16 then n+bJ (lv+1) x else bR op lv (n+bJ (lv+1) x) r:=by
 rw[bR]
theorem lsize_one(e:Lic)(lv:Nat)(hlv:lv<=17)(ih:∀x∈e.args,∀(N:Nat->Prop)(cs:List Value)(w:World),lv<=16->fF N w x cs->Calls Tryz.prog 179 #[.agg cs.toArray,.int .i64 ((lv:Int)+1)] w fun v w'=>v=.returned (.int .i64 (bJ (lv+1) x))/\Below w.heap.size w w')
  (N:Nat->Prop) (cs:List Value) (w:World) (he:fF N w e cs):Calls Tryz.prog 179 #[.agg cs.toArray,.int .i64 (lv:Int)] w fun v w'=>v=.returned (.int .i64 (bJ lv e))/\Below w.heap.size w w':=by
 obtain⟨op,nm,args⟩:=e;obtain⟨va,rfl,nR⟩:=(encL_iff op nm args cs).1 he;obtain⟨a,c,rfl,-⟩:=id nR;have HX:=zh (bY w (.cells #[.int .i64 op,.string nm,.slice a args.length c] 123));have HA:=zh (aB w (.cells #[.int .i64 op,.string nm,.slice a args.length c] 123));have HR:=zh nR;have HN:=zh (fun W=>named_any nm W);have rZ:∀(x:Bool)(w:World),(Op.unary .not (.bool x)).run Tryz.prog w=.ok (.bool (!x)) w:=fun _ _=>rfl;have HI:=zh ih;obtain⟨⟨x0,x1,x2⟩,-⟩:=bx3 HX.out;simp only[Lic.args] at HI;clear ih he nR;have HE:Hid (∀z,z=bJ lv (.mk op nm args)->z=if op=0 then(if eA nm&&decide (args.length=0) then 1 else 17) else if(op=1\/op=2)/\nm=noB/\2<=args.length/\lv<=16 then bR op lv 0 args else 17):=zh (fun z h=>by rw[h,bJ]);generalize bJ lv (.mk op nm args)=R at *;by_cases h0:op=0
 ·subst h0;go_enter Tryz.func179,Tryz.ntmps179;go_wp2_with fail;refine(HN.out _).mono ?_;rintro e w1 ⟨rfl,kL⟩;have jK:=zh (aA HA.out kL);obtain⟨⟨y0,y1,y2⟩,-⟩:=bx3 (aC kL HX.out);clear kL x0 x1 x2;have qL:=zh (HE.out R rfl);clear HE
  cases hq:eA nm with
  |false=>
   have hR:Hid (R=17):=zh (by rw[qL.out,hq];rfl);exact B0
  |true=>
   by_cases hl:args.length=0
   ·have hR:Hid (R=1):=zh (by rw[qL.out,hq,hl];rfl);have sB:¬(0:Int)<(args.length:Int):=CL;exact B0
   have hR:Hid (R=17):=zh (by rw[qL.out,hq,decide_eq_false hl];rfl);have sB:(0:Int)<(args.length:Int):=CL;exact B0
 have qL:=zh (HE.out R rfl);have h00:(op==0)=false:=by rw[beq_eq_false_iff_ne];exact h0
 by_cases pQ:op=1\/op=2
 ·by_cases mR:nm=noB
  ·by_cases hl:2<=args.length
   ·by_cases hv:lv<=16
    ·(have hR0:R=bR op lv 0 args:=by rw[qL.out,if_neg h0,if_pos ⟨pQ,mR,hl,hv⟩]);have nS:=zh hR0;(have yY:nm.toList=[]:=by rw[mR,Lib.toList_data]);have sB:¬(args.length:Int)<2:=CL;have hv1:¬(16:Int)<(lv:Int):=CL
     obtain⟨b,o,ha,HC⟩:∃b o,a=some ⟨b,o,none⟩/\Hid (∀i x,args[i]? =some x->∃cs,fF N w x cs/\cs.length=3/\∀j u,cs[j]? =some u->w.cell? ⟨b,o+i*3+j,none⟩=some u):=by
      obtain⟨a',c',hv,-,-,h3⟩:=HR.out;obtain⟨b,o,e,-,hx⟩:=h3 (by intro e;rw[e] at hl;simp at hl);cases hv;exact⟨b,o,e,zh hx⟩
     subst ha
     have hnb:args.length<=9223372036854775807:=by
      obtain⟨a',c',hv,h1,h2,-⟩:=HR.out;omega
     have hlw:IntKind.i64.wrap ((lv:Int)+1)=(lv:Int)+1:=bN CL CL;(have hop1:((op != 1)&&(op != 2))=false:=by rcases pQ with rfl|rfl<;>rfl);(have rY:op=1\/((op != 1)=true/\(op != 2)=false):=by rcases pQ with rfl|rfl;exact .inl rfl;exact .inr ⟨rfl,rfl⟩);have HOp:=zh pQ;clear HE qL hR0 pQ mR HN hop1;generalize hn:args.length=n at *;have nP:=zh hn;clear hn;rcases rY with rfl|⟨hp1,hp2⟩
     ·go_enter Tryz.func179,Tryz.ntmps179;go_wp2_with fail;(go_loopw [5,47] (fun nv iv wr=>∃(k:Nat)(m:Int),k<=n/\iv=.int .i64 (k:Int)/\nv=.int .i64 m/\0<=m/\m<=16/\Hid (R=bR 1 lv m (args.drop k))/\Hid (Below (w.alloc (.cells #[.int .i64 1,.string nm,.slice (some ⟨b,o,none⟩) n c] 123)).heap.size (w.alloc (.cells #[.int .i64 1,.string nm,.slice (some ⟨b,o,none⟩) n c] 123)) wr)) (fun _ iv _=>n-(intOf iv).toNat));case atStart=>exact⟨0,0,Nat.zero_le _,rfl,rfl,CL,CL,nS,zh (Below.refl _ _)⟩
      case round=>
       (rename World=>wr);obtain⟨k,m,hk,rfl,rfl,rC,vN,AC,HW⟩:=hrel;by_cases jL:k<n
       ·obtain⟨x,hx,mS⟩:=getElem?_of_lt (show k<args.length by rw[nP.out];exact jL);obtain⟨cs,oU,-,kO⟩:=HC.out k x hx;obtain⟨xn,xa,xc,rfl,-,-⟩:=dJ oU
        have rK:args.drop k=x::args.drop (k+1):=by
         exact BK
        have uD:=aA HA.out HW.out;have q0:=aD uD (kO 0 _ rfl);have q1:=aD uD (kO 1 _ rfl);have q2:=aD uD (kO 2 _ rfl);simp only[Nat.add_zero] at q0 q1 q2;have nM:(0:Int)<=(k:Int)/\(k:Int)<(n:Int):=CL;have mN:=licSize_le x (lv+1);have wZ:=zh (fun W(hb:Below w.heap.size w W)=>HI.out x mS N _ W hv (aX _ _ _ _ _ _ (aM.later hb) oU));have pO:Hid (R=_):=zh (by rw[AC.out,rK,licSizes_next]);obtain⟨xo,nQ⟩:∃xo,xo=x.op:=⟨_,rfl⟩;rw[<-nQ] at q0 wZ pO;have hz:=(bx3 (aC (aB wr (.cells #[.int .i64 xo,.string xn,.slice xa x.args.length xc] 123)) (aC HW.out HX.out))).1;obtain⟨z0,z1,z2⟩:=hz;have zZ:=zh (aA HW.out (aB wr (.cells #[.int .i64 xo,.string xn,.slice xa x.args.length xc] 123)));have hwn:IntKind.i64.wrap (m+bJ (lv+1) x)=m+bJ (lv+1) x:=bN CL CL;have hbn:0<=m+bJ (lv+1) x:=CL;generalize bJ (lv+1) x=sz at *;clear nQ oU kO hx rK mS AC mN x0 x1 x2;have uB:=Classical.em (xo=1);rcases uB with nX|nX
        ·have vJ:(xo==1)=true:=beq_iff_eq.2 nX;exact B5
        have vJ:(xo==1)=false:=beq_eq_false_iff_ne.2 nX;have HNy:Hid (R=if m+sz>16 then m+sz else bR 1 lv (m+sz) (args.drop (k+1))):=zh (by rw[pO.out,if_neg nX]);clear nX;go_wp2_with fail;refine(wZ.out _ (aA HA.out zZ.out)).mono ?_;rintro e w2 ⟨rfl,jO⟩;have qF:=zh (aA zZ.out jO);clear jO z0 z1 z2 q0 q1 q2;by_cases wP:m+sz>16
        ·exact BT
        have hR:=zh (by have:=HNy.out;rw[if_neg wP] at this;exact this:R=bR 1 lv (m+sz) (args.drop (k+1)));exact BG
       exact B9
     go_enter Tryz.func179,Tryz.ntmps179;go_wp2_with fail;(go_loopw [5,47] (fun nv iv wr=>∃(k:Nat)(m:Int),k<=n/\iv=.int .i64 (k:Int)/\nv=.int .i64 m/\0<=m/\m<=16/\Hid (R=bR op lv m (args.drop k))/\Hid (Below (w.alloc (.cells #[.int .i64 op,.string nm,.slice (some ⟨b,o,none⟩) n c] 123)).heap.size (w.alloc (.cells #[.int .i64 op,.string nm,.slice (some ⟨b,o,none⟩) n c] 123)) wr)) (fun _ iv _=>n-(intOf iv).toNat));case atStart=>exact⟨0,0,Nat.zero_le _,rfl,rfl,CL,CL,nS,zh (Below.refl _ _)⟩
     case round=>
      (rename World=>wr);obtain⟨k,m,hk,rfl,rfl,rC,vN,AC,HW⟩:=hrel;by_cases jL:k<n
      ·obtain⟨x,hx,mS⟩:=getElem?_of_lt (show k<args.length by rw[nP.out];exact jL);obtain⟨cs,oU,-,kO⟩:=HC.out k x hx;obtain⟨xn,xa,xc,rfl,-,-⟩:=dJ oU
       have rK:args.drop k=x::args.drop (k+1):=by
        exact BK
       have uD:=aA HA.out HW.out;have q0:=aD uD (kO 0 _ rfl);have q1:=aD uD (kO 1 _ rfl);have q2:=aD uD (kO 2 _ rfl);simp only[Nat.add_zero] at q0 q1 q2;have nM:(0:Int)<=(k:Int)/\(k:Int)<(n:Int):=CL;have mN:=licSize_le x (lv+1);have wZ:=zh (fun W(hb:Below w.heap.size w W)=>HI.out x mS N _ W hv (aX _ _ _ _ _ _ (aM.later hb) oU));have pO:Hid (R=_):=zh (by rw[AC.out,rK,licSizes_next]);obtain⟨xo,nQ⟩:∃xo,xo=x.op:=⟨_,rfl⟩;rw[<-nQ] at q0 wZ pO;have hz:=(bx3 (aC (aB wr (.cells #[.int .i64 xo,.string xn,.slice xa x.args.length xc] 123)) (aC HW.out HX.out))).1;obtain⟨z0,z1,z2⟩:=hz;have zZ:=zh (aA HW.out (aB wr (.cells #[.int .i64 xo,.string xn,.slice xa x.args.length xc] 123)));have hwn:IntKind.i64.wrap (m+bJ (lv+1) x)=m+bJ (lv+1) x:=bN CL CL;have hbn:0<=m+bJ (lv+1) x:=CL;generalize bJ (lv+1) x=sz at *;clear nQ oU kO hx rK mS AC mN x0 x1 x2;have uB:=Classical.em (xo=op);rcases uB with nX|nX
       ·have vJ:(xo==op)=true:=beq_iff_eq.2 nX;exact B5
       have vJ:(xo==op)=false:=beq_eq_false_iff_ne.2 nX;have HNy:Hid (R=if m+sz>16 then m+sz else bR op lv (m+sz) (args.drop (k+1))):=zh (by rw[pO.out,if_neg nX]);clear nX;go_wp2_with fail;refine(wZ.out _ (aA HA.out zZ.out)).mono ?_;rintro e w2 ⟨rfl,jO⟩;have qF:=zh (aA zZ.out jO);clear jO z0 z1 z2 q0 q1 q2;by_cases wP:m+sz>16
       ·exact BT
       have hR:=zh (by have:=HNy.out;rw[if_neg wP] at this;exact this:R=bR op lv (m+sz) (args.drop (k+1)));exact BG
      exact B9
    have hR:Hid (R=17):=zh (by rw[qL.out,if_neg h0,if_neg (fun h=>hv h.2.2.2)]);(have yY:nm.toList=[]:=by rw[mR,Lib.toList_data]);have sB:¬(args.length:Int)<2:=CL;have hv1:(16:Int)<(lv:Int):=CL;clear mR;exact AZ
   have hR:Hid (R=17):=zh (by rw[qL.out,if_neg h0,if_neg (fun h=>hl h.2.2.1)]);(have yY:nm.toList=[]:=by rw[mR,Lib.toList_data]);have sB:(args.length:Int)<2:=CL;clear mR;exact AZ
  have hR:Hid (R=17):=zh (by rw[qL.out,if_neg h0,if_neg (fun h=>mR h.2.1)]);have yY:¬nm.toList=[]:=fun e=>mR ((iC (x:=noB) rfl).2 e);exact AZ
 have hR:Hid (R=17):=zh (by rw[qL.out,if_neg h0,if_neg (fun h=>pQ h.1)]);have hp1:(op != 1)=true:=by rw[bne_iff_ne];exact fun e=>pQ (.inl e)
 have hp2:(op != 2)=true:=by rw[bne_iff_ne];exact fun e=>pQ (.inr e)
 clear HE qL pQ HN HI HR;go_enter Tryz.func179,Tryz.ntmps179;go_wp2_with fail;go_ret;exact⟨aQ hR.out.symm,HA.out⟩
theorem lsize_any:∀(e:Lic)(lv:Nat),lv<=17->∀(N:Nat->Prop)(cs:List Value)(w:World),fF N w e cs->Calls Tryz.prog 179 #[.agg cs.toArray,.int .i64 (lv:Int)] w fun v w'=>v=.returned (.int .i64 (bJ lv e))/\Below w.heap.size w w'
 | .mk op nm args,lv,hlv,N,cs,w,he=>lsize_one (.mk op nm args) lv hlv (fun x hx N cs w hv oU=>by
   have:=lsize_any x (lv+1) CL N cs w oU
   exact this) N cs w he
termination_by e=>SizeOf.sizeOf e
decreasing_by
 have h1:SizeOf.sizeOf x<SizeOf.sizeOf args:=List.sizeOf_lt_of_mem hx;simp only[Lic.mk.sizeOf_spec];omega
theorem lright_any(e:Lic)(N:Nat->Prop)(cs:List Value)(w:World)(he:fF N w e cs):Calls Tryz.prog 136 #[.agg cs.toArray] w fun v w'=>v=.returned (.bool (licRight e))/\Below w.heap.size w w':=by
 obtain⟨nm,a,c,rfl,-,oU⟩:=dJ he;clear oU;have HS:=zh (fun W(hb:Below w.heap.size w W)=>lsize_any e 0 CL N _ W (aX _ _ _ _ _ _ (aM.later hb) he));obtain⟨xo,nQ⟩:∃xo,xo=e.op:=⟨_,rfl⟩;rw[<-nQ] at HS he ⊢;have HX:=zh (bY w (.cells #[.int .i64 xo,.string nm,.slice a e.args.length c] 123));have HA:=zh (aB w (.cells #[.int .i64 xo,.string nm,.slice a e.args.length c] 123));clear he nQ;go_enter Tryz.func136,Tryz.ntmps136;go_wp2_with fail;refine(HS.out _ HA.out).mono ?_;rintro v w2 ⟨rfl,jO⟩;have HB:=zh (aA HA.out jO);clear jO;go_wp2_with fail;go_ret;exact⟨rfl,HB.out⟩
theorem A4{p:Prop}(h:p:=by
 have kR:=zh (lp_out rB.out HA6.out (.int .i64 0) (.string ⟨#[]⟩) (.slice none 0 0));obtain⟨⟨p0,p1,p2⟩,r0,r1,r2⟩:=bx3 HA6.out;go_wp2_with fail;clear p0 p1 p2 r0 r1 r2;generalize (((w5.alloc (.cells #[.int .i64 xo,.string nm,.slice xa x.args.length xc] 123)).setCell ⟨w.heap.size,0,none⟩ (.int .i64 0)).setCell ⟨w.heap.size,1,none⟩ (.string ⟨#[]⟩)).setCell ⟨w.heap.size,2,none⟩ (.slice none 0 0)=w9 at *;obtain⟨⟨c0,c1,c2⟩,-⟩:=bx3 kR.out.1;refine bodyPost_ret (v:=.tuple #[.agg #[.int .i64 0,.string ⟨#[]⟩,.slice none 0 0],.int .i64 2]) EK rfl ?_
 exact⟨_,_,_,_,_,EL,kR.out.2⟩):p:=h
def errL(s:bA):Int:=match eZ s with| .ok _=>0| .error k=>k
def dI(s:bA):List bA:=Lib.splitB spaceB 0 (Lib.countB (cF s) spaceB) (cF s)
def ParseQ(s:bA)(w:World)(e:Ending)(w':World):Prop:=∃(op:Int)(nm:bA)(a:Option Addr)(n c:Nat),e=.returned (.tuple #[.agg #[.int .i64 op,.string nm,.slice a n c],.int .i64 (errL s)])/\Below w.heap.size w w'
theorem licText_size(s:bA):(cF s).size<=5*s.size:=by
 have h:(cF s).size=(s.data.toList.flatMap hJ).length:=by
  unfold cF;show(s.data.toList.flatMap hJ).toArray.size=_;rw[List.size_toArray]
 rw[h,parB_len];have:=parN_take s s.size;rw[List.take_of_length_le CU] at this;have e:s.data.toList.length=s.size:=CU;omega
theorem licParts_len(s:bA):(dI s).length=Lib.countB (cF s) spaceB+1:=by
 exact Lib.splitB_all spaceB CQ 0 _ (cF s) rfl
theorem lp_out{w w7:World}{z0 z1 z2:Value}(hb:Below w.heap.size w w7)(hr:w7.heap[w.heap.size]? =some (.cells #[z0,z1,z2] 123))(y0 y1 y2:Value):
  (((w7.setCell ⟨w.heap.size,0,none⟩ y0).setCell ⟨w.heap.size,1,none⟩ y1).setCell ⟨w.heap.size,2,none⟩ y2).heap[w.heap.size]? =some (.cells #[y0,y1,y2] 123)/\
  Below w.heap.size w (((w7.setCell ⟨w.heap.size,0,none⟩ y0).setCell ⟨w.heap.size,1,none⟩ y1).setCell ⟨w.heap.size,2,none⟩ y2):=
 ⟨by rw[aG (aG (aG hr _ _) _ _) _ _];rfl,((hb.setCell (p:=⟨w.heap.size,0,none⟩) (Nat.le_refl _) _).setCell (p:=⟨w.heap.size,1,none⟩) (Nat.le_refl _) _).setCell (p:=⟨w.heap.size,2,none⟩) (Nat.le_refl _) _⟩
theorem errL_none{s:bA}(h:¬1000<s.size)(ha:licAlt ((eQ s).length+1) (eQ s)=none):errL s=2:=by
 unfold errL eZ;rw[if_neg h,ha]
theorem errL_rest{s:bA}{x:Lic}{t:bA}{r:List bA}(h:¬1000<s.size)(ha:licAlt ((eQ s).length+1) (eQ s)=some (x,t::r)):errL s=2:=by
 unfold errL eZ;rw[if_neg h,ha]
theorem errL_all{s:bA}{x:Lic}(h:¬1000<s.size)(ha:licAlt ((eQ s).length+1) (eQ s)=some (x,[])):errL s=if licRight x then 0 else 6:=by
 unfold errL eZ;rw[if_neg h,ha];cases hr:licRight x<;>simp[hr]
theorem lparse_any(s:bA)(w:World)(hG:bB w):Calls Tryz.prog 82 #[.string s] w fun e w'=>ParseQ s w e w':=by
 have HA:=zh (bY w (.cells #[.int .i64 0,.string ⟨#[]⟩,.slice none 0 0] 123));by_cases kT:1000<s.size
 ·have g:(1000:Int)<(s.size:Int):=CL;have HE:Hid (errL s=6):=zh (by unfold errL eZ;rw[if_pos kT]);clear kT hG;obtain⟨⟨p0,p1,p2⟩,r0,r1,r2⟩:=bx3 HA.out;go_enter Tryz.func82,Tryz.ntmps82;go_wp2_with fail;refine bodyPost_ret (v:=.tuple #[.agg #[.int .i64 0,.string ⟨#[]⟩,.slice none 0 0],.int .i64 6]) (by simp[results,Tryz.results82,go_sem,p0,p1,p2]) rfl ?_;exact⟨_,_,_,_,_,EL,aB _ _⟩
 have g:¬(1000:Int)<(s.size:Int):=CL;obtain⟨m,hm⟩:=hG.maxLen;have lE:(w.alloc (.cells #[.int .i64 0,.string ⟨#[]⟩,.slice none 0 0] 123)).heap.size=w.heap.size+1:=CU;have hN:=bY (w.alloc (.cells #[.int .i64 0,.string ⟨#[]⟩,.slice none 0 0] 123)) (.cells repArgs 9);have jC:=zh (aA (aB w (.cells #[.int .i64 0,.string ⟨#[]⟩,.slice none 0 0] 123)) (aB (w.alloc (.cells #[.int .i64 0,.string ⟨#[]⟩,.slice none 0 0] 123)) (.cells repArgs 9)));have jF:=zh (aC (aB (w.alloc (.cells #[.int .i64 0,.string ⟨#[]⟩,.slice none 0 0] 123)) (.cells repArgs 9)) HA.out);rw[lE] at hN;have HNr:=zh (newrep_any (w.heap.size+1) 4 _ hN);have mN:s.size<=1000:=CL;clear hN hG HA lE;go_enter Tryz.func82,Tryz.ntmps82;go_wp2_with fail;refine HNr.out.mono ?_;rintro e w1 ⟨b,rfl,sQ,rR,kL⟩;have jK:=zh (aA jC.out kL);have qD:=zh (aC kL jF.out);have HRp:=zh (replace_any b s w1 mN rR);have hlb:w.heap.size+2<=b:=by have:=sQ;simp at this;omega
 clear sQ rR kL HNr jF jC;go_wp2_with fail;refine HRp.out.mono ?_;rintro e w2 ⟨rfl,jO⟩;have jE:=zh (jK.out.trans (jO.mono CL));have tJ:Hid (w2.heap[w.heap.size]? =some (.cells #[.int .i64 0,.string ⟨#[]⟩,.slice none 0 0] 123)):=zh ((jO.block _ CL).trans qD.out);have hm2:=aD jE.out hm;have zD:=licText_size s;have rE:=zh (Tryz.strings_Split (cF s) spaceB m w2 CL hm2 CQ);rw[<-licParts_len] at rE;clear jO jK qD HRp hm hm2;change Hid (Calls Tryz.prog 83 #[.string (cF s),.string ⟨#[32]⟩] w2 fun e w'=>e=.returned (.slice (some ⟨w2.heap.size,0,none⟩) (dI s).length (dI s).length)/\w'=w2.alloc (.cells ((dI s).map Value.string).toArray 9)) at rE
 have hpl:(dI s).length<=6000:=by
  have h2:=Lib.countB_le spaceB CQ (cF s).size (cF s) (Nat.le_refl _);rw[licParts_len];omega
 go_wp2_with(go_at_call 83;refine rE.out.mono ?_;rintro e w3 ⟨rfl,rfl⟩)
 have HC:Hid (∀i x,(dI s)[i]? =some x->(w2.alloc (.cells ((dI s).map Value.string).toArray 9)).cell? ⟨w2.heap.size,i,none⟩=some (.string x)):=zh (fun i x hx=>by
  refine(bx (bY w2 (.cells ((dI s).map Value.string).toArray 9)) i ?_).1
  simp[hx])
 have kG:=zh (aA jE.out (aB w2 (.cells ((dI s).map Value.string).toArray 9)));have HA3:=zh (aC (aB w2 (.cells ((dI s).map Value.string).toArray 9)) tJ.out);have HPz:Hid (∀x∈dI s,x.size<=140737488355328):=zh (fun x hx=>by have:=splitB_size spaceB _ (cF s) x hx;omega);have HTk:Hid (eQ s=(dI s).filter fun x=> !decide (x=noB)):=zh rfl;generalize dI s=parts at *;generalize (w2.alloc (.cells (parts.map Value.string).toArray 9))=w3 at *;obtain⟨i0,oL,hs0,nT,tL⟩:=info_parts strInfo;clear jE tJ rE;go_loopw [4,20] (fun ov iv wr=>∃(k:Nat)(acc:List bA)(css:List (List Value)),k<=parts.length/\iv=.int .i64 (k:Int)/\acc.length<=k/\Hid (acc=(parts.take k).filter fun x=> !decide (x=noB))/\Hid (Gro 1 9 cH w3.heap.size acc css ov wr)/\Hid (Below w3.heap.size w3 wr)) (fun _ iv _=>parts.length-(intOf iv).toNat)
 case atStart=>exact⟨0,[],[],Nat.zero_le _,rfl,Nat.le_refl _,zh rfl,zh (Gro.first _ _ _ _),zh (Below.refl _ _)⟩
 case round=>
  rename World=>wr
  obtain⟨k,acc,css,hk,rfl,hak,pP,HG,HW⟩:=hrel;by_cases jL:k<parts.length
  ·obtain⟨x,hx,mS⟩:=getElem?_of_lt jL;have nM:(0:Int)<=(k:Int)/\(k:Int)<(parts.length:Int):=CL;have c1:=aD HW.out (HC.out k x hx)
   have pO:Hid ((parts.take (k+1)).filter (fun x=> !decide (x=noB))=acc++if x=noB then[] else[x]):=zh (by
    rw[List.take_add_one,hx,List.filter_append,<-pP.out];congr 1
    by_cases e:x=noB<;>simp[e])
   have hxz:=HPz.out x mS;clear hx mS;by_cases hxn:x=noB
   ·(have hx1:x.toList=[]:=by rw[hxn,Lib.toList_data]);have HAn:Hid (acc=(parts.take (k+1)).filter fun x=> !decide (x=noB)):=zh (by rw[pO.out,if_pos hxn,List.append_nil]);(have hx2:x.toList.isEmpty=true:=by rw[hx1];rfl);(have hx3:(x.toList != [])=false:=by rw[hx1];rfl);clear hxn pO;go_wp2_with fail;go_roundw;(case rel=>exact⟨k+1,acc,css,CL,CY,CL,HAn,HG,HW⟩);case measure=>simp[intOf];omega
   have hx1:¬x.toList=[]:=fun e=>hxn ((iC (x:=noB) rfl).2 e);have HAn:Hid (acc++[x]=(parts.take (k+1)).filter fun x=> !decide (x=noB)):=zh (by rw[pO.out,if_neg hxn]);(have hx2:x.toList.isEmpty=false:=by simpa using hx1);(have hx3:(x.toList != [])=true:=by simpa using hx1);have hwz:=HW.out.size;clear hxn pO;go_wp2_with(at_builtin;refine wpList_append_lies _ rfl _ _ 26 rfl w3.heap.size 9 i0 (.string ByteArray.empty) 1 16 Tryz.underlying26 oL hs0 nT tL rfl CL _ acc.length css.flatten DY (HG.out.own.alloc _) ⟨wr.heap.size,0,none⟩ 1 1 [.string x] DY rfl (World.news_of_block (bY wr (.cells #[.string x] 9))) DL CL DI CL C5 (wr.heap.size+1) CU ?_);intro gg cap w9 jX iO mL _;have zP:=Gro.later aT HG.out (aB wr (.cells #[.string x] 9));have rN:=Gro.added aT zP (x:=x) (news:=[.string x]) ⟨rfl,hxz⟩ rfl jX iO D8;have vV:=zh rN;have HW3:=zh (HW.out.trans ((aB wr (.cells #[.string x] 9)).mono hwz) |>.grown iO C5 (fun j hj=>(zP.lt j hj).1));clear jX iO mL zP rN;go_wp2_with fail;go_roundw;(case rel=>exact⟨k+1,acc++[x],css++[[.string x]],CL,CY,C5,HAn,vV,HW3⟩);case measure=>simp[intOf];omega
  have hAll:Hid (acc=eQ s):=zh (by rw[HTk.out,pP.out,List.take_of_length_le CL]);obtain⟨a,c,hv,-⟩:=id (Gro.row aT HG.out);have qX:=zh (aK.strs (Gro.row aT HG.out))
  have sZ:∀b o n c,u4=.slice (some ⟨b,o,none⟩) n c->b<wr.heap.size:=fun b o n c e=>by
   rcases Gro.val HG.out with⟨e2,-⟩|⟨g,cp,e2,-,hg⟩
   ·rw[e] at e2;cases e2
   rw[e] at e2;cases e2;exact hg
  subst hv;have HT4:Hid (eE wr.heap.size acc (wr.alloc (.cells #[.slice a acc.length c] 184))):=zh ⟨_,bY wr _,qX.out.later (aB _ _),sZ⟩;have hal:acc.length<=6000:=CL;have HLt:=zh (lalts_any wr.heap.size acc.length (acc.length+1) CL (Nat.lt_succ_self _) acc _ HT4.out (Nat.le_refl _));have AA:=zh (aA (aA kG.out HW.out) (aB wr (.cells #[.slice a acc.length c] 184)));have HA4:=zh (aC (aB wr (.cells #[.slice a acc.length c] 184)) (aC HW.out HA3.out));have hlr:w.heap.size<wr.heap.size:=Nat.lt_of_lt_of_le (Array.getElem?_eq_some_iff.1 HA3.out).1 HW.out.size;clear sZ qX HG HT4;go_wp2_with fail;refine HLt.out.mono ?_;rintro e w5 ⟨cs,x,ok,l2,rfl,hx,ht,ho,oF,nD⟩;obtain⟨nm,xa,xc,rfl,-,oU⟩:=dJ hx;clear oU;obtain⟨xo,nQ⟩:∃xo,xo=x.op:=⟨_,rfl⟩;rw[<-nQ] at hx ⊢;clear nQ;have oD:=zh (Off.below AA.out ho (fun k hk=>by cases hk;omega) AA.out.size);have rB:=zh ((oD.out).alloc oD.out.size (.cells #[.int .i64 xo,.string nm,.slice xa x.args.length xc] 123));have AM:=ho.heap (show ¬dY wr.heap.size _ from fun e=>by have e':w.heap.size=wr.heap.size:=e;omega) HA4.out;have HA6:=zh (aC (aB w5 (.cells #[.int .i64 xo,.string nm,.slice xa x.args.length xc] 123)) AM);have HXx:=zh (aX _ _ _ _ _ _ (aM.later (aB w5 (.cells #[.int .i64 xo,.string nm,.slice xa x.args.length xc] 123))) hx);have HXb:=zh (bY w5 (.cells #[.int .i64 xo,.string nm,.slice xa x.args.length xc] 123));obtain⟨v2,hv1,hv2,-⟩:=ht;obtain⟨a2,sS,hv3,-⟩:=id hv2;subst hv3;have l0:(w5.alloc (.cells #[.int .i64 xo,.string nm,.slice xa x.args.length xc] 123)).cell? ⟨wr.heap.size,0,none⟩=some (.slice a2 l2.length sS):=aD (aB _ _) (aH hv1 0 rfl).1;have rZ:∀(x:Bool)(w:World),(Op.unary .not (.bool x)).run Tryz.prog w=.ok (.bool (!x)) w:=fun _ _=>rfl;have lO:=zh oF;have oQ:=zh nD;clear hx ho oF nD hv1 hv2 AM HLt AA HA4
  cases ok with
  |false=>
   have HE:Hid (errL s=2):=zh (errL_none kT (by rw[<-hAll.out];exact oQ.out rfl));clear lO oQ;exact A4
  |true=>
   have AH:=zh (show licAlt ((eQ s).length+1) (eQ s)=some (x,l2) from by rw[<-hAll.out];exact lO.out rfl);clear lO oQ
   cases l2 with
   |cons u r=>
    have HE:Hid (errL s=2):=zh (errL_rest kT AH.out);have hlp:(0:Int)<(((u::r).length:Nat):Int):=CU;clear AH;generalize (u::r).length=n2 at *;exact A4
   |nil=>
    have HEa:=zh (errL_all kT AH.out);simp only[List.length_nil] at l0;obtain⟨⟨x0,x1,x2⟩,-⟩:=bx3 HXb.out;have HRt:=zh (lright_any x _ _ (w5.alloc (.cells #[.int .i64 xo,.string nm,.slice xa x.args.length xc] 123)) HXx.out);clear AH;go_wp2_with fail;refine HRt.out.mono ?_;rintro e w8 ⟨rfl,rD⟩;have pL:=zh (rB.out.trans (rD.mono rB.out.size));have HA8:=zh (aC rD HA6.out);obtain⟨⟨y0,y1,y2⟩,-⟩:=bx3 (aC rD HXb.out);clear rD x0 x1 x2 l0 HRt
    cases hr:licRight x with
    |false=>
     have HE:Hid (errL s=6):=zh (by rw[HEa.out,hr];rfl);clear HEa hr;have kR:=zh (lp_out pL.out HA8.out (.int .i64 0) (.string ⟨#[]⟩) (.slice none 0 0));obtain⟨⟨p0,p1,p2⟩,r0,r1,r2⟩:=bx3 HA8.out;go_wp2_with fail;clear p0 p1 p2 r0 r1 r2;generalize ((w8.setCell ⟨w.heap.size,0,none⟩ (.int .i64 0)).setCell ⟨w.heap.size,1,none⟩ (.string ⟨#[]⟩)).setCell ⟨w.heap.size,2,none⟩ (.slice none 0 0)=w9 at *;obtain⟨⟨c0,c1,c2⟩,-⟩:=bx3 kR.out.1;refine bodyPost_ret (v:=.tuple #[.agg #[.int .i64 0,.string ⟨#[]⟩,.slice none 0 0],.int .i64 6]) EK rfl ?_;exact⟨_,_,_,_,_,EL,kR.out.2⟩
    |true=>
     have HE:Hid (errL s=0):=zh (by rw[HEa.out,hr];rfl);clear HEa hr;have kR:=zh (lp_out pL.out HA8.out (.int .i64 xo) (.string nm) (.slice xa x.args.length xc));obtain⟨⟨p0,p1,p2⟩,r0,r1,r2⟩:=bx3 HA8.out;go_wp2_with fail;clear p0 p1 p2 r0 r1 r2;generalize ((w8.setCell ⟨w.heap.size,0,none⟩ (.int .i64 xo)).setCell ⟨w.heap.size,1,none⟩ (.string nm)).setCell ⟨w.heap.size,2,none⟩ (.slice xa x.args.length xc)=w9 at *;obtain⟨⟨c0,c1,c2⟩,-⟩:=bx3 kR.out.1;refine bodyPost_ret (v:=.tuple #[.agg #[.int .i64 xo,.string nm,.slice xa x.args.length xc],.int .i64 0]) EK rfl ?_;exact⟨_,_,_,_,_,EL,kR.out.2⟩
theorem rel1_any(s:bA)(l:List bA)(b:Nat)(a:Option Addr)(n c:Nat)(w:World)(hb:w.heap[b]? =some (.cells #[.slice a n c] 26))(hl:Strs w (.slice a n c) l):
  Calls Tryz.prog 77 #[.string s,.pointer (some ⟨b,0,none⟩)] w fun e w'=>e=.returned (.bool (!l.any fun y=>decide (y=s)))/\Below w.heap.size w w':=by
 have HC:=zh (hasS_any l s hl);have x0:=(aH hb 0 rfl).1;clear hl hb;generalize (l.any fun y=>decide (y=s))=q at *;go_enter Tryz.func77,Tryz.ntmps77;go_wp2_with fail;go_at_call 78;refine HC.out.mono ?_;rintro e w1 ⟨rfl,rfl⟩;go_wp2_with fail;go_ret;exact⟨rfl,Below.refl _ _⟩
theorem rel2_any(x:Nd)(l:List bA)(b:Nat)(a:Option Addr)(n c:Nat){N:Nat->Prop}{cs:List Value}(w:World)(hG:bB w)(hx:cI N w x cs)(hb:w.heap[b]? =some (.cells #[.slice a n c] 26))(hl:Strs w (.slice a n c) l):
  Calls Tryz.prog 80 #[.agg cs.toArray,.pointer (some ⟨b,0,none⟩)] w fun e w'=>e=.returned (.bool (!eD x l))/\Below w.heap.size w w':=by
 have hx2:=hx;obtain⟨vr,vs,rfl,-,-,hr,hs⟩:=hx2;obtain⟨ar,cr,rfl,-⟩:=id hr;obtain⟨af,cf,rfl,-⟩:=id hs;clear hr hs;have HA:=zh (aB w (.cells #[.string x.name,.slice ar x.ranges.length cr,.int .i64 x.kind,.string x.whn,.slice af x.feats.length cf] 71));have HC:=zh (fun W(hW:Below w.heap.size w W)=>needOk_any x l (w:=W) (hG.later hW) (fC _ _ _ _ _ _ (aM.later hW) hx) (hl.later hW));obtain⟨⟨y0,y1,y2,y3,y4⟩,-⟩:=bb5 (bY w (.cells #[.string x.name,.slice ar x.ranges.length cr,.int .i64 x.kind,.string x.whn,.slice af x.feats.length cf] 71));have x0:=(aH (aC HA.out hb) 0 rfl).1;clear hl hb hx hG;generalize eD x l=q at *;show Calls Tryz.prog 80 #[.agg #[.string x.name,.slice ar x.ranges.length cr,.int .i64 x.kind,.string x.whn,.slice af x.feats.length cf],.pointer (some ⟨b,0,none⟩)] w _;go_enter Tryz.func80,Tryz.ntmps80;go_wp2_with fail;go_at_call 81;refine(HC.out _ HA.out).mono ?_;rintro e w1 ⟨rfl,kL⟩;have HB:=zh (aA HA.out kL);clear kL x0 y0 y1 y2 y3 y4;go_wp2_with fail;go_ret;exact⟨rfl,HB.out⟩
theorem rb9{w:World}{b:Nat}{x0 x1 x2 x3 x4 x5 x6 x7 x8:Value}{t:TypeId}(h:w.heap[b]? =some (.cells #[x0,x1,x2,x3,x4,x5,x6,x7,x8] t)):
  w.cell? ⟨b,0,none⟩=some x0/\w.cell? ⟨b,1,none⟩=some x1/\w.cell? ⟨b,2,none⟩=some x2/\w.cell? ⟨b,3,none⟩=some x3/\w.cell? ⟨b,4,none⟩=some x4/\w.cell? ⟨b,5,none⟩=some x5/\w.cell? ⟨b,6,none⟩=some x6/\w.cell? ⟨b,7,none⟩=some x7/\w.cell? ⟨b,8,none⟩=some x8:=
 ⟨(bx h 0 rfl).1,(bx h 1 rfl).1,(bx h 2 rfl).1,(bx h 3 rfl).1,(bx h 4 rfl).1,(bx h 5 rfl).1,(bx h 6 rfl).1,(bx h 7 rfl).1,(bx h 8 rfl).1⟩
theorem str_news(wr:World)(o:Obj)(s:bA):∀(j:Nat)(u:Value),[Value.string s][j]? =some u->((wr.alloc o).alloc (.cells #[.string s] 9)).cell? ((⟨wr.heap.size+1,0,none⟩:Addr).add j)=some u:=by
 have h:=bY (wr.alloc o) (.cells #[.string s] 9);rw[show(wr.alloc o).heap.size=wr.heap.size+1 by simp] at h;exact World.news_of_block h
theorem licOk_err(s:bA):iD s=decide (errL s=0):=by
 unfold iD errL
 cases h:eZ s with
 |ok e=>rfl
 |error k=>
  have hk:k≠0:=by
   rintro rfl;unfold eZ at h
   repeat' split at h
   all_goals simp at h
  exact(decide_eq_false hk).symm
theorem release_any(r:Rl){N:Nat->Prop}(vn vf vp:Value)(w:World)(hG:bB w)(h:RlV N w r vn vf vp)(hf:r.feats.length<=1000000):
  Calls Tryz.prog 32 #[.agg (rlC r vn vf vp).toArray] w fun e w'=>e=.returned (.bool (dL r))/\Below w.heap.size w w':=by
 obtain⟨i0,oL,hs0,nT,tL⟩:=info_parts strInfo;have HV:=zh h;obtain⟨af,cf,hvf,hfl,hfc,hfx⟩:=id h.feats;subst hvf;obtain⟨an,cn,hvn,-⟩:=id h.needs;subst hvn;obtain⟨ap,cp,hvp,-⟩:=id h.plats;subst hvp;have HF:=zh hfx;have HX0:=bY w (.cells #[.string r.name,.int .i64 r.ver.a,.int .i64 r.ver.b,.int .i64 r.ver.c,.string r.source,.slice an r.needs.length cn,.slice af r.feats.length cf,.slice ap r.plats.length cp,.string r.lic] 28);have HX:=zh HX0;show Calls Tryz.prog 32 #[.agg #[.string r.name,.int .i64 r.ver.a,.int .i64 r.ver.b,.int .i64 r.ver.c,.string r.source,.slice an r.needs.length cn,.slice af r.feats.length cf,.slice ap r.plats.length cp,.string r.lic]] w _;clear h hfx HX0;go_enter Tryz.func32,Tryz.ntmps32;go_wp2_with fail;go_loopw [13] (fun iv wr=>∃(k:Nat)(acc:List bA)(css:List (List Value))(ov:Value),k<=r.feats.length/\iv=.int .i64 (k:Int)/\acc.length=k/\Hid (acc=(r.feats.take k).map (·.name))/\Hid (wr.heap[w.heap.size+1]? =some (.cells #[ov] 26))/\Hid (Gro 1 9 cH (w.heap.size+2) acc css ov wr)/\Hid (wr.heap[w.heap.size]? =some (.cells #[.string r.name,.int .i64 r.ver.a,.int .i64 r.ver.b,.int .i64 r.ver.c,.string r.source,.slice an r.needs.length cn,.slice af r.feats.length cf,.slice ap r.plats.length cp,.string r.lic] 28))/\Hid (Below w.heap.size w wr)) (fun iv _=>r.feats.length-(intOf iv).toNat)
 case atStart=>
  have hz:(w.alloc (.cells #[.string r.name,.int .i64 r.ver.a,.int .i64 r.ver.b,.int .i64 r.ver.c,.string r.source,.slice an r.needs.length cn,.slice af r.feats.length cf,.slice ap r.plats.length cp,.string r.lic] 28)).heap.size=w.heap.size+1:=CU;have hn:=bY (w.alloc (.cells #[.string r.name,.int .i64 r.ver.a,.int .i64 r.ver.b,.int .i64 r.ver.c,.string r.source,.slice an r.needs.length cn,.slice af r.feats.length cf,.slice ap r.plats.length cp,.string r.lic] 28)) (.cells #[.slice none 0 0] 26);rw[hz] at hn;exact⟨0,[],[],.slice none 0 0,Nat.zero_le _,rfl,rfl,zh rfl,zh hn,zh (Gro.first_at _ _ _ CU),zh (aC (aB _ _) HX.out),zh (aA (aB _ _) (aB _ _))⟩
 case round=>
  rename World=>wr
  obtain⟨k,acc,css,ov,hk,rfl,hak,pP,yH,HG,vS,HW⟩:=hrel;by_cases jL:k<r.feats.length
  ·obtain⟨f,zH,mS⟩:=getElem?_of_lt jL;have nM:(0:Int)<=(k:Int)/\(k:Int)<(r.feats.length:Int):=CL;obtain⟨b,o,ha,-,hx⟩:=HF.out EG;obtain⟨cs,⟨vi,rfl,mN,hri⟩,-,hj⟩:=hx k f zH;obtain⟨ai,ci,rfl,-⟩:=id hri;clear hri;have c0:=aD HW.out (hj 0 _ rfl);have c1:=aD HW.out (hj 1 _ rfl);simp only[Nat.add_zero] at c0 c1;subst ha;have pO:Hid (acc++[f.name]=(r.feats.take (k+1)).map (·.name)):=zh (by rw[List.take_add_one,zH,List.map_append,<-pP.out];rfl);have n0:=(aH (aC (aB wr (.cells #[.string f.name,.slice ai f.implies.length ci] 73)) yH.out) 0 rfl).1;have hzz:w.heap.size+2<=wr.heap.size:=HG.out.big;have HAk:=zh hak;have hak2:acc.length<=1000000:=CL;clear hx hj zH mS hak;go_wp2_with(at_builtin;refine wpList_append_lies _ rfl _ _ 26 rfl (w.heap.size+2) 9 i0 (.string ByteArray.empty) 1 16 Tryz.underlying26 oL hs0 nT tL rfl CL ov acc.length css.flatten DY ((HG.out.own.alloc _).alloc _) ⟨wr.heap.size+1,0,none⟩ 1 1 [.string f.name] DY rfl (str_news wr _ _) DL CL DI CL C5 (wr.heap.size+2) CU ?_);intro gg cap w9 jX iO mL _;have kW:=aA (aB wr (.cells #[.string f.name,.slice ai f.implies.length ci] 73)) (aB (wr.alloc (.cells #[.string f.name,.slice ai f.implies.length ci] 73)) (.cells #[.string f.name] 9));have zP:=Gro.later aT HG.out kW;have rN:=Gro.added aT zP (x:=f.name) (news:=[.string f.name]) ⟨rfl,mN⟩ rfl jX iO D8;have zC:=zP.lt;have e9:∀j,j<w.heap.size+2->w9.heap[j]? =wr.heap[j]? :=fun j hj=>(iO.block j (by have:=kW.size;omega) (fun e=>by have:=(zC j e.symm).1;omega)).trans (kW.block j CL);have N9:=(e9 _ CL).trans yH.out;have R9:=(e9 _ CL).trans vS.out;obtain⟨v0,z0⟩:=aH N9 0 rfl;have nW:Hid ((w9.setCell ⟨w.heap.size+1,0,none⟩ (.slice (some ⟨gg,0,none⟩) (acc.length+1) cap)).heap[w.heap.size+1]? =some (.cells #[.slice (some ⟨gg,0,none⟩) (acc.length+1) cap] 26)):=zh (by rw[aG N9];rfl);have oI:Hid ((w9.setCell ⟨w.heap.size+1,0,none⟩ (.slice (some ⟨gg,0,none⟩) (acc.length+1) cap)).heap[w.heap.size]? =some (.cells #[.string r.name,.int .i64 r.ver.a,.int .i64 r.ver.b,.int .i64 r.ver.c,.string r.source,.slice an r.needs.length cn,.slice (some ⟨b,o,none⟩) r.feats.length cf,.slice ap r.plats.length cp,.string r.lic] 28)):=zh ((Below.heap_setCell _ _ _ _ CU).trans R9);have rA:=zh (rN.stays aT (cJ.of_off (Off.setCell (S:=fun k=>k=w.heap.size+1) (b:=w.heap.size+1) (o:=0) (v:=.slice (some ⟨gg,0,none⟩) (acc.length+1) cap) w9 rfl) (fun b hb=>.inl CL)));have qF:=zh ((((HW.out.trans (kW.mono CL)).grown iO (by have:=kW.size;omega) (fun j hj=>by have:=(zC j hj).1;omega))).setCell (p:=⟨w.heap.size+1,0,none⟩) CU (.slice (some ⟨gg,0,none⟩) (acc.length+1) cap));clear jX iO mL zP rN zC e9 N9 R9 kW n0 c0 c1;go_wp2_with fail;go_roundw;(case rel=>exact⟨k+1,acc++[f.name],_,_,CL,CY,by rw[List.length_append,HAk.out];rfl,pO,nW,rA,oI,qF⟩);case measure=>simp[intOf];omega
  have hke:k=r.feats.length:=CL;obtain⟨ao,co,hov,-⟩:=id (Gro.row aT HG.out);subst hov;have vT:Hid (acc=r.feats.map (·.name)):=zh (by rw[pP.out,List.take_of_length_le CL]);have HS:=zh (aK.strs (Gro.row aT HG.out));have sA:¬(k:Int)<(r.feats.length:Int):=CL;clear hke hak pP HG jL;obtain⟨x0,x1,x2,x3,x4,x5,x6,x7,x8⟩:=rb9 vS.out;have n0:=(aH yH.out 0 rfl).1;have HE:Hid (dL r=(bT r.name&&aU r.ver&&decide (r.source.size<=8000)&&dC acc&&decide (r.needs.length<=30)&&dC r.plats&&(r.feats.all fun f=>dC f.implies&&f.implies.all fun s=>acc.any fun x=>decide (x=s))&&(r.needs.all fun n=>eD n acc)&&iD r.lic)):=zh (by rw[vT.out];rfl);go_wp2_with fail;clear sA;refine(eY r.name wr (hG.later HW.out) HV.out.name).mono ?_;rintro e w1 ⟨rfl,kL⟩;have jK:=zh kL;clear kL x0 x1 x2 x3 x4 x5 x6 x7 x8 n0;obtain⟨x0,x1,x2,x3,x4,x5,x6,x7,x8⟩:=rb9 (aC jK.out vS.out);have n0:=(aH (aC jK.out yH.out) 0 rfl).1
  cases qI:bT r.name with
  |false=>
   have hR:Hid (dL r=false):=zh (by rw[HE.out,qI];simp);clear HE;go_wp2_with fail;go_ret;exact⟨aF hR.out.symm,aA HW.out jK.out⟩
  |true=>
   have pN:=zh qI;clear qI;go_wp2_with fail;refine(hP r.ver w1).mono ?_;rintro e w2 ⟨rfl,oV⟩;have jE:=zh (aA jK.out oV.below);clear oV x0 x1 x2 x3 x4 x5 x6 x7 x8 n0;obtain⟨x0,x1,x2,x3,x4,x5,x6,x7,x8⟩:=rb9 (aC jE.out vS.out);have n0:=(aH (aC jE.out yH.out) 0 rfl).1
   cases qH:aU r.ver with
   |false=>
    have hR:Hid (dL r=false):=zh (by rw[HE.out,pN.out,qH];simp);clear HE;go_wp2_with fail;go_ret;exact⟨aF hR.out.symm,aA HW.out jE.out⟩
   |true=>
    have pY:=zh qH;clear qH;by_cases hsrc:(8000:Int)<(r.source.size:Int)
    ·have tL:decide (r.source.size<=8000)=false:=decide_eq_false CL;have hR:Hid (dL r=false):=zh (by rw[HE.out,pN.out,pY.out,tL];simp);clear HE tL;go_wp2_with fail;go_ret;exact⟨aF hR.out.symm,aA HW.out jE.out⟩
    go_wp2_with fail;refine(listOk_any acc _ w2 (hG.later (aA HW.out jE.out)) (HS.out.later jE.out)).mono ?_;rintro e w3 ⟨rfl,kW⟩;have kG:=zh (aA jE.out kW);clear kW x0 x1 x2 x3 x4 x5 x6 x7 x8 n0;obtain⟨x0,x1,x2,x3,x4,x5,x6,x7,x8⟩:=rb9 (aC kG.out vS.out);have n0:=(aH (aC kG.out yH.out) 0 rfl).1;have mP:Hid (decide (r.source.size<=8000)=true):=zh (decide_eq_true CL)
    cases yX:dC acc with
    |false=>
     have hR:Hid (dL r=false):=zh (by rw[HE.out,pN.out,pY.out,mP.out,yX];simp);clear HE;go_wp2_with fail;go_ret;exact⟨aF hR.out.symm,aA HW.out kG.out⟩
    |true=>
     have tR:=zh yX;clear yX;by_cases hnd:(30:Int)<(r.needs.length:Int)
     ·have hs3:decide (r.needs.length<=30)=false:=decide_eq_false CL;have hR:Hid (dL r=false):=zh (by rw[HE.out,pN.out,pY.out,mP.out,tR.out,hs3];simp);clear HE hs3;go_wp2_with fail;go_ret;exact⟨aF hR.out.symm,aA HW.out kG.out⟩
     have oC:Hid (decide (r.needs.length<=30)=true):=zh (decide_eq_true CL);go_wp2_with fail;refine(listOk_any r.plats _ w3 (hG.later (aA HW.out kG.out)) (aK.strs (HV.out.plats.moves aT (aM.later (aA HW.out kG.out)) CQ))).mono ?_;rintro e w4 ⟨rfl,pT⟩;have oY:=zh (aA kG.out pT);clear pT x0 x1 x2 x3 x4 x5 x6 x7 x8 n0;obtain⟨x0,x1,x2,x3,x4,x5,x6,x7,x8⟩:=rb9 (aC oY.out vS.out);have n0:=(aH (aC oY.out yH.out) 0 rfl).1
     cases hq4:dC r.plats with
     |false=>
      have hR:Hid (dL r=false):=zh (by rw[HE.out,pN.out,pY.out,mP.out,tR.out,oC.out,hq4];simp);clear HE;go_wp2_with fail;go_ret;exact⟨aF hR.out.symm,aA HW.out oY.out⟩
     |true=>
      have HE4:Hid (dL r=((r.feats.all fun f=>dC f.implies&&f.implies.all fun s=>acc.any fun x=>decide (x=s))&&(r.needs.all fun n=>eD n acc)&&iD r.lic)):=zh (by rw[HE.out,pN.out,pY.out,mP.out,tR.out,oC.out,hq4];simp);clear HE hq4;clear x0 x1 x2 x3 x4 x5 x6 x7 x8 n0;obtain⟨x0,x1,x2,x3,x4,x5,x6,x7,x8⟩:=rb9 (aC oY.out vS.out);go_wp2_with fail;clear x0 x1 x2 x3 x4 x5 x6 x7 x8;(go_loopw [59] (fun iv wq=>∃k:Nat,k<=r.feats.length/\iv=.int .i64 (k:Int)/\Hid (Below w4.heap.size w4 wq)/\Hid (dL r=(((r.feats.drop k).all fun f=>dC f.implies&&f.implies.all fun s=>acc.any fun x=>decide (x=s))&&(r.needs.all fun n=>eD n acc)&&iD r.lic))) (fun iv _=>r.feats.length-(intOf iv).toNat));case atStart=>exact⟨0,Nat.zero_le _,rfl,zh (Below.refl _ _),zh (by rw[HE4.out];rfl)⟩
      case round=>
       (rename World=>wq);obtain⟨k2,sM,rfl,vR,HE5⟩:=hrel;have qF:Hid (Below w.heap.size w wq):=zh (aA (aA HW.out oY.out) vR.out);have oI:=zh (aC vR.out (aC oY.out vS.out));have nW:=zh (aC vR.out (aC oY.out yH.out));have HS2':=zh ((HS.out.later oY.out).later vR.out);clear HE4;by_cases wJ:k2<r.feats.length
       ·obtain⟨f,zH,mS⟩:=getElem?_of_lt wJ;have nM:(0:Int)<=(k2:Int)/\(k2:Int)<(r.feats.length:Int):=CL;obtain⟨b,o,ha,-,hx⟩:=HF.out (by intro e;rw[e] at wJ;simp at wJ);obtain⟨cs,⟨vi,rfl,mN,hri⟩,-,hj⟩:=hx k2 f zH;obtain⟨ai,ci,rfl,-⟩:=id hri;have c0:=aD qF.out (hj 0 _ rfl);have c1:=aD qF.out (hj 1 _ rfl);simp only[Nat.add_zero] at c0 c1;subst ha
        have HE6:Hid (dL r=(dC f.implies&&(f.implies.all fun s=>acc.any fun x=>decide (x=s))&&((r.feats.drop (k2+1)).all fun f=>dC f.implies&&f.implies.all fun s=>acc.any fun x=>decide (x=s))&&(r.needs.all fun n=>eD n acc)&&iD r.lic)):=zh (by
         obtain⟨h1,h2⟩:=Yb.1 zH
         rw[HE5.out,List.drop_eq_getElem_cons h1,h2,List.all_cons])
        have HI:=zh (fun W(hW:Below w.heap.size w W)=>aK.strs (hri.moves aT (aM.later hW) CQ));have tJ:=zh (aB wq (.cells #[.string f.name,.slice ai f.implies.length ci] 73));have jH:=zh (bY wq (.cells #[.string f.name,.slice ai f.implies.length ci] 73));have f1:=(aH jH.out 1 rfl).1;clear hx hj zH mS hri HE5;go_wp2_with fail;clear f1 c0 c1;refine(listOk_any f.implies _ _ (hG.later (aA qF.out tJ.out)) (HI.out _ (aA qF.out tJ.out))).mono ?_;rintro e w5 ⟨rfl,hb5⟩;have oD:=zh (aA tJ.out hb5);have f1:=(aH (aC hb5 jH.out) 1 rfl).1;have HN5:=zh (aC oD.out nW.out);clear hb5 jH tJ
        cases vL:dC f.implies with
        |false=>
         have hR:Hid (dL r=false):=zh (by rw[HE6.out,vL];simp);clear HE6;go_wp2_with fail;go_ret;exact⟨aF hR.out.symm,aA qF.out oD.out⟩
        |true=>
         have HE7:Hid (dL r=((f.implies.all fun s=>acc.any fun x=>decide (x=s))&&((r.feats.drop (k2+1)).all fun f=>dC f.implies&&f.implies.all fun s=>acc.any fun x=>decide (x=s))&&(r.needs.all fun n=>eD n acc)&&iD r.lic)):=zh (by rw[HE6.out,vL];simp);have lF:Hid ((f.implies.all fun s=>acc.any fun x=>decide (x=s))= !(f.implies.any fun s=> !acc.any fun x=>decide (x=s))):=zh List.all_eq_not_any_not;clear HE6 vL;go_wp2_with fail;clear f1;refine(containsFunc_str 77 #[.pointer (some ⟨w.heap.size+1,0,none⟩)] (fun s=> !acc.any fun x=>decide (x=s)) f.implies _ w5 (HI.out _ (aA qF.out oD.out)) (enters_of Tryz.func77 CK rfl) (fun x _ W hW=>rel1_any x acc (w.heap.size+1) _ _ _ W (aC hW HN5.out) ((HS2'.out.later oD.out).later hW))).mono ?_;rintro e w6 ⟨rfl,hb6⟩;have rB:=zh (aA oD.out hb6);clear hb6
         cases xK:(f.implies.any fun s=> !acc.any fun x=>decide (x=s)) with
         |true=>
          have hR:Hid (dL r=false):=zh (by rw[HE7.out,lF.out,xK];simp);clear HE7 lF;go_wp2_with fail;go_ret;exact⟨aF hR.out.symm,aA qF.out rB.out⟩
         |false=>
          have HE8:Hid (dL r=(((r.feats.drop (k2+1)).all fun f=>dC f.implies&&f.implies.all fun s=>acc.any fun x=>decide (x=s))&&(r.needs.all fun n=>eD n acc)&&iD r.lic)):=zh (by rw[HE7.out,lF.out,xK];simp);have HV8:=zh (aA vR.out rB.out);clear HE7 lF xK;go_wp2_with fail;go_roundw;(case rel=>exact⟨k2+1,CL,CY,HV8,HE8⟩);case measure=>simp[intOf];omega
       have HE9:Hid (dL r=((r.needs.all fun n=>eD n acc)&&iD r.lic)):=zh (by rw[HE5.out,List.drop_of_length_le CL];simp);have nG:Hid ((r.needs.all fun n=>eD n acc)= !(r.needs.any fun n=> !eD n acc)):=zh List.all_eq_not_any_not;have hlt4:¬(k2:Int)<(r.feats.length:Int):=CL;obtain⟨x0,x1,x2,x3,x4,x5,x6,x7,x8⟩:=rb9 oI.out;clear HE5 wJ;go_wp2_with fail;clear hlt4 x0 x1 x2 x3 x4 x5 x6 x7 x8;refine(has_nd (fun n=> !eD n acc) 80 #[.pointer (some ⟨w.heap.size+1,0,none⟩)] (enters_of Tryz.func80 CK rfl) (HV.out.needs.moves fC (aM.later qF.out) CQ) (fun x _ W cs hW hx _=>rel2_any x acc (w.heap.size+1) _ _ _ W (hG.later (aA qF.out hW)) hx (aC hW nW.out) (HS2'.out.later hW))).mono ?_;rintro e w7 ⟨rfl,hb7⟩;have qQ:=zh (aA qF.out hb7);obtain⟨x0,x1,x2,x3,x4,x5,x6,x7,x8⟩:=rb9 (aC hb7 oI.out);clear hb7
       cases hq7:(r.needs.any fun n=> !eD n acc) with
       |true=>
        have hR:Hid (dL r=false):=zh (by rw[HE9.out,nG.out,hq7];simp);clear HE9 nG;go_wp2_with fail;go_ret;exact⟨aF hR.out.symm,qQ.out⟩
       |false=>
        have HE10:Hid (dL r=iD r.lic):=zh (by rw[HE9.out,nG.out,hq7];simp);clear HE9 nG hq7;go_wp2_with fail;clear x0 x1 x2 x3 x4 x5 x6 x7 x8;refine(lparse_any r.lic w7 (hG.later qQ.out)).mono ?_;rintro e w8 ⟨op,nm,a8,n8,c8,rfl,rD⟩;have pL:=zh (aA qQ.out rD);have HL8:Hid (dL r=decide (errL r.lic=0)):=zh (by rw[HE10.out,licOk_err]);clear HE10 rD;generalize errL r.lic=el at *;go_wp2_with fail;go_ret;exact⟨aF (by rw[HL8.out];rfl),pL.out.alloc pL.out.size _⟩
end Go.Proofs.YtmpopphjaggeoaaGreatDoor
