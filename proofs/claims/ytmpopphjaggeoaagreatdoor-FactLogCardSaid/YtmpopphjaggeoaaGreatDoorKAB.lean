/- Texts of this seat, joined. -/
import Derived.Test.YtmpopphjaggeoaaGreatDoorKAA
set_option maxHeartbeats 16000000
set_option maxRecDepth 100000
set_option linter.unusedVariables false
set_option linter.unusedSimpArgs false
set_option linter.constructorNameAsVariable false
namespace Go.Proofs.YtmpopphjaggeoaaGreatDoor
open Go.RowKit Go.Shelf
def pbH(pb:Nat)(w:World)(k:Nat):Prop:=k=pb\/k=w.heap.size
theorem licPart_par(d:Nat)(r:List bA):bX (d+1) (kParL::r)=match licAlt d r with
   |none=>none
   |some (_,[])=>none
   |some (e,u::r')=>if u=kParR then some (e,r') else none:=by
 rw[bX,if_pos rfl];rfl
theorem licPart_word(d:Nat)(t:bA)(r:List bA)(h:t≠kParL):bX (d+1) (t::r)=if eA t then some (.mk 0 t [],r) else none:=by
 rw[bX,if_neg h]
theorem skip_moves{pb B:Nat}{w w3 w5:World}(pO:pb<w.heap.size)(hB:w.heap.size+1<=B)(ho:Off (dY pb) w3 w5):aM (cP B) w3 (cP B) w5:=fun b hb _=>
 ⟨hb,fun o v hv=>ho.cell (fun e=>by have e':b=pb:=e;have h:B<=b:=hb;omega) hv⟩
theorem lpart_one(pb n d:Nat)(HP:∀l w,eF pb l w->l.length<n->Calls Tryz.prog 135 #[.pointer (some ⟨pb,0,none⟩)] w fun e w'=>PartQ (fun l=>eR 2 kOrL (fun l=>eR 1 iH (bX d) (l.length+1) [] l) (l.length+1) [] l) pb l w e w')
  (l:List bA) (w:World) (h:eF pb l w) (hn:l.length<=n):Calls Tryz.prog 217 #[.pointer (some ⟨pb,0,none⟩)] w fun e w'=>PartQ (bX (d+1)) pb l w e w':=by
 have pO:pb<w.heap.size:=by obtain⟨v,h1,-⟩:=h;exact(Array.getElem?_eq_some_iff.1 h1).1
 have HA:=zh (bY w (.cells #[.int .i64 0,.string ⟨#[]⟩,.slice none 0 0] 123));have HK:=zh (lskip_any pb kParL l (w.alloc (.cells #[.int .i64 0,.string ⟨#[]⟩,.slice none 0 0] 123)) (h.later (aB _ _)));clear h;go_enter Tryz.func217,Tryz.ntmps217;go_wp2_with fail;refine HK.out.mono ?_;rintro e w1 ⟨b0,l1,rfl,pI,oI,jH⟩;have lF:w.heap.size+1<=w1.heap.size:=by have:=oI.size;simpa using this
 have R1:=zh (oI.heap (show ¬dY pb _ from fun e=>DT) HA.out);have lP:=zh ((Ba (S:=dY pb) (aB w (.cells #[.int .i64 0,.string ⟨#[]⟩,.slice none 0 0] 123))).trans oI);have sW:=zh pI;clear HK pI oI;rcases jH with⟨rfl,sC⟩|⟨rfl,rfl,-,nB⟩
 ·have HL:=zh sC;have hln:l1.length<n:=by rw[sC,List.length_cons] at hn;omega
  clear sC;go_wp2_with fail;refine(HP l1 w1 sW.out hln).mono ?_;rintro e w2 ⟨cs,x,ok,l2,rfl,hx,ht,ho,oI,nE⟩;obtain⟨nm,a,c,rfl,-,oW⟩:=dK hx;clear oW;obtain⟨xo,nI⟩:∃xo,xo=x.op:=⟨_,rfl⟩;rw[<-nI] at hx ⊢;clear nI;have nO:w.heap.size+1<=w2.heap.size:=Nat.le_trans lF ho.size;obtain⟨w3,tL⟩:∃w3,w3=w2.alloc (.cells #[.int .i64 xo,.string nm,.slice a x.args.length c] 123):=⟨_,rfl⟩;have kX:Below w2.heap.size w2 w3:=by rw[tL];exact aB _ _
  have nP:=zh (aY _ _ _ _ _ _ (aM.later (N:=cP w1.heap.size) kX) hx);have HT3:=zh (ht.later kX);have tJ:=zh ((lP.out.trans ho).trans (Ba kX));have R3:=zh (aC kX (ho.heap (show ¬dY pb _ from fun e=>DT) R1.out));have nL:Hid (w3.heap[w2.heap.size]? =some (.cells #[.int .i64 xo,.string nm,.slice a x.args.length c] 123)):=zh (by rw[tL];exact bY w2 _);have qP:=zh oI;have lC:=zh nE;have vK:¬pbH pb w w2.heap.size:=fun e=>by rcases e with e|e<;>omega
  obtain⟨⟨x0,x1,x2⟩,-⟩:=bx3 nL.out;clear hx ht ho oI nE
  cases ok with
  |false=>
   have HEx:=zh (show licAlt d l1=none from lC.out rfl);clear qP lC;go_wp2_with fail;rw[<-tL];clear tL kX;refine wp_region_held_drew (S:=fun W=>Off (pbH pb w) w3 W) CQ ((Off.refl (pbH pb w) w3).drew) fun hS=>?_;refine zt 0 (.agg #[.int .i64 xo,.string nm,.slice a x.args.length c]) rfl (fun W hW=>E3) ?_;refine zq 1 (.bool false) rfl ?_;refine zq 2 (.bool false) rfl ?_;refine zu 3 rfl ?_;refine zu 4 rfl ?_;refine zu 5 rfl ?_;refine zu 6 rfl ?_;refine zq 7 (.bool false) rfl ?_;(try simp only[zn]);have R5:Hid (w3.drew.heap[w.heap.size]? =some (.cells #[.int .i64 0,.string ⟨#[]⟩,.slice none 0 0] 123)):=zh R3.out;have HOW:=zh tJ.out.drew;have HTW:=zh (HT3.out.later (aL w3));have HSW:=zh ((Off.refl (pbH pb w) w3).drew);have HSP:=zh ((Off.refl (dY pb) w3).drew);generalize w3.drew=w5 at *;have kT:=zh (sev_out HTW.out HOW.out pO R5.out (.int .i64 xo) (.string nm) (.slice a x.args.length c));have rA:=zh (((HSW.out.trans (Off.setCell (S:=pbH pb w) (b:=w.heap.size) (o:=0) (v:=.int .i64 xo) _ (.inr rfl))).trans (Off.setCell (S:=pbH pb w) (b:=w.heap.size) (o:=1) (v:=.string nm) _ (.inr rfl))).trans (Off.setCell (S:=pbH pb w) (b:=w.heap.size) (o:=2) (v:=.slice a x.args.length c) _ (.inr rfl)));obtain⟨⟨p0,p1,p2⟩,r0,r1,r2⟩:=bx3 R5.out;refine zr 8 rfl (fun K hK=>?_);(try simp only[z1,z2,z3]);go_simp;refine hK.out _ _ rA.out (fun hS=>?_);clear hK K;refine zq 9 (.bool false) rfl ?_;(try simp only[zn]);refine wpAnyH_done CQ ?_ _;have HMv:=zh (kT.out.2.2.2 (cP w1.heap.size) (fun b hb=>by have h:w1.heap.size<=b:=hb;omega));clear hS p0 p1 p2 r0 r1 r2;generalize ((w5.setCell ⟨w.heap.size,0,none⟩ (.int .i64 xo)).setCell ⟨w.heap.size,1,none⟩ (.string nm)).setCell ⟨w.heap.size,2,none⟩ (.slice a x.args.length c)=w6 at *;obtain⟨⟨c0,c1,c2⟩,-⟩:=bx3 kT.out.1;have HXW:=zh (aY _ _ _ _ _ _ HMv.out (aY _ _ _ _ _ _ (skip_moves pO lF HSP.out) (nP.out:fF (cP w1.heap.size) w3 x _)));go_wp2_with fail;refine bodyPost_ret (v:=.tuple #[.agg #[.int .i64 xo,.string nm,.slice a x.args.length c],.bool false]) EO rfl ?_;exact⟨_,x,false,l2,rfl,HXW.out,kT.out.2.1,kT.out.2.2.1,(fun h=>D3),fun _=>by rw[HL.out,licPart_par,HEx.out]⟩
  |true=>
   have HEx:=zh (show licAlt d l1=some (x,l2) from qP.out rfl);clear qP lC;go_wp2_with fail;rw[<-tL];clear tL kX;refine wp_region_held_drew (S:=fun W=>Off (pbH pb w) w3 W) CQ ((Off.refl (pbH pb w) w3).drew) fun hS=>?_;refine zt 0 (.agg #[.int .i64 xo,.string nm,.slice a x.args.length c]) rfl (fun W hW=>E3) ?_;refine zq 1 (.bool true) rfl ?_;refine zq 2 (.bool true) rfl ?_;refine zq 3 (.pointer (some ⟨pb,0,none⟩)) rfl ?_;refine zq 4 (.pointer (some ⟨pb,0,none⟩)) rfl ?_;refine zq 5 (.pointer (some ⟨pb,0,none⟩)) rfl ?_;(try simp only[zn]);refine zr 6 rfl (fun K hK=>?_);(try simp only[z1,z2,z3]);go_simp;refine(lskip_any pb kParR l2 _ (HT3.out.later (aL w3))).mono ?_;rintro e w5 ⟨b,l3,rfl,ht5,ho5,xT⟩;have HO5:=zh (((Off.refl (dY pb) w3).drew).trans ho5);have HO6:=zh (HO5.out.mono (S':=pbH pb w) (fun k hk=>.inl hk));have HT5:=zh ht5;have HC5:=zh xT;clear ht5 ho5 xT;refine hK.out _ _ HO6.out (fun hS=>?_);clear hK K;refine zq 7 (.bool b) rfl ?_;(try simp only[zn]);have R5:=zh (HO5.out.heap (show ¬dY pb _ from fun e=>DT) R3.out);have HOW:=zh (tJ.out.trans HO5.out);have HTW:=HT5;have HSW:=HO6;have kT:=zh (sev_out HTW.out HOW.out pO R5.out (.int .i64 xo) (.string nm) (.slice a x.args.length c));have rA:=zh (((HSW.out.trans (Off.setCell (S:=pbH pb w) (b:=w.heap.size) (o:=0) (v:=.int .i64 xo) _ (.inr rfl))).trans (Off.setCell (S:=pbH pb w) (b:=w.heap.size) (o:=1) (v:=.string nm) _ (.inr rfl))).trans (Off.setCell (S:=pbH pb w) (b:=w.heap.size) (o:=2) (v:=.slice a x.args.length c) _ (.inr rfl)));obtain⟨⟨p0,p1,p2⟩,r0,r1,r2⟩:=bx3 R5.out;refine zr 8 rfl (fun K hK=>?_);(try simp only[z1,z2,z3]);go_simp;refine hK.out _ _ rA.out (fun hS=>?_);clear hK K;refine zq 9 (.bool b) rfl ?_;(try simp only[zn]);refine wpAnyH_done CQ ?_ _;have HMv:=zh (kT.out.2.2.2 (cP w1.heap.size) (fun b hb=>by have h:w1.heap.size<=b:=hb;omega));clear hS p0 p1 p2 r0 r1 r2;generalize ((w5.setCell ⟨w.heap.size,0,none⟩ (.int .i64 xo)).setCell ⟨w.heap.size,1,none⟩ (.string nm)).setCell ⟨w.heap.size,2,none⟩ (.slice a x.args.length c)=w6 at *;obtain⟨⟨c0,c1,c2⟩,-⟩:=bx3 kT.out.1;have HXW:=zh (aY _ _ _ _ _ _ HMv.out (aY _ _ _ _ _ _ (skip_moves pO (Nat.le_trans lF (Nat.le_refl _)) HO5.out) (nP.out:fF (cP w1.heap.size) w3 x _)));go_wp2_with fail;refine bodyPost_ret (v:=.tuple #[.agg #[.int .i64 xo,.string nm,.slice a x.args.length c],.bool b]) EO rfl ?_;refine⟨_,x,b,l3,rfl,HXW.out,kT.out.2.1,kT.out.2.2.1,fun hb=>?_,fun hb=>?_⟩
   ·rcases HC5.out with⟨-,tP⟩|⟨jP,-⟩
    ·rw[HL.out,licPart_par,HEx.out,tP];rfl
    rw[hb] at jP;cases jP
   rcases HC5.out with⟨jP,-⟩|⟨-,hl3,-,nB⟩
   ·rw[hb] at jP;cases jP
   rw[HL.out,licPart_par,HEx.out]
   cases l2 with
   |nil=>rfl
   |cons u r=>
    have:¬u=kParR:=fun e=>nB r (by rw[e]);simp only[if_neg this]
 have rB:=zh nB;have HW:=zh (lword_any pb l1 w1 sW.out);go_wp2_with fail;refine HW.out.mono ?_;rintro e w2 ⟨nm,b,l2,rfl,vL,nE,mG⟩;have R2:=nE.heap (show ¬dY pb _ from fun e=>DT) R1.out;have kT:=zh (sev_out vL (lP.out.trans nE) pO R2 (.int .i64 0) (.string nm) (.slice none 0 0));have lH:=zh mG;obtain⟨⟨p0,p1,p2⟩,r0,r1,r2⟩:=bx3 R2;clear vL nE mG R2 HW nB;go_wp2_with fail;clear p0 p1 p2 r0 r1 r2;generalize ((w2.setCell ⟨w.heap.size,0,none⟩ (.int .i64 0)).setCell ⟨w.heap.size,1,none⟩ (.string nm)).setCell ⟨w.heap.size,2,none⟩ (.slice none 0 0)=w4 at *;obtain⟨⟨c0,c1,c2⟩,-⟩:=bx3 kT.out.1;refine bodyPost_ret (v:=.tuple #[.agg #[.int .i64 0,.string nm,.slice none 0 0],.bool b]) EO rfl ?_;refine⟨_,.mk 0 nm [],b,l2,rfl,encL_leaf 0 nm,kT.out.2.1,kT.out.2.2.1,fun hb=>?_,fun hb=>?_⟩
 ·rcases lH.out with⟨-,tP,mS⟩|⟨jP,-⟩
  ·rw[tP,licPart_word _ _ _ (fun e=>rB.out l2 (by rw[tP,e])),if_pos mS]
  rw[hb] at jP;cases jP
 rcases lH.out with⟨jP,-⟩|⟨-,hl3,-,tZ⟩
 ·rw[hb] at jP;cases jP
 cases l1 with
 |nil=>rw[bX]
 |cons t r=>rw[licPart_word _ _ _ (fun e=>rB.out r (by rw[e])),tZ t r rfl];rfl
theorem lparts_any(pb:Nat):∀(n:Nat),n<=100000->∀(d:Nat),n<d->∀(l:List bA)(w:World),eF pb l w->l.length<=n->
  Calls Tryz.prog 217 #[.pointer (some ⟨pb,0,none⟩)] w fun e w'=>PartQ (bX d) pb l w e w'
 |n,pT,0,hd=>CR
 |0,pT,d+1,_=>fun l w h hl=>lpart_one pb 0 d (fun l w _ hl=>absurd hl (Nat.not_lt_zero _)) l w h hl
 |n+1,pT,d+1,hd=>fun l w h hl=>lpart_one pb (n+1) d (fun l w h hl=>
   lalt_any pb n d CR (fun l w h hl=>lseq_any pb n d CR (fun l w h hl=>lparts_any pb n CR d CR l w h hl) l w h hl) l w h CR) l w h hl
theorem lalts_any(pb n d:Nat)(pT:n<=100000)(hd:n<d)(l:List bA)(w:World)(h:eF pb l w)(hl:l.length<=n):
  Calls Tryz.prog 135 #[.pointer (some ⟨pb,0,none⟩)] w fun e w'=>PartQ (licAlt d) pb l w e w':=
 lalt_any pb n d pT (fun l w h hl=>lseq_any pb n d pT (fun l w h hl=>lparts_any pb n pT d hd l w h hl) l w h hl) l w h hl
theorem A5{p:Prop}(h:p:=by
 have rZ:op=1\/((op != 1)=true/\(op != 2)=false):=by rcases pS with rfl|rfl;exact .inl rfl;exact .inr ⟨rfl,rfl⟩
 clear HE qP pS HN HI HR;rcases rZ with rfl|⟨hp1,hp2⟩
 ·go_enter Tryz.func179,Tryz.ntmps179;go_wp2_with fail;go_ret;exact⟨aQ hR.out.symm,HA.out⟩
 go_enter Tryz.func179,Tryz.ntmps179;go_wp2_with fail;go_ret
 exact⟨aQ hR.out.symm,HA.out⟩):p:=h
theorem BJ{p:Prop}(h:p:=by
 have zT:¬(16:Int)<m+sz:=wR;have qH:IntKind.i64.wrap ((k:Int)+1)=(k:Int)+1:=bN CR CR;go_wp2_with fail;go_roundw;case rel=>exact⟨k+1,m+sz,CR,C5,rfl,hbn,CR,hR,qI⟩
 case measure=>simp[intOf];omega):p:=h
theorem BN{p:Prop}(h:p:=by
 rw[List.drop_eq_getElem_cons (by rw[nQ.out];exact jM)];congr 1;have:=List.getElem?_eq_getElem (show k<args.length by rw[nQ.out];exact jM);rw[hx] at this
 exact(Option.some.inj this).symm):p:=h
theorem BY{p:Prop}(h:p:=by
 have hR:Hid (R=m+sz):=zh (by rw[HNy.out,if_pos wR]);have zT:(16:Int)<m+sz:=wR;go_wp2_with fail;go_ret
 exact⟨aQ hR.out.symm,aA HA.out qI.out⟩):p:=h
theorem B8{p:Prop}(h:p:=by
 clear qP hq;go_wp2_with fail;go_ret
 exact⟨aQ hR.out.symm,jL.out⟩):p:=h
theorem CE{p:Prop}(h:p:=by
 have hR:Hid (R=17):=zh (by rw[pQ.out,if_pos nY]);clear nY;go_wp2_with fail;go_ret
 exact⟨aQ hR.out.symm,aA HA.out AB.out⟩):p:=h
theorem CI{p:Prop}(h:p:=by
 go_wp2_with fail;go_ret
 exact⟨aQ (by rw[AE.out,List.drop_eq_nil_of_le (by rw[nQ.out];omega),bR]),aA HA.out HW.out⟩):p:=h
mutual
theorem licSize_le:∀(e:Lic)(lv:Nat),0<=bJ lv e/\bJ lv e<=17+16*(17-lv:Nat)
 | .mk op name args,lv=>by
  unfold bJ;split
  ·split<;>omega
  split
  ·rename_i h;have:=licSizes_le args op lv 0 CR CR h.2.2.2;omega
  omega
theorem licSizes_le:∀(l:List Lic)(op:Int)(lv:Nat)(n:Int),0<=n->n<=16->lv<=16->0<=bR op lv n l/\bR op lv n l<=17+16*(17-lv:Nat)
 |[],op,lv,n,h1,h2,h3=>by unfold bR;omega
 |x::r,op,lv,n,h1,h2,h3=>by
  have hx:=licSize_le x (lv+1);unfold bR;split
  ·omega
  split
  ·omega
  exact licSizes_le r op lv _ CR CR h3
end
theorem licSizes_next{op:Int}{lv:Nat}{n:Int}{x:Lic}{r:List Lic}:bR op lv n (x::r)=if x.op=op then 17 else if n+bJ (lv+1) x>16 then n+bJ (lv+1) x else bR op lv (n+bJ (lv+1) x) r:=by
 rw[bR]
theorem lsize_one(e:Lic)(lv:Nat)(hlv:lv<=17)(ih:∀x∈e.args,∀(N:Nat->Prop)(cs:List Value)(w:World),lv<=16->fF N w x cs->Calls Tryz.prog 179 #[.agg cs.toArray,.int .i64 ((lv:Int)+1)] w fun v w'=>v=.returned (.int .i64 (bJ (lv+1) x))/\Below w.heap.size w w')
  (N:Nat->Prop) (cs:List Value) (w:World) (he:fF N w e cs):Calls Tryz.prog 179 #[.agg cs.toArray,.int .i64 (lv:Int)] w fun v w'=>v=.returned (.int .i64 (bJ lv e))/\Below w.heap.size w w':=by
 obtain⟨op,nm,args⟩:=e;obtain⟨va,rfl,nS⟩:=(encL_iff op nm args cs).1 he;obtain⟨a,c,rfl,-⟩:=id nS;have HX:=zh (bY w (.cells #[.int .i64 op,.string nm,.slice a args.length c] 123));have HA:=zh (aB w (.cells #[.int .i64 op,.string nm,.slice a args.length c] 123));have HR:=zh nS;have HN:=zh (fun W=>named_any nm W);have sA:∀(x:Bool)(w:World),(Op.unary .not (.bool x)).run Tryz.prog w=.ok (.bool (!x)) w:=fun _ _=>rfl;have HI:=zh ih;obtain⟨⟨x0,x1,x2⟩,-⟩:=bx3 HX.out;simp only[Lic.args] at HI;clear ih he nS;have HE:Hid (∀z,z=bJ lv (.mk op nm args)->z=if op=0 then(if eA nm&&decide (args.length=0) then 1 else 17) else if(op=1\/op=2)/\nm=noB/\2<=args.length/\lv<=16 then bR op lv 0 args else 17):=zh (fun z h=>by rw[h,bJ]);generalize bJ lv (.mk op nm args)=R at *;by_cases h0:op=0
 ·subst h0;go_enter Tryz.func179,Tryz.ntmps179;go_wp2_with fail;refine(HN.out _).mono ?_;rintro e w1 ⟨rfl,kK⟩;have jL:=zh (aA HA.out kK);obtain⟨⟨y0,y1,y2⟩,-⟩:=bx3 (aC kK HX.out);clear kK x0 x1 x2;have qP:=zh (HE.out R rfl);clear HE
  cases hq:eA nm with
  |false=>
   have hR:Hid (R=17):=zh (by rw[qP.out,hq];rfl);exact B8
  |true=>
   by_cases hl:args.length=0
   ·have hR:Hid (R=1):=zh (by rw[qP.out,hq,hl];rfl);have sC:¬(0:Int)<(args.length:Int):=CR;exact B8
   have hR:Hid (R=17):=zh (by rw[qP.out,hq,decide_eq_false hl];rfl);have sC:(0:Int)<(args.length:Int):=CR;exact B8
 have qP:=zh (HE.out R rfl);have h00:(op==0)=false:=by rw[beq_eq_false_iff_ne];exact h0
 by_cases pS:op=1\/op=2
 ·by_cases mS:nm=noB
  ·by_cases hl:2<=args.length
   ·by_cases hv:lv<=16
    ·(have hR0:R=bR op lv 0 args:=by rw[qP.out,if_neg h0,if_pos ⟨pS,mS,hl,hv⟩]);have nT:=zh hR0;(have zA:nm.toList=[]:=by rw[mS,Lib.toList_data]);have sC:¬(args.length:Int)<2:=CR;have hv1:¬(16:Int)<(lv:Int):=CR
     obtain⟨b,o,ha,HC⟩:∃b o,a=some ⟨b,o,none⟩/\Hid (∀i x,args[i]? =some x->∃cs,fF N w x cs/\cs.length=3/\∀j u,cs[j]? =some u->w.cell? ⟨b,o+i*3+j,none⟩=some u):=by
      obtain⟨a',c',hv,-,-,h3⟩:=HR.out;obtain⟨b,o,e,-,hx⟩:=h3 (by intro e;rw[e] at hl;simp at hl);cases hv;exact⟨b,o,e,zh hx⟩
     subst ha
     have hnb:args.length<=9223372036854775807:=by
      obtain⟨a',c',hv,h1,h2,-⟩:=HR.out;omega
     have hlw:IntKind.i64.wrap ((lv:Int)+1)=(lv:Int)+1:=bN CR CR;(have hop1:((op != 1)&&(op != 2))=false:=by rcases pS with rfl|rfl<;>rfl);(have rZ:op=1\/((op != 1)=true/\(op != 2)=false):=by rcases pS with rfl|rfl;exact .inl rfl;exact .inr ⟨rfl,rfl⟩);have HOp:=zh pS;clear HE qP hR0 pS mS HN hop1;generalize hn:args.length=n at *;have nQ:=zh hn;clear hn;rcases rZ with rfl|⟨hp1,hp2⟩
     ·go_enter Tryz.func179,Tryz.ntmps179;go_wp2_with fail;(go_loopw [5,47] (fun nv iv wr=>∃(k:Nat)(m:Int),k<=n/\iv=.int .i64 (k:Int)/\nv=.int .i64 m/\0<=m/\m<=16/\Hid (R=bR 1 lv m (args.drop k))/\Hid (Below (w.alloc (.cells #[.int .i64 1,.string nm,.slice (some ⟨b,o,none⟩) n c] 123)).heap.size (w.alloc (.cells #[.int .i64 1,.string nm,.slice (some ⟨b,o,none⟩) n c] 123)) wr)) (fun _ iv _=>n-(intOf iv).toNat));case atStart=>exact⟨0,0,Nat.zero_le _,rfl,rfl,CR,CR,nT,zh (Below.refl _ _)⟩
      case round=>
       (rename World=>wr);obtain⟨k,m,hk,rfl,rfl,rE,vO,AE,HW⟩:=hrel;by_cases jM:k<n
       ·obtain⟨x,hx,mT⟩:=getElem?_of_lt (show k<args.length by rw[nQ.out];exact jM);obtain⟨cs,oW,-,kP⟩:=HC.out k x hx;obtain⟨xn,xa,xc,rfl,-,-⟩:=dK oW
        have rM:args.drop k=x::args.drop (k+1):=by
         exact BN
        have uE:=aA HA.out HW.out;have q0:=aD uE (kP 0 _ rfl);have q1:=aD uE (kP 1 _ rfl);have q2:=aD uE (kP 2 _ rfl);simp only[Nat.add_zero] at q0 q1 q2;have nN:(0:Int)<=(k:Int)/\(k:Int)<(n:Int):=CR;have mO:=licSize_le x (lv+1);have xC:=zh (fun W(hb:Below w.heap.size w W)=>HI.out x mT N _ W hv (aY _ _ _ _ _ _ (aM.later hb) oW));have pQ:Hid (R=_):=zh (by rw[AE.out,rM,licSizes_next]);obtain⟨xo,nR⟩:∃xo,xo=x.op:=⟨_,rfl⟩;rw[<-nR] at q0 xC pQ;have hz:=(bx3 (aC (aB wr (.cells #[.int .i64 xo,.string xn,.slice xa x.args.length xc] 123)) (aC HW.out HX.out))).1;obtain⟨z0,z1,z2⟩:=hz;have AB:=zh (aA HW.out (aB wr (.cells #[.int .i64 xo,.string xn,.slice xa x.args.length xc] 123)));have hwn:IntKind.i64.wrap (m+bJ (lv+1) x)=m+bJ (lv+1) x:=bN CR CR;have hbn:0<=m+bJ (lv+1) x:=CR;generalize bJ (lv+1) x=sz at *;clear nR oW kP hx rM mT AE mO x0 x1 x2;have uC:=Classical.em (xo=1);rcases uC with nY|nY
        ·have vK:(xo==1)=true:=beq_iff_eq.2 nY;exact CE
        have vK:(xo==1)=false:=beq_eq_false_iff_ne.2 nY;have HNy:Hid (R=if m+sz>16 then m+sz else bR 1 lv (m+sz) (args.drop (k+1))):=zh (by rw[pQ.out,if_neg nY]);clear nY;go_wp2_with fail;refine(xC.out _ (aA HA.out AB.out)).mono ?_;rintro e w2 ⟨rfl,jP⟩;have qI:=zh (aA AB.out jP);clear jP z0 z1 z2 q0 q1 q2;by_cases wR:m+sz>16
        ·exact BY
        have hR:=zh (by have:=HNy.out;rw[if_neg wR] at this;exact this:R=bR 1 lv (m+sz) (args.drop (k+1)));exact BJ
       exact CI
     go_enter Tryz.func179,Tryz.ntmps179;go_wp2_with fail;(go_loopw [5,47] (fun nv iv wr=>∃(k:Nat)(m:Int),k<=n/\iv=.int .i64 (k:Int)/\nv=.int .i64 m/\0<=m/\m<=16/\Hid (R=bR op lv m (args.drop k))/\Hid (Below (w.alloc (.cells #[.int .i64 op,.string nm,.slice (some ⟨b,o,none⟩) n c] 123)).heap.size (w.alloc (.cells #[.int .i64 op,.string nm,.slice (some ⟨b,o,none⟩) n c] 123)) wr)) (fun _ iv _=>n-(intOf iv).toNat));case atStart=>exact⟨0,0,Nat.zero_le _,rfl,rfl,CR,CR,nT,zh (Below.refl _ _)⟩
     case round=>
      (rename World=>wr);obtain⟨k,m,hk,rfl,rfl,rE,vO,AE,HW⟩:=hrel;by_cases jM:k<n
      ·obtain⟨x,hx,mT⟩:=getElem?_of_lt (show k<args.length by rw[nQ.out];exact jM);obtain⟨cs,oW,-,kP⟩:=HC.out k x hx;obtain⟨xn,xa,xc,rfl,-,-⟩:=dK oW
       have rM:args.drop k=x::args.drop (k+1):=by
        exact BN
       have uE:=aA HA.out HW.out;have q0:=aD uE (kP 0 _ rfl);have q1:=aD uE (kP 1 _ rfl);have q2:=aD uE (kP 2 _ rfl);simp only[Nat.add_zero] at q0 q1 q2;have nN:(0:Int)<=(k:Int)/\(k:Int)<(n:Int):=CR;have mO:=licSize_le x (lv+1);have xC:=zh (fun W(hb:Below w.heap.size w W)=>HI.out x mT N _ W hv (aY _ _ _ _ _ _ (aM.later hb) oW));have pQ:Hid (R=_):=zh (by rw[AE.out,rM,licSizes_next]);obtain⟨xo,nR⟩:∃xo,xo=x.op:=⟨_,rfl⟩;rw[<-nR] at q0 xC pQ;have hz:=(bx3 (aC (aB wr (.cells #[.int .i64 xo,.string xn,.slice xa x.args.length xc] 123)) (aC HW.out HX.out))).1;obtain⟨z0,z1,z2⟩:=hz;have AB:=zh (aA HW.out (aB wr (.cells #[.int .i64 xo,.string xn,.slice xa x.args.length xc] 123)));have hwn:IntKind.i64.wrap (m+bJ (lv+1) x)=m+bJ (lv+1) x:=bN CR CR;have hbn:0<=m+bJ (lv+1) x:=CR;generalize bJ (lv+1) x=sz at *;clear nR oW kP hx rM mT AE mO x0 x1 x2;have uC:=Classical.em (xo=op);rcases uC with nY|nY
       ·have vK:(xo==op)=true:=beq_iff_eq.2 nY;exact CE
       have vK:(xo==op)=false:=beq_eq_false_iff_ne.2 nY;have HNy:Hid (R=if m+sz>16 then m+sz else bR op lv (m+sz) (args.drop (k+1))):=zh (by rw[pQ.out,if_neg nY]);clear nY;go_wp2_with fail;refine(xC.out _ (aA HA.out AB.out)).mono ?_;rintro e w2 ⟨rfl,jP⟩;have qI:=zh (aA AB.out jP);clear jP z0 z1 z2 q0 q1 q2;by_cases wR:m+sz>16
       ·exact BY
       have hR:=zh (by have:=HNy.out;rw[if_neg wR] at this;exact this:R=bR op lv (m+sz) (args.drop (k+1)));exact BJ
      exact CI
    have hR:Hid (R=17):=zh (by rw[qP.out,if_neg h0,if_neg (fun h=>hv h.2.2.2)]);(have zA:nm.toList=[]:=by rw[mS,Lib.toList_data]);have sC:¬(args.length:Int)<2:=CR;have hv1:(16:Int)<(lv:Int):=CR;clear mS;exact A5
   have hR:Hid (R=17):=zh (by rw[qP.out,if_neg h0,if_neg (fun h=>hl h.2.2.1)]);(have zA:nm.toList=[]:=by rw[mS,Lib.toList_data]);have sC:(args.length:Int)<2:=CR;clear mS;exact A5
  have hR:Hid (R=17):=zh (by rw[qP.out,if_neg h0,if_neg (fun h=>mS h.2.1)]);have zA:¬nm.toList=[]:=fun e=>mS ((iD (x:=noB) rfl).2 e);exact A5
 have hR:Hid (R=17):=zh (by rw[qP.out,if_neg h0,if_neg (fun h=>pS h.1)]);have hp1:(op != 1)=true:=by rw[bne_iff_ne];exact fun e=>pS (.inl e)
 have hp2:(op != 2)=true:=by rw[bne_iff_ne];exact fun e=>pS (.inr e)
 clear HE qP pS HN HI HR;go_enter Tryz.func179,Tryz.ntmps179;go_wp2_with fail;go_ret;exact⟨aQ hR.out.symm,HA.out⟩
theorem lsize_any:∀(e:Lic)(lv:Nat),lv<=17->∀(N:Nat->Prop)(cs:List Value)(w:World),fF N w e cs->Calls Tryz.prog 179 #[.agg cs.toArray,.int .i64 (lv:Int)] w fun v w'=>v=.returned (.int .i64 (bJ lv e))/\Below w.heap.size w w'
 | .mk op nm args,lv,hlv,N,cs,w,he=>lsize_one (.mk op nm args) lv hlv (fun x hx N cs w hv oW=>by
   have:=lsize_any x (lv+1) CR N cs w oW
   exact this) N cs w he
termination_by e=>SizeOf.sizeOf e
decreasing_by
 have h1:SizeOf.sizeOf x<SizeOf.sizeOf args:=List.sizeOf_lt_of_mem hx;simp only[Lic.mk.sizeOf_spec];omega
theorem lright_any(e:Lic)(N:Nat->Prop)(cs:List Value)(w:World)(he:fF N w e cs):Calls Tryz.prog 136 #[.agg cs.toArray] w fun v w'=>v=.returned (.bool (licRight e))/\Below w.heap.size w w':=by
 obtain⟨nm,a,c,rfl,-,oW⟩:=dK he;clear oW;have HS:=zh (fun W(hb:Below w.heap.size w W)=>lsize_any e 0 CR N _ W (aY _ _ _ _ _ _ (aM.later hb) he));obtain⟨xo,nR⟩:∃xo,xo=e.op:=⟨_,rfl⟩;rw[<-nR] at HS he ⊢;have HX:=zh (bY w (.cells #[.int .i64 xo,.string nm,.slice a e.args.length c] 123));have HA:=zh (aB w (.cells #[.int .i64 xo,.string nm,.slice a e.args.length c] 123));clear he nR;go_enter Tryz.func136,Tryz.ntmps136;go_wp2_with fail;refine(HS.out _ HA.out).mono ?_;rintro v w2 ⟨rfl,jP⟩;have HB:=zh (aA HA.out jP);clear jP;go_wp2_with fail;go_ret;exact⟨rfl,HB.out⟩
theorem A6{p:Prop}(h:p:=by
 have kT:=zh (lp_out rD.out HA6.out (.int .i64 0) (.string ⟨#[]⟩) (.slice none 0 0));obtain⟨⟨p0,p1,p2⟩,r0,r1,r2⟩:=bx3 HA6.out;go_wp2_with fail;clear p0 p1 p2 r0 r1 r2;generalize (((w5.alloc (.cells #[.int .i64 xo,.string nm,.slice xa x.args.length xc] 123)).setCell ⟨w.heap.size,0,none⟩ (.int .i64 0)).setCell ⟨w.heap.size,1,none⟩ (.string ⟨#[]⟩)).setCell ⟨w.heap.size,2,none⟩ (.slice none 0 0)=w9 at *;obtain⟨⟨c0,c1,c2⟩,-⟩:=bx3 kT.out.1;refine bodyPost_ret (v:=.tuple #[.agg #[.int .i64 0,.string ⟨#[]⟩,.slice none 0 0],.int .i64 2]) EQ rfl ?_
 exact⟨_,_,_,_,_,ER,kT.out.2⟩):p:=h
def errL(s:bA):Int:=match eZ s with| .ok _=>0| .error k=>k
def dJ(s:bA):List bA:=Lib.splitB spaceB 0 (Lib.countB (cG s) spaceB) (cG s)
def ParseQ(s:bA)(w:World)(e:Ending)(w':World):Prop:=∃(op:Int)(nm:bA)(a:Option Addr)(n c:Nat),e=.returned (.tuple #[.agg #[.int .i64 op,.string nm,.slice a n c],.int .i64 (errL s)])/\Below w.heap.size w w'
theorem licText_size(s:bA):(cG s).size<=5*s.size:=by
 have h:(cG s).size=(s.data.toList.flatMap hJ).length:=by
  unfold cG;show(s.data.toList.flatMap hJ).toArray.size=_;rw[List.size_toArray]
 rw[h,parB_len];have:=parN_take s s.size;rw[List.take_of_length_le C0] at this;have e:s.data.toList.length=s.size:=C0;omega
theorem licParts_len(s:bA):(dJ s).length=Lib.countB (cG s) spaceB+1:=by
 exact Lib.splitB_all spaceB CX 0 _ (cG s) rfl
theorem lp_out{w w7:World}{z0 z1 z2:Value}(hb:Below w.heap.size w w7)(hr:w7.heap[w.heap.size]? =some (.cells #[z0,z1,z2] 123))(y0 y1 y2:Value):
  (((w7.setCell ⟨w.heap.size,0,none⟩ y0).setCell ⟨w.heap.size,1,none⟩ y1).setCell ⟨w.heap.size,2,none⟩ y2).heap[w.heap.size]? =some (.cells #[y0,y1,y2] 123)/\
  Below w.heap.size w (((w7.setCell ⟨w.heap.size,0,none⟩ y0).setCell ⟨w.heap.size,1,none⟩ y1).setCell ⟨w.heap.size,2,none⟩ y2):=
 ⟨by rw[aG (aG (aG hr _ _) _ _) _ _];rfl,((hb.setCell (p:=⟨w.heap.size,0,none⟩) (Nat.le_refl _) _).setCell (p:=⟨w.heap.size,1,none⟩) (Nat.le_refl _) _).setCell (p:=⟨w.heap.size,2,none⟩) (Nat.le_refl _) _⟩
theorem errL_none{s:bA}(h:¬1000<s.size)(ha:licAlt ((eQ s).length+1) (eQ s)=none):errL s=2:=by
 unfold errL eZ;rw[if_neg h,ha]
theorem errL_rest{s:bA}{x:Lic}{t:bA}{r:List bA}(h:¬1000<s.size)(ha:licAlt ((eQ s).length+1) (eQ s)=some (x,t::r)):errL s=2:=by
 unfold errL eZ;rw[if_neg h,ha]
theorem errL_all{s:bA}{x:Lic}(h:¬1000<s.size)(ha:licAlt ((eQ s).length+1) (eQ s)=some (x,[])):errL s=if licRight x then 0 else 6:=by
 unfold errL eZ;rw[if_neg h,ha];cases hr:licRight x<;>simp[hr]
theorem lparse_any(s:bA)(w:World)(hG:bC w):Calls Tryz.prog 82 #[.string s] w fun e w'=>ParseQ s w e w':=by
 have HA:=zh (bY w (.cells #[.int .i64 0,.string ⟨#[]⟩,.slice none 0 0] 123));by_cases kS:1000<s.size
 ·have g:(1000:Int)<(s.size:Int):=CR;have HE:Hid (errL s=6):=zh (by unfold errL eZ;rw[if_pos kS]);clear kS hG;obtain⟨⟨p0,p1,p2⟩,r0,r1,r2⟩:=bx3 HA.out;go_enter Tryz.func82,Tryz.ntmps82;go_wp2_with fail;refine bodyPost_ret (v:=.tuple #[.agg #[.int .i64 0,.string ⟨#[]⟩,.slice none 0 0],.int .i64 6]) (by simp[results,Tryz.results82,go_sem,p0,p1,p2]) rfl ?_;exact⟨_,_,_,_,_,ER,aB _ _⟩
 have g:¬(1000:Int)<(s.size:Int):=CR;obtain⟨m,hm⟩:=hG.maxLen;have lF:(w.alloc (.cells #[.int .i64 0,.string ⟨#[]⟩,.slice none 0 0] 123)).heap.size=w.heap.size+1:=C0;have hN:=bY (w.alloc (.cells #[.int .i64 0,.string ⟨#[]⟩,.slice none 0 0] 123)) (.cells repArgs 9);have jD:=zh (aA (aB w (.cells #[.int .i64 0,.string ⟨#[]⟩,.slice none 0 0] 123)) (aB (w.alloc (.cells #[.int .i64 0,.string ⟨#[]⟩,.slice none 0 0] 123)) (.cells repArgs 9)));have jG:=zh (aC (aB (w.alloc (.cells #[.int .i64 0,.string ⟨#[]⟩,.slice none 0 0] 123)) (.cells repArgs 9)) HA.out);rw[lF] at hN;have HNr:=zh (newrep_any (w.heap.size+1) 4 _ hN);have mO:s.size<=1000:=CR;clear hN hG HA lF;go_enter Tryz.func82,Tryz.ntmps82;go_wp2_with fail;refine HNr.out.mono ?_;rintro e w1 ⟨b,rfl,sT,rT,kK⟩;have jL:=zh (aA jD.out kK);have qG:=zh (aC kK jG.out);have HRp:=zh (replace_any b s w1 mO rT);have hlb:w.heap.size+2<=b:=by have:=sT;simp at this;omega
 clear sT rT kK HNr jG jD;go_wp2_with fail;refine HRp.out.mono ?_;rintro e w2 ⟨rfl,jP⟩;have jF:=zh (jL.out.trans (jP.mono CR));have tK:Hid (w2.heap[w.heap.size]? =some (.cells #[.int .i64 0,.string ⟨#[]⟩,.slice none 0 0] 123)):=zh ((jP.block _ CR).trans qG.out);have hm2:=aD jF.out hm;have zG:=licText_size s;have rG:=zh (Tryz.strings_Split (cG s) spaceB m w2 CR hm2 CX);rw[<-licParts_len] at rG;clear jP jL qG HRp hm hm2;change Hid (Calls Tryz.prog 83 #[.string (cG s),.string ⟨#[32]⟩] w2 fun e w'=>e=.returned (.slice (some ⟨w2.heap.size,0,none⟩) (dJ s).length (dJ s).length)/\w'=w2.alloc (.cells ((dJ s).map Value.string).toArray 9)) at rG
 have hpl:(dJ s).length<=6000:=by
  have h2:=Lib.countB_le spaceB CX (cG s).size (cG s) (Nat.le_refl _);rw[licParts_len];omega
 go_wp2_with(go_at_call 83;refine rG.out.mono ?_;rintro e w3 ⟨rfl,rfl⟩)
 have HC:Hid (∀i x,(dJ s)[i]? =some x->(w2.alloc (.cells ((dJ s).map Value.string).toArray 9)).cell? ⟨w2.heap.size,i,none⟩=some (.string x)):=zh (fun i x hx=>by
  refine(bx (bY w2 (.cells ((dJ s).map Value.string).toArray 9)) i ?_).1
  simp[hx])
 have kH:=zh (aA jF.out (aB w2 (.cells ((dJ s).map Value.string).toArray 9)));have HA3:=zh (aC (aB w2 (.cells ((dJ s).map Value.string).toArray 9)) tK.out);have HPz:Hid (∀x∈dJ s,x.size<=140737488355328):=zh (fun x hx=>by have:=splitB_size spaceB _ (cG s) x hx;omega);have HTk:Hid (eQ s=(dJ s).filter fun x=> !decide (x=noB)):=zh rfl;generalize dJ s=parts at *;generalize (w2.alloc (.cells (parts.map Value.string).toArray 9))=w3 at *;obtain⟨i0,oN,hs0,nU,tM⟩:=info_parts strInfo;clear jF tK rG;go_loopw [4,20] (fun ov iv wr=>∃(k:Nat)(acc:List bA)(css:List (List Value)),k<=parts.length/\iv=.int .i64 (k:Int)/\acc.length<=k/\Hid (acc=(parts.take k).filter fun x=> !decide (x=noB))/\Hid (Gro 1 9 cD w3.heap.size acc css ov wr)/\Hid (Below w3.heap.size w3 wr)) (fun _ iv _=>parts.length-(intOf iv).toNat)
 case atStart=>exact⟨0,[],[],Nat.zero_le _,rfl,Nat.le_refl _,zh rfl,zh (Gro.first _ _ _ _),zh (Below.refl _ _)⟩
 case round=>
  rename World=>wr
  obtain⟨k,acc,css,hk,rfl,hak,pR,HG,HW⟩:=hrel;by_cases jM:k<parts.length
  ·obtain⟨x,hx,mT⟩:=getElem?_of_lt jM;have nN:(0:Int)<=(k:Int)/\(k:Int)<(parts.length:Int):=CR;have c1:=aD HW.out (HC.out k x hx)
   have pQ:Hid ((parts.take (k+1)).filter (fun x=> !decide (x=noB))=acc++if x=noB then[] else[x]):=zh (by
    rw[List.take_add_one,hx,List.filter_append,<-pR.out];congr 1
    by_cases e:x=noB<;>simp[e])
   have hxz:=HPz.out x mT;clear hx mT;by_cases hxn:x=noB
   ·(have hx1:x.toList=[]:=by rw[hxn,Lib.toList_data]);have HAn:Hid (acc=(parts.take (k+1)).filter fun x=> !decide (x=noB)):=zh (by rw[pQ.out,if_pos hxn,List.append_nil]);(have hx2:x.toList.isEmpty=true:=by rw[hx1];rfl);(have hx3:(x.toList != [])=false:=by rw[hx1];rfl);clear hxn pQ;go_wp2_with fail;go_roundw;(case rel=>exact⟨k+1,acc,css,CR,C5,CR,HAn,HG,HW⟩);case measure=>simp[intOf];omega
   have hx1:¬x.toList=[]:=fun e=>hxn ((iD (x:=noB) rfl).2 e);have HAn:Hid (acc++[x]=(parts.take (k+1)).filter fun x=> !decide (x=noB)):=zh (by rw[pQ.out,if_neg hxn]);(have hx2:x.toList.isEmpty=false:=by simpa using hx1);(have hx3:(x.toList != [])=true:=by simpa using hx1);have hwz:=HW.out.size;clear hxn pQ;go_wp2_with(at_builtin;refine wpList_append_lies _ rfl _ _ 26 rfl w3.heap.size 9 i0 (.string ByteArray.empty) 1 16 Tryz.underlying26 oN hs0 nU tM rfl CR _ acc.length css.flatten D4 (HG.out.own.alloc _) ⟨wr.heap.size,0,none⟩ 1 1 [.string x] D4 rfl (World.news_of_block (bY wr (.cells #[.string x] 9))) DR CR DO CR DC (wr.heap.size+1) C0 ?_);intro gg cap w9 jY iP mM _;have zR:=Gro.later aT HG.out (aB wr (.cells #[.string x] 9));have rP:=Gro.added aT zR (x:=x) (news:=[.string x]) ⟨rfl,hxz⟩ rfl jY iP EE;have vW:=zh rP;have HW3:=zh (HW.out.trans ((aB wr (.cells #[.string x] 9)).mono hwz) |>.grown iP DC (fun j hj=>(zR.lt j hj).1));clear jY iP mM zR rP;go_wp2_with fail;go_roundw;(case rel=>exact⟨k+1,acc++[x],css++[[.string x]],CR,C5,DC,HAn,vW,HW3⟩);case measure=>simp[intOf];omega
  have hAll:Hid (acc=eQ s):=zh (by rw[HTk.out,pR.out,List.take_of_length_le CR]);obtain⟨a,c,hv,-⟩:=id (Gro.row aT HG.out);have rA:=zh (aK.strs (Gro.row aT HG.out))
  have tB:∀b o n c,u4=.slice (some ⟨b,o,none⟩) n c->b<wr.heap.size:=fun b o n c e=>by
   rcases Gro.val HG.out with⟨e2,-⟩|⟨g,cp,e2,-,hg⟩
   ·rw[e] at e2;cases e2
   rw[e] at e2;cases e2;exact hg
  subst hv;have HT4:Hid (eF wr.heap.size acc (wr.alloc (.cells #[.slice a acc.length c] 184))):=zh ⟨_,bY wr _,rA.out.later (aB _ _),tB⟩;have hal:acc.length<=6000:=CR;have HLt:=zh (lalts_any wr.heap.size acc.length (acc.length+1) CR (Nat.lt_succ_self _) acc _ HT4.out (Nat.le_refl _));have AC:=zh (aA (aA kH.out HW.out) (aB wr (.cells #[.slice a acc.length c] 184)));have HA4:=zh (aC (aB wr (.cells #[.slice a acc.length c] 184)) (aC HW.out HA3.out));have hlr:w.heap.size<wr.heap.size:=Nat.lt_of_lt_of_le (Array.getElem?_eq_some_iff.1 HA3.out).1 HW.out.size;clear tB rA HG HT4;go_wp2_with fail;refine HLt.out.mono ?_;rintro e w5 ⟨cs,x,ok,l2,rfl,hx,ht,ho,oI,nE⟩;obtain⟨nm,xa,xc,rfl,-,oW⟩:=dK hx;clear oW;obtain⟨xo,nR⟩:∃xo,xo=x.op:=⟨_,rfl⟩;rw[<-nR] at hx ⊢;clear nR;have oG:=zh (Off.below AC.out ho (fun k hk=>by cases hk;omega) AC.out.size);have rD:=zh ((oG.out).alloc oG.out.size (.cells #[.int .i64 xo,.string nm,.slice xa x.args.length xc] 123));have AO:=ho.heap (show ¬dY wr.heap.size _ from fun e=>by have e':w.heap.size=wr.heap.size:=e;omega) HA4.out;have HA6:=zh (aC (aB w5 (.cells #[.int .i64 xo,.string nm,.slice xa x.args.length xc] 123)) AO);have HXx:=zh (aY _ _ _ _ _ _ (aM.later (aB w5 (.cells #[.int .i64 xo,.string nm,.slice xa x.args.length xc] 123))) hx);have HXb:=zh (bY w5 (.cells #[.int .i64 xo,.string nm,.slice xa x.args.length xc] 123));obtain⟨v2,hv1,hv2,-⟩:=ht;obtain⟨a2,sU,hv3,-⟩:=id hv2;subst hv3;have l0:(w5.alloc (.cells #[.int .i64 xo,.string nm,.slice xa x.args.length xc] 123)).cell? ⟨wr.heap.size,0,none⟩=some (.slice a2 l2.length sU):=aD (aB _ _) (aH hv1 0 rfl).1;have sA:∀(x:Bool)(w:World),(Op.unary .not (.bool x)).run Tryz.prog w=.ok (.bool (!x)) w:=fun _ _=>rfl;have lP:=zh oI;have oT:=zh nE;clear hx ho oI nE hv1 hv2 AO HLt AC HA4
  cases ok with
  |false=>
   have HE:Hid (errL s=2):=zh (errL_none kS (by rw[<-hAll.out];exact oT.out rfl));clear lP oT;exact A6
  |true=>
   have AJ:=zh (show licAlt ((eQ s).length+1) (eQ s)=some (x,l2) from by rw[<-hAll.out];exact lP.out rfl);clear lP oT
   cases l2 with
   |cons u r=>
    have HE:Hid (errL s=2):=zh (errL_rest kS AJ.out);have hlp:(0:Int)<(((u::r).length:Nat):Int):=C0;clear AJ;generalize (u::r).length=n2 at *;exact A6
   |nil=>
    have HEa:=zh (errL_all kS AJ.out);simp only[List.length_nil] at l0;obtain⟨⟨x0,x1,x2⟩,-⟩:=bx3 HXb.out;have HRt:=zh (lright_any x _ _ (w5.alloc (.cells #[.int .i64 xo,.string nm,.slice xa x.args.length xc] 123)) HXx.out);clear AJ;go_wp2_with fail;refine HRt.out.mono ?_;rintro e w8 ⟨rfl,rF⟩;have pN:=zh (rD.out.trans (rF.mono rD.out.size));have HA8:=zh (aC rF HA6.out);obtain⟨⟨y0,y1,y2⟩,-⟩:=bx3 (aC rF HXb.out);clear rF x0 x1 x2 l0 HRt
    cases hr:licRight x with
    |false=>
     have HE:Hid (errL s=6):=zh (by rw[HEa.out,hr];rfl);clear HEa hr;have kT:=zh (lp_out pN.out HA8.out (.int .i64 0) (.string ⟨#[]⟩) (.slice none 0 0));obtain⟨⟨p0,p1,p2⟩,r0,r1,r2⟩:=bx3 HA8.out;go_wp2_with fail;clear p0 p1 p2 r0 r1 r2;generalize ((w8.setCell ⟨w.heap.size,0,none⟩ (.int .i64 0)).setCell ⟨w.heap.size,1,none⟩ (.string ⟨#[]⟩)).setCell ⟨w.heap.size,2,none⟩ (.slice none 0 0)=w9 at *;obtain⟨⟨c0,c1,c2⟩,-⟩:=bx3 kT.out.1;refine bodyPost_ret (v:=.tuple #[.agg #[.int .i64 0,.string ⟨#[]⟩,.slice none 0 0],.int .i64 6]) EQ rfl ?_;exact⟨_,_,_,_,_,ER,kT.out.2⟩
    |true=>
     have HE:Hid (errL s=0):=zh (by rw[HEa.out,hr];rfl);clear HEa hr;have kT:=zh (lp_out pN.out HA8.out (.int .i64 xo) (.string nm) (.slice xa x.args.length xc));obtain⟨⟨p0,p1,p2⟩,r0,r1,r2⟩:=bx3 HA8.out;go_wp2_with fail;clear p0 p1 p2 r0 r1 r2;generalize ((w8.setCell ⟨w.heap.size,0,none⟩ (.int .i64 xo)).setCell ⟨w.heap.size,1,none⟩ (.string nm)).setCell ⟨w.heap.size,2,none⟩ (.slice xa x.args.length xc)=w9 at *;obtain⟨⟨c0,c1,c2⟩,-⟩:=bx3 kT.out.1;refine bodyPost_ret (v:=.tuple #[.agg #[.int .i64 xo,.string nm,.slice xa x.args.length xc],.int .i64 0]) EQ rfl ?_;exact⟨_,_,_,_,_,ER,kT.out.2⟩
theorem rel1_any(s:bA)(l:List bA)(b:Nat)(a:Option Addr)(n c:Nat)(w:World)(hb:w.heap[b]? =some (.cells #[.slice a n c] 26))(hl:Strs w (.slice a n c) l):
  Calls Tryz.prog 77 #[.string s,.pointer (some ⟨b,0,none⟩)] w fun e w'=>e=.returned (.bool (!l.any fun y=>decide (y=s)))/\Below w.heap.size w w':=by
 have HC:=zh (hasS_any l s hl);have x0:=(aH hb 0 rfl).1;clear hl hb;generalize (l.any fun y=>decide (y=s))=q at *;go_enter Tryz.func77,Tryz.ntmps77;go_wp2_with fail;go_at_call 78;refine HC.out.mono ?_;rintro e w1 ⟨rfl,rfl⟩;go_wp2_with fail;go_ret;exact⟨rfl,Below.refl _ _⟩
theorem rel2_any(x:Nd)(l:List bA)(b:Nat)(a:Option Addr)(n c:Nat){N:Nat->Prop}{cs:List Value}(w:World)(hG:bC w)(hx:cI N w x cs)(hb:w.heap[b]? =some (.cells #[.slice a n c] 26))(hl:Strs w (.slice a n c) l):
  Calls Tryz.prog 80 #[.agg cs.toArray,.pointer (some ⟨b,0,none⟩)] w fun e w'=>e=.returned (.bool (!eE x l))/\Below w.heap.size w w':=by
 have hx2:=hx;obtain⟨vr,vs,rfl,-,-,hr,hs⟩:=hx2;obtain⟨ar,cr,rfl,-⟩:=id hr;obtain⟨af,cf,rfl,-⟩:=id hs;clear hr hs;have HA:=zh (aB w (.cells #[.string x.name,.slice ar x.ranges.length cr,.int .i64 x.kind,.string x.whn,.slice af x.feats.length cf] 71));have HC:=zh (fun W(hW:Below w.heap.size w W)=>needOk_any x l (w:=W) (hG.later hW) (fC _ _ _ _ _ _ (aM.later hW) hx) (hl.later hW));obtain⟨⟨y0,y1,y2,y3,y4⟩,-⟩:=bb5 (bY w (.cells #[.string x.name,.slice ar x.ranges.length cr,.int .i64 x.kind,.string x.whn,.slice af x.feats.length cf] 71));have x0:=(aH (aC HA.out hb) 0 rfl).1;clear hl hb hx hG;generalize eE x l=q at *;show Calls Tryz.prog 80 #[.agg #[.string x.name,.slice ar x.ranges.length cr,.int .i64 x.kind,.string x.whn,.slice af x.feats.length cf],.pointer (some ⟨b,0,none⟩)] w _;go_enter Tryz.func80,Tryz.ntmps80;go_wp2_with fail;go_at_call 81;refine(HC.out _ HA.out).mono ?_;rintro e w1 ⟨rfl,kK⟩;have HB:=zh (aA HA.out kK);clear kK x0 y0 y1 y2 y3 y4;go_wp2_with fail;go_ret;exact⟨rfl,HB.out⟩
theorem rb9{w:World}{b:Nat}{x0 x1 x2 x3 x4 x5 x6 x7 x8:Value}{t:TypeId}(h:w.heap[b]? =some (.cells #[x0,x1,x2,x3,x4,x5,x6,x7,x8] t)):
  w.cell? ⟨b,0,none⟩=some x0/\w.cell? ⟨b,1,none⟩=some x1/\w.cell? ⟨b,2,none⟩=some x2/\w.cell? ⟨b,3,none⟩=some x3/\w.cell? ⟨b,4,none⟩=some x4/\w.cell? ⟨b,5,none⟩=some x5/\w.cell? ⟨b,6,none⟩=some x6/\w.cell? ⟨b,7,none⟩=some x7/\w.cell? ⟨b,8,none⟩=some x8:=
 ⟨(bx h 0 rfl).1,(bx h 1 rfl).1,(bx h 2 rfl).1,(bx h 3 rfl).1,(bx h 4 rfl).1,(bx h 5 rfl).1,(bx h 6 rfl).1,(bx h 7 rfl).1,(bx h 8 rfl).1⟩
theorem str_news(wr:World)(o:Obj)(s:bA):∀(j:Nat)(u:Value),[Value.string s][j]? =some u->((wr.alloc o).alloc (.cells #[.string s] 9)).cell? ((⟨wr.heap.size+1,0,none⟩:Addr).add j)=some u:=by
 have h:=bY (wr.alloc o) (.cells #[.string s] 9);rw[show(wr.alloc o).heap.size=wr.heap.size+1 by simp] at h;exact World.news_of_block h
theorem licOk_err(s:bA):iE s=decide (errL s=0):=by
 unfold iE errL
 cases h:eZ s with
 |ok e=>rfl
 |error k=>
  have hk:k≠0:=by
   rintro rfl;unfold eZ at h
   repeat' split at h
   all_goals simp at h
  exact(decide_eq_false hk).symm
theorem release_any(r:Rl){N:Nat->Prop}(vn vf vp:Value)(w:World)(hG:bC w)(h:RlV N w r vn vf vp)(hf:r.feats.length<=1000000):
  Calls Tryz.prog 32 #[.agg (rlC r vn vf vp).toArray] w fun e w'=>e=.returned (.bool (dM r))/\Below w.heap.size w w':=by
 obtain⟨i0,oN,hs0,nU,tM⟩:=info_parts strInfo;have HV:=zh h;obtain⟨af,cf,hvf,hfl,hfc,hfx⟩:=id h.feats;subst hvf;obtain⟨an,cn,hvn,-⟩:=id h.needs;subst hvn;obtain⟨ap,cp,hvp,-⟩:=id h.plats;subst hvp;have HF:=zh hfx;have HX0:=bY w (.cells #[.string r.name,.int .i64 r.ver.a,.int .i64 r.ver.b,.int .i64 r.ver.c,.string r.source,.slice an r.needs.length cn,.slice af r.feats.length cf,.slice ap r.plats.length cp,.string r.lic] 28);have HX:=zh HX0;show Calls Tryz.prog 32 #[.agg #[.string r.name,.int .i64 r.ver.a,.int .i64 r.ver.b,.int .i64 r.ver.c,.string r.source,.slice an r.needs.length cn,.slice af r.feats.length cf,.slice ap r.plats.length cp,.string r.lic]] w _;clear h hfx HX0;go_enter Tryz.func32,Tryz.ntmps32;go_wp2_with fail;go_loopw [13] (fun iv wr=>∃(k:Nat)(acc:List bA)(css:List (List Value))(ov:Value),k<=r.feats.length/\iv=.int .i64 (k:Int)/\acc.length=k/\Hid (acc=(r.feats.take k).map (·.name))/\Hid (wr.heap[w.heap.size+1]? =some (.cells #[ov] 26))/\Hid (Gro 1 9 cD (w.heap.size+2) acc css ov wr)/\Hid (wr.heap[w.heap.size]? =some (.cells #[.string r.name,.int .i64 r.ver.a,.int .i64 r.ver.b,.int .i64 r.ver.c,.string r.source,.slice an r.needs.length cn,.slice af r.feats.length cf,.slice ap r.plats.length cp,.string r.lic] 28))/\Hid (Below w.heap.size w wr)) (fun iv _=>r.feats.length-(intOf iv).toNat)
 case atStart=>
  have hz:(w.alloc (.cells #[.string r.name,.int .i64 r.ver.a,.int .i64 r.ver.b,.int .i64 r.ver.c,.string r.source,.slice an r.needs.length cn,.slice af r.feats.length cf,.slice ap r.plats.length cp,.string r.lic] 28)).heap.size=w.heap.size+1:=C0;have hn:=bY (w.alloc (.cells #[.string r.name,.int .i64 r.ver.a,.int .i64 r.ver.b,.int .i64 r.ver.c,.string r.source,.slice an r.needs.length cn,.slice af r.feats.length cf,.slice ap r.plats.length cp,.string r.lic] 28)) (.cells #[.slice none 0 0] 26);rw[hz] at hn;exact⟨0,[],[],.slice none 0 0,Nat.zero_le _,rfl,rfl,zh rfl,zh hn,zh (Gro.first_at _ _ _ C0),zh (aC (aB _ _) HX.out),zh (aA (aB _ _) (aB _ _))⟩
 case round=>
  rename World=>wr
  obtain⟨k,acc,css,ov,hk,rfl,hak,pR,yJ,HG,vT,HW⟩:=hrel;by_cases jM:k<r.feats.length
  ·obtain⟨f,zJ,mT⟩:=getElem?_of_lt jM;have nN:(0:Int)<=(k:Int)/\(k:Int)<(r.feats.length:Int):=CR;obtain⟨b,o,ha,-,hx⟩:=HF.out EM;obtain⟨cs,⟨vi,rfl,mO,hri⟩,-,hj⟩:=hx k f zJ;obtain⟨ai,ci,rfl,-⟩:=id hri;clear hri;have c0:=aD HW.out (hj 0 _ rfl);have c1:=aD HW.out (hj 1 _ rfl);simp only[Nat.add_zero] at c0 c1;subst ha;have pQ:Hid (acc++[f.name]=(r.feats.take (k+1)).map (·.name)):=zh (by rw[List.take_add_one,zJ,List.map_append,<-pR.out];rfl);have n0:=(aH (aC (aB wr (.cells #[.string f.name,.slice ai f.implies.length ci] 73)) yJ.out) 0 rfl).1;have hzz:w.heap.size+2<=wr.heap.size:=HG.out.big;have HAk:=zh hak;have hak2:acc.length<=1000000:=CR;clear hx hj zJ mT hak;go_wp2_with(at_builtin;refine wpList_append_lies _ rfl _ _ 26 rfl (w.heap.size+2) 9 i0 (.string ByteArray.empty) 1 16 Tryz.underlying26 oN hs0 nU tM rfl CR ov acc.length css.flatten D4 ((HG.out.own.alloc _).alloc _) ⟨wr.heap.size+1,0,none⟩ 1 1 [.string f.name] D4 rfl (str_news wr _ _) DR CR DO CR DC (wr.heap.size+2) C0 ?_);intro gg cap w9 jY iP mM _;have kX:=aA (aB wr (.cells #[.string f.name,.slice ai f.implies.length ci] 73)) (aB (wr.alloc (.cells #[.string f.name,.slice ai f.implies.length ci] 73)) (.cells #[.string f.name] 9));have zR:=Gro.later aT HG.out kX;have rP:=Gro.added aT zR (x:=f.name) (news:=[.string f.name]) ⟨rfl,mO⟩ rfl jY iP EE;have zF:=zR.lt;have e9:∀j,j<w.heap.size+2->w9.heap[j]? =wr.heap[j]? :=fun j hj=>(iP.block j (by have:=kX.size;omega) (fun e=>by have:=(zF j e.symm).1;omega)).trans (kX.block j CR);have N9:=(e9 _ CR).trans yJ.out;have R9:=(e9 _ CR).trans vT.out;obtain⟨v0,z0⟩:=aH N9 0 rfl;have nX:Hid ((w9.setCell ⟨w.heap.size+1,0,none⟩ (.slice (some ⟨gg,0,none⟩) (acc.length+1) cap)).heap[w.heap.size+1]? =some (.cells #[.slice (some ⟨gg,0,none⟩) (acc.length+1) cap] 26)):=zh (by rw[aG N9];rfl);have oL:Hid ((w9.setCell ⟨w.heap.size+1,0,none⟩ (.slice (some ⟨gg,0,none⟩) (acc.length+1) cap)).heap[w.heap.size]? =some (.cells #[.string r.name,.int .i64 r.ver.a,.int .i64 r.ver.b,.int .i64 r.ver.c,.string r.source,.slice an r.needs.length cn,.slice (some ⟨b,o,none⟩) r.feats.length cf,.slice ap r.plats.length cp,.string r.lic] 28)):=zh ((Below.heap_setCell _ _ _ _ C0).trans R9);have qO:=zh (rP.stays aT (cJ.of_off (Off.setCell (S:=fun k=>k=w.heap.size+1) (b:=w.heap.size+1) (o:=0) (v:=.slice (some ⟨gg,0,none⟩) (acc.length+1) cap) w9 rfl) (fun b hb=>.inl CR)));have qI:=zh ((((HW.out.trans (kX.mono CR)).grown iP (by have:=kX.size;omega) (fun j hj=>by have:=(zF j hj).1;omega))).setCell (p:=⟨w.heap.size+1,0,none⟩) C0 (.slice (some ⟨gg,0,none⟩) (acc.length+1) cap));clear jY iP mM zR rP zF e9 N9 R9 kX n0 c0 c1;go_wp2_with fail;go_roundw;(case rel=>exact⟨k+1,acc++[f.name],_,_,CR,C5,by rw[List.length_append,HAk.out];rfl,pQ,nX,qO,oL,qI⟩);case measure=>simp[intOf];omega
  have hke:k=r.feats.length:=CR;obtain⟨ao,co,hov,-⟩:=id (Gro.row aT HG.out);subst hov;have vU:Hid (acc=r.feats.map (·.name)):=zh (by rw[pR.out,List.take_of_length_le CR]);have HS:=zh (aK.strs (Gro.row aT HG.out));have sB:¬(k:Int)<(r.feats.length:Int):=CR;clear hke hak pR HG jM;obtain⟨x0,x1,x2,x3,x4,x5,x6,x7,x8⟩:=rb9 vT.out;have n0:=(aH yJ.out 0 rfl).1;have HE:Hid (dM r=(bT r.name&&aU r.ver&&decide (r.source.size<=8000)&&dC acc&&decide (r.needs.length<=30)&&dC r.plats&&(r.feats.all fun f=>dC f.implies&&f.implies.all fun s=>acc.any fun x=>decide (x=s))&&(r.needs.all fun n=>eE n acc)&&iE r.lic)):=zh (by rw[vU.out];rfl);go_wp2_with fail;clear sB;refine(eY r.name wr (hG.later HW.out) HV.out.name).mono ?_;rintro e w1 ⟨rfl,kK⟩;have jL:=zh kK;clear kK x0 x1 x2 x3 x4 x5 x6 x7 x8 n0;obtain⟨x0,x1,x2,x3,x4,x5,x6,x7,x8⟩:=rb9 (aC jL.out vT.out);have n0:=(aH (aC jL.out yJ.out) 0 rfl).1
  cases qL:bT r.name with
  |false=>
   have hR:Hid (dM r=false):=zh (by rw[HE.out,qL];simp);clear HE;go_wp2_with fail;go_ret;exact⟨aF hR.out.symm,aA HW.out jL.out⟩
  |true=>
   have pP:=zh qL;clear qL;go_wp2_with fail;refine(hU r.ver w1).mono ?_;rintro e w2 ⟨rfl,oB⟩;have jF:=zh (aA jL.out oB.below);clear oB x0 x1 x2 x3 x4 x5 x6 x7 x8 n0;obtain⟨x0,x1,x2,x3,x4,x5,x6,x7,x8⟩:=rb9 (aC jF.out vT.out);have n0:=(aH (aC jF.out yJ.out) 0 rfl).1
   cases qK:aU r.ver with
   |false=>
    have hR:Hid (dM r=false):=zh (by rw[HE.out,pP.out,qK];simp);clear HE;go_wp2_with fail;go_ret;exact⟨aF hR.out.symm,aA HW.out jF.out⟩
   |true=>
    have qB:=zh qK;clear qK;by_cases hsrc:(8000:Int)<(r.source.size:Int)
    ·have tM:decide (r.source.size<=8000)=false:=decide_eq_false CR;have hR:Hid (dM r=false):=zh (by rw[HE.out,pP.out,qB.out,tM];simp);clear HE tM;go_wp2_with fail;go_ret;exact⟨aF hR.out.symm,aA HW.out jF.out⟩
    go_wp2_with fail;refine(listOk_any acc _ w2 (hG.later (aA HW.out jF.out)) (HS.out.later jF.out)).mono ?_;rintro e w3 ⟨rfl,kX⟩;have kH:=zh (aA jF.out kX);clear kX x0 x1 x2 x3 x4 x5 x6 x7 x8 n0;obtain⟨x0,x1,x2,x3,x4,x5,x6,x7,x8⟩:=rb9 (aC kH.out vT.out);have n0:=(aH (aC kH.out yJ.out) 0 rfl).1;have mQ:Hid (decide (r.source.size<=8000)=true):=zh (decide_eq_true CR)
    cases yZ:dC acc with
    |false=>
     have hR:Hid (dM r=false):=zh (by rw[HE.out,pP.out,qB.out,mQ.out,yZ];simp);clear HE;go_wp2_with fail;go_ret;exact⟨aF hR.out.symm,aA HW.out kH.out⟩
    |true=>
     have tS:=zh yZ;clear yZ;by_cases hnd:(30:Int)<(r.needs.length:Int)
     ·have hs3:decide (r.needs.length<=30)=false:=decide_eq_false CR;have hR:Hid (dM r=false):=zh (by rw[HE.out,pP.out,qB.out,mQ.out,tS.out,hs3];simp);clear HE hs3;go_wp2_with fail;go_ret;exact⟨aF hR.out.symm,aA HW.out kH.out⟩
     have oF:Hid (decide (r.needs.length<=30)=true):=zh (decide_eq_true CR);go_wp2_with fail;refine(listOk_any r.plats _ w3 (hG.later (aA HW.out kH.out)) (aK.strs (HV.out.plats.moves aT (aM.later (aA HW.out kH.out)) CX))).mono ?_;rintro e w4 ⟨rfl,pV⟩;have oZ:=zh (aA kH.out pV);clear pV x0 x1 x2 x3 x4 x5 x6 x7 x8 n0;obtain⟨x0,x1,x2,x3,x4,x5,x6,x7,x8⟩:=rb9 (aC oZ.out vT.out);have n0:=(aH (aC oZ.out yJ.out) 0 rfl).1
     cases hq4:dC r.plats with
     |false=>
      have hR:Hid (dM r=false):=zh (by rw[HE.out,pP.out,qB.out,mQ.out,tS.out,oF.out,hq4];simp);clear HE;go_wp2_with fail;go_ret;exact⟨aF hR.out.symm,aA HW.out oZ.out⟩
     |true=>
      have HE4:Hid (dM r=((r.feats.all fun f=>dC f.implies&&f.implies.all fun s=>acc.any fun x=>decide (x=s))&&(r.needs.all fun n=>eE n acc)&&iE r.lic)):=zh (by rw[HE.out,pP.out,qB.out,mQ.out,tS.out,oF.out,hq4];simp);clear HE hq4;clear x0 x1 x2 x3 x4 x5 x6 x7 x8 n0;obtain⟨x0,x1,x2,x3,x4,x5,x6,x7,x8⟩:=rb9 (aC oZ.out vT.out);go_wp2_with fail;clear x0 x1 x2 x3 x4 x5 x6 x7 x8;(go_loopw [59] (fun iv wq=>∃k:Nat,k<=r.feats.length/\iv=.int .i64 (k:Int)/\Hid (Below w4.heap.size w4 wq)/\Hid (dM r=(((r.feats.drop k).all fun f=>dC f.implies&&f.implies.all fun s=>acc.any fun x=>decide (x=s))&&(r.needs.all fun n=>eE n acc)&&iE r.lic))) (fun iv _=>r.feats.length-(intOf iv).toNat));case atStart=>exact⟨0,Nat.zero_le _,rfl,zh (Below.refl _ _),zh (by rw[HE4.out];rfl)⟩
      case round=>
       (rename World=>wq);obtain⟨k2,sQ,rfl,vS,HE5⟩:=hrel;have qI:Hid (Below w.heap.size w wq):=zh (aA (aA HW.out oZ.out) vS.out);have oL:=zh (aC vS.out (aC oZ.out vT.out));have nX:=zh (aC vS.out (aC oZ.out yJ.out));have HS2':=zh ((HS.out.later oZ.out).later vS.out);clear HE4;by_cases wL:k2<r.feats.length
       ·obtain⟨f,zJ,mT⟩:=getElem?_of_lt wL;have nN:(0:Int)<=(k2:Int)/\(k2:Int)<(r.feats.length:Int):=CR;obtain⟨b,o,ha,-,hx⟩:=HF.out (by intro e;rw[e] at wL;simp at wL);obtain⟨cs,⟨vi,rfl,mO,hri⟩,-,hj⟩:=hx k2 f zJ;obtain⟨ai,ci,rfl,-⟩:=id hri;have c0:=aD qI.out (hj 0 _ rfl);have c1:=aD qI.out (hj 1 _ rfl);simp only[Nat.add_zero] at c0 c1;subst ha
        have HE6:Hid (dM r=(dC f.implies&&(f.implies.all fun s=>acc.any fun x=>decide (x=s))&&((r.feats.drop (k2+1)).all fun f=>dC f.implies&&f.implies.all fun s=>acc.any fun x=>decide (x=s))&&(r.needs.all fun n=>eE n acc)&&iE r.lic)):=zh (by
         obtain⟨h1,h2⟩:=Yb.1 zJ
         rw[HE5.out,List.drop_eq_getElem_cons h1,h2,List.all_cons])
        have HI:=zh (fun W(hW:Below w.heap.size w W)=>aK.strs (hri.moves aT (aM.later hW) CX));have tK:=zh (aB wq (.cells #[.string f.name,.slice ai f.implies.length ci] 73));have jI:=zh (bY wq (.cells #[.string f.name,.slice ai f.implies.length ci] 73));have f1:=(aH jI.out 1 rfl).1;clear hx hj zJ mT hri HE5;go_wp2_with fail;clear f1 c0 c1;refine(listOk_any f.implies _ _ (hG.later (aA qI.out tK.out)) (HI.out _ (aA qI.out tK.out))).mono ?_;rintro e w5 ⟨rfl,hb5⟩;have oG:=zh (aA tK.out hb5);have f1:=(aH (aC hb5 jI.out) 1 rfl).1;have HN5:=zh (aC oG.out nX.out);clear hb5 jI tK
        cases vM:dC f.implies with
        |false=>
         have hR:Hid (dM r=false):=zh (by rw[HE6.out,vM];simp);clear HE6;go_wp2_with fail;go_ret;exact⟨aF hR.out.symm,aA qI.out oG.out⟩
        |true=>
         have HE7:Hid (dM r=((f.implies.all fun s=>acc.any fun x=>decide (x=s))&&((r.feats.drop (k2+1)).all fun f=>dC f.implies&&f.implies.all fun s=>acc.any fun x=>decide (x=s))&&(r.needs.all fun n=>eE n acc)&&iE r.lic)):=zh (by rw[HE6.out,vM];simp);have lG:Hid ((f.implies.all fun s=>acc.any fun x=>decide (x=s))= !(f.implies.any fun s=> !acc.any fun x=>decide (x=s))):=zh List.all_eq_not_any_not;clear HE6 vM;go_wp2_with fail;clear f1;refine(containsFunc_str 77 #[.pointer (some ⟨w.heap.size+1,0,none⟩)] (fun s=> !acc.any fun x=>decide (x=s)) f.implies _ w5 (HI.out _ (aA qI.out oG.out)) (enters_of Tryz.func77 CQ rfl) (fun x _ W hW=>rel1_any x acc (w.heap.size+1) _ _ _ W (aC hW HN5.out) ((HS2'.out.later oG.out).later hW))).mono ?_;rintro e w6 ⟨rfl,hb6⟩;have rD:=zh (aA oG.out hb6);clear hb6
         cases xM:(f.implies.any fun s=> !acc.any fun x=>decide (x=s)) with
         |true=>
          have hR:Hid (dM r=false):=zh (by rw[HE7.out,lG.out,xM];simp);clear HE7 lG;go_wp2_with fail;go_ret;exact⟨aF hR.out.symm,aA qI.out rD.out⟩
         |false=>
          have HE8:Hid (dM r=(((r.feats.drop (k2+1)).all fun f=>dC f.implies&&f.implies.all fun s=>acc.any fun x=>decide (x=s))&&(r.needs.all fun n=>eE n acc)&&iE r.lic)):=zh (by rw[HE7.out,lG.out,xM];simp);have HV8:=zh (aA vS.out rD.out);clear HE7 lG xM;go_wp2_with fail;go_roundw;(case rel=>exact⟨k2+1,CR,C5,HV8,HE8⟩);case measure=>simp[intOf];omega
       have HE9:Hid (dM r=((r.needs.all fun n=>eE n acc)&&iE r.lic)):=zh (by rw[HE5.out,List.drop_of_length_le CR];simp);have nH:Hid ((r.needs.all fun n=>eE n acc)= !(r.needs.any fun n=> !eE n acc)):=zh List.all_eq_not_any_not;have hlt4:¬(k2:Int)<(r.feats.length:Int):=CR;obtain⟨x0,x1,x2,x3,x4,x5,x6,x7,x8⟩:=rb9 oL.out;clear HE5 wL;go_wp2_with fail;clear hlt4 x0 x1 x2 x3 x4 x5 x6 x7 x8;refine(has_nd (fun n=> !eE n acc) 80 #[.pointer (some ⟨w.heap.size+1,0,none⟩)] (enters_of Tryz.func80 CQ rfl) (HV.out.needs.moves fC (aM.later qI.out) CX) (fun x _ W cs hW hx _=>rel2_any x acc (w.heap.size+1) _ _ _ W (hG.later (aA qI.out hW)) hx (aC hW nX.out) (HS2'.out.later hW))).mono ?_;rintro e w7 ⟨rfl,hb7⟩;have qU:=zh (aA qI.out hb7);obtain⟨x0,x1,x2,x3,x4,x5,x6,x7,x8⟩:=rb9 (aC hb7 oL.out);clear hb7
       cases hq7:(r.needs.any fun n=> !eE n acc) with
       |true=>
        have hR:Hid (dM r=false):=zh (by rw[HE9.out,nH.out,hq7];simp);clear HE9 nH;go_wp2_with fail;go_ret;exact⟨aF hR.out.symm,qU.out⟩
       |false=>
        have HE10:Hid (dM r=iE r.lic):=zh (by rw[HE9.out,nH.out,hq7];simp);clear HE9 nH hq7;go_wp2_with fail;clear x0 x1 x2 x3 x4 x5 x6 x7 x8;refine(lparse_any r.lic w7 (hG.later qU.out)).mono ?_;rintro e w8 ⟨op,nm,a8,n8,c8,rfl,rF⟩;have pN:=zh (aA qU.out rF);have HL8:Hid (dM r=decide (errL r.lic=0)):=zh (by rw[HE10.out,licOk_err]);clear HE10 rF;generalize errL r.lic=el at *;go_wp2_with fail;go_ret;exact⟨aF (by rw[HL8.out];rfl),pN.out.alloc pN.out.size _⟩
end Go.Proofs.YtmpopphjaggeoaaGreatDoor
