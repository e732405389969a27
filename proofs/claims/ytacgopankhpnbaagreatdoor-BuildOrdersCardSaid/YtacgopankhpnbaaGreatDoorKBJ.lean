/- Texts of this seat, joined. -/
import Derived.Test.YtacgopankhpnbaaGreatDoorLpAxOrPuSe
import Derived.Test.YtacgopankhpnbaaGreatDoorKBE
import Derived.Test.YtacgopankhpnbaaGreatDoorOrdersLaw
import Derived.Test.YtacgopankhpnbaaGreatDoorAppAll
set_option linter.unusedVariables false
set_option linter.unusedSimpArgs false
namespace Go.Proofs.YtacgopankhpnbaaGreatDoor
open Go.RowKit
theorem out_found{C:ByteArray->Int×ByteArray}{r:Rcp}{ck od nx:List Int}{l:List Dn}{F:List Fil}(hR:mH r)(hF:oF C r ck od nx=.ok (l,F)):∃t,aI F r.output=some t:=by
 obtain⟨f1,f2,f3⟩:=run_says hR.circ hF
 cases hw:bR r.steps r.output with
 |none=>
  obtain⟨t,ht⟩:=known_input hR.out hw;exact⟨t,f1 _ t ht⟩
 |some i=>
  obtain⟨s,hs,e⟩:=kO hw;obtain⟨d,hd,hds⟩:=f3 i (List.getElem?_eq_some_iff.1 hs).1;obtain⟨i',h1,s',hs',hf,-⟩:=f2 d hd;have:i'=i:=by rw[h1] at hds;exact Int.ofNat_inj.1 hds
  subst this;rw[hs] at hs';cases hs';exact⟨d.out,by rw[<-e];exact hf⟩
structure B2 (w:World) (a b:Obj) (wr:World):Prop where
 r0:wr.heap[w.heap.size]? =some a
 r1:wr.heap[w.heap.size+1]? =some b
 below:Below w.heap.size w wr
theorem B2.later{w:World}{a b:Obj}{wr w':World}(h:B2 w a b wr)(hb:Below wr.heap.size wr w'):B2 w a b w':=
 ⟨aD hb h.r0,aD hb h.r1,aB h.below hb⟩
theorem B2.first(w:World)(a b:Obj):B2 w a b ((w.alloc a).alloc b):=by
 have e1:=aN (w.alloc a) b;simp only[World.size_alloc] at e1;exact⟨aD (aA _ _) (aN w a),e1,aB (aA _ _) (aA _ _)⟩
structure DidB (wq:World) (k:Nat) (ua ub:Int) (vfl:Value) (fs:List Fil) (vsaw:Value) (saw:List ByteArray) (W:World):Prop where
 box:W.heap[k]? =some (.cells #[.int .i64 ua,.int .i64 ub] 31)
 new:wq.heap.size<=k
 below:Below wq.heap.size wq W
 fils:eP W vfl fs
 saw:Strs W vsaw saw
 far:mI wq vfl
theorem did_a{wq w8:World}{ua ub:Int}{vfl vsaw:Value}{fs:List Fil}{saw:List ByteArray}(hb:Below wq.heap.size wq w8)(hF:eP w8 vfl fs)(hS:Strs w8 vsaw saw)(hff:mI wq vfl):
  DidB wq w8.heap.size ua ub vfl fs vsaw saw (w8.alloc (.cells #[.int .i64 ua,.int .i64 ub] 31)):=
 ⟨heap_alloc_new w8 _,hb.size,aB hb (aA _ _),hF.later (aA _ _),hS.later (aA _ _),hff⟩
theorem DidB.of_drew{wq:World}{k:Nat}{ua ub:Int}{vfl:Value}{fs:List Fil}{vsaw:Value}{saw:List ByteArray}{W:World}(h:DidB wq.drew k ua ub vfl fs vsaw saw W):DidB wq k ua ub vfl fs vsaw saw W:=
 ⟨h.box,h.new,(Below.refl _ wq).drew.trans h.below,h.fils,h.saw,h.far⟩
theorem did_b{wq w8:World}{ua ub:Int}{vfl vsaw:Value}{fs:List Fil}{saw:List ByteArray}(hb:Below (wq.alloc (.cells #[.int .i64 0,.int .i64 0] 31)).heap.size (wq.alloc (.cells #[.int .i64 0,.int .i64 0] 31)) w8)(hF:eP w8 vfl fs)(hS:Strs w8 vsaw saw)(hff:mI (wq.alloc (.cells #[.int .i64 0,.int .i64 0] 31)) vfl)(hsf:saw≠[]->mI (wq.alloc (.cells #[.int .i64 0,.int .i64 0] 31)) vsaw):
  DidB wq wq.heap.size ua ub vfl fs vsaw saw ((w8.setCell ⟨wq.heap.size,0,none⟩ (.int .i64 ua)).setCell ⟨wq.heap.size,1,none⟩ (.int .i64 ub)):=by
 have hB:=aB (aA wq (.cells #[.int .i64 0,.int .i64 0] 31)) hb;have hO:bU wq.heap.size w8 ((w8.setCell ⟨wq.heap.size,0,none⟩ (.int .i64 ua)).setCell ⟨wq.heap.size,1,none⟩ (.int .i64 ub)):=(bU.setCell w8).trans (bU.setCell _);refine⟨set2 (aD hb (heap_alloc_new wq _)),Nat.le_refl _,hO.below hB (Nat.le_refl _) hB.size,?_,?_,fun a n c e=>?_⟩
 ·exact eP.apart hF fun a n c e hne=>hO.block _ (fils_lt hF hne a n c e) (by have:=hff a n c e;simp at this;omega)
 ·exact Strs.apart hS fun a n c e hne=>hO.block _ (strs_lt hS hne a n c e) (by have:=hsf hne a n c e;simp at this;omega)
 ·have:=hff a n c e;simp at this;omega
structure BoW (wb:World) (bu:Nat) (fs:List Fil) (u0 u1:Int) (v9:Value) (wr:World):Prop where
 used:wr.heap[bu]? =some (.cells #[.int .i64 u0,.int .i64 u1] 31)
 fils:eP wr v9 fs
 far:fs≠[]->∀a n c,v9=.slice (some a) n c->a.block≠bu
 below:Below wb.heap.size wb wr
 old:wb.heap.size<=bu
theorem BoW.next{wb wr wq wE w':World}{bu k:Nat}{fs fs':List Fil}{u0 u1 ua ub:Int}{v9 vfl vsaw:Value}{saw:List ByteArray}(h:BoW wb bu fs u0 u1 v9 wr)(hq:Below wr.heap.size wr wq)(hd:DidB wq k ua ub vfl fs' vsaw saw wE)(hb:Below wE.heap.size wE w'):
  BoW wb bu fs' ua ub vfl ((w'.setCell ⟨bu,0,none⟩ (.int .i64 ua)).setCell ⟨bu,1,none⟩ (.int .i64 ub)):=by
 have hB:=aB hq (aB hd.below hb);have hlt:=(Array.getElem?_eq_some_iff.1 h.used).1;have hO:bU bu w' ((w'.setCell ⟨bu,0,none⟩ (.int .i64 ua)).setCell ⟨bu,1,none⟩ (.int .i64 ub)):=(bU.setCell w').trans (bU.setCell _);have hne:∀a n c,vfl=.slice (some a) n c->a.block≠bu:=fun a n c e=>by have:=hd.far a n c e;have:=hq.size;omega
 have hF:=hd.fils.later hb;refine⟨set2 (aD hB h.used),eP.apart hF fun a n c e hn=>hO.block _ (fils_lt hF hn a n c e) (hne a n c e),fun _=>hne,hO.below (aB h.below hB) h.old (aB h.below hB).size,h.old⟩
theorem src_fils{w:World}{ai:Option Addr}{ci:Nat}{l:List Fil}(h:eP w (.slice ai l.length ci) l):Src w (.slice ai l.length ci) l.length 2 (cU l):=by
 rcases h.cases with⟨e,-⟩|⟨b,o,c,e,h0,h1,h2,hb,hc⟩
 ·rw[e];exact .inl ⟨rfl,rfl,_,_,rfl⟩
 ·refine .inr ⟨h0,⟨b,o,none⟩,c,e,filCells_length _,fun j u hu=>?_,filCells_one _⟩;rw[Addr.add_lit];obtain⟨i,f,hf,⟨rfl,rfl⟩|⟨rfl,rfl⟩⟩:=filCells_get _ j u hu
  ·exact(hc i f hf).1
  ·rw[<-Nat.add_assoc];exact(hc i f hf).2.1
set_option maxHeartbeats 16000000
set_option maxRecDepth 100000
theorem sD{p:Prop}(h:p:=by
 go_wp2_with fail;go_ret
 exact⟨rfl,HB.out.below⟩):p:=h
theorem buildOrders_any(r:Rcp)(L:List (Value×Stp))(vi vs vc vo vn:Value)(ck od nx:List Int)(w:World)(h:fZ r L vi vs w)(h1:oX ck od nx vc vo vn w)(hG:bV w):
  Calls Tryz.prog 8 #[nD vi vs r.output,.agg #[vc,vo,vn]] w (OkBelow w):=by
 have HR:=zh h;have HV:=zh h1;have HG:=zh hG;obtain⟨⟨a1,c1,rfl⟩,⟨a2,c2,rfl⟩,⟨a3,c3,rfl⟩⟩:=h1.slices;obtain⟨ai,ci,av,cv,rfl,rfl⟩:=h.slices;have hlen:=h.len;have HLen:=zh hlen;have hll:L.length<=9223372036854775807:=by obtain⟨a,c,e,hl,-⟩:=stps_at h.stp;exact hl
 obtain⟨i0,hi0,hz0,hz1,hz2⟩:=info_parts filInfo;clear h h1 hG hlen;have HB:=zh (B2.first w (dG (.slice ai r.inputs.length ci) (.slice av L.length cv) r.output) (kY (.slice a1 ck.length c1) (.slice a2 od.length c2) (.slice a3 nx.length c3)));go_enter Tryz.func8,Tryz.ntmps8;go_wp2_with fail;refine(small33_any _ (HG.out.later HB.out.below)).mono ?_;rintro e w1 ⟨rfl,hb⟩
 replace HB:=zh (HB.out.later hb)
 clear hb;obtain⟨r0,r1,r2⟩:=gY HB.out.r0;obtain⟨v0,v1,v2⟩:=gY HB.out.r1;go_wp2_with fail;refine(few_any r L _ _ w1 (HR.out.later HB.out.below)).mono ?_;rintro e w2 ⟨q,rfl,-,hb⟩
 replace HB:=zh (HB.out.later hb)
 clear hb;clear r0 r1 r2 v0 v1 v2
 cases q with
 |false=>
  exact sD
 |true=>
  obtain⟨r0,r1,r2⟩:=gY HB.out.r0;obtain⟨v0,v1,v2⟩:=gY HB.out.r1;go_wp2_with fail;refine(light_any _ _ _ _ _ _ _ _ _ w2).mono ?_;rintro e w3 ⟨q,rfl,hb⟩
  replace HB:=zh (HB.out.later hb)
  clear hb;clear r0 r1 r2 v0 v1 v2
  cases q with
  |false=>
   exact sD
  |true=>
   obtain⟨r0,r1,r2⟩:=gY HB.out.r0;obtain⟨v0,v1,v2⟩:=gY HB.out.r1;go_wp2_with fail;refine(pF r L _ _ _ _ _ ck od nx w3 (HR.out.later HB.out.below) (HV.out.later HB.out.below) (HG.out.later HB.out.below)).mono ?_;rintro e w4 ⟨xa,na,ca,sa,ea,rfl,HRa,hb⟩
   replace HB:=zh (HB.out.later hb)
   clear hb;clear r0 r1 r2 v0 v1 v2;by_cases hea:ea=0
   ·subst hea;obtain⟨outA,La,hra,hda,hma⟩:=HRa.out.ok;obtain⟨hRt,F,hF,hsa⟩:=runL_ok hra;obtain⟨t,hft⟩:=out_found hRt hF;(have hsa2:sa=t:=by rw[hsa,hft];rfl);clear hsa;subst hsa2;obtain⟨htr,hln⟩:=run_steps hRt hF;obtain⟨aL,cL,eL,hLl,hatL⟩:=dns_at hda;cases eL;subst hma;rw[List.length_map] at hln;(have hLL:La.length=L.length:=by rw[hln,<-HLen.out]);(have hL60:La.length<=60:=by rw[hln];exact hRt.few);have HTr:=zh htr;have HRt:=zh hRt;have HFt:=zh hft;have HAt:=zh hatL;have HLL:=zh hLL;(have hi60:r.inputs.length<=60:=by have:=hRt.room;omega);clear HRa hra hF htr hln hda hatL hRt hft hLL;obtain⟨r0,r1,r2⟩:=gY HB.out.r0;obtain⟨v0,v1,v2⟩:=gY HB.out.r1;have HX1:=zh (aA w4 (.cells #[] 40));have HSr:=zh (src_fils ((HR.out.later HB.out.below).inp.later HX1.out));have q0:=aC HX1.out r0;have hg4:11<=w4.heap.size:=(HG.out.later HB.out.below).big;go_wp2_with(at_builtin;refine wpList_append_all rfl _ _ 25 rfl w4.heap.size 40 i0 (.agg #[.string ByteArray.empty,.string ByteArray.empty]) 2 32 Tryz.underlying25 hi0 hz0 hz1 hz2 rfl vT w4.heap.size 0 0 [] xK ⟨rfl,.inr ⟨w4.heap.size,0,#[],rfl,Nat.le_refl _,heap_alloc_new w4 _,Nat.le_refl _,wK,rfl,rfl⟩⟩ (.slice ai r.inputs.length ci) r.inputs.length (cU r.inputs) xK HSr.out wK vT vZ ?_);intro g' cap' w5 hown hgr hg5;(try simp only[Nat.zero_add,List.nil_append] at hown);(try simp only[Nat.zero_add]);have hB5:Below w4.heap.size w4 w5:=⟨hgr.os,hgr.tape,hgr.output,by have:=hgr.size;simp at this;omega,fun j hj=>(hgr.block j wQ (fun e=>by cases e;omega)).trans (HX1.out.block j hj)⟩
    have HBW:=zh (show BoW w4 w5.heap.size r.inputs 0 0 (.slice (some ⟨g',0,none⟩) r.inputs.length cap') (w5.alloc (.cells #[.int .i64 0,.int .i64 0] 31)) from
     ⟨heap_alloc_new w5 _,(nR hown (fun f hf=>fils_size HR.out.inp hf)).later (aA _ _),fun _ a n c e=>by cases e;exact Nat.ne_of_lt hg5,aB hB5 (aA _ _),hB5.size⟩)
    have HB5:=zh hB5;clear hown hgr hg5 hB5 HSr HX1 q0;clear r0 r1 r2 v0 v1 v2;go_wp2_with fail;(go_loopw [9,11] (fun v9 iv wr=>∃(q:Nat)(fs:List Fil)(u0 u1:Int),q<=La.length/\iv=.int .i64 (q:Int)/\Hid (BoW w4 w5.heap.size fs u0 u1 v9 wr)/\Hid (Tr bJ r.steps ck od ((La.map (·.2)).drop q) fs u0 u1 F)/\Hid (0<=u0/\u0<=1000000*q/\0<=u1/\u1<=1000000*q)) (fun _ iv _=>La.length-(intOf iv).toNat));case atStart=>exact⟨0,r.inputs,0,0,Nat.zero_le _,rfl,HBW,HTr,zh ⟨vT,vT,vT,vT⟩⟩
    case round=>
     clear HBW HTr;obtain⟨q,fs,c0,c1',hq,rfl,HBW,HTr,HU⟩:=hrel;(rename World=>wr);generalize hv9:u9=v9 at *;clear hv9
     replace HB:=zh (HB.out.later HBW.out.below)
     obtain⟨a9,c9,e9⟩:=nY HBW.out.fils;subst e9;obtain⟨r0,r1,r2⟩:=gY HB.out.r0;obtain⟨v0,v1,v2⟩:=gY HB.out.r1;by_cases hlt:q<La.length
     ·obtain⟨x,hx,-⟩:=getElem?_of_lt hlt
      have HTr2:Tr bJ r.steps ck od (x.2::(La.map (·.2)).drop (q+1)) fs c0 c1' F:=by
       have h:=HTr.out;rw[List.drop_eq_getElem_cons (by rw[List.length_map];exact hlt),List.getElem_map] at h;(have e:La[q]=x:=by rw[List.getElem?_eq_getElem hlt] at hx;exact Option.some.inj hx);rw[e] at h;exact h
      obtain⟨j,s,ua,ub,ej,hs,hd,hfd,htr⟩:=HTr2.at_;obtain⟨bd,oo,rfl,d0,d1,d2,hSx,-⟩:=HAt.out q x hx;obtain⟨xv,xs,xsaw,xo⟩:=x;dsimp only at d0 d1 d2 hSx ej hd hfd htr;subst ej;obtain⟨sxa,sxc,rfl⟩:=cB hSx;have HSx:=zh (hSx.later HBW.out.below)
      replace d0:=aC HBW.out.below d0
      replace d1:=aC HBW.out.below d1
      replace d2:=aC HBW.out.below d2
      have hj:j<L.length:=by have:=(List.getElem?_eq_some_iff.1 hs).1;rw[HLen.out] at this;exact this
      obtain⟨y,hy,hym⟩:∃y,L[j]? =some y/\y.2=s:=by
       obtain⟨y,hy,-⟩:=getElem?_of_lt hj;refine⟨y,hy,?_⟩;(have:(L.map (·.2))[j]? =some s:=by rw[HR.out.map];exact hs);rw[List.getElem?_map,hy] at this;exact Option.some.inj this
      subst hym;obtain⟨sl,cs,e,-,hat⟩:=stps_at (HR.out.later HB.out.below).stp;obtain⟨rfl,rfl⟩:av=sl/\cv=cs:=xM;obtain⟨bs,os,rfl,s0,s1,s2,s3,hS,hz⟩:=hat j y hy;obtain⟨yv,kind,src,so,sorted⟩:=y;dsimp only at s0 s1 s2 s3 hS hz hd hfd htr hs;obtain⟨ya,yc,rfl⟩:=cB hS
      have hsrc:src.length<=1000000:=by
       have:=(dS (HRt.out.steps _ (List.mem_of_getElem? hs))).2.2.1;dsimp only at this;omega
      have HUs:=pP hd
      have HU2:Hid (0<=ua/\ua<=1000000*((q+1:Nat):Int)/\0<=ub/\ub<=1000000*((q+1:Nat):Int)):=zh (by
       have h:=HU.out;obtain⟨-,-,-,h4,h5⟩:=HUs;dsimp only at h5
       push_cast
       refine⟨?_,?_,?_,?_⟩<;>omega)
      have HDo:Hid (∀W,Below wr.heap.size wr W->Calls Tryz.prog 17 #[.agg #[.int .i64 kind,.slice ya src.length yc,.string so,.bool sorted],.slice a9 fs.length c9,.agg #[.slice a1 ck.length c1,.slice a2 od.length c2,.slice a3 nx.length c3],.agg #[.int .i64 c0,.int .i64 c1']] W (DoFar W ⟨kind,src,so,sorted⟩ fs c0 c1' (.ok (xo,xsaw,ua,ub)))):=zh (fun W hb=>by
       have hV:=HV.out.later (aB HB.out.below hb);have hu:=HU.out;have h:=qO ⟨kind,src,so,sorted⟩ fs ck od _ _ _ _ (.slice a3 nx.length c3) c0 c1' W ⟨(HG.out.later HB.out.below).later hb,hS.later hb,hz,HBW.out.fils.later hb,hV.clk,hV.ord,⟨_,_,_,rfl⟩,⟨vT,vT⟩,⟨vT,vT⟩,hV.cwf,hV.owf⟩;rw[hd] at h
       exact h)
      have HFd:Hid (iD (cG ⟨kind,src,so,sorted⟩ fs xo) so=.tuple #[.string xo,.bool true]):=zh (by unfold iD;rw[hfd]);have HTr3:=zh htr;have hq0:(0:Int)<=(q:Int):=vT;have hq1:(q:Int)<(La.length:Int):=vT;have hj0:¬(j:Int)<0:=vT;have hj1:¬(L.length:Int)<=(j:Int):=vT;have hj2:(0:Int)<=(j:Int):=vT;have hj3:(j:Int)<(L.length:Int):=vT;obtain⟨⟨t0,t1⟩,-⟩:=bx2 HBW.out.used;clear hSx hx HTr2 hs hd hfd htr hy hat e hS hz hsrc HUs HU HTr;generalize hfs:cG ⟨kind,src,so,sorted⟩ fs xo=fs' at HDo HFd HTr3;have HFS:=zh hfs;clear hfs;go_wp2_with fail;(go_quiet(fail));generalize hnq:World.drewN wr _=wq;have HBq:Hid (Below wr.heap.size wr wq):=zh (by rw[<-hnq];exact aJ (Below.refl _ _) _);clear hnq
      replace r1:=aC HBq.out r1
      replace v0:=aC HBq.out v0
      replace v1:=aC HBq.out v1
      replace v2:=aC HBq.out v2
      replace d0:=aC HBq.out d0
      replace d1:=aC HBq.out d1
      replace d2:=aC HBq.out d2
      replace s0:=aC HBq.out s0
      replace s1:=aC HBq.out s1
      replace s2:=aC HBq.out s2
      replace s3:=aC HBq.out s3
      replace t0:=aC HBq.out t0
      replace t1:=aC HBq.out t1
      replace HDo:=zh (fun W(hb:Below wq.heap.size wq W)=>HDo.out W (aB HBq.out hb))
      go_wp2_with fail;refine wp_region_held_drew (S:=fun W=>Below wq.heap.size wq W) vU (Below.refl _ _).drew fun hS=>?_;refine zt 0 (.pointer (some ⟨w.heap.size,1,none⟩)) rfl (fun W hW=>vW) hS ?_;(try simp only[zn]);refine zt 1 (.slice (some ⟨bs,os,none⟩) L.length cv) rfl (fun W hW=>by have r1:=aC hW r1;go_simp) hS ?_;(try simp only[zn]);refine zt 2 (.slice (some ⟨bd,oo,none⟩) La.length ca) rfl (fun W hW=>vW) hS ?_;(try simp only[zn]);refine zt 3 (.int .i64 (q:Int)) rfl (fun W hW=>vW) hS ?_;(try simp only[zn]);refine zt 4 (.pointer (some ⟨bd,oo+q*3,none⟩)) rfl (fun W hW=>vW) hS ?_;(try simp only[zn]);refine zt 5 (.pointer (some ⟨bd,oo+q*3,none⟩)) rfl (fun W hW=>vW) hS ?_;(try simp only[zn]);refine zt 6 (.int .i64 (j:Int)) rfl (fun W hW=>by have d0:=aC hW d0;go_simp) hS ?_;(try simp only[zn]);refine zt 7 (.pointer (some ⟨bs,os+j*4,none⟩)) rfl (fun W hW=>vW) hS ?_;(try simp only[zn]);refine zt 8 (.agg #[.int .i64 kind,.slice ya src.length yc,.string so,.bool sorted]) rfl (fun W hW=>by have s0:=aC hW s0;have s1:=aC hW s1;have s2:=aC hW s2;have s3:=aC hW s3;go_simp) hS ?_;(try simp only[zn]);refine zt 9 (.slice a9 fs.length c9) rfl (fun W hW=>vW) hS ?_;(try simp only[zn]);refine zt 10 (.agg #[.slice a1 ck.length c1,.slice a2 od.length c2,.slice a3 nx.length c3]) rfl (fun W hW=>by have v0:=aC hW v0;have v1:=aC hW v1;have v2:=aC hW v2;go_simp) hS ?_;(try simp only[zn]);refine zt 11 (.agg #[.int .i64 c0,.int .i64 c1']) rfl (fun W hW=>by have t0:=aC hW t0;have t1:=aC hW t1;go_simp) hS ?_;(try simp only[zn]);refine wpAnyH_ready (rs:=[12,18]) vU vZ ?_;refine AllReadyH.cons rfl (fun K hK=>?_) (AllReadyH.cons rfl (fun K hK=>?_) AllReadyH.nil)
      focus
       rw[if_pos vU];(try simp only[z1,z2,z3]);go_simp;refine(HDo.out _ (Below.refl _ _).drew).mono ?_;rintro e w8 ⟨hb8,vfl,vsaw,rfl,hF,hS8,hff,hsf⟩;rw[HFS.out] at hF;obtain⟨af,cf,ef⟩:=nY hF;obtain⟨as',cs',es⟩:=cB hS8;subst ef es;have hB8:Below wq.heap.size wq w8:=(Below.refl _ wq).drew.trans hb8;refine hK.out _ _ hB8 (fun hS=>?_);clear hK K;(try simp only[zn]);refine zt 13 (.tuple #[.slice af fs'.length cf,.slice as' xsaw.length cs',.agg #[.int .i64 ua,.int .i64 ub],.int .i64 0]) rfl (fun W hW=>vW) hS ?_;(try simp only[zn]);refine zt 14 (.slice af fs'.length cf) rfl (fun W hW=>vW) hS ?_;(try simp only[zn]);refine zt 15 (.slice as' xsaw.length cs') rfl (fun W hW=>vW) hS ?_;(try simp only[zn]);refine zt 16 (.agg #[.int .i64 ua,.int .i64 ub]) rfl (fun W hW=>vW) hS ?_;(try simp only[zn]);refine zt 17 (.int .i64 0) rfl (fun W hW=>vW) hS ?_;(try simp only[zn]);refine zr 18 rfl (fun K hK=>?_);(try simp only[z1,z2,z3]);go_simp;refine hK.out _ _ (aB hB8 (aA _ _)) (fun hS=>?_);clear hK K;(try simp only[zn]);refine zt 19 (.slice af fs'.length cf) rfl (fun W hW=>vW) hS ?_;(try simp only[zn]);refine zt 20 (.slice as' xsaw.length cs') rfl (fun W hW=>vW) hS ?_;(try simp only[zn]);obtain⟨⟨p0,p1⟩,q0,q1⟩:=bx2 (heap_alloc_new w8 (.cells #[.int .i64 0,.int .i64 0] 31));refine zr 21 rfl (fun K hK=>?_);(try simp only[z1,z2,z3]);go_simp;have HD:=zh (did_a (ua:=ua) (ub:=ub) hB8 hF hS8 hff);have hBE:=HD.out.below;refine hK.out _ _ hBE (fun hS=>?_);clear hK K;(try simp only[zn]);refine zt 22 (.int .i64 0) rfl (fun W hW=>vW) hS ?_;(try simp only[zn]);refine wpAnyH_done vU ?_ _;clear hS hBE p0 p1 q0 q1 hF hS8 hff hsf hb8 hB8;generalize w8.alloc (.cells #[.int .i64 ua,.int .i64 ub] 31)=wE at HD ⊢;generalize w8.heap.size=kE at HD ⊢
      rotate_left
      focus
       rw[if_pos vU];(try simp only[z1,z2,z3]);go_simp;refine hK.out _ _ (aB (Below.refl _ wq).drew (aA _ _)) (fun hS=>?_);clear hK K;(try simp only[zn]);refine zr 12 rfl (fun K hK=>?_);(try simp only[z1,z2,z3]);go_simp;refine(HDo.out _ (aB (Below.refl _ wq).drew (aA _ _))).mono ?_;rintro e w8 ⟨hb8,vfl,vsaw,rfl,hF,hS8,hff,hsf⟩;rw[HFS.out] at hF;obtain⟨af,cf,ef⟩:=nY hF;obtain⟨as',cs',es⟩:=cB hS8;subst ef es;have hB8:Below wq.heap.size wq w8:=aB (aB (Below.refl _ wq).drew (aA _ _)) hb8;refine hK.out _ _ hB8 (fun hS=>?_);clear hK K;(try simp only[zn]);refine zt 13 (.tuple #[.slice af fs'.length cf,.slice as' xsaw.length cs',.agg #[.int .i64 ua,.int .i64 ub],.int .i64 0]) rfl (fun W hW=>vW) hS ?_;(try simp only[zn]);refine zt 14 (.slice af fs'.length cf) rfl (fun W hW=>vW) hS ?_;(try simp only[zn]);refine zt 15 (.slice as' xsaw.length cs') rfl (fun W hW=>vW) hS ?_;(try simp only[zn]);refine zt 16 (.agg #[.int .i64 ua,.int .i64 ub]) rfl (fun W hW=>vW) hS ?_;(try simp only[zn]);refine zt 17 (.int .i64 0) rfl (fun W hW=>vW) hS ?_;(try simp only[zn]);refine zt 19 (.slice af fs'.length cf) rfl (fun W hW=>vW) hS ?_;(try simp only[zn]);refine zt 20 (.slice as' xsaw.length cs') rfl (fun W hW=>vW) hS ?_;(try simp only[zn]);have hX:w8.heap[wq.heap.size]? =some (.cells #[.int .i64 0,.int .i64 0] 31):=aD hb8 (heap_alloc_new wq.drew (.cells #[.int .i64 0,.int .i64 0] 31));obtain⟨⟨p0,p1⟩,q0,q1⟩:=bx2 hX;refine zr 21 rfl (fun K hK=>?_);(try simp only[z1,z2,z3]);go_simp;have HD:=zh (show DidB wq wq.heap.size ua ub _ fs' _ xsaw ((w8.setCell ⟨wq.heap.size,0,none⟩ (.int .i64 ua)).setCell ⟨wq.heap.size,1,none⟩ (.int .i64 ub)) from((did_b (wq:=wq.drew) (ua:=ua) (ub:=ub) hb8 hF hS8 hff hsf).of_drew));have hBE:=HD.out.below;refine hK.out _ _ hBE (fun hS=>?_);clear hK K;(try simp only[zn]);refine zt 22 (.int .i64 0) rfl (fun W hW=>vW) hS ?_;(try simp only[zn]);refine wpAnyH_done vU ?_ _;clear hS hBE p0 p1 q0 q1 hF hS8 hff hsf hb8 hB8 hX;generalize ((w8.setCell ⟨wq.heap.size,0,none⟩ (.int .i64 ua)).setCell ⟨wq.heap.size,1,none⟩ (.int .i64 ub))=wE at HD ⊢;obtain⟨kE,hkE⟩:∃k,k=wq.heap.size:=⟨_,rfl⟩;rw[<-hkE] at HD ⊢;clear hkE
      all_goals
       have HBE:=zh (aB HBq.out HD.out.below)
       replace r1:=aC HD.out.below r1
       replace v0:=aC HD.out.below v0
       replace v1:=aC HD.out.below v1
       replace v2:=aC HD.out.below v2
       replace d0:=aC HD.out.below d0
       replace d1:=aC HD.out.below d1
       replace d2:=aC HD.out.below d2
       replace s0:=aC HD.out.below s0
       replace s1:=aC HD.out.below s1
       replace s2:=aC HD.out.below s2
       replace s3:=aC HD.out.below s3
       replace t0:=aC HD.out.below t0
       replace t1:=aC HD.out.below t1
       go_wp2_with fail;refine wp_region_held_drew (S:=fun W=>Below wE.heap.size wE W) vU (Below.refl _ _).drew fun hS=>?_;refine zt 0 (.slice af fs'.length cf) rfl (fun W hW=>vW) hS ?_;(try simp only[zn]);refine zt 1 (.pointer (some ⟨w.heap.size,1,none⟩)) rfl (fun W hW=>vW) hS ?_;(try simp only[zn]);refine zt 2 (.slice (some ⟨bs,os,none⟩) L.length cv) rfl (fun W hW=>by have r1:=aC hW r1;go_simp) hS ?_;(try simp only[zn]);refine zt 3 (.slice (some ⟨bd,oo,none⟩) La.length ca) rfl (fun W hW=>vW) hS ?_;(try simp only[zn]);refine zt 4 (.int .i64 (q:Int)) rfl (fun W hW=>vW) hS ?_;(try simp only[zn]);refine zt 5 (.pointer (some ⟨bd,oo+q*3,none⟩)) rfl (fun W hW=>vW) hS ?_;(try simp only[zn]);refine zt 6 (.pointer (some ⟨bd,oo+q*3,none⟩)) rfl (fun W hW=>vW) hS ?_;(try simp only[zn]);refine zt 7 (.int .i64 (j:Int)) rfl (fun W hW=>by have d0:=aC hW d0;go_simp) hS ?_;(try simp only[zn]);refine zt 8 (.pointer (some ⟨bs,os+j*4,none⟩)) rfl (fun W hW=>vW) hS ?_;(try simp only[zn]);refine zt 9 (.pointer (some ⟨bs,os+j*4+2,none⟩)) rfl (fun W hW=>vW) hS ?_;(try simp only[zn]);refine zt 10 (.string so) rfl (fun W hW=>by have s2:=aC hW s2;go_simp) hS ?_;(try simp only[zn]);refine zr 11 rfl (fun K hK=>?_);(try simp only[z1,z2,z3]);go_simp;refine(mD fs' _ so wE.drew (HD.out.fils.later (Below.refl _ _).drew)).mono ?_;rw[HFd.out];rintro e w9 ⟨rfl,hb9⟩;have hB9:Below wE.heap.size wE w9:=(Below.refl _ wE).drew.trans hb9;refine hK.out _ _ hB9 (fun hS=>?_);clear hK K;(try simp only[zn]);refine zt 12 (.tuple #[.string xo,.bool true]) rfl (fun W hW=>vW) hS ?_;(try simp only[zn]);refine zt 13 (.string xo) rfl (fun W hW=>vW) hS ?_;(try simp only[zn]);refine zt 14 (.bool true) rfl (fun W hW=>vW) hS ?_;(try simp only[zn]);refine zt 15 (.string xo) rfl (fun W hW=>vW) hS ?_;(try simp only[zn]);refine zt 16 (.bool true) rfl (fun W hW=>vW) hS ?_;(try simp only[zn]);refine wpAnyH_done vU ?_ _;clear hS hb9;have HB9:=zh hB9;clear hB9
       replace r1:=aC HB9.out r1
       replace v0:=aC HB9.out v0
       replace v1:=aC HB9.out v1
       replace v2:=aC HB9.out v2
       replace d0:=aC HB9.out d0
       replace d1:=aC HB9.out d1
       replace d2:=aC HB9.out d2
       replace s0:=aC HB9.out s0
       replace s1:=aC HB9.out s1
       replace s2:=aC HB9.out s2
       replace s3:=aC HB9.out s3
       replace t0:=aC HB9.out t0
       replace t1:=aC HB9.out t1
       go_wp2_with fail;refine wp_region_held_drew (S:=fun W=>Below w9.heap.size w9 W) vU (Below.refl _ _).drew fun hS=>?_;refine zt 0 (.int .i64 0) rfl (fun W hW=>vW) hS ?_;(try simp only[zn]);refine zt 1 (.bool false) rfl (fun W hW=>vW) hS ?_;(try simp only[zn]);refine zt 2 (.bool false) rfl (fun W hW=>vW) hS ?_;(try simp only[zn]);refine zt 3 (.bool true) rfl (fun W hW=>vW) hS ?_;(try simp only[zn]);refine zt 4 (.bool false) rfl (fun W hW=>vW) hS ?_;(try simp only[zn]);refine zt 5 (.bool false) rfl (fun W hW=>vW) hS ?_;(try simp only[zn]);refine zt 6 (.bool false) rfl (fun W hW=>vW) hS ?_;(try simp only[zn]);refine zt 7 (.slice (some ⟨bd,oo,none⟩) La.length ca) rfl (fun W hW=>vW) hS ?_;(try simp only[zn]);refine zt 8 (.int .i64 (q:Int)) rfl (fun W hW=>vW) hS ?_;(try simp only[zn]);refine zt 9 (.pointer (some ⟨bd,oo+q*3,none⟩)) rfl (fun W hW=>vW) hS ?_;(try simp only[zn]);refine zt 10 (.agg #[.int .i64 (j:Int),.slice sxa xsaw.length sxc,.string xo]) rfl (fun W hW=>by have d0:=aC hW d0;have d1:=aC hW d1;have d2:=aC hW d2;go_simp) hS ?_;(try simp only[zn]);refine zt 11 (.slice (some ⟨bd,oo,none⟩) La.length ca) rfl (fun W hW=>vW) hS ?_;(try simp only[zn]);refine zt 12 (.int .i64 (q:Int)) rfl (fun W hW=>vW) hS ?_;(try simp only[zn]);refine zt 13 (.pointer (some ⟨bd,oo+q*3,none⟩)) rfl (fun W hW=>vW) hS ?_;(try simp only[zn]);refine zt 14 (.pointer (some ⟨bd,oo+q*3,none⟩)) rfl (fun W hW=>vW) hS ?_;(try simp only[zn]);refine zt 15 (.int .i64 (j:Int)) rfl (fun W hW=>by have d0:=aC hW d0;go_simp) hS ?_;(try simp only[zn]);refine zt 16 (.slice as' xsaw.length cs') rfl (fun W hW=>vW) hS ?_;(try simp only[zn]);refine zt 17 (.string xo) rfl (fun W hW=>vW) hS ?_;(try simp only[zn]);refine zt 18 (.agg #[.int .i64 (j:Int),.slice as' xsaw.length cs',.string xo]) rfl (fun W hW=>vW) hS ?_;(try simp only[zn]);refine zr 19 rfl (fun K hK=>?_);(try simp only[z1,z2,z3]);go_simp;refine(sameOne_same (j:Int) xo xsaw _ _ w9.drew (HSx.out.later (aB HBE.out HB9.out) |>.later (Below.refl _ _).drew) (HD.out.saw.later HB9.out |>.later (Below.refl _ _).drew)).mono ?_;rintro e w10 ⟨rfl,hb10⟩;have hB10:Below w9.heap.size w9 w10:=(Below.refl _ w9).drew.trans hb10;refine hK.out _ _ hB10 (fun hS=>?_);clear hK K;(try simp only[zn]);refine zt 20 (.bool false) rfl (fun W hW=>vW) hS ?_;(try simp only[zn]);refine zt 21 (.bool false) rfl (fun W hW=>vW) hS ?_;(try simp only[zn]);refine wpAnyH_done vU ?_ _;clear hS hb10;have HB10:=zh hB10;clear hB10;have HBF:=zh (aB HB9.out HB10.out)
       replace r1:=aC HB10.out r1
       replace v0:=aC HB10.out v0
       replace v1:=aC HB10.out v1
       replace v2:=aC HB10.out v2
       replace d0:=aC HB10.out d0
       replace d1:=aC HB10.out d1
       replace d2:=aC HB10.out d2
       replace s0:=aC HB10.out s0
       replace s1:=aC HB10.out s1
       replace s2:=aC HB10.out s2
       replace s3:=aC HB10.out s3
       replace t0:=aC HB10.out t0
       replace t1:=aC HB10.out t1
       obtain⟨⟨p0,p1⟩,-⟩:=bx2 (aD HBF.out HD.out.box);obtain⟨-,g0,g1⟩:=bx2 (aD (aB HBE.out HBF.out) HBW.out.used);have HBW2:=zh (HBW.out.next HBq.out HD.out HBF.out);clear r1 v0 v1 v2 d0 d1 d2 s0 s1 s2 s3 r0 r2;go_wp2_with fail;go_roundw;(case rel=>exact⟨q+1,fs',ua,ub,vT,wH,HBW2,HTr3,HU2⟩);case measure=>simp[intOf];omega
     ·obtain rfl:q=La.length:=vT;have hTr:=HTr.out;rw[List.drop_eq_nil_of_le (by rw[List.length_map];exact Nat.le_refl _)] at hTr;have hFs:=hTr.end_;subst hFs;have HFv:Hid (iD F r.output=.tuple #[.string sa,.bool true]):=zh (by unfold iD;rw[HFt.out]);(have h21:((La.length:Int) != (L.length:Int))=false:=by rw[bne_eq_false_iff_eq,HLL.out]);clear hTr HTr HU hlt;go_wp2_with fail;refine(mD F _ r.output wr HBW.out.fils).mono ?_;rw[HFv.out];rintro e w11 ⟨rfl,hb11⟩
      replace HB:=zh (HB.out.later hb11)
      clear hb11 HBW;clear r0 r1 r2 v0 v1 v2;obtain⟨r0,r1,r2⟩:=gY HB.out.r0;obtain⟨v0,v1,v2⟩:=gY HB.out.r1;go_wp2_with fail;refine(order_any r L _ _ w11 (HR.out.later HB.out.below)).mono ?_;rintro e w12 ⟨v12,rfl,hI,-,hb12⟩
      replace HB:=zh (HB.out.later hb12)
      clear hb12;clear r0 r1 r2 v0 v1 v2;obtain⟨r0,r1,r2⟩:=gY HB.out.r0;obtain⟨v0,v1,v2⟩:=gY HB.out.r1;obtain⟨hol,hom⟩:=order_law (C:=bJ) (ck:=ck) (od:=od) HRt.out;obtain⟨a12,c12,rfl,h12,hat12⟩:=ints_at hI;rw[show(bI (iW r)).length=(iW r).length by simp[bI]] at h12 ⊢;(have hoL:(iW r).length=La.length:=by rw[hol,HLL.out,HLen.out]);(have h25:(((iW r).length:Int) != (La.length:Int))=false:=by rw[bne_eq_false_iff_eq,hoL]);have HO:=zh hat12;have HOm:=zh hom;have HOl:=zh hol;have HoL:=zh hoL;clear hI hat12 hom hol hoL;have hV:=HV.out.later HB.out.below;have HVn:=zh (show oX ck od [] (.slice a1 ck.length c1) (.slice a2 od.length c2) (.slice none 0 0) w12 from⟨hV.clk,hV.ord,jW _,hV.cwf,hV.owf,fun x hx=>absurd hx vZ⟩);clear hV;go_wp2_with fail;refine(pF r L _ _ _ _ _ ck od [] w12 (HR.out.later HB.out.below) HVn.out (HG.out.later HB.out.below)).mono ?_;rintro e w13 ⟨xm,nm,cm,sm,em,rfl,HRm,hb13⟩
      replace HB:=zh (HB.out.later hb13)
      have HO13:=zh hb13;clear hb13;clear r0 r1 r2 v0 v1 v2;by_cases hem:em=0
      ·subst hem;obtain⟨outM,Lm,hrm,hdm,hmm⟩:=HRm.out.ok;obtain⟨hms,hml⟩:=HOm.out _ _ hrm;obtain⟨aM,cM,eM,hLm,hatM⟩:=dns_at hdm;cases eM;subst hmm;rw[List.length_map] at hml;(have hmo:Lm.length=(iW r).length:=by rw[hml,HOl.out]);(have h26:((Lm.length:Int) != ((iW r).length:Int))=false:=by rw[bne_eq_false_iff_eq,hmo]);have HMo:=zh hmo;have HMs:=zh hms;have HM:=zh hatM;clear hrm hdm hms hml hatM HRm hmo;go_wp2_with fail;(go_loopw [24] (fun iv wz=>∃z:Nat,z<=Lm.length/\iv=.int .i64 (z:Int)/\Hid (B2 w (dG (.slice ai r.inputs.length ci) (.slice av L.length cv) r.output) (kY (.slice a1 ck.length c1) (.slice a2 od.length c2) (.slice a3 nx.length c3)) wz)/\Hid (Below w13.heap.size w13 wz)) (fun iv _=>Lm.length-(intOf iv).toNat));case atStart=>exact⟨0,Nat.zero_le _,rfl,HB,zh (Below.refl _ _)⟩
       case round=>
        clear HB;obtain⟨z,hz,rfl,HB,HBz⟩:=hrel;(rename World=>wz);by_cases hlz:z<Lm.length
        ·obtain⟨x,hx,-⟩:=getElem?_of_lt hlz;obtain⟨i,hi,-⟩:=getElem?_of_lt (l:=iW r) (k:=z) (by rw[<-HMo.out];exact hlz)
         have hxi:x.2.step=(i:Int):=by
          have h:=congrArg (fun l=>l[z]?) HMs.out;simp only[List.getElem?_map,hx,hi,Option.map_some] at h;exact Option.some.inj h
         obtain⟨bm,om,rfl,d0,-⟩:=HM.out z x hx;obtain⟨bo,oo,rfl,p0⟩:=HO.out z (i:Int) (by rw[bI,List.getElem?_map,hi];rfl);rw[hxi] at d0
         replace d0:=aC HBz.out d0
         replace p0:=aC HBz.out (aC HO13.out p0)
         have hz0:(0:Int)<=(z:Int):=vT;have hz1:(z:Int)<(Lm.length:Int):=vT;(have hz2:(z:Int)<((iW r).length:Int):=by have:=HMo.out;omega);clear hx hi hxi;go_wp2_with fail;(go_quiet(fail));go_wp2_with fail;go_roundw;(case rel=>exact⟨z+1,vT,wH,zh (HB.out.later (aJ (Below.refl _ _) _)),zh (aJ HBz.out _)⟩);case measure=>simp[intOf];omega
        ·exact sD
      ·(have e0:(em==0)=false:=by rw[beq_eq_false_iff_ne];exact hem);obtain⟨-,e2,e3⟩:=HRm.out.bad hem;cases e2;subst e3;clear HRm hem;go_wp2_with fail;(go_loop [24] (fun i=>i=.int .i64 0) (fun _=>0));case atStart=>rfl
       case round=>
        subst hrel;exact sD
   ·(have e0:(ea==0)=false:=by rw[beq_eq_false_iff_ne];exact hea);(have e1:(ea != 0)=true:=by rw[bne_iff_ne];exact hea);obtain⟨-,e2,e3⟩:=HRa.out.bad hea;cases e2;subst e3;clear HRa hea;exact sD
end Go.Proofs.YtacgopankhpnbaaGreatDoor
