/- Joined. -/
import Derived.Test.YtacgopankhpnbaaGreatDoorTQAB
set_option maxHeartbeats 16000000
set_option maxRecDepth 100000
set_option linter.unusedVariables false
set_option linter.unusedSimpArgs false
namespace Go.Proofs.YtacgopankhpnbaaGreatDoor
open Go.RowKit
theorem XU{p:Prop}(h:p:=by
 refine hK.out _ _ trivial (fun hS=>?_);clear hK K;try simp only[zn]
 have TW:=zG.out.next (Ba (aE xK));have BU:=zF.out.next (Ba (aA tG (aQ opc nc sc mc pc qc rc tc uc vc)));have uE:=BU.arg.big;refine wpAnyH_ready (rs:=[5]) aAN aAQ ?_;refine AllReadyH.cons rfl (fun K hK=>?_) AllReadyH.nil;refine step_append_lies (tG.alloc (aQ opc nc sc mc pc qc rc tc uc vc)) rfl _ _ 127 rfl B 177 i0 (dV 0 0 ByteArray.empty ByteArray.empty none 0 0 none 0 0) 6 96 Tryz.underlying127 vA tM sY sX rfl aAM (.slice a2 args.length c2) args.length ca.flatten aBm BU.arg.own ⟨tG.heap.size,0,none⟩ 1 1 [.int .i64 opc,.int .i64 nc,.string sc,.string mc,.slice pc qc rc,.slice tc uc vc] aBm rfl (World.news_of_block (cs:=#[.int .i64 opc,.int .i64 nc,.string sc,.string mc,.slice pc qc rc,.slice tc uc vc]) (t:=177) (fr:=(0,0)) (bY tG _)) aA1 aAM aAY aAM uE (tG.heap.size+1) aAQ ?_;intro g' cap' vL sB sA sM _;obtain⟨BX,FP,oB⟩:=TW.addArg sZ KW rfl sB rfl sA sM;have GM:=zh (HW.out.above uG oB);have GE:=zh FP;have uN:=zh (N8.out.trans (PR.bnd_ok tS));clear sB sA sM FP oB BU uE TW uG sZ KW tS zF;refine hK.out _ _ trivial (fun hS=>?_);clear hK K;refine zq 6 (.pointer (some ⟨w.heap.size+1,5,none⟩)) rfl ?_;try simp only[zn]
 refine zr 7 rfl (fun K hK=>?_);try simp only[z1,z2,z3]
 obtain⟨⟨c0,c1,c2,c3,c4,c5⟩,h0,h1,h2,h3,h4,h5⟩:=bx6 BX;go_simp;clear c0 c1 c2 c3 c4 c5 h0 h1 h2 h3 h4 h5 BX;refine hK.out _ _ trivial (fun hS=>?_);clear hK K;try simp only[zn]
 refine wpAnyH_done aAN ?_ _;clear hS zG EN HE;generalize vL.setCell ⟨w.heap.size+1,5,none⟩ (.slice (some ⟨g',0,none⟩) (args.length+1) cap')=CC at *;have AS:=GM.out.lt;go_wp2_with(first|(go_at_call 131;refine(dH p GZ xQ iQ (by have h:=vZ;rw[if_neg aCE] at h;exact h)).mono ?_;rintro e I4 (⟨x16,zM,rfl,E8⟩|⟨⟨⟩,k16,zM,⟨rfl,NY⟩,E8⟩)<;>have yJ:=zh (GE.out.next (uT.trans E8))<;>obtain⟨⟨c0,c1,c2,c3,c4,c5⟩,h0,h1,h2,h3,h4,h5⟩:=bx6 yJ.out.loc<;>obtain⟨⟨r0,r1,r2,r3,r4,r5⟩,g0,g1,g2,g3,g4,g5⟩:=bx6 yJ.out.res)|(go_at_call 141;refine(oO p CC xQ bT GM.out).mono ?_;rintro e GZ ⟨rfl,vZ,uT⟩))
 ·have tU:¬isP p.l xQ bT=true:=aCE;exact⟨rfl,Ran.bad' (uN.out.trans ((if_neg tU).trans (PR.bnd_bad zM))) yJ.out.off⟩
 ·have tU:¬isP p.l xQ bT=true:=aCE;have hk16:=(cV zM).1;have hE:=iA HW.out yJ.out.off NY yJ.out.exp (fun b hb=>aCI);unfold iB at hE;refine bodyPost_ret (v:=dV 13 0 ⟨#[]⟩ ⟨#[]⟩ (some ⟨g,0,none⟩) (names.length+1) cap (some ⟨g',0,none⟩) (args.length+1) cap') (by simp[results,Tryz.results242,go_sem,r0,r1,r2,r3,r4,r5]) rfl ?_;exact Ran.good (uN.out.trans ((if_neg tU).trans (PR.bnd_ok zM))) ⟨⟨13,0,⟨#[]⟩,⟨#[]⟩,_,_,_,_,_,_,rfl,hE.1⟩,hE.2.1,aAM⟩ hE.2.2
 have tU:isP p.l xQ bT=true:=by simpa using ‹(!isP p.l xQ bT)=false›
 rw[if_pos tU] at vZ;have H4:=vZ.lt;have OP:=zh (GE.out.next uT);have GL:=zh vZ;have D8:=zh (uN.out.trans (if_pos tU));obtain⟨F',wT⟩:∃F',F=F'+1:=⟨F-1,aAM⟩;clear vZ uT tU;go_roundw
 case rel=>
  subst wT;exact⟨xQ+1,F',s,names++[s],_,_,args++[xc],some ⟨g,0,none⟩,cap,some ⟨g',0,none⟩,cap',rfl,by simpa using OP,GL,D8,zh ⟨aAM,aAM,aA0,by have:=HB.out.2.2.2;simp;omega⟩⟩
 case measure=>
  rw[GL.out.pos,HA.out.pos];omega):p:=h
theorem aAx{p:Prop}(h:p:=by
 go_wp2_with fail
 exact⟨rfl,Ran.bad' (N8.out.trans (PR.bnd_bad tS)) (zG.out.off.trans ((Ba (aE xK)).trans sZ))⟩):p:=h
theorem strInfo1:(Tryz.prog.info? 9).map (fun i=>(i.zero,i.size,i.bytes))=some (some (.string ByteArray.empty),1,16):=aAN
section
variable {l:List Tok} {rec:RecP} {F q:Nat} {names:List bA} {args:List Xp} {last:bA}
theorem recFrom_step(hq:dM l q=true)(hr:iM l q names.length 8=.ok ((),q)):eC l rec (F+1) names args last q=
  (gQ l q last (decide (0<names.length))).bnd fun s j=>(dP l j kEq).bnd fun _ j2=>(rec 0 j2).bnd fun e j3=>
   if isP l j3 bT then eC l rec F (names++[s]) (args++[e]) s (j3+1) else(dP l j3 iQ).bnd fun _ k=>.ok (.mk 13 0 noB noB (names++[s]) (args++[e]),k):=by
 rw[eC,if_pos hq,hr];rfl
theorem recFrom_full(hq:dM l q=true){x:Int×Int}(hr:iM l q names.length 8=.error x):eC l rec (F+1) names args last q=.error x:=by
 rw[eC,if_pos hq,hr];rfl
theorem recFrom_noname(hq:dM l q=false):eC l rec (F+1) names args last q=.error ((aJ l q).pos,11):=by
 rw[eC,if_neg aCk];unfold gQ;rw[hq];rfl
end
theorem record_any(p:Prs)(f:Nat)(hE:gZ p f):nT p f:=fun i w h vC=>by
 obtain⟨i0,vA,tM,sY,sX⟩:=info_parts xpInfo;obtain⟨i1,DD,I6,I5,EP⟩:=info_parts strInfo1;have HE:=zh hE;have HW:=zh h;have hlen:=h.len;have xH:=h.blt;have sC:w.heap.size≠p.pb:=aAM;have hne1:w.heap.size+1≠p.pb:=aAM;have uC:(w.alloc (.cells bP 177)).heap.size=w.heap.size+1:=aAQ;have xG:((w.alloc (.cells bP 177)).alloc (aQ 13 0 ⟨#[]⟩ ⟨#[]⟩ none 0 0 none 0 0)).heap.size=w.heap.size+2:=aAQ;have BA:Below w.heap.size w ((w.alloc (.cells bP 177)).alloc (aQ 13 0 ⟨#[]⟩ ⟨#[]⟩ none 0 0 none 0 0)):=aB (aA _ _) (aA _ _);have HBA:=zh BA;have HAa:=zh (h.later BA);have JV:=zh (aD (aA (w.alloc (.cells bP 177)) (aQ 13 0 ⟨#[]⟩ ⟨#[]⟩ none 0 0 none 0 0)) (bY w (.cells bP 177)));have hLa:=bY (w.alloc (.cells bP 177)) (aQ 13 0 ⟨#[]⟩ ⟨#[]⟩ none 0 0 none 0 0);rw[uC] at hLa;have HLa:=zh hLa;clear h hE BA hLa
 cases yP:isP p.l i iQ with
 |true=>
  have HH:=zh (fV p ((w.alloc (.cells bP 177)).alloc (aQ 13 0 ⟨#[]⟩ ⟨#[]⟩ none 0 0 none 0 0)) i iQ HAa.out yP);have HR:Hid (mO p.l (bX p.l f) i=.ok (.mk 13 0 noB noB [] [],i+1)):=zh (by unfold mO;rw[if_pos yP]);clear yP;go_enter Tryz.func242,Tryz.ntmps242;go_wp2_with(go_at_call 141;refine HH.out.mono ?_;rintro e w2 ⟨rfl,tD,sG⟩;have hR2:=sG.heap sC JV.out;have hL2:=sG.heap hne1 HLa.out;obtain⟨⟨r0,r1,r2,r3,r4,r5⟩,g0,g1,g2,g3,g4,g5⟩:=bx6 hR2;obtain⟨⟨c0,c1,c2,c3,c4,c5⟩,h0,h1,h2,h3,h4,h5⟩:=bx6 hL2);have hE:=iA (N:=fun _=>False) (x:=.mk 13 0 noB noB [] []) (op:=13) (n:=0) (s:=⟨#[]⟩) (m:=⟨#[]⟩) (a1:=none) (n1:=0) (c1:=0) (a2:=none) (n2:=0) (c2:=0) HW.out ((Ba HBA.out).trans sG) tD aBl (fun b hb=>hb.elim);unfold iB at hE;refine bodyPost_ret (v:=dV 13 0 ⟨#[]⟩ ⟨#[]⟩ none 0 0 none 0 0) (by simp[results,Tryz.results242,go_sem,r0,r1,r2,r3,r4,r5]) rfl ?_;exact Ran.good HR.out ⟨⟨13,0,⟨#[]⟩,⟨#[]⟩,none,0,0,none,0,0,rfl,hE.1⟩,hE.2.1,aAM⟩ hE.2.2
 |false=>
  have HH:=zh (bF p ((w.alloc (.cells bP 177)).alloc (aQ 13 0 ⟨#[]⟩ ⟨#[]⟩ none 0 0 none 0 0)) i iQ HAa.out yP);have HR:Hid (mO p.l (bX p.l f) i=eC p.l (bX p.l f) (p.l.length+1) [] [] noB i):=zh (by unfold mO;rw[if_neg (by rw[yP];simp)]);clear yP;go_enter Tryz.func242,Tryz.ntmps242;go_wp2_with(go_at_call 141;refine HH.out.mono ?_;rintro e w2 ⟨rfl,tD,sG⟩);have MG:=sG.size;have IZ:Hid (RecL p w (w.heap.size+1) w2.heap.size [] [] [] [] (.slice none 0 0) (.slice none 0 0) w2):=zh ⟨(Ba HBA.out).trans sG,sG.heap sC JV.out,sG.heap hne1 HLa.out,Gro.first _ _ _ _,Gro.first _ _ _ _,⟨aAM,aAM⟩,xH,fun b hb=>by cases hb⟩;have EX:=zh tD;have hb3B:w.heap.size+1<w2.heap.size:=aAM;clear tD sG HH JV HLa HAa HBA xG MG;generalize w2.heap.size=B at *;go_loopw [4] (fun sl wr=>∃(q F:Nat)(last:bA)(names:List bA)(cn ca:List (List Value))(args:List Xp)(a1:Option Addr)(c1:Nat)(a2:Option Addr)(c2:Nat),sl=.string last/\Hid (RecL p w (w.heap.size+1) B names cn args ca (.slice a1 names.length c1) (.slice a2 args.length c2) wr)/\Hid (p.At wr q)/\Hid (mO p.l (bX p.l f) i=eC p.l (bX p.l f) (F+1) names args last q)/\Hid (p.l.length<=F+q/\i<=q/\names.length<=8/\args.length=names.length)) (fun _ wr=>p.l.length-posOf wr p.pb)
  case atStart=>exact⟨i,p.l.length,_,[],[],[],[],none,0,none,0,rfl,IZ,EX,HR,zh ⟨aAM,Nat.le_refl _,aAO,rfl⟩⟩
  case round=>
   obtain⟨q,F,last,names,cn,ca,args,a1,c1,a2,c2,rfl,HL,HA,sK,HB⟩:=hrel;(rename World=>wr);have AQ:=HB.out.1;have DW:=HB.out.2.1;have S5:=HB.out.2.2.1;(have hq5:args.length<=8:=by have:=HB.out.2.2.2;omega);have KC:=HA.out.lt
   cases xU:dM p.l q with
   |false=>
    ·skip;go_wp2_with(first|(go_at_call 186;refine(oT p w5 q last _ xC.out).mono ?_;rintro e w6 (⟨x,hx,rfl,sU⟩|⟨s,j6,hx,⟨rfl,wD,QR⟩,sU⟩))|(go_at_call 185;refine(iX p wr q HA.out).mono ?_;rintro e w5 ⟨rfl,hb5⟩;rw[xU];have xC:=zh (HA.out.later hb5);have wO:=zh (HL.out.next (Ba hb5));obtain⟨⟨c0,FV,c2',c3,c4,c5⟩,h0,h1,h2,h3,h4,h5⟩:=bx6 wO.out.loc))
     ·exact⟨rfl,Ran.bad' (by have e:=(jV xU).symm.trans hx;cases e;exact sK.out.trans (recFrom_noname xU)) (wO.out.off.trans sU)⟩
     rw[jV xU] at hx;cases hx
   |true=>
    ·skip;go_wp2_with(first|(go_at_call 131;have hj7:=laterP_ok uI;refine(dH p w7 j7 kEq uX).mono ?_;rintro e w8 (⟨x8,vJ,rfl,uK⟩|⟨⟨⟩,j8,vJ,⟨rfl,zS⟩,uK⟩)<;>have HL8:=zh (UK.out.next uK)<;>obtain⟨⟨k0,k1,k2,k3,k4,k5⟩,-⟩:=bx6 HL8.out.loc)|(go_at_call 186;have hj6:=rG xO;subst hj6;refine(oT p w6 j6 last _ wD).mono ?_;rintro e w7 (⟨x7,uI,rfl,sQ⟩|⟨s,j7,uI,⟨rfl,uX,hs7⟩,sQ⟩)<;>have UK:=zh (CX.out.next sQ))|(go_at_call 134;refine(rF p w5 q names.length 8 xC.out).mono ?_;rintro e w6 (⟨x6,xO,rfl,sU⟩|⟨⟨⟩,j6,xO,⟨rfl,wD⟩,sU⟩)<;>have CX:=zh (wO.out.next sU)<;>obtain⟨⟨e0,e1,e2,e3,e4,e5⟩,-⟩:=bx6 CX.out.loc)|(go_at_call 185;refine(iX p wr q HA.out).mono ?_;rintro e w5 ⟨rfl,hb5⟩;rw[xU];have xC:=zh (HA.out.later hb5);have wO:=zh (HL.out.next (Ba hb5));obtain⟨⟨d0,d1,d2,d3,d4,d5⟩,-⟩:=bx6 wO.out.loc)|(at_builtin;have hL9:=HL8.out.next (Ba (aA w8 (eP s)));have uL:=hL9.nam.big;refine wpList_append_lies _ rfl _ _ 22 rfl B 9 i1 (.string ByteArray.empty) 1 16 Tryz.underlying22 DD I6 I5 EP rfl aAM (.slice a1 names.length c1) names.length cn.flatten aBm hL9.nam.own ⟨w8.heap.size,0,none⟩ 1 1 [.string s] aBm rfl (World.news_of_block (cs:=#[.string s]) (t:=9) (fr:=(0,0)) (bY w8 _)) aA1 aAM aAY aAM uL (w8.heap.size+1) aAQ ?_))
     ·exact⟨rfl,Ran.bad' (sK.out.trans (recFrom_full xU xO)) CX.out.off⟩
     ·exact⟨rfl,Ran.bad' (sK.out.trans ((recFrom_step xU xO).trans (PR.bnd_bad uI))) UK.out.off⟩
     ·exact⟨rfl,Ran.bad' (sK.out.trans ((recFrom_step xU xO).trans ((PR.bnd_ok uI).trans (PR.bnd_bad vJ)))) HL8.out.off⟩
     intro g cap tB sB sA sM _;obtain⟨FU,FQ,oB⟩:=HL8.out.addName hs7 sB rfl sA sM;have Q8:=(cV vJ).1
     have hlr:names.length<8:=by
      have h:=xO;unfold iM at h;split at h
      ·assumption
      cases h
     have EN:=zh (HW.out.above zS oB);have zG:=zh FQ;have N8:=zh (sK.out.trans ((recFrom_step xU xO).trans ((PR.bnd_ok uI).trans (PR.bnd_ok vJ))));obtain⟨⟨c0,FV,c2',c3,c4,c5⟩,h0,h1,h2,h3,h4,h5⟩:=bx6 FU;clear sB sA sM FU FQ oB hL9 uL wD uX zS sU sQ uK xO uI vJ d0 d1 d2 d3 d4 d5 e0 e1 e2 e3 e4 e5 k0 k1 k2 k3 k4 k5 wO CX UK HL8;go_wp2_with fail;clear c0 FV c2' c3 c4 c5 h0 h1 h2 h3 h4 h5;generalize tB.setCell ⟨w.heap.size+1,4,none⟩ (.slice (some ⟨g,0,none⟩) (names.length+1) cap)=xK at *;refine wp_region_held_drew (S:=(fun _=>True)) aAN trivial fun hS=>?_;refine zq 0 (.pointer (some ⟨w.heap.size+1,5,none⟩)) rfl ?_;refine zq 2 (.pointer (some ⟨p.pb,0,none⟩)) rfl ?_;(try simp only[zn]);refine wpAnyH_ready (rs:=[1,3]) aAN aAQ ?_;refine AllReadyH.cons rfl (fun K hK=>?_) (AllReadyH.cons rfl (fun K hK=>?_) AllReadyH.nil)
     ·have hl11:=aD (aE xK) zG.out.loc;rw[if_pos aAN];(try simp only[z1,z2,z3]);obtain⟨⟨c0,c1,c2,c3,c4,c5⟩,h0,h1,h2,h3,h4,h5⟩:=bx6 hl11;go_simp;clear c0 c1 c2 c3 c4 c5 h0 h1 h2 h3 h4 h5;refine hK.out _ _ trivial (fun hS=>?_);clear hK K;(try simp only[zn]);refine zr 3 rfl (fun K hK=>?_);(try simp only[z1,z2,z3]);go_simp;refine(HE.out 0 j8 xK.drew (EN.out.later (aE _)) aAM aAM).mono ?_;rintro e tG (⟨x12,tS,rfl,sZ⟩|⟨xc,xQ,tS,⟨⟨opc,nc,sc,mc,pc,qc,rc,tc,uc,vc,rfl,KW⟩,uG,TM⟩,sZ⟩)
      ·exact aAx
      have zF:=zh (zG.out.next ((Ba (aE xK)).trans sZ));refine hK.out _ _ trivial (fun hS=>?_);clear hK K;(try simp only[zn]);refine zr 4 rfl (fun K hK=>?_);(try simp only[z1,z2,z3]);go_simp;exact XU
     rw[if_pos aAN];(try simp only[z1,z2,z3]);go_simp;refine(HE.out 0 j8 xK.drew (EN.out.later (aE _)) aAM aAM).mono ?_;rintro e tG (⟨x12,tS,rfl,sZ⟩|⟨xc,xQ,tS,⟨⟨opc,nc,sc,mc,pc,qc,rc,tc,uc,vc,rfl,KW⟩,uG,TM⟩,sZ⟩)
     ·exact aAx
     have zF:=zh (zG.out.next ((Ba (aE xK)).trans sZ));refine hK.out _ _ trivial (fun hS=>?_);clear hK K;(try simp only[zn]);refine wpAnyH_ready (rs:=[1,4]) aAN aAQ ?_;refine AllReadyH.cons rfl (fun K hK=>?_) (AllReadyH.cons rfl (fun K hK=>?_) AllReadyH.nil)
     ·have hl12:=zF.out.loc;rw[if_pos aAN];(try simp only[z1,z2,z3]);obtain⟨⟨c0,c1,c2,c3,c4,c5⟩,h0,h1,h2,h3,h4,h5⟩:=bx6 hl12;go_simp;clear c0 c1 c2 c3 c4 c5 h0 h1 h2 h3 h4 h5;refine hK.out _ _ trivial (fun hS=>?_);clear hK K;(try simp only[zn]);refine zr 4 rfl (fun K hK=>?_);(try simp only[z1,z2,z3]);go_simp;exact XU
     rw[if_pos aAN];(try simp only[z1,z2,z3]);go_simp;refine hK.out _ _ trivial (fun hS=>?_);clear hK K;(try simp only[zn]);refine wpAnyH_ready (rs:=[1]) aAN aAQ ?_;refine AllReadyH.cons rfl (fun K hK=>?_) AllReadyH.nil;have hl13:=aD (aA tG (aQ opc nc sc mc pc qc rc tc uc vc)) zF.out.loc;rw[if_pos aAN];(try simp only[z1,z2,z3]);obtain⟨⟨c0,c1,c2,c3,c4,c5⟩,h0,h1,h2,h3,h4,h5⟩:=bx6 hl13;go_simp;clear c0 c1 c2 c3 c4 c5 h0 h1 h2 h3 h4 h5;exact XU
end Go.Proofs.YtacgopankhpnbaaGreatDoor
namespace Go.Proofs.YtacgopankhpnbaaGreatDoor
theorem aAz{p:Prop}(h:p:=by
 obtain⟨a,_,ha,h⟩:=PR.of_bnd h;cases h
 exact jR fun y hy=>by rw[List.mem_singleton.1 hy];exact hr _ _ _ _ ha):p:=h
theorem aAK{p:Prop}(h:p:=by
 rcases List.mem_append.1 hx with hx|hx
 ·exact ho x hx
 rw[List.mem_singleton.1 hx];exact hr _ _ _ _ he):p:=h
section
variable {l:List Tok} {rec:RecP} {D:Nat}
theorem depthXs_le_of{l:List Xp}{D:Nat}(h:∀x,x∈l->cP x<=D):eU l<=D:=by
 induction l with
 |nil=>simp[eU]
 |cons x r ih=>
  rw[eU];exact Nat.max_le.2 ⟨h x aAQ,ih fun y hy=>h y (by simp[hy])⟩
theorem jR{op n:Int}{s m:bA}{names:List bA}{args:List Xp}(h:∀x,x∈args->cP x<=D):cP (.mk op n s m names args)<=D+1:=by
 rw[cP];have:=depthXs_le_of h;omega
theorem pH(hr:∀f i x j,rec f i=.ok (x,j)->cP x<=D):∀(F:Nat)(out:List Xp)(i:Nat)(xs:List Xp)(j:Nat),(∀x,x∈out->cP x<=D)->cR l rec F out i=.ok (xs,j)->∀x,x∈xs->cP x<=D
 |0,out,i,xs,j,ho,h=>by unfold cR at h;cases h;exact ho
 |F+1,out,i,xs,j,ho,h=>by
  unfold cR at h;obtain⟨_,_,-,h⟩:=PR.of_bnd h;obtain⟨e,j1,he,h⟩:=PR.of_bnd h
  have hn:∀x,x∈out++[e]->cP x<=D:=fun x hx=>by
   exact aAK
  split at h
  ·exact pH hr F _ _ xs j hn h
  obtain⟨_,_,-,h⟩:=PR.of_bnd h;cases h;exact hn
theorem operandsP_depth(hr:∀f i x j,rec f i=.ok (x,j)->cP x<=D){i j:Nat}{xs:List Xp}(h:kU l rec i=.ok (xs,j)):∀x,x∈xs->cP x<=D:=by
 unfold kU at h;obtain⟨_,_,-,h⟩:=PR.of_bnd h;split at h
 ·cases h;intro x hx;cases hx
 exact pH hr _ _ _ _ _ (fun x hx=>by cases hx) h
theorem rI(hr:∀f i x j,rec f i=.ok (x,j)->cP x<=D):∀(F:Nat)(names:List bA)(args:List Xp)(last:bA)(i:Nat)(x:Xp)(j:Nat),(∀x,x∈args->cP x<=D)->eC l rec F names args last i=.ok (x,j)->cP x<=D+1
 |0,names,args,last,i,x,j,ho,h=>by unfold eC at h;cases h;exact jR ho
 |F+1,names,args,last,i,x,j,ho,h=>by
  unfold eC at h;obtain⟨_,_,-,h⟩:=PR.of_bnd h;obtain⟨_,_,-,h⟩:=PR.of_bnd h;obtain⟨_,_,-,h⟩:=PR.of_bnd h;obtain⟨e,j1,he,h⟩:=PR.of_bnd h
  have hn:∀x,x∈args++[e]->cP x<=D:=fun x hx=>by
   exact aAK
  split at h
  ·exact rI hr F _ _ _ _ x j hn h
  obtain⟨_,_,-,h⟩:=PR.of_bnd h;cases h;exact jR hn
theorem nK{op n:Int}{s m:bA}:cP (.mk op n s m [] [])<=D+1:=jR fun x hx=>by cases hx
theorem primaryP_depth(hr:∀f i x j,rec f i=.ok (x,j)->cP x<=D){i j:Nat}{x:Xp}(h:aV l rec i=.ok (x,j)):cP x<=D+1:=by
 have hp:∀{i x j},parenP l rec i=.ok (x,j)->cP x<=D:=fun h=>by
  unfold parenP at h;obtain⟨e,j1,he,h⟩:=PR.of_bnd h;obtain⟨_,_,-,h⟩:=PR.of_bnd h;cases h;exact hr _ _ _ _ he
 unfold aV at h;split at h
 ·cases h;exact nK
 split at h
 ·cases h;exact nK
 split at h
 ·cases h;exact nK
 split at h
 ·obtain⟨_,_,-,h⟩:=PR.of_bnd h;cases h;exact nK
 split at h
 ·obtain⟨_,_,-,h⟩:=PR.of_bnd h;obtain⟨e,_,he,h⟩:=PR.of_bnd h;cases h;exact jR fun y hy=>by rw[List.mem_singleton.1 hy];exact hp he
 split at h
 ·unfold mO at h;split at h
  ·cases h;exact nK
  exact rI hr _ _ _ _ _ _ _ (fun x hx=>by cases hx) h
 split at h
 ·exact Nat.le_succ_of_le (hp h)
 obtain⟨s,j1,-,h⟩:=PR.of_bnd h;unfold callP at h;split at h
 ·obtain⟨xs,_,ha,h⟩:=PR.of_bnd h;cases h;exact jR (operandsP_depth hr ha)
 split at h
 ·obtain⟨_,_,-,h⟩:=PR.of_bnd h;obtain⟨xs,_,ha,h⟩:=PR.of_bnd h;cases h;exact jR (operandsP_depth hr ha)
 cases h;exact nK
theorem prefixP_depth(hr:∀f i x j,rec f i=.ok (x,j)->cP x<=D){form i j:Nat}{r:Xp×Nat}(h:dB l rec form i=.ok (r,j)):cP r.1<=D+1:=by
 unfold dB at h;split at h
 ·obtain⟨a,_,ha,h⟩:=PR.of_bnd h;obtain⟨_,_,-,h⟩:=PR.of_bnd h;obtain⟨b,_,hb,h⟩:=PR.of_bnd h;obtain⟨_,_,-,h⟩:=PR.of_bnd h;obtain⟨c,_,hc,h⟩:=PR.of_bnd h;cases h
  exact jR fun y hy=>by
   simp only[List.mem_cons,List.not_mem_nil,or_false] at hy;rcases hy with rfl|rfl|rfl
   ·exact hr _ _ _ _ ha
   ·exact hr _ _ _ _ hb
   exact hr _ _ _ _ hc
 split at h
 ·obtain⟨_,_,-,h⟩:=PR.of_bnd h;obtain⟨_,_,-,h⟩:=PR.of_bnd h;obtain⟨a,_,ha,h⟩:=PR.of_bnd h;obtain⟨_,_,-,h⟩:=PR.of_bnd h;obtain⟨b,_,hb,h⟩:=PR.of_bnd h;cases h
  exact jR fun y hy=>by
   simp only[List.mem_cons,List.not_mem_nil,or_false] at hy;rcases hy with rfl|rfl
   ·exact hr _ _ _ _ ha
   exact hr _ _ _ _ hb
 split at h
 ·obtain⟨_,_,-,h⟩:=PR.of_bnd h;exact aAz
 split at h
 ·exact aAz
 obtain⟨e,_,he,h⟩:=PR.of_bnd h;cases h;exact primaryP_depth hr he
theorem dotsP_depth:∀(F:Nat)(e:Xp)(i:Nat)(x:Xp)(j:Nat),qQ l F e i=.ok (x,j)->cP x<=cP e+F
 |0,e,i,x,j,h=>by unfold qQ at h;cases h;exact Nat.le_refl _
 |F+1,e,i,x,j,h=>by
  unfold qQ at h;split at h
  ·obtain⟨s,j1,-,h⟩:=PR.of_bnd h;have h1:=dotsP_depth F _ _ x j h;(have h2:cP (.mk 14 0 s noB [] [e])<=cP e+1:=jR fun y hy=>by rw[List.mem_singleton.1 hy];exact Nat.le_refl _);omega
  cases h;omega
theorem opsP_depth(hr:∀f i x j,rec f i=.ok (x,j)->cP x<=D)(form:Nat):∀(F own:Nat)(e:Xp)(i:Nat)(x:Xp)(j:Nat)(E:Nat),cP e<=E->D<=E->opsP l rec form F own e i=.ok (x,j)->cP x<=E+F
 |0,own,e,i,x,j,E,he,hD,h=>by unfold opsP at h;cases h;exact he
 |F+1,own,e,i,x,j,E,he,hD,h=>by
  unfold opsP at h;split at h
  ·cases h;omega
  split at h
  ·cases h;omega
  obtain⟨b,j1,hb,h⟩:=PR.of_bnd h
  have h1:=opsP_depth hr form F _ _ _ x j (E+1) (jR fun y hy=>by
   simp only[List.mem_cons,List.not_mem_nil,or_false] at hy;rcases hy with rfl|rfl
   ·exact he
   exact Nat.le_trans (hr _ _ _ _ hb) hD) aAM h
  omega
theorem expP_depth:∀(f form i:Nat)(x:Xp)(j:Nat),bX l f form i=.ok (x,j)->cP x<=f*(2*l.length+3)
 |0,form,i,x,j,h=>by unfold bX at h;cases h
 |f+1,form,i,x,j,h=>by
  unfold bX at h;obtain⟨r,j1,yC,h⟩:=PR.of_bnd h;obtain⟨e,k,he,h⟩:=PR.of_bnd h;have MR:∀f' i x j,bX l f f' i=.ok (x,j)->cP x<=f*(2*l.length+3):=fun f' i x j h=>expP_depth f f' i x j h;have h1:=prefixP_depth MR yC
  have h2:cP e<=f*(2*l.length+3)+1+(l.length+1):=by
   split at he
   ·have:=dotsP_depth _ _ _ _ _ he;omega
   cases he;omega
  have h3:=opsP_depth MR form _ _ _ _ _ _ _ h2 aAM h;have e1:(f+1)*(2*l.length+3)=f*(2*l.length+3)+(2*l.length+3):=Nat.succ_mul _ _;omega
theorem expAllP_depth{form i j:Nat}{x:Xp}(h:expAllP l form i=.ok (x,j))(hl:l.length<=8001):cP x<=200000000:=by
 have h1:=expP_depth _ _ _ _ _ h;have h2:(l.length+1)*(2*l.length+3)<=8002*16005:=Nat.mul_le_mul aAM aAM;omega
end
end Go.Proofs.YtacgopankhpnbaaGreatDoor
namespace Go.Proofs.YtacgopankhpnbaaGreatDoor
open Go.RowKit
def ExpAll(p:Prs):Prop:=∀(form i:Nat)(w:World),p.At w i->form<=9->Calls Tryz.prog 188 #[.pointer (some ⟨p.pb,0,none⟩),.int .i64 (form:Int)] w
 (Ran p.S w (expAllP p.l form i) fun x j e w'=>qW w.heap.size x e w'/\p.At w' j/\i<=j)
theorem ExpAll.of{p:Prs}(h:∀f,gZ p f):ExpAll p:=fun form i w hA hf=>h (p.l.length+1) form i w hA hf (by have:=hA.lt;omega)
def RowV{α:Type}(p:Prs)(k:Nat)(enc:(Nat->Prop)->World->α->List Value->Prop)(w:World)(i:Nat)(xs:List α)(j:Nat)(e:Ending)(w':World):Prop:=
 ∃a n c,e=.returned (.slice a n c)/\aL k enc (bM w.heap.size) w' (.slice a n c) xs/\p.At w' j/\i<=j
theorem oQ(p:Prs)(hX:ExpAll p)(w:World)(i:Nat)(s:bA)(h:p.At w i):Calls Tryz.prog 139 #[.pointer (some ⟨p.pb,0,none⟩),.string s] w
  (Ran p.S w (nU p.l i s) fun x j e w'=>qW w.heap.size x e w'/\p.At w' j/\i<j):=by
 have HW:=zh h;have HX:=zh (hX 0 i (w.alloc (.cells bP 177)) (h.later (aA _ _)) aAO);have hlen:=h.len;have xH:=h.blt;have sC:w.heap.size≠p.pb:=aAM;have uC:(w.alloc (.cells bP 177)).heap.size=w.heap.size+1:=aAQ;have HR:Hid (nU p.l i s=(expAllP p.l 0 i).bnd fun x j=>(nW p.l j (decide (cP x<=12)) s).bnd fun _ k=>.ok (x,k)):=zh rfl;clear h hX;go_enter Tryz.func139,Tryz.ntmps139;go_wp2_with(first|(go_at_call 137;refine(end_any p w3 j2 _ s HA3.out).mono ?_;rintro e w4 (⟨x4,vF,rfl,sI⟩|⟨⟨⟩,j4,vF,⟨rfl,uR⟩,sI⟩)<;>have yS:=zh (sI.heap hneL DM.out)<;>have HR4:=zh (sI.heap sC R9.out)<;>obtain⟨⟨d0,d1,d2,d3,d4,d5⟩,h0,h1,h2,h3,h4,h5⟩:=bx6 yS.out<;>obtain⟨⟨r0,r1,r2,r3,r4,r5⟩,g0,g1,g2,g3,g4,g5⟩:=bx6 HR4.out)|(go_at_call 189;refine(depth_any _ x _ op n s1 m _ _ _ (Nat.le_refl _) (by have:=expAllP_depth tV hlen;omega) (aG _ _ _ _ _ _ (bU.later (aA w2 _)) hex)).mono ?_;rintro e w3 ⟨rfl,uA⟩;have HA3:=zh ((tD.later (aA w2 _)).later uA);have DM:=zh (aD uA (bY w2 (aQ op n s1 m a1 n1 c1 a2 n2 c2)));have R9:=zh (aD (aB (aA w2 (aQ op n s1 m a1 n1 c1 a2 n2 c2)) uA) (sG.heap sC (bY w (.cells bP 177))));have sX:=sG.size;have hneL:w2.heap.size≠p.pb:=aAM;have HD:Hid (decide ((cP x:Int)<=12)=decide (cP x<=12)):=zh aBh)|(go_at_call 188;refine HX.out.mono ?_;rintro e w2 (⟨x2,tV,rfl,sG⟩|⟨x,j2,tV,⟨⟨op,n,s1,m,a1,n1,c1,a2,n2,c2,rfl,hex⟩,tD,CQ⟩,sG⟩)))
 ·exact⟨rfl,Ran.bad' (HR.out.trans (PR.bnd_bad tV)) ((Ba (aA _ _)).trans sG)⟩
 ·rw[HD.out] at vF;exact⟨rfl,Ran.bad' (HR.out.trans ((PR.bnd_ok tV).trans (PR.bnd_bad vF))) ((Ba (aA _ _)).trans (sG.trans ((Ba (aB (aA w2 _) uA)).trans sI)))⟩
 rw[HD.out] at vF;have hj4:=endP_ok vF;have hE:=iA HW.out ((Ba (aA _ _)).trans (sG.trans ((Ba (aB (aA w2 _) uA)).trans sI))) uR (aG.off (aG _ _ _ _ _ _ (bU.later (aB (aA w2 _) uA)) hex) sI (fun b hb hn=>by have hb:b=p.pb:=hb;have hn:(w.alloc (.cells bP 177)).heap.size<=b:=hn;omega)) (fun b hb=>by have hb:(w.alloc (.cells bP 177)).heap.size<=b:=hb;omega);unfold iB at hE;refine bodyPost_ret (v:=dV op n s1 m a1 n1 c1 a2 n2 c2) (by simp[results,Tryz.results139,go_sem,r0,r1,r2,r3,r4,r5]) rfl ?_;exact Ran.good (HR.out.trans ((PR.bnd_ok tV).trans (PR.bnd_ok vF))) ⟨⟨op,n,s1,m,a1,n1,c1,a2,n2,c2,rfl,hE.1⟩,hE.2.1,aAM⟩ hE.2.2
structure GrL {α:Type} (k:Nat) (T:TypeId) (enc:(Nat->Prop)->World->α->List Value->Prop) (p:Prs) (W:World) (out:List α) (css:List (List Value)) (v:Value) (q:Nat) (wr:World):Prop where
 off:Off p.S W wr
 acc:Gro k T enc W.heap.size out css v wr
 at_:p.At wr q
section
variable {α:Type} {k:Nat} {T:TypeId} {enc:(Nat->Prop)->World->α->List Value->Prop} {p:Prs} {W w5 w9 tB:World} {out:List α} {css:List (List Value)} {v:Value} {q j i0:Nat} {x:α} {cs:List Value}
theorem GrL.next(he:eW enc)(hW:p.At W i0)(h:GrL k T enc p W out css v q w5)(ho:Off p.S w5 w9)(ha:p.At w9 j):GrL k T enc p W out css v j w9:=
 ⟨h.off.trans ho,h.acc.stays he (dN.of_off ho fun b hb=>.inl aCw),ha⟩
theorem GrL.fresh_enc(he:eW enc)(h:GrL k T enc p W out css v q w5)(hex:enc (bM w5.heap.size) w9 x cs):enc (nA W.heap.size v) w9 x cs:=
 he.wide hex fun b hb _=>⟨by have hb:w5.heap.size<=b:=hb;have:=h.acc.big;omega,fun e=>by have hb:w5.heap.size<=b:=hb;have:=h.acc.lt b e;omega⟩
theorem GrL.step{g cap n1:Nat}(he:eW enc)(hW:p.At W i0)(h5:GrL k T enc p W out css v q w5)(o9:Off p.S w5 w9)(BH:p.At w9 j)(hx:enc (nA W.heap.size v) w9 x cs)(hl:cs.length=k)
  (sB:tB.ownsRow W.heap.size T k (.slice (some ⟨g,0,none⟩) n1 cap) n1 (css.flatten++cs)) (hn:n1=out.length+1) (sA:w9.grownBy tB v.ownBlock) (sM:v.ownBlock=some g\/g=w9.heap.size):
  GrL k T enc p W (out++[x]) (css++[cs]) (.slice (some ⟨g,0,none⟩) n1 cap) j tB/\Off (fun b=>W.heap.size<=b) w9 tB:=by
 subst hn;have sE:=h5.acc.lt;have tC:=h5.acc.big;have hA9:=h5.acc.stays he (dN.of_off o9 fun b hb=>.inl aCw);have BD:Off (fun b=>W.heap.size<=b) w9 tB:=⟨sA.os,sA.tape,sA.output,sA.size,fun b hb hn=>sA.block b hb (fun e=>hn (sE b e.symm).1)⟩;exact⟨⟨Off.fresh (((h5.off.trans o9).or _).trans (BD.mono fun b hb=>.inr hb)) (Nat.le_refl _),hA9.added he hx hl sB sA sM,hW.above BH BD⟩,BD⟩
end
end Go.Proofs.YtacgopankhpnbaaGreatDoor
namespace Go.Proofs.YtacgopankhpnbaaGreatDoor
open Go.RowKit
theorem wholes_any(p:Prs)(hX:ExpAll p)(n:Nat)(hn:n<=1000)(w:World)(i:Nat)(s:bA)(h:p.At w i):Calls Tryz.prog 143 #[.pointer (some ⟨p.pb,0,none⟩),.int .i64 (n:Int),.string s] w
  (Ran p.S w (jF p.l n i s) (RowV p 6 cJ w i)):=by
 obtain⟨i0,vA,tM,sY,sX⟩:=info_parts xpInfo;have HW:=zh h;have hlen:=h.len
 cases n with
 |zero=>
  have HR:Hid (jF p.l 0 i s=(dP p.l i s).bnd fun _ j=>.ok ([],j)):=zh rfl;clear h hX;go_enter Tryz.func143,Tryz.ntmps143;go_wp2_with(go_at_call 131;refine(dH p w i s HW.out).mono ?_;rintro e w1 (⟨x,hx,rfl,sJ⟩|⟨⟨⟩,j,hx,⟨rfl,sT⟩,sJ⟩))
  ·exact aAJ
  have hj:=(cV hx).1;go_ret;exact Ran.good (HR.out.trans (PR.bnd_ok hx)) ⟨none,0,0,rfl,aL.nil _ _ _ _,sT,aAM⟩ sJ
 |succ n=>
  have HX:=zh hX;have HR:Hid (jF p.l (n+1) i s=kG p.l s n [] i):=zh rfl;have yW:((n+1:Nat):Int)=(n:Int)+1:=aAM;rw[yW];have PI:(n:Int)+1<=1000:=aAM;have hn3:((n:Int)+1==0)=false:=aAW;clear h hX yW;go_enter Tryz.func143,Tryz.ntmps143;go_wp2_with fail;have IZ:Hid (GrL 6 177 cJ p w [] [] (.slice none 0 0) i w):=zh ⟨Off.refl _ _,Gro.first _ _ _ _,HW.out⟩;go_loopw [7,15] (fun v c wr=>∃(k:Nat)(a:Option Addr)(cc q:Nat)(out:List Xp)(css:List (List Value)),k<=n/\c=.int .i64 (k:Int)/\v=.slice a out.length cc/\Hid (GrL 6 177 cJ p w out css v q wr)/\Hid (jF p.l (n+1) i s=kG p.l s (n-k) out q)/\Hid (i<=q/\out.length=k)) (fun _ c _=>n-(intOf c).toNat)
  case atStart=>exact⟨0,none,0,i,[],[],aAM,rfl,rfl,IZ,HR,zh ⟨Nat.le_refl _,rfl⟩⟩
  case round=>
   obtain⟨k,a,cc,q,out,css,hk,rfl,rfl,HL,sK,HB⟩:=hrel;(rename World=>wr);have AQ:=HB.out.1;(have DW:out.length<=1000:=by have:=HB.out.2;omega);by_cases sE:k<n
   ·have xN:Hid (jF p.l (n+1) i s=(nU p.l q bT).bnd fun x j=>kG p.l s (n-(k+1)) (out++[x]) j):=zh (by rw[sK.out,show n-k=(n-(k+1))+1 by omega];rfl);go_wp2_with(first|(at_builtin;have HL9:=HL.out.next aG HW.out (sQ.trans (Ba (aA w7 (aQ op n1 s1 m a1 m1 c1 a2 m2 c2)))) (uX.later (aA _ _));have tE:=HL9.acc;have uL:=tE.big;refine wpList_append_lies _ rfl _ _ 127 rfl w.heap.size 177 i0 (dV 0 0 ByteArray.empty ByteArray.empty none 0 0 none 0 0) 6 96 Tryz.underlying127 vA tM sY sX rfl aAM (.slice a out.length cc) out.length css.flatten aBm tE.own ⟨w7.heap.size,0,none⟩ 1 1 [.int .i64 op,.int .i64 n1,.string s1,.string m,.slice a1 m1 c1,.slice a2 m2 c2] aBm rfl (World.news_of_block (cs:=#[.int .i64 op,.int .i64 n1,.string s1,.string m,.slice a1 m1 c1,.slice a2 m2 c2]) (t:=177) (fr:=(0,0)) (bY w7 _)) aA1 aAM aAY aAM uL (w7.heap.size+1) aAQ ?_)|(go_at_call 139;refine(oQ p HX.out wr q bT HL.out.at_).mono ?_;rintro e w7 (⟨x7,uI,rfl,sQ⟩|⟨x,j,uI,⟨⟨op,n1,s1,m,a1,m1,c1,a2,m2,c2,rfl,hex⟩,uX,hqj⟩,sQ⟩)))
    ·exact⟨rfl,Ran.bad' (xN.out.trans (PR.bnd_bad uI)) (HL.out.off.trans sQ)⟩
    intro g cap tB sB sA sM _;have vN:=zh (HL.out.step aG HW.out (sQ.trans (Ba (aA w7 (aQ op n1 s1 m a1 m1 c1 a2 m2 c2)))) (uX.later (aA _ _)) (HL.out.fresh_enc aG (aG _ _ _ _ _ _ (bU.later (aA w7 (aQ op n1 s1 m a1 m1 c1 a2 m2 c2))) hex)) rfl sB rfl sA aCb).1;have zD:=zh (xN.out.trans (PR.bnd_ok uI));have HJ:Hid (i<=j/\(out++[x]).length=k+1):=zh ⟨aAM,by simp[HB.out.2]⟩;clear sB sA sM hex uX sQ uI HL sK xN;go_wp2_with fail;go_roundw;(case rel=>exact⟨k+1,some ⟨g,0,none⟩,cap,j,out++[x],_,aAM,aAV,aAQ,vN,zD,HJ⟩);case measure=>simp[intOf];omega
   have C8:k=n:=aAM;have xN:Hid (jF p.l (n+1) i s=(nU p.l q s).bnd fun x j=>.ok (out++[x],j)):=zh (by rw[sK.out,C8,Nat.sub_self];rfl);subst C8;go_wp2_with(first|(at_builtin;have HL9:=HL.out.next aG HW.out (sQ.trans (Ba (aA w7 (aQ op n1 s1 m a1 m1 c1 a2 m2 c2)))) (uX.later (aA _ _));have tE:=HL9.acc;have uL:=tE.big;refine wpList_append_lies _ rfl _ _ 127 rfl w.heap.size 177 i0 (dV 0 0 ByteArray.empty ByteArray.empty none 0 0 none 0 0) 6 96 Tryz.underlying127 vA tM sY sX rfl aAM (.slice a out.length cc) out.length css.flatten aBm tE.own ⟨w7.heap.size,0,none⟩ 1 1 [.int .i64 op,.int .i64 n1,.string s1,.string m,.slice a1 m1 c1,.slice a2 m2 c2] aBm rfl (World.news_of_block (cs:=#[.int .i64 op,.int .i64 n1,.string s1,.string m,.slice a1 m1 c1,.slice a2 m2 c2]) (t:=177) (fr:=(0,0)) (bY w7 _)) aA1 aAM aAY aAM uL (w7.heap.size+1) aAQ ?_)|(go_at_call 139;refine(oQ p HX.out wr q s HL.out.at_).mono ?_;rintro e w7 (⟨x7,uI,rfl,sQ⟩|⟨x,j,uI,⟨⟨op,n1,s1,m,a1,m1,c1,a2,m2,c2,rfl,hex⟩,uX,hqj⟩,sQ⟩)))
   ·exact⟨rfl,Ran.bad' (xN.out.trans (PR.bnd_bad uI)) (HL.out.off.trans sQ)⟩
   intro g cap tB sB sA sM _;have vN:=zh (HL.out.step aG HW.out (sQ.trans (Ba (aA w7 (aQ op n1 s1 m a1 m1 c1 a2 m2 c2)))) (uX.later (aA _ _)) (HL.out.fresh_enc aG (aG _ _ _ _ _ _ (bU.later (aA w7 (aQ op n1 s1 m a1 m1 c1 a2 m2 c2))) hex)) rfl sB rfl sA aCb).1;have hR:=xN.out.trans (PR.bnd_ok uI);clear sB sA sM hex uX sQ uI;go_wp2_with fail;go_ret;exact Ran.good hR ⟨_,_,_,rfl,by simpa using vN.out.acc.row aG,vN.out.at_,aAM⟩ vN.out.off
theorem ZH{p:Prop}(h:p:=by
 refine congrArg eO (funext fun z=>?_);simp only[List.any_append,List.any_cons,List.any_nil,Bool.or_false];rw[Bool.or_comm];by_cases h:a=z
 ·subst h;rfl
 have h2:¬z=a:=fun e=>h e.symm
 simp only[decide_eq_false h,decide_eq_false h2]):p:=h
theorem Gro.cells{α:Type}{k:Nat}{T:TypeId}{enc:(Nat->Prop)->World->α->List Value->Prop}{B:Nat}{l:List α}{css:List (List Value)}{v:Value}{w:World}(h:Gro k T enc B l css v w){b:Nat}(hb:v.ownBlock=some b):∃cs t fr,w.heap[b]? =some (.cells cs t fr):=by
 rcases h.own.2 with⟨rfl,-⟩|⟨g,cap,cur,rfl,-,KR,-⟩
 ·cases hb
 have e:g=b:=aB9;subst e;exact⟨_,_,_,KR⟩
theorem Gro.nemap{α:Type}{k:Nat}{T:TypeId}{enc:(Nat->Prop)->World->α->List Value->Prop}{B:Nat}{l:List α}{css:List (List Value)}{v:Value}{w:World}(h:Gro k T enc B l css v w){km:Nat}(hm:dG w km):v.ownBlock≠some km:=fun e=>by
 obtain⟨cs,t,fr,h1⟩:=h.cells e;obtain⟨es,c,h2⟩:=hm;rw[h1] at h2;cases h2
section
variable {α:Type} {k:Nat} {T:TypeId} {enc:(Nat->Prop)->World->α->List Value->Prop} {p:Prs} {W w5 w9 tB:World} {out:List α} {css:List (List Value)} {v:Value} {q j i0 km:Nat}
theorem GrL.fresh(he:eW enc)(hW:p.At W i0)(h:GrL k T enc p W out css v q w5)(hm:dG w5 km)(hk:W.heap.size<=km)(ho:Off (p.S2 km) w5 w9)(ha:p.At w9 j):GrL k T enc p W out css v j w9:=
 ⟨Off.fresh ((h.off.or _).trans (ho.mono fun b hb=>hb.elim (fun e=>.inl e) (fun e=>.inr aAM))) (Nat.le_refl _),
  h.acc.stays he (dN.of_off ho fun b hb=>hb.elim (fun e=>.inl (by have:=hW.blt;omega)) (fun e=>.inr (by rw[e];exact hm))),ha⟩
end
theorem GrL.field{p:Prs}{W w6 w7 tB:World}{g cap n1 i0 j2 q:Nat}{fs:List Fld}{css:List (List Value)}{v:Value}{a:bA}{t:Ty}{k:Int}{sa:Option Addr}{sn sc:Nat}(hW:p.At W i0)(h6:GrL 3 184 gR p W fs css v q w6)
  (sQ:Off p.S (w6.alloc (cX a 0 none 0 0)) w7) (uX:p.At w7 j2) (wB:jQ (bM (w6.alloc (cX a 0 none 0 0)).heap.size) w7 t [.int .i64 k,.slice sa sn sc]) (hs:a.size<=8000)
  (sB:tB.ownsRow W.heap.size 184 3 (.slice (some ⟨g,0,none⟩) n1 cap) n1 (css.flatten++[.string a,.int .i64 k,.slice sa sn sc])) (hn:n1=fs.length+1) (sA:(((w7.setCell ⟨w6.heap.size,1,none⟩ (.int .i64 k)).setCell ⟨w6.heap.size,2,none⟩ (.slice sa sn sc)).alloc (cX a k sa sn sc)).grownBy tB v.ownBlock) (sM:v.ownBlock=some g\/g=w7.heap.size+1):
  GrL 3 184 gR p W (fs++[(a,t)]) (css++[[.string a,.int .i64 k,.slice sa sn sc]]) (.slice (some ⟨g,0,none⟩) n1 cap) j2 tB/\jQ (bM (w6.heap.size+1)) tB t [.int .i64 k,.slice sa sn sc]/\
  tB.heap[w6.heap.size]? =some (cX a k sa sn sc)/\Off (fun b=>b=w6.heap.size\/v.ownBlock=some b) w7 tB:=by
 have tC:=h6.acc.big;have xH:=hW.blt;have sE:=h6.acc.lt;have tI:(w6.alloc (cX a 0 none 0 0)).heap.size=w6.heap.size+1:=aAQ;have o7:Off p.S w6 w7:=(Ba (aA w6 (cX a 0 none 0 0))).trans sQ;have LG:w6.heap.size+1<=w7.heap.size:=by have:=sQ.size;omega
 have o8:Off (fun b=>b=w6.heap.size) w7 ((w7.setCell ⟨w6.heap.size,1,none⟩ (.int .i64 k)).setCell ⟨w6.heap.size,2,none⟩ (.slice sa sn sc)):=(Off.setCell (S:=fun b=>b=w6.heap.size) w7 rfl).trans (Off.setCell (S:=fun b=>b=w6.heap.size) _ rfl);have o9:Off (fun b=>b=w6.heap.size) w7 (((w7.setCell ⟨w6.heap.size,1,none⟩ (.int .i64 k)).setCell ⟨w6.heap.size,2,none⟩ (.slice sa sn sc)).alloc (cX a k sa sn sc)):=o8.trans (Ba (aA _ _));have O9:Off p.S w6 (((w7.setCell ⟨w6.heap.size,1,none⟩ (.int .i64 k)).setCell ⟨w6.heap.size,2,none⟩ (.slice sa sn sc)).alloc (cX a k sa sn sc)):=Off.fresh ((o7.or w6.heap.size).trans (o9.mono fun b hb=>.inr aAM)) (Nat.le_refl _);have BH:=hW.above uX (o9.mono (S':=fun b=>W.heap.size<=b) fun b hb=>aAM)
 have hx:gR (nA W.heap.size v) (((w7.setCell ⟨w6.heap.size,1,none⟩ (.int .i64 k)).setCell ⟨w6.heap.size,2,none⟩ (.slice sa sn sc)).alloc (cX a k sa sn sc)) (a,t) [.string a,.int .i64 k,.slice sa sn sc]:=by
  exact ZF
 have DQ:(((w7.setCell ⟨w6.heap.size,1,none⟩ (.int .i64 k)).setCell ⟨w6.heap.size,2,none⟩ (.slice sa sn sc)).alloc (cX a k sa sn sc)).heap.size=w7.heap.size+1:=aAQ;have hT:=h6.step bB hW O9 BH hx rfl sB hn sA aC4;have JJ:w7.heap[w6.heap.size]? =some (cX a 0 none 0 0):=sQ.heap (fun e=>by have e:w6.heap.size=p.pb:=e;omega) (bY w6 (cX a 0 none 0 0))
 have hf8:(((w7.setCell ⟨w6.heap.size,1,none⟩ (.int .i64 k)).setCell ⟨w6.heap.size,2,none⟩ (.slice sa sn sc)).alloc (cX a k sa sn sc)).heap[w6.heap.size]? =some (cX a k sa sn sc):=by
  refine aD (aA _ _) ?_;rw[aO (aO JJ _) _];rfl
 have BD:Off (fun b=>v.ownBlock=some b) (((w7.setCell ⟨w6.heap.size,1,none⟩ (.int .i64 k)).setCell ⟨w6.heap.size,2,none⟩ (.slice sa sn sc)).alloc (cX a k sa sn sc)) tB:=⟨sA.os,sA.tape,sA.output,sA.size,fun b hb hn=>sA.block b hb (fun e=>hn e.symm)⟩;refine⟨hT.1,?_,?_,(o9.mono fun b hb=>.inl hb).trans (BD.mono fun b hb=>.inr hb)⟩
 ·rw[tI] at wB;exact fO.off wB ((o9.mono (S':=fun b=>b<=w6.heap.size) fun b hb=>aAM).trans (BD.mono fun b hb=>by have:=(sE b hb).2;omega)) (fun b hb hn=>by have hn:w6.heap.size+1<=b:=hn;omega)
 exact BD.heap (fun e=>by have:=(sE _ e).2;omega) hf8
section
variable {l:List Tok} {F q most:Nat} {fs:List Fld}
theorem qO(hq:dM l q=false):eM l most (F+1) fs q=.error ((aJ l q).pos,11):=by
 rw[eM,if_neg aCk];unfold iY;rw[hq];rfl
theorem fieldsFrom_full(hq:dM l q=true)(hm:¬fs.length<most):eM l most (F+1) fs q=.error ((aJ l q).pos,6):=by
 rw[eM,if_pos hq];unfold iM;rw[if_neg hm];rfl
theorem lK(hq:dM l q=true)(hm:fs.length<most):eM l most (F+1) fs q=
  (iY l q (fun s=>fs.any fun x=>decide (x.1=s))).bnd fun s j=>(lX l j).bnd fun t j2=>(moreP l j2 t mD).bnd fun q j3=>if q then .ok (fs++[(s,t)],j3) else eM l most F (fs++[(s,t)]) j3:=by
 rw[eM,if_pos hq];unfold iM;rw[if_pos hm];rfl
theorem any_push(fs:List Fld)(a:bA)(t:Ty):(eO fun z=>decide (z=a)||fs.any fun x=>decide (x.1=z))=eO fun s=>(fs++[(a,t)]).any fun x=>decide (x.1=s):=by
 exact ZH
theorem freshP_noname{known:bA->Bool}(hq:dM l q=false):iY l q known=.error ((aJ l q).pos,11):=by unfold iY;rw[hq];rfl
end
theorem off_S2{p:Prs}{W w5 w9:World}{km:Nat}(h:Off p.S W w5)(ho:Off (p.S2 km) w5 w9)(hk:W.heap.size<=km):Off p.S W w9:=
 Off.fresh ((h.or _).trans (ho.mono fun b hb=>hb.elim (fun e=>.inl e) (fun e=>.inr aAM))) (Nat.le_refl _)
end Go.Proofs.YtacgopankhpnbaaGreatDoor
namespace Go.Proofs.YtacgopankhpnbaaGreatDoor
open Go.RowKit
def qP(N:Nat->Prop)(w:World)(f:Fnc)(cs:List Value):Prop:=∃vp k vf op n s m vn va,cs=[.string f.name,.bool f.pub,vp,.int .i64 k,vf,.int .i64 f.effects,.int .i64 op,.int .i64 n,.string s,.string m,vn,va]/\f.name.size<=8000/\
 aL 3 gR N w vp f.params/\jQ N w f.result [.int .i64 k,vf]/\cJ N w f.body [.int .i64 op,.int .i64 n,.string s,.string m,vn,va]
theorem cQ:eW qP:=fun _ _ _ _ f cs hm h=>by
 obtain⟨vp,k,vf,op,n,s,m,vn,va,h1,h2,h3,h4,h5⟩:=h;exact⟨vp,k,vf,op,n,s,m,vn,va,h1,h2,h3.moves bB hm aAO,fO _ _ _ _ _ _ hm h4,aG _ _ _ _ _ _ hm h5⟩
def eB(S:Nat->Prop)(E:World->Prop):Prop:=∀w w',Off S w w'->E w->E w'
theorem eB.and{S:Nat->Prop}{E F:World->Prop}(h:eB S E)(k:eB S F):eB S fun w=>E w/\F w:=fun _ _ ho hE=>⟨h _ _ ho hE.1,k _ _ ho hE.2⟩
theorem eB.true{S:Nat->Prop}:eB S fun _=>True:=fun _ _ _ _=>trivial
theorem eB.row{α:Type}{k:Nat}{enc:(Nat->Prop)->World->α->List Value->Prop}(he:eW enc)(hk:0<k){S N:Nat->Prop}(hS:∀b,S b->¬N b){v:Value}{l:List α}:eB S fun w=>aL k enc N w v l:=
 fun _ _ ho h=>h.moves he (fun b hb _=>⟨hb,fun _ _ hv=>ho.cell (fun hs=>hS b hs hb) hv⟩) hk
theorem eB.enc{α:Type}{enc:(Nat->Prop)->World->α->List Value->Prop}(he:eW enc){S N:Nat->Prop}(hS:∀b,S b->¬N b){x:α}{cs:List Value}:eB S fun w=>enc N w x cs:=fun _ _ ho h=>he.off h ho hS
structure Mk (T:TypeId) (zero:Array Value) (p:Prs) (O S:Nat->Prop) (W:World) (b5:Nat) (cells:Array Value) (E:World->Prop) (q:Nat) (wr:World):Prop where
 off:Off O W wr
 res:wr.heap[W.heap.size]? =some (.cells zero T)
 loc:wr.heap[b5]? =some (.cells cells T)
 at_:p.At wr q
 enc:E wr
 st:eB (fun b=>S b\/b=b5) E
 hb5:W.heap.size<b5
 sO:∀b,S b->O b\/W.heap.size<b
 s5:¬S b5
 sR:¬S W.heap.size
 sP:S p.pb
section
variable {T:TypeId} {zero cells cells':Array Value} {p:Prs} {O S S':Nat->Prop} {W wr w':World} {b5 q j i0:Nat} {E F:World->Prop}
theorem Mk.next(h:Mk T zero p O S W b5 cells E q wr)(ho:Off S wr w')(ha:p.At w' j):Mk T zero p O S W b5 cells E j w':=
 ⟨Off.fresh ((h.off.or _).trans (ho.mono fun b hb=>(h.sO b hb).elim .inl fun e=>.inr (Nat.le_of_lt e))) (Nat.le_refl _),ho.heap h.sR h.res,ho.heap h.s5 h.loc,ha,h.st _ _ (ho.mono fun b hb=>.inl hb) h.enc,h.st,h.hb5,h.sO,h.s5,h.sR,h.sP⟩
theorem Mk.nextP(h:Mk T zero p O S W b5 cells E q wr)(ho:Off p.S wr w')(ha:p.At w' j):Mk T zero p O S W b5 cells E j w':=h.next (ho.mono fun b hb=>by have hb:b=p.pb:=hb;rw[hb];exact h.sP) ha
theorem Mk.below(h:Mk T zero p O S W b5 cells E q wr)(hb:Below wr.heap.size wr w'):Mk T zero p O S W b5 cells E q w':=h.next (Ba hb) (h.at_.later hb)
theorem Mk.put(h:Mk T zero p O S W b5 cells E q wr)(hW:p.At W i0)(ho:Off (fun b=>b=b5) wr w')(hl:w'.heap[b5]? =some (.cells cells' T)):Mk T zero p O S W b5 cells' E q w':=by
 have h1:=h.hb5;exact⟨Off.fresh ((h.off.or _).trans (ho.mono fun b hb=>.inr (by have hb:b=b5:=hb;omega))) (Nat.le_refl _),ho.heap aAM h.res,hl,hW.above h.at_ (ho.mono fun b hb=>by have hb:b=b5:=hb;omega),h.st _ _ (ho.mono fun b hb=>.inr hb) h.enc,h.st,h1,h.sO,h.s5,h.sR,h.sP⟩
theorem Mk.add(h:Mk T zero p O S W b5 cells E q wr)(hF:F wr)(hs:eB (fun b=>S b\/b=b5) F):Mk T zero p O S W b5 cells (fun w=>E w/\F w) q wr:=
 ⟨h.off,h.res,h.loc,h.at_,⟨h.enc,hF⟩,h.st.and hs,h.hb5,h.sO,h.s5,h.sR,h.sP⟩
theorem Mk.shrink(h:Mk T zero p O S W b5 cells E q wr)(hS:∀b,S' b->S b)(hp:S' p.pb):Mk T zero p O S' W b5 cells E q wr:=
 ⟨h.off,h.res,h.loc,h.at_,h.enc,fun w w' ho hE=>h.st w w' (ho.mono fun b hb=>hb.elim (fun e=>.inl (hS b e)) .inr) hE,h.hb5,fun b hb=>h.sO b (hS b hb),fun e=>h.s5 (hS _ e),fun e=>h.sR (hS _ e),hp⟩
theorem Mk.lt(h:Mk T zero p O S W b5 cells E q wr):b5<wr.heap.size:=(Array.getElem?_eq_some_iff.1 h.loc).1
end
theorem mJ{w:World}{b:Nat}{x0 x1 x2 x3 x4 x5 x6 x7 x8 x9 x10 x11:Value}{t:TypeId}(h:w.heap[b]? =some (.cells #[x0,x1,x2,x3,x4,x5,x6,x7,x8,x9,x10,x11] t)):
  (w.cell? ⟨b,0,none⟩=some x0/\w.cell? ⟨b,1,none⟩=some x1/\w.cell? ⟨b,2,none⟩=some x2/\w.cell? ⟨b,3,none⟩=some x3/\w.cell? ⟨b,4,none⟩=some x4/\w.cell? ⟨b,5,none⟩=some x5/\w.cell? ⟨b,6,none⟩=some x6/\w.cell? ⟨b,7,none⟩=some x7/\w.cell? ⟨b,8,none⟩=some x8/\w.cell? ⟨b,9,none⟩=some x9/\w.cell? ⟨b,10,none⟩=some x10/\w.cell? ⟨b,11,none⟩=some x11)/\
  (w.frozen? ⟨b,0,none⟩=false/\w.frozen? ⟨b,1,none⟩=false/\w.frozen? ⟨b,2,none⟩=false/\w.frozen? ⟨b,3,none⟩=false/\w.frozen? ⟨b,4,none⟩=false/\w.frozen? ⟨b,5,none⟩=false/\w.frozen? ⟨b,6,none⟩=false/\w.frozen? ⟨b,7,none⟩=false/\w.frozen? ⟨b,8,none⟩=false/\w.frozen? ⟨b,9,none⟩=false/\w.frozen? ⟨b,10,none⟩=false/\w.frozen? ⟨b,11,none⟩=false):=
 ⟨⟨(bx h 0 rfl).1,(bx h 1 rfl).1,(bx h 2 rfl).1,(bx h 3 rfl).1,(bx h 4 rfl).1,(bx h 5 rfl).1,(bx h 6 rfl).1,(bx h 7 rfl).1,(bx h 8 rfl).1,(bx h 9 rfl).1,(bx h 10 rfl).1,(bx h 11 rfl).1⟩,(bx h 0 (u:=x0) rfl).2,(bx h 1 (u:=x1) rfl).2,(bx h 2 (u:=x2) rfl).2,(bx h 3 (u:=x3) rfl).2,(bx h 4 (u:=x4) rfl).2,(bx h 5 (u:=x5) rfl).2,(bx h 6 (u:=x6) rfl).2,(bx h 7 (u:=x7) rfl).2,(bx h 8 (u:=x8) rfl).2,(bx h 9 (u:=x9) rfl).2,(bx h 10 (u:=x10) rfl).2,(bx h 11 (u:=x11) rfl).2⟩
abbrev lN:Array Value:=#[.string ⟨#[]⟩,.bool false,.slice none 0 0,.int .i64 0,.slice none 0 0,.int .i64 0,.int .i64 0,.int .i64 0,.string ⟨#[]⟩,.string ⟨#[]⟩,.slice none 0 0,.slice none 0 0]
theorem stbl_S{p:Prs}{b5:Nat}{N:Nat->Prop}(h:∀b,N b->b≠p.pb/\b≠b5):∀b,(p.S b\/b=b5)->¬N b:=fun b hb hn=>hb.elim (fun e=>(h b hn).1 e) (fun e=>(h b hn).2 e)
def set12(w:World)(b:Nat)(x0 x1 x2 x3 x4 x5 x6 x7 x8 x9 x10 x11:Value):World:=
 (((((((((((w.setCell ⟨b,0,none⟩ x0).setCell ⟨b,1,none⟩ x1).setCell ⟨b,2,none⟩ x2).setCell ⟨b,3,none⟩ x3).setCell ⟨b,4,none⟩ x4).setCell ⟨b,5,none⟩ x5).setCell ⟨b,6,none⟩ x6).setCell ⟨b,7,none⟩ x7).setCell ⟨b,8,none⟩ x8).setCell ⟨b,9,none⟩ x9).setCell ⟨b,10,none⟩ x10).setCell ⟨b,11,none⟩ x11
theorem Off.one{w w':World}{b o:Nat}{v:Value}(h:Off (fun k=>k=b) w w'):Off (fun k=>k=b) w (w'.setCell ⟨b,o,none⟩ v):=h.trans (Off.setCell (S:=fun k=>k=b) _ rfl)
theorem set12_off(w:World)(b:Nat)(x0 x1 x2 x3 x4 x5 x6 x7 x8 x9 x10 x11:Value):Off (fun k=>k=b) w (set12 w b x0 x1 x2 x3 x4 x5 x6 x7 x8 x9 x10 x11):=by
 unfold set12;exact(Off.refl _ _).one.one.one.one.one.one.one.one.one.one.one.one
theorem eB.cells{S:Nat->Prop}{g n:Nat}{f:Nat->Value}(hS:¬S g):eB S fun W=>∀j,j<n->W.cell? ⟨g,0+j,none⟩=some (f j):=fun _ _ ho hw j hj=>ho.cell hS (hw j hj)
theorem eB.map{S:Nat->Prop}{km n:Nat}{m:bA->Option Bool}(hS:¬S km):eB S fun w=>aX eQ dS w km n m:=fun _ _ ho h=>h.of_block (ho.block km h.lt hS)
theorem Mk.done{T:TypeId}{zero cells:Array Value}{p:Prs}{O S:Nat->Prop}{W wr w':World}{b5 q i0:Nat}{E:World->Prop}(h:Mk T zero p O S W b5 cells E q wr)(hW:p.At W i0)(ho:Off (fun b=>b=W.heap.size) wr w')(hE:eB (fun b=>b=W.heap.size) E):E w'/\p.At w' q/\Off O W w':=
 ⟨hE _ _ ho h.enc,hW.above h.at_ (ho.mono fun b hb=>by have hb:b=W.heap.size:=hb;omega),Off.fresh ((h.off.or _).trans (ho.mono fun b hb=>.inr (Nat.le_of_eq (Eq.symm hb)))) (Nat.le_refl _)⟩
end Go.Proofs.YtacgopankhpnbaaGreatDoor
namespace Go.Proofs.YtacgopankhpnbaaGreatDoor
open Go.RowKit
theorem fields_any(p:Prs)(most:Nat)(hmost:most<=8)(w:World)(i:Nat)(h:p.At w i):Calls Tryz.prog 142 #[.pointer (some ⟨p.pb,0,none⟩),.int .i64 (most:Int)] w
  (Ran p.S w (lJ p.l most i) (RowV p 3 gR w i)):=by
 obtain⟨i0,vA,tM,sY,sX⟩:=info_parts fldInfo;have HW:=zh h;have yV:=@run_makeMap Tryz.prog;have hlen:=h.len;have hg11:=h.glob.big;have UB:=zh (dH p w i cO h);have HR:Hid (lJ p.l most i=(dP p.l i cO).bnd fun _ j=>if isP p.l j mD then .ok ([],j+1) else eM p.l most (p.l.length+1) [] j):=zh rfl;clear h;go_enter Tryz.func142,Tryz.ntmps142;go_wp2_with(first|(go_at_call 141;refine(oO p w1 j mD sT).mono ?_;rintro e w2 ⟨rfl,tD,sG⟩)|(go_at_call 131;refine UB.out.mono ?_;rintro e w1 (⟨x,hx,rfl,sJ⟩|⟨⟨⟩,j,hx,⟨rfl,sT⟩,sJ⟩)))
 ·exact aAJ
 ·exact Z0
 rename_i hq;have hj:=(cV hx).1;rw[if_neg aCk] at tD;have F8:=zh (HR.out.trans ((PR.bnd_ok hx).trans (if_neg aCk)));have sY:=sJ.size;have MG:=sG.size;have IZ:Hid (GrL 3 184 gR p w [] [] (.slice none 0 0) j (w2.alloc (.map #[] 0))):=zh ⟨(sJ.trans sG).trans (Ba (aA _ _)),Gro.first_at _ _ _ aA0,tD.later (aA _ _)⟩;have HM0:Hid (aX eQ dS (w2.alloc (.map #[] 0)) w2.heap.size 0 (eO fun s=>([]:List Fld).any fun x=>decide (x.1=s))):=zh ((aX.made w2).ext fun _=>rfl);have VD:11<=w2.heap.size:=aAM;have hkw:w.heap.size<=w2.heap.size:=aAM;have HJ0:=zh hj;clear yV sJ sG sT tD hx hq UB HR sY MG hj;generalize w2.heap.size=km at *;go_loopw [5] (fun v wr=>∃(a:Option Addr)(c q F:Nat)(fs:List Fld)(css:List (List Value)),v=.slice a fs.length c/\Hid (GrL 3 184 gR p w fs css v q wr)/\Hid (aX eQ dS wr km fs.length (eO fun s=>fs.any fun x=>decide (x.1=s)))/\Hid (lJ p.l most i=eM p.l most (F+1) fs q)/\Hid (p.l.length<=F+q/\i<=q/\fs.length<=most)) (fun _ wr=>p.l.length-posOf wr p.pb)
 case atStart=>exact⟨none,0,j,p.l.length,[],[],rfl,IZ,HM0,F8,zh ⟨aAM,by have:=HJ0.out;omega,Nat.zero_le _⟩⟩
 case round=>
  obtain⟨a,c,q,F,fs,css,rfl,HL,HM,sK,HB⟩:=hrel;rename World=>wr
  have AQ:=HB.out.1;have DW:=HB.out.2.1;have S5:fs.length<=8:=by have:=HB.out.2.2;omega
  have KC:=HL.out.at_.lt
  cases xU:dM p.l q with
  |false=>
   as_aux_lemma=>
    go_wp2_with(first|(go_at_call 135;refine(oV p w5 q km fs.length _ wO.out.at_ HM5.out VD aAM).mono ?_;rintro e w6 (⟨x,hx,rfl,sU⟩|⟨s,j6,hx,⟨rfl,wD,TA,QR⟩,sU⟩))|(go_at_call 185;refine(iX p wr q HL.out.at_).mono ?_;rintro e w5 ⟨rfl,hb5⟩;rw[xU];have wO:=zh (HL.out.next bB HW.out (Ba hb5) (HL.out.at_.later hb5));have HM5:=zh (HM.out.later hb5)))
    ·exact⟨rfl,Ran.bad' (by have e:=(freshP_noname xU).symm.trans hx;cases e;exact sK.out.trans (qO xU)) (off_S2 wO.out.off sU hkw)⟩
    rw[freshP_noname xU] at hx;cases hx
  |true=>
   as_aux_lemma=>
    go_wp2_with(first|(at_builtin;have O9:Off p.S w6 (((w7.setCell ⟨w6.heap.size,1,none⟩ (.int .i64 k)).setCell ⟨w6.heap.size,2,none⟩ (.slice sa sn sc)).alloc (cX s k sa sn sc)):=Off.fresh (((Ba (S:=p.S) (aA w6 (cX s 0 none 0 0))).trans sQ).or w6.heap.size |>.trans (((Off.setCell (S:=fun b=>p.S b\/w6.heap.size<=b) w7 (.inr (Nat.le_refl _))).trans (Off.setCell (S:=fun b=>p.S b\/w6.heap.size<=b) _ (.inr (Nat.le_refl _)))).trans (Ba (aA _ _)))) (Nat.le_refl _);have A9:=CX.out.acc.stays bB (dN.of_off O9 fun b hb=>.inl aBs);have uL:=A9.big;have tE:=A9.own;refine wpList_append_lies _ rfl _ _ 126 rfl w.heap.size 184 i0 (oBx32 ByteArray.empty 0 none 0 0) 3 48 Tryz.underlying126 vA tM sY sX rfl aAM (.slice a fs.length c) fs.length css.flatten aBm (by simpa using tE) ⟨w7.heap.size,0,none⟩ 1 1 [.string s,.int .i64 k,.slice sa sn sc] aBm rfl (World.news_of_block (cs:=#[.string s,.int .i64 k,.slice sa sn sc]) (t:=184) (fr:=(0,0)) (by simpa using bY ((w7.setCell ⟨w6.heap.size,1,none⟩ (.int .i64 k)).setCell ⟨w6.heap.size,2,none⟩ (.slice sa sn sc)) (cX s k sa sn sc))) aA1 aAM aAY aAM (by simpa using uL) (w7.heap.size+1) aAQ ?_)|(go_at_call 136;refine(typed_any p (w6.alloc (cX s 0 none 0 0)) j6 (wD.later (aA _ _))).mono ?_;rintro e w7 (⟨x2,tV,rfl,sQ⟩|⟨t,j2,tV,⟨k,sa,sn,sc,rfl,wB,uX,Q3⟩,sQ⟩)<;>have JJ:=zh (sQ.heap (fun e=>aB8) (bY w6 (cX s 0 none 0 0)))<;>obtain⟨d0,d1,d2,e0,e1,e2⟩:=bxT3 JJ.out)|(go_at_call 135;refine(oV p w5 q km fs.length _ wO.out.at_ HM5.out VD aAM).mono ?_;rintro e w6 (⟨x,hx,rfl,sU⟩|⟨s,j6,hx,⟨rfl,wD,TA,QR⟩,sU⟩)<;>first|(have CX:=zh (wO.out.fresh bB HW.out (dG.of HM5.out) hkw sU wD))|skip)|(go_at_call 144;refine(fW p w5 q _ _ wO.out.at_).mono ?_;rintro e w5' (⟨H7,rfl,rfl⟩|⟨H7,rfl,RF⟩))|(go_at_call 185;refine(iX p wr q HL.out.at_).mono ?_;rintro e w5 ⟨rfl,hb5⟩;rw[xU];have wO:=zh (HL.out.next bB HW.out (Ba hb5) (HL.out.at_.later hb5));have HM5:=zh (HM.out.later hb5)))
    ·(have Q4:fs.length<most:=by simp at H7;omega);exact⟨rfl,Ran.bad' (sK.out.trans ((lK xU Q4).trans (PR.bnd_bad hx))) (off_S2 wO.out.off sU hkw)⟩
    ·(have Q4:fs.length<most:=by simp at H7;omega);exact⟨rfl,Ran.bad' (sK.out.trans ((lK xU Q4).trans ((PR.bnd_ok hx).trans (PR.bnd_bad tV)))) (CX.out.off.trans ((Ba (aA _ _)).trans sQ))⟩
    ·(have Q4:fs.length<most:=by simp at H7;omega);intro g' cap' tB sB sA sM _;obtain⟨D3,TP,hf10,BD⟩:=CX.out.field HW.out sQ uX wB QR sB rfl sA sM;obtain⟨q0,q1,q2,r0,r1,r2⟩:=bxT3 hf10;have vN:=zh D3;have hm7:=map_off (wD.later (aA _ _)) (TA.later (aA w6 (cX s 0 none 0 0))) sQ
     have HM10:=zh ((hm7.of_block (BD.block km hm7.lt (by
      rintro(e|e)
      ·have:=TA.lt;omega
      exact CX.out.acc.nemap (dG.of TA) e))).ext fun z=>congrFun (any_push fs s t) z)
     have hj6:=rQ hx;have xN:=zh (sK.out.trans ((lK xU Q4).trans ((PR.bnd_ok hx).trans (PR.bnd_ok tV))));have HMr:=zh (more_any p tB j2 _ t k _ mD D3.at_ TP (by have:=nE tV;omega));have HJ:Hid (i<=j2):=zh aAM;clear sB sA sM D3 TP hf10 BD hm7 wB uX sQ JJ O9 A9 uL tE d0 d1 d2 e0 e1 e2 hx tV wO HM5 CX TA wD sU;go_wp2_with(go_at_call 187;refine HMr.out.mono ?_;rintro e tG (⟨x3,vR,rfl,sZ⟩|⟨bb,j3,vR,⟨rfl,uG⟩,sZ⟩))
     ·exact⟨rfl,Ran.bad' (xN.out.trans (PR.bnd_bad vR)) (vN.out.off.trans sZ)⟩
     ·rename_i wR;subst wR;have hR:=xN.out.trans ((PR.bnd_ok vR).trans (if_pos rfl));have TK:=rM vR;have zF:=zh (vN.out.next bB HW.out sZ uG);go_ret;exact Ran.good hR ⟨_,_,_,rfl,by simpa using zF.out.acc.row bB,uG,by have:=HJ.out;omega⟩ zF.out.off
     rename_i wR;subst wR;have hR:=xN.out.trans ((PR.bnd_ok vR).trans (if_neg aAQ));have TK:=rM vR;have zF:=zh (vN.out.next bB HW.out sZ uG);have EH:=zh (map_off vN.out.at_ HM10.out sZ);have TD:=uG.lt;have DC:=HJ.out;obtain⟨F',wT⟩:∃F',F=F'+1:=⟨F-1,aAM⟩;have HR':=zh hR;have HLm:=zh Q4;clear hR Q4 uG sZ vR;go_roundw
     case rel=>
      subst wT;exact⟨some ⟨g',0,none⟩,cap',j3,F',fs++[(s,t)],_,aAQ,zF,by simpa using EH,HR',zh ⟨aAM,aAM,by have:=HLm.out;simp;omega⟩⟩
     case measure=>
      rw[zF.out.at_.pos,HL.out.at_.pos];omega
    (have Q4:¬fs.length<most:=by simp at H7;omega);exact⟨rfl,Ran.bad (sK.out.trans (fieldsFrom_full xU Q4)) (wO.out.off.trans (Ba RF))⟩
theorem X3{p:Prop}(h:p:=by
 refine hK.out _ _ trivial (fun hS=>?_);clear hK K;refine zt 4 (.int .i64 ((en:Int)+2 ^ kk)) rfl (fun W hW=>by go_simp;exact bits_or sE NJ) ?_;refine zq 5 (.pointer (some ⟨b5,5,none⟩)) rfl ?_;try simp only[zn]
 refine zr 6 rfl (fun K hK=>?_);try simp only[z1,z2,z3]
 obtain⟨⟨c0,c1,c2,c3,c4,c5,c6,c7,c8,c9,CJ,CI⟩,f0,f1,f2,f3,f4,f5,f6,f7,f8,f9,D5,D4⟩:=mJ wV.out.loc;go_simp;clear c0 c1 c2 c3 c4 c5 c6 c7 c8 c9 CJ CI f0 f1 f2 f3 f4 f5 f6 f7 f8 f9 D5 D4;refine hK.out _ _ trivial (fun hS=>?_);clear hK K;try simp only[zn]
 refine wpAnyH_done aAN ?_ _;clear hS;have xW:Hid (Mk 179 lN p (p.S2 km) p.S w b5 #[.string nm,.bool pub,.slice pa pn pc,.int .i64 k,.slice sa sn sc,.int .i64 ((en+2 ^ kk:Nat):Int),.int .i64 0,.int .i64 0,.string ⟨#[]⟩,.string ⟨#[]⟩,.slice none 0 0,.slice none 0 0] (fun W=>(((True/\(fun W=>aX eQ dS W km (n+1) (eO fun z=>decide (z=nm)||known z)) W)/\(fun W=>aL 3 gR (fun b=>w.heap.size<b/\b≠b5/\b≠km) W (.slice pa pn pc) ps) W)/\(fun W=>jQ (fun b=>w.heap.size<b/\b≠b5/\b≠km) W t [.int .i64 k,.slice sa sn sc]) W)/\(fun W=>∀j,j<bV.length->W.cell? ⟨g,0+j,none⟩=some (.string (bV.getD j ByteArray.empty))) W) (q+1) (CC.setCell ⟨b5,5,none⟩ (.int .i64 ((en:Int)+2 ^ kk)))):=zh (wV.out.put HW.out (Off.setCell (S:=fun b=>b=b5) CC rfl) (by rw[aO wV.out.loc,pow_cast];rfl));have zD:Hid (eS p.l gW 0 LF=eS p.l (gW.drop (kk+1)) ((en+2 ^ kk:Nat):Int) (q+1)):=zh (by rw[sK.out,zU.out,hq,OZ.out,if_pos rfl];rfl);have HJ2:Hid (LF<=q+1):=zh (by have:=HJ.out;omega);have AW:Hid (en+2 ^ kk<2 ^ (kk+1)):=zh (by rw[Nat.pow_succ];omega);generalize CC.setCell ⟨b5,5,none⟩ (.int .i64 ((en:Int)+2 ^ kk))=GZ at *;go_wp2_with fail;go_roundw;case rel=>exact⟨kk+1,q+1,en+2 ^ kk,aAM,aAV,AW,xW,zD,HJ2⟩
 case measure=>simp[intOf];omega):p:=h
theorem ZK{p:Prop}(h:p:=by
 exact Ran.good (OF.out.trans (PR.bnd_ok G1)) ⟨pa,pn,pc,k,sa,sn,sc,op,n1,s1,m1,a1,m2,qa,a2,m3,qb,rfl,cQ.wide ⟨_,_,_,_,_,_,_,_,_,rfl,tI,tF,E0,yH⟩ (fun b hb _=>Nat.le_of_lt hb.1),sM,by have:=HIq.out;omega,BQ⟩ G6):p:=h
def FnV(p:Prs)(w:World)(km n:Nat)(known:bA->Bool)(i:Nat)(f:Fnc)(j:Nat)(e:Ending)(w':World):Prop:=
 ∃pa pn pc k sa sn sc op n1 s1 m1 a1 m2 c1 a2 m3 c2,e=.returned (oBx11 f.name f.pub pa pn pc k sa sn sc f.effects op n1 s1 m1 a1 m2 c1 a2 m3 c2)/\
  qP (bM w.heap.size) w' f [.string f.name,.bool f.pub,.slice pa pn pc,.int .i64 k,.slice sa sn sc,.int .i64 f.effects,.int .i64 op,.int .i64 n1,.string s1,.string m1,.slice a1 m2 c1,.slice a2 m3 c2]/\p.At w' j/\i<j/\aX eQ dS w' km (n+1) (eO fun z=>decide (z=f.name)||known z)
theorem effectL_at{l:List Tok}{k:Nat}(hk:k<4){n:Int}{q:Nat}:eS l (gW.drop k) n q=if isP l q (bV.getD k ByteArray.empty) then eS l (gW.drop (k+1)) (n+dJ (bV.getD k ByteArray.empty)) (q+1) else eS l (gW.drop (k+1)) n q:=by
 match k,hk with
 |0,_=>rfl
 |1,_=>rfl
 |2,_=>rfl
 |3,_=>rfl
section
variable {l:List Tok} {i j q:Nat} {fits:Bool} {en:Int}
theorem bang_no(h:isP l i rO=false):bangP l i fits=.ok ((0,fits),i):=by unfold bangP;rw[if_neg (by rw[h];simp)]
theorem bang_bad(h:isP l i rO=true){x:Int×Int}(he:nW l i fits rO=.error x):bangP l i fits=.error x:=by unfold bangP;rw[if_pos h,he];rfl
theorem bang_yes(h:isP l i rO=true)(he:nW l i fits rO=.ok ((),j))(hf:eS l gW 0 j=(en,q))(hn:¬en=0):bangP l i fits=.ok ((en,true),q):=by unfold bangP;rw[if_pos h,he];simp only[PR.bnd,hf];rw[if_pos hn]
theorem bang_zero(h:isP l i rO=true)(he:nW l i fits rO=.ok ((),j))(hf:eS l gW 0 j=(en,q))(hn:en=0):bangP l i fits=.error ((aJ l q).pos,11):=by unfold bangP;rw[if_pos h,he];simp only[PR.bnd,hf];rw[if_neg (by simp[hn])];rfl
end
theorem bit_pow{k:Nat}(hk:k<4):dJ (bV.getD k ByteArray.empty)=((2 ^ k:Nat):Int):=by
 match k,hk with
 |0,_=>rfl
 |1,_=>rfl
 |2,_=>rfl
 |3,_=>rfl
theorem pow_cast(en k:Nat):((en+2 ^ k:Nat):Int)=(en:Int)+2 ^ k:=aAQ
theorem bits_or{k en:Nat}(hk:k<4)(he:en<2 ^ k):bits BinOp.or IntKind.i64 (en:Int) (2 ^ k)=(en:Int)+2 ^ k:=by
 match k,hk with
 |0,_=>match en,he with|0,_=>decide
 |1,_=>match en,he with|0,_=>decide|1,_=>decide
 |2,_=>match en,he with|0,_=>decide|1,_=>decide|2,_=>decide|3,_=>decide
 |3,_=>match en,he with|0,_=>decide|1,_=>decide|2,_=>decide|3,_=>decide|4,_=>decide|5,_=>decide|6,_=>decide|7,_=>decide
theorem function_any(p:Prs)(hX:ExpAll p)(w:World)(i km n:Nat)(known:bA->Bool)(h:p.At w i)(hm:aX eQ dS w km n (eO known))(hk:11<=km)(hn:n<1000000):
  Calls Tryz.prog 140 #[.pointer (some ⟨p.pb,0,none⟩),.map (some km)] w (Ran (p.S2 km) w (oU p.l i known) (FnV p w km n known i)):=by
 have HW:=zh h;have HX:=zh hX;have HM0:=zh hm;have hlen:=h.len;have hkm:km<w.heap.size:=hm.lt;have xH:=h.blt;have xY:=(h.nemap (dG.of hm)).1;have DD:i<=(if isP p.l i kPub=true then i+1 else i):=by split<;>omega
 have HR:Hid (oU p.l i known=(dP p.l (if isP p.l i kPub=true then i+1 else i) kFn).bnd fun _ j=>(iY p.l j known).bnd fun name j2=>(lJ p.l 6 j2).bnd fun ps j3=>(lX p.l j3).bnd fun t j4=>(bangP p.l j4 (decide (cI t<=4))).bnd fun ef j5=>
  (nW p.l j5 ef.2 kEq).bnd fun _ j6=>(nU p.l j6 mE).bnd fun e j7=>.ok (⟨name,isP p.l i kPub,ps,t,ef.1,e⟩,j7)):=zh rfl
 clear h hX hm;go_enter Tryz.func140,Tryz.ntmps140;go_wp2_with(go_at_call 141;refine(oO p (w.alloc (.cells lN 179)) i kPub (HW.out.later (aA _ _))).mono ?_;rintro e w2 ⟨rfl,tD,sG⟩);have sX:=sG.size;have sY:(w.alloc (.cells lN 179)).heap.size=w.heap.size+1:=aAQ;generalize (if isP p.l i kPub=true then i+1 else i)=i1 at *;generalize isP p.l i kPub=pub at *;have DM:Hid (Mk 179 lN p (p.S2 km) (p.S2 km) w w2.heap.size #[.string ⟨#[]⟩,.bool pub,.slice none 0 0,.int .i64 0,.slice none 0 0,.int .i64 0,.int .i64 0,.int .i64 0,.string ⟨#[]⟩,.string ⟨#[]⟩,.slice none 0 0,.slice none 0 0] (fun _=>True) i1 (w2.alloc (lG ⟨#[]⟩ pub none 0 0 0 none 0 0 0 0 0 ⟨#[]⟩ ⟨#[]⟩ none 0 0 none 0 0))):=zh ⟨((Ba (aA w (.cells lN 179))).trans ((sG.mono fun _ hb=>.inl hb).trans (Ba (aA w2 _)))),aD (aA w2 _) (sG.heap (by show ¬w.heap.size=p.pb;omega) (bY w (.cells lN 179))),bY w2 _,tD.later (aA w2 _),trivial,eB.true,aAM,fun b hb=>.inl hb,fun e=>aA5,fun e=>aA5,.inl rfl⟩;have HM3:Hid (aX eQ dS (w2.alloc (lG ⟨#[]⟩ pub none 0 0 0 none 0 0 0 0 0 ⟨#[]⟩ ⟨#[]⟩ none 0 0 none 0 0)) km n (eO known)):=zh ((map_off (HW.out.later (aA _ _)) (HM0.out.later (aA w (.cells lN 179))) sG).later (aA w2 _));have hb5w:w.heap.size<w2.heap.size:=aAM;clear tD sG HM0;generalize w2.heap.size=b5 at *;generalize w2.alloc (lG ⟨#[]⟩ pub none 0 0 0 none 0 0 0 0 0 ⟨#[]⟩ ⟨#[]⟩ none 0 0 none 0 0)=w3 at *;have QX:¬km=b5:=aAM;have QW:¬b5=km:=aAM;clear sY sX;go_wp2_with(go_at_call 131;refine(dH p w3 i1 kFn DM.out.at_).mono ?_;rintro e w4 (⟨x4,vF,rfl,sI⟩|⟨⟨⟩,i4,vF,⟨rfl,uR⟩,sI⟩))
 ·exact⟨rfl,Ran.bad' (HR.out.trans (PR.bnd_bad vF)) (DM.out.off.trans (sI.mono fun _ h=>.inl h))⟩
 have yS:=zh (DM.out.nextP sI uR);have HM4:=zh (map_off DM.out.at_ HM3.out sI);have HR4:=zh (HR.out.trans (PR.bnd_ok vF));have hi4:=(cV vF).1;have HI4:Hid (i<i4):=zh aAM;clear vF sI uR DM HM3 HR hi4 DD;go_wp2_with(go_at_call 135;refine(oV p w4 i4 km n known yS.out.at_ HM4.out hk hn).mono ?_;rintro e w5 (⟨x5,uJ,rfl,sN⟩|⟨nm,i5,uJ,⟨rfl,vK,hm5,tI⟩,sN⟩)<;>first|(have wO:=zh (yS.out.next sN vK);obtain⟨⟨c0,c1,c2,c3,c4,c5,c6,c7,c8,c9,CJ,CI⟩,f0,f1,f2,f3,f4,f5,f6,f7,f8,f9,D5,D4⟩:=mJ wO.out.loc)|skip)
 ·exact⟨rfl,Ran.bad' (HR4.out.trans (PR.bnd_bad uJ)) (yS.out.off.trans sN)⟩
 have HR5:=zh (HR4.out.trans (PR.bnd_ok uJ));have hi5:=rQ uJ;have HI5:Hid (i<i5):=zh (by have:=HI4.out;omega);clear c0 c1 c2 c3 c4 c5 c6 c7 c8 c9 CJ CI f0 f1 f2 f3 f4 f5 f6 f7 f8 f9 D5 D4;have K5:Hid (Mk 179 lN p (p.S2 km) p.S w b5 #[.string nm,.bool pub,.slice none 0 0,.int .i64 0,.slice none 0 0,.int .i64 0,.int .i64 0,.int .i64 0,.string ⟨#[]⟩,.string ⟨#[]⟩,.slice none 0 0,.slice none 0 0] (fun W=>True/\(fun W=>aX eQ dS W km (n+1) (eO fun z=>decide (z=nm)||known z)) W) i5 (w5.setCell ⟨b5,0,none⟩ (.string nm))):=zh ((((wO.out.put HW.out (cells':=#[.string nm,.bool pub,.slice none 0 0,.int .i64 0,.slice none 0 0,.int .i64 0,.int .i64 0,.int .i64 0,.string ⟨#[]⟩,.string ⟨#[]⟩,.slice none 0 0,.slice none 0 0]) (Off.setCell (S:=fun b=>b=b5) w5 rfl) (by rw[aO wO.out.loc];rfl)).shrink (S':=p.S) (fun b hb=>.inl hb) rfl)).add (F:=(fun W=>aX eQ dS W km (n+1) (eO fun z=>decide (z=nm)||known z))) (hm5.setCell QX _) (eB.map (fun e=>Or.elim e xY QX)));clear uJ sN vK hm5 yS HM4 HR4 wO hi5 HI4;generalize w5.setCell ⟨b5,0,none⟩ (.string nm)=w5' at *;go_wp2_with(go_at_call 142;refine(fields_any p 6 aAO w5' i5 K5.out.at_).mono ?_;rintro e w6 (⟨x6,xO,rfl,sU⟩|⟨ps,i6,xO,⟨pa,pn,pc,rfl,hps,wD,VG⟩,sU⟩)<;>first|(have CX:=zh (K5.out.nextP sU wD);obtain⟨⟨c0,c1,c2,c3,c4,c5,c6,c7,c8,c9,CJ,CI⟩,f0,f1,f2,f3,f4,f5,f6,f7,f8,f9,D5,D4⟩:=mJ CX.out.loc)|skip)
 ·exact⟨rfl,Ran.bad' (HR5.out.trans (PR.bnd_bad xO)) (K5.out.off.trans (sU.mono fun _ h=>.inl h))⟩
 have HR6:=zh (HR5.out.trans (PR.bnd_ok xO));have HI6:Hid (i<i6):=zh (by have:=HI5.out;omega);clear c0 c1 c2 c3 c4 c5 c6 c7 c8 c9 CJ CI f0 f1 f2 f3 f4 f5 f6 f7 f8 f9 D5 D4;have hF6:aL 3 gR (fun b=>w.heap.size<b/\b≠b5/\b≠km) w6 (.slice pa pn pc) ps:=hps.moves bB (fun b hb _=>⟨by have hb:w5'.heap.size<=b:=hb;have:=K5.out.lt;exact⟨aAM,aAM,aAM⟩,fun _ _ h=>h⟩) aAO;have UE:Hid (Mk 179 lN p (p.S2 km) p.S w b5 #[.string nm,.bool pub,.slice pa pn pc,.int .i64 0,.slice none 0 0,.int .i64 0,.int .i64 0,.int .i64 0,.string ⟨#[]⟩,.string ⟨#[]⟩,.slice none 0 0,.slice none 0 0] (fun W=>(True/\(fun W=>aX eQ dS W km (n+1) (eO fun z=>decide (z=nm)||known z)) W)/\(fun W=>aL 3 gR (fun b=>w.heap.size<b/\b≠b5/\b≠km) W (.slice pa pn pc) ps) W) i6 (w6.setCell ⟨b5,2,none⟩ (.slice pa pn pc))):=zh ((CX.out.add (F:=(fun W=>aL 3 gR (fun b=>w.heap.size<b/\b≠b5/\b≠km) W (.slice pa pn pc) ps)) hF6 (eB.row bB aAO (stbl_S fun b hb=>⟨fun e=>by have:=hb.1;omega,hb.2.1⟩))).put HW.out (cells':=#[.string nm,.bool pub,.slice pa pn pc,.int .i64 0,.slice none 0 0,.int .i64 0,.int .i64 0,.int .i64 0,.string ⟨#[]⟩,.string ⟨#[]⟩,.slice none 0 0,.slice none 0 0]) (Off.setCell (S:=fun b=>b=b5) w6 rfl) (by rw[aO CX.out.loc];rfl));clear xO sU wD hps hF6 HR5 CX HI5 VG K5;generalize w6.setCell ⟨b5,2,none⟩ (.slice pa pn pc)=w6' at *;go_wp2_with(go_at_call 136;refine(typed_any p w6' i6 UE.out.at_).mono ?_;rintro e w7 (⟨x7,uI,rfl,sQ⟩|⟨t,i7,uI,⟨k,sa,sn,sc,rfl,wB,uX,Q3⟩,sQ⟩)<;>first|(have UK:=zh (UE.out.nextP sQ uX);obtain⟨⟨c0,c1,c2,c3,c4,c5,c6,c7,c8,c9,CJ,CI⟩,f0,f1,f2,f3,f4,f5,f6,f7,f8,f9,D5,D4⟩:=mJ UK.out.loc)|skip)
 ·exact⟨rfl,Ran.bad' (HR6.out.trans (PR.bnd_bad uI)) (UE.out.off.trans (sQ.mono fun _ h=>.inl h))⟩
 have WW:=zh (HR6.out.trans (PR.bnd_ok uI));have HI7:Hid (i<i7):=zh (by have:=HI6.out;omega);have HLv:Hid (cI t<=9000000000000000000):=zh (by have:=nE uI;omega);have hF7:jQ (fun b=>w.heap.size<b/\b≠b5/\b≠km) w7 t [.int .i64 k,.slice sa sn sc]:=fO.wide wB (fun b hb _=>by have hb:w6'.heap.size<=b:=hb;have:=UE.out.lt;exact⟨aAM,aAM,aAM⟩);clear c0 c1 c2 c3 c4 c5 c6 c7 c8 c9 CJ CI f0 f1 f2 f3 f4 f5 f6 f7 f8 f9 D5 D4;have OB:Hid (Mk 179 lN p (p.S2 km) p.S w b5 #[.string nm,.bool pub,.slice pa pn pc,.int .i64 k,.slice sa sn sc,.int .i64 0,.int .i64 0,.int .i64 0,.string ⟨#[]⟩,.string ⟨#[]⟩,.slice none 0 0,.slice none 0 0] (fun W=>((True/\(fun W=>aX eQ dS W km (n+1) (eO fun z=>decide (z=nm)||known z)) W)/\(fun W=>aL 3 gR (fun b=>w.heap.size<b/\b≠b5/\b≠km) W (.slice pa pn pc) ps) W)/\(fun W=>jQ (fun b=>w.heap.size<b/\b≠b5/\b≠km) W t [.int .i64 k,.slice sa sn sc]) W) i7 ((w7.setCell ⟨b5,3,none⟩ (.int .i64 k)).setCell ⟨b5,4,none⟩ (.slice sa sn sc))):=zh ((UK.out.add (F:=(fun W=>jQ (fun b=>w.heap.size<b/\b≠b5/\b≠km) W t [.int .i64 k,.slice sa sn sc])) hF7 (eB.enc fO (stbl_S fun b hb=>⟨fun e=>by have:=hb.1;omega,hb.2.1⟩))).put HW.out (cells':=#[.string nm,.bool pub,.slice pa pn pc,.int .i64 k,.slice sa sn sc,.int .i64 0,.int .i64 0,.int .i64 0,.string ⟨#[]⟩,.string ⟨#[]⟩,.slice none 0 0,.slice none 0 0]) ((Off.refl (fun b=>b=b5) w7).one.one) (by rw[aO (aO UK.out.loc _) _];rfl));obtain⟨⟨c0,c1,c2,c3,c4,c5,c6,c7,c8,c9,CJ,CI⟩,f0,f1,f2,f3,f4,f5,f6,f7,f8,f9,D5,D4⟩:=mJ UK.out.loc;clear uI sQ uX wB hF7 HR6 HI6 Q3 UE;go_wp2_with(go_at_call 138;refine(levels_any _ t _ k _ _ (Nat.le_refl _) HLv.out OB.out.enc.2).mono ?_;rintro e w8 ⟨rfl,vD⟩);clear c0 c1 c2 c3 c4 c5 c6 c7 c8 c9 CJ CI f0 f1 f2 f3 f4 f5 f6 f7 f8 f9 D5 D4;have GT:=zh (OB.out.below vD);have HD:Hid (decide ((cI t:Int)<=4)=decide (cI t<=4)):=zh aBh;skip
 cases hb:isP p.l i7 rO with
 |false=>
  skip;go_wp2_with(go_at_call 133;refine(gE p w8 i7 rO GT.out.at_).mono ?_;rintro e w9 ⟨rfl,xP⟩;rw[hb]);have DI:=zh (GT.out.below xP);have HIq:=HI7;have tZ:=zh (WW.out.trans (PR.bnd_ok (bang_no hb)));go_wp2_with(go_at_call 137;refine(end_any p w9 i7 _ kEq DI.out.at_).mono ?_;rintro e w20 (⟨x20,AE,rfl,DX⟩|⟨⟨⟩,i20,AE,⟨rfl,NX⟩,DX⟩))
  ·rw[HD.out] at AE;exact⟨rfl,Ran.bad' (tZ.out.trans (PR.bnd_bad AE)) (DI.out.off.trans (DX.mono fun _ h=>.inl h))⟩
  rw[HD.out] at AE;have EC:=zh (DI.out.nextP DX NX);have OF:=zh (tZ.out.trans (PR.bnd_ok AE));have hi20:=endP_ok AE;clear AE DX NX;go_wp2_with(go_at_call 139;refine(oQ p HX.out w20 i20 mE EC.out.at_).mono ?_;rintro e PY (⟨x21,G1,rfl,G7⟩|⟨x,i21,G1,⟨⟨op,n1,s1,m1,a1,m2,qa,a2,m3,qb,rfl,hex⟩,V2,hij21⟩,G7⟩)<;>first|(have zE:=zh (EC.out.nextP G7 V2);obtain⟨⟨c0,c1,c2,c3,c4,c5,c6,c7,c8,c9,CJ,CI⟩,f0,f1,f2,f3,f4,f5,f6,f7,f8,f9,D5,D4⟩:=mJ zE.out.loc;obtain⟨⟨r0,r1,r2,r3,r4,r5,r6,r7,r8,r9,r10,r11⟩,g0,g1,g2,g3,g4,g5,g6,g7,g8,g9,g10,g11⟩:=mJ zE.out.res)|skip)
  ·exact⟨rfl,Ran.bad' (OF.out.trans (PR.bnd_bad G1)) (EC.out.off.trans (G7.mono fun _ h=>.inl h))⟩
  have WA:(fun W=>cJ (fun b=>w.heap.size<b/\b≠b5/\b≠km) W x [.int .i64 op,.int .i64 n1,.string s1,.string m1,.slice a1 m2 qa,.slice a2 m3 qb]) PY:=aG.wide hex (fun b hb _=>aCu);have B6:Mk 179 lN p (p.S2 km) p.S w b5 #[.string nm,.bool pub,.slice pa pn pc,.int .i64 k,.slice sa sn sc,.int .i64 0,.int .i64 op,.int .i64 n1,.string s1,.string m1,.slice a1 m2 qa,.slice a2 m3 qb] (fun W=>(fun W=>((True/\(fun W=>aX eQ dS W km (n+1) (eO fun z=>decide (z=nm)||known z)) W)/\(fun W=>aL 3 gR (fun b=>w.heap.size<b/\b≠b5/\b≠km) W (.slice pa pn pc) ps) W)/\(fun W=>jQ (fun b=>w.heap.size<b/\b≠b5/\b≠km) W t [.int .i64 k,.slice sa sn sc]) W) W/\(fun W=>cJ (fun b=>w.heap.size<b/\b≠b5/\b≠km) W x [.int .i64 op,.int .i64 n1,.string s1,.string m1,.slice a1 m2 qa,.slice a2 m3 qb]) W) i21 ((((((PY.setCell ⟨b5,6,none⟩ (.int .i64 op)).setCell ⟨b5,7,none⟩ (.int .i64 n1)).setCell ⟨b5,8,none⟩ (.string s1)).setCell ⟨b5,9,none⟩ (.string m1)).setCell ⟨b5,10,none⟩ (.slice a1 m2 qa)).setCell ⟨b5,11,none⟩ (.slice a2 m3 qb)):=(zE.out.add (F:=(fun W=>cJ (fun b=>w.heap.size<b/\b≠b5/\b≠km) W x [.int .i64 op,.int .i64 n1,.string s1,.string m1,.slice a1 m2 qa,.slice a2 m3 qb])) WA (eB.enc aG (stbl_S fun b hb=>⟨fun e=>by have:=hb.1;omega,hb.2.1⟩))).put HW.out ((Off.refl (fun b=>b=b5) PY).one.one.one.one.one.one) (by rw[aO (aO (aO (aO (aO (aO zE.out.loc _) _) _) _) _) _];rfl);have FO:∀b,b=w.heap.size->¬(fun b=>w.heap.size<b/\b≠b5/\b≠km) b:=fun b hb hn=>by have:=hn.1;omega
  have hD:=B6.done HW.out (set12_off _ w.heap.size (.string nm) (.bool pub) (.slice pa pn pc) (.int .i64 k) (.slice sa sn sc) (.int .i64 0) (.int .i64 op) (.int .i64 n1) (.string s1) (.string m1) (.slice a1 m2 qa) (.slice a2 m3 qb)) ((((eB.true.and (eB.map aAM)).and (eB.row bB aAO FO)).and (eB.enc fO FO)).and (eB.enc aG FO));unfold set12 at hD;refine bodyPost_ret (v:=oBx11 nm pub pa pn pc k sa sn sc 0 op n1 s1 m1 a1 m2 qa a2 m3 qb) aCz rfl ?_;obtain⟨⟨⟨⟨⟨-,BQ⟩,tF⟩,E0⟩,yH⟩,sM,G6⟩:=hD;exact ZK
 |true=>
  go_wp2_with(go_at_call 133;refine(gE p w8 i7 rO GT.out.at_).mono ?_;rintro e w9 ⟨rfl,xP⟩;rw[hb]);have DI:=zh (GT.out.below xP);clear xP GT;go_wp2_with(go_at_call 137;refine(end_any p w9 i7 _ rO DI.out.at_).mono ?_;rintro e tB (⟨x10,yA,rfl,wI⟩|⟨⟨⟩,LF,yA,⟨rfl,zA⟩,wI⟩))
  ·rw[HD.out] at yA;exact⟨rfl,Ran.bad' (WW.out.trans (PR.bnd_bad (bang_bad hb yA))) (DI.out.off.trans (wI.mono fun _ h=>.inl h))⟩
  rw[HD.out] at yA;have RX:=zh yA;have R7:=zh (DI.out.nextP wI zA);have hi10:=endP_ok yA;have HI10:Hid (i<LF):=zh (by have:=HI7.out;omega);have HJ0:Hid (i7<LF):=zh aAM;clear zA wI yA DI hi10;go_wp2_with(go_at_call 190;refine(fieldsEff tB R7.out.at_.spc).mono ?_;rintro e xK ⟨rfl,rfl⟩);have hb510:=R7.out.lt;have HS11:Hid (Mk 179 lN p (p.S2 km) p.S w b5 #[.string nm,.bool pub,.slice pa pn pc,.int .i64 k,.slice sa sn sc,.int .i64 0,.int .i64 0,.int .i64 0,.string ⟨#[]⟩,.string ⟨#[]⟩,.slice none 0 0,.slice none 0 0] (fun W=>(((True/\(fun W=>aX eQ dS W km (n+1) (eO fun z=>decide (z=nm)||known z)) W)/\(fun W=>aL 3 gR (fun b=>w.heap.size<b/\b≠b5/\b≠km) W (.slice pa pn pc) ps) W)/\(fun W=>jQ (fun b=>w.heap.size<b/\b≠b5/\b≠km) W t [.int .i64 k,.slice sa sn sc]) W)/\(fun W=>∀j,j<bV.length->W.cell? ⟨tB.heap.size,0+j,none⟩=some (.string (bV.getD j ByteArray.empty))) W) LF (tB.alloc (.cells #[.string kFiles,.string kNet,.string kClock,.string kSecrets] 9))):=zh ((R7.out.below (aA tB (.cells (bV.map Value.string).toArray 9))).add (F:=(fun W=>∀j,j<bV.length->W.cell? ⟨tB.heap.size,0+j,none⟩=some (.string (bV.getD j ByteArray.empty)))) (effCells tB) (eB.cells (fun e=>Or.elim e (fun e=>by have e:tB.heap.size=p.pb:=e;omega) (fun e=>aAM))));generalize tB.alloc (.cells #[.string kFiles,.string kNet,.string kClock,.string kSecrets] 9)=xK at *;generalize tB.heap.size=g at *;clear R7;go_loopw [35] (fun c wr=>∃(kk q en:Nat),kk<=4/\c=.int .i64 (kk:Int)/\Hid (en<2 ^ kk)/\Hid (Mk 179 lN p (p.S2 km) p.S w b5 #[.string nm,.bool pub,.slice pa pn pc,.int .i64 k,.slice sa sn sc,.int .i64 (en:Int),.int .i64 0,.int .i64 0,.string ⟨#[]⟩,.string ⟨#[]⟩,.slice none 0 0,.slice none 0 0] (fun W=>(((True/\(fun W=>aX eQ dS W km (n+1) (eO fun z=>decide (z=nm)||known z)) W)/\(fun W=>aL 3 gR (fun b=>w.heap.size<b/\b≠b5/\b≠km) W (.slice pa pn pc) ps) W)/\(fun W=>jQ (fun b=>w.heap.size<b/\b≠b5/\b≠km) W t [.int .i64 k,.slice sa sn sc]) W)/\(fun W=>∀j,j<bV.length->W.cell? ⟨g,0+j,none⟩=some (.string (bV.getD j ByteArray.empty))) W) q wr)/\Hid (eS p.l gW 0 LF=eS p.l (gW.drop kk) (en:Int) q)/\Hid (LF<=q)) (fun c _=>4-(intOf c).toNat)
  case atStart=>exact⟨0,LF,0,aAM,rfl,zh aAO,by simpa using HS11,zh rfl,zh (Nat.le_refl _)⟩
  case round=>
   obtain⟨kk,q,en,hk4,rfl,UN,HS,sK,HJ⟩:=hrel;(rename World=>wr);have hen0:=UN.out;by_cases sE:kk<4
   ·have hc:=HS.out.enc.2 kk sE;rw[Nat.zero_add] at hc;have zU:=zh (effectL_at (l:=p.l) (n:=(en:Int)) (q:=q) sE);have OZ:=zh (bit_pow sE);generalize bV.getD kk ByteArray.empty=word at hc zU OZ
    cases hq:isP p.l q word with
    |true=>
     ·skip;have NJ:=UN.out;clear hen0;go_wp2_with(go_at_call 141;refine(fV p wr q word HS.out.at_ hq).mono ?_;rintro e vL ⟨rfl,NZ,M2⟩);have IR:=zh (HS.out.nextP M2 NZ);clear NZ M2 hc;refine wp_region_held_drew (S:=(fun _=>True)) aAN trivial fun hS=>?_;refine zq 0 (.pointer (some ⟨b5,5,none⟩)) rfl ?_;refine zq 2 (.string word) rfl ?_;(try simp only[zn]);refine wpAnyH_ready (rs:=[1,3]) aAN aAQ ?_;refine AllReadyH.cons rfl (fun K hK=>?_) (AllReadyH.cons rfl (fun K hK=>?_) AllReadyH.nil)
      ·rw[if_pos aAN];(try simp only[z1,z2,z3]);obtain⟨⟨c0,c1,c2,c3,c4,c5,c6,c7,c8,c9,CJ,CI⟩,f0,f1,f2,f3,f4,f5,f6,f7,f8,f9,D5,D4⟩:=mJ (IR.out.below (aE _)).loc;go_simp;clear c0 c1 c2 c3 c4 c5 c6 c7 c8 c9 CJ CI f0 f1 f2 f3 f4 f5 f6 f7 f8 f9 D5 D4;refine hK.out _ _ trivial (fun hS=>?_);clear hK K;(try simp only[zn]);refine zr 3 rfl (fun K hK=>?_);(try simp only[z1,z2,z3]);go_simp;refine(mW word vL.drew (IR.out.below (aE _)).at_.spc).mono ?_;rintro e CC ⟨rfl,VZ⟩;rw[OZ.out];have wV:=zh ((IR.out.below (aE _)).below VZ);exact X3
      rw[if_pos aAN];(try simp only[z1,z2,z3]);go_simp;refine(mW word vL.drew (IR.out.below (aE _)).at_.spc).mono ?_;rintro e CC ⟨rfl,VZ⟩;rw[OZ.out];have wV:=zh ((IR.out.below (aE _)).below VZ);refine hK.out _ _ trivial (fun hS=>?_);clear hK K;(try simp only[zn]);refine zr 1 rfl (fun K hK=>?_);(try simp only[z1,z2,z3]);obtain⟨⟨c0,c1,c2,c3,c4,c5,c6,c7,c8,c9,CJ,CI⟩,f0,f1,f2,f3,f4,f5,f6,f7,f8,f9,D5,D4⟩:=mJ wV.out.loc;go_simp;clear c0 c1 c2 c3 c4 c5 c6 c7 c8 c9 CJ CI f0 f1 f2 f3 f4 f5 f6 f7 f8 f9 D5 D4;exact X3
    |false=>
     ·skip;go_wp2_with(go_at_call 141;refine(bF p wr q word HS.out.at_ hq).mono ?_;rintro e vL ⟨rfl,NZ,M2⟩);have IR:=zh (HS.out.nextP M2 NZ);have zD:Hid (eS p.l gW 0 LF=eS p.l (gW.drop (kk+1)) (en:Int) q):=zh (by rw[sK.out,zU.out,hq,if_neg aAQ]);have AW:Hid (en<2 ^ (kk+1)):=zh (by rw[Nat.pow_succ];omega);clear NZ M2 hc;go_roundw;(case rel=>exact⟨kk+1,q,en,aAM,aAV,AW,IR,zD,HJ⟩);case measure=>simp[intOf];omega
   have hk:kk=4:=aAM;subst hk
   ·skip;have HEf:Hid (eS p.l gW 0 LF=((en:Int),q)):=zh sK.out;obtain⟨⟨c0,c1,c2,c3,c4,c5,c6,c7,c8,c9,CJ,CI⟩,f0,f1,f2,f3,f4,f5,f6,f7,f8,f9,D5,D4⟩:=mJ HS.out.loc;go_wp2_with(go_at_call 144;refine(fW p wr q _ _ HS.out.at_).mono ?_;rintro e I4 (⟨he,rfl,rfl⟩|⟨he,rfl,FJ⟩))
    ·have HIq:Hid (i<q):=zh (by have:=HI10.out;have:=HJ.out;omega);have tZ:=zh (WW.out.trans (PR.bnd_ok (bang_yes hb RX.out HEf.out aCA)));clear c0 c1 c2 c3 c4 c5 c6 c7 c8 c9 CJ CI f0 f1 f2 f3 f4 f5 f6 f7 f8 f9 D5 D4;clear he;go_wp2_with(go_at_call 137;refine(end_any p wr q _ kEq HS.out.at_).mono ?_;rintro e w20 (⟨x20,AE,rfl,DX⟩|⟨⟨⟩,i20,AE,⟨rfl,NX⟩,DX⟩))
     ·exact⟨rfl,Ran.bad' (tZ.out.trans (PR.bnd_bad AE)) (HS.out.off.trans (DX.mono fun _ h=>.inl h))⟩
     skip;have EC:=zh (HS.out.nextP DX NX);have OF:=zh (tZ.out.trans (PR.bnd_ok AE));have hi20:=endP_ok AE;clear AE DX NX;go_wp2_with(go_at_call 139;refine(oQ p HX.out w20 i20 mE EC.out.at_).mono ?_;rintro e PY (⟨x21,G1,rfl,G7⟩|⟨x,i21,G1,⟨⟨op,n1,s1,m1,a1,m2,qa,a2,m3,qb,rfl,hex⟩,V2,hij21⟩,G7⟩)<;>first|(have zE:=zh (EC.out.nextP G7 V2);obtain⟨⟨c0,c1,c2,c3,c4,c5,c6,c7,c8,c9,CJ,CI⟩,f0,f1,f2,f3,f4,f5,f6,f7,f8,f9,D5,D4⟩:=mJ zE.out.loc;obtain⟨⟨r0,r1,r2,r3,r4,r5,r6,r7,r8,r9,r10,r11⟩,g0,g1,g2,g3,g4,g5,g6,g7,g8,g9,g10,g11⟩:=mJ zE.out.res)|skip)
     ·exact⟨rfl,Ran.bad' (OF.out.trans (PR.bnd_bad G1)) (EC.out.off.trans (G7.mono fun _ h=>.inl h))⟩
     have WA:(fun W=>cJ (fun b=>w.heap.size<b/\b≠b5/\b≠km) W x [.int .i64 op,.int .i64 n1,.string s1,.string m1,.slice a1 m2 qa,.slice a2 m3 qb]) PY:=aG.wide hex (fun b hb _=>aCu);have B6:Mk 179 lN p (p.S2 km) p.S w b5 #[.string nm,.bool pub,.slice pa pn pc,.int .i64 k,.slice sa sn sc,.int .i64 (en:Int),.int .i64 op,.int .i64 n1,.string s1,.string m1,.slice a1 m2 qa,.slice a2 m3 qb] (fun W=>(fun W=>(((True/\(fun W=>aX eQ dS W km (n+1) (eO fun z=>decide (z=nm)||known z)) W)/\(fun W=>aL 3 gR (fun b=>w.heap.size<b/\b≠b5/\b≠km) W (.slice pa pn pc) ps) W)/\(fun W=>jQ (fun b=>w.heap.size<b/\b≠b5/\b≠km) W t [.int .i64 k,.slice sa sn sc]) W)/\(fun W=>∀j,j<bV.length->W.cell? ⟨g,0+j,none⟩=some (.string (bV.getD j ByteArray.empty))) W) W/\(fun W=>cJ (fun b=>w.heap.size<b/\b≠b5/\b≠km) W x [.int .i64 op,.int .i64 n1,.string s1,.string m1,.slice a1 m2 qa,.slice a2 m3 qb]) W) i21 ((((((PY.setCell ⟨b5,6,none⟩ (.int .i64 op)).setCell ⟨b5,7,none⟩ (.int .i64 n1)).setCell ⟨b5,8,none⟩ (.string s1)).setCell ⟨b5,9,none⟩ (.string m1)).setCell ⟨b5,10,none⟩ (.slice a1 m2 qa)).setCell ⟨b5,11,none⟩ (.slice a2 m3 qb)):=(zE.out.add (F:=(fun W=>cJ (fun b=>w.heap.size<b/\b≠b5/\b≠km) W x [.int .i64 op,.int .i64 n1,.string s1,.string m1,.slice a1 m2 qa,.slice a2 m3 qb])) WA (eB.enc aG (stbl_S fun b hb=>⟨fun e=>by have:=hb.1;omega,hb.2.1⟩))).put HW.out ((Off.refl (fun b=>b=b5) PY).one.one.one.one.one.one) (by rw[aO (aO (aO (aO (aO (aO zE.out.loc _) _) _) _) _) _];rfl);(have FO:∀b,b=w.heap.size->¬(fun b=>w.heap.size<b/\b≠b5/\b≠km) b:=fun b hb hn=>by have:=hn.1;omega);have hD:=B6.done HW.out (set12_off _ w.heap.size (.string nm) (.bool pub) (.slice pa pn pc) (.int .i64 k) (.slice sa sn sc) (.int .i64 (en:Int)) (.int .i64 op) (.int .i64 n1) (.string s1) (.string m1) (.slice a1 m2 qa) (.slice a2 m3 qb)) (((((eB.true.and (eB.map aAM)).and (eB.row bB aAO FO)).and (eB.enc fO FO)).and (eB.cells aAM)).and (eB.enc aG FO));unfold set12 at hD;refine bodyPost_ret (v:=oBx11 nm pub pa pn pc k sa sn sc (en:Int) op n1 s1 m1 a1 m2 qa a2 m3 qb) aCz rfl ?_;obtain⟨⟨⟨⟨⟨⟨-,BQ⟩,tF⟩,E0⟩,-⟩,yH⟩,sM,G6⟩:=hD;exact ZK
    have tZ:=WW.out.trans (PR.bnd_bad (bang_zero hb RX.out HEf.out aCA));exact⟨rfl,Ran.bad tZ (HS.out.off.trans (Ba FJ))⟩
end Go.Proofs.YtacgopankhpnbaaGreatDoor
namespace Go.Proofs.YtacgopankhpnbaaGreatDoor
open Go.RowKit
theorem catch_idle(a b:Nat)(w:World):CallsD Tryz.prog 130 #[.pointer (some ⟨a,0,none⟩),.pointer (some ⟨b,0,none⟩)] .returning w fun e u' w'=>e=.returned (.tuple #[])/\u'=.returning/\w'=w:=by
 refine callsD_of_wpS Tryz.func130 rfl fun c₀ cs hu=>?_;apply wpS_seq;apply wpS_region;simp[wpOpsS,go_sem,recoverD,hu,Tryz.ntmps130,Exit.thenS];refine wpS_of_wp ?_;simp only[Array.replicate_succ,Array.replicate_zero,List.push_toArray,List.append_toArray,List.nil_append,List.cons_append,List.setIfInBounds_toArray,List.set_cons_zero,List.set_cons_succ]
 go_wp2
 cases c₀;simp_all [bodyPostS,results,Tryz.results130]
theorem catch_fault(a b:Nat)(x:Int×Int)(older:List PanicEntry)(w:World)(ha:w.heap[a]? =some (iN 0))(hb:w.heap[b]? =some (oBx35 0)):
  CallsD Tryz.prog 130 #[.pointer (some ⟨a,0,none⟩),.pointer (some ⟨b,0,none⟩)] (.panicking ({v:=.iface 205 (.agg #[.int .i64 x.1,.int .i64 x.2]),recovered:=false}::older)) w fun e u' w'=>
   e=.returned (.tuple #[])/\u'=.panicking ({v:=.iface 205 (.agg #[.int .i64 x.1,.int .i64 x.2]),recovered:=true}::older)/\Off (fun k=>k=a\/k=b) w w'/\w'.heap[a]? =some (iN x.1)/\w'.heap[b]? =some (oBx35 x.2):=by
 refine callsD_of_wpS Tryz.func130 rfl fun c₀ cs hu=>?_;apply wpS_seq;apply wpS_region;simp[wpOpsS,go_sem,recoverD,hu,Tryz.ntmps130,Exit.thenS];refine wpS_of_wp ?_;simp only[Array.replicate_succ,Array.replicate_zero,List.push_toArray,List.append_toArray,List.nil_append,List.cons_append,List.setIfInBounds_toArray,List.set_cons_zero,List.set_cons_succ];obtain⟨a0,a1⟩:=bx ha 0 (u:=.int .i64 0) rfl;obtain⟨b0,b1⟩:=bx hb 0 (u:=.int .i64 0) rfl;have hla:=(Array.getElem?_eq_some_iff.1 ha).1;have JH:=(Array.getElem?_eq_some_iff.1 hb).1;have HT:∀(x1 x2:Int)(w:World),(Instr.typeAssert (.iface 205 (.agg #[.int .i64 x1,.int .i64 x2])) 20 205 true).run Tryz.prog w=.ok (.tuple #[.agg #[.int .i64 x1,.int .i64 x2],.bool true]) w:=fun x1 x2 w=>aAN;have hab:a≠b:=by rintro rfl;rw[ha] at hb;cases hb
 go_wp2
 refine wp_region_held_drew (S:=(fun W=>W.heap[w.heap.size]? =some (.cells #[.int .i64 x.1,.int .i64 x.2] 205))) aAN (by exact bY w _) fun hS=>?_;refine zq 0 (.pointer (some ⟨w.heap.size,0,none⟩)) rfl ?_;refine zt 1 (.int .i64 x.1) rfl (fun W hW=>by obtain⟨k0,k1,-⟩:=bxT2 hW;go_simp) ?_;refine zq 2 (.pointer (some ⟨w.heap.size,1,none⟩)) rfl ?_;refine zt 3 (.int .i64 x.2) rfl (fun W hW=>by obtain⟨k0,k1,-⟩:=bxT2 hW;go_simp) ?_;try simp only[zn]
 have hna:¬w.heap.size=a:=aAM;have AX:¬w.heap.size=b:=aAM;refine zr 4 rfl (fun K hK=>?_);try simp only[z1,z2,z3]
 go_simp;refine hK.out _ _ (by have h:=bY (w.setCell ⟨a,0,none⟩ (.int .i64 x.1)) (.cells #[.int .i64 x.1,.int .i64 x.2] 205);rw[fN] at h;exact h) (fun hS=>?_);clear hK K;try simp only[zn]
 refine zr 5 rfl (fun K hK=>?_);try simp only[z1,z2,z3]
 go_simp;refine hK.out _ _ (by have h:=bY ((w.setCell ⟨a,0,none⟩ (.int .i64 x.1)).setCell ⟨b,0,none⟩ (.int .i64 x.2)) (.cells #[.int .i64 x.1,.int .i64 x.2] 205);rw[fN,fN] at h;exact h) (fun hS=>?_);clear hK K;try simp only[zn]
 refine wpAnyH_done aAN ?_ _
 go_wp2
 simp[bodyPostS,results,Tryz.results130];have oa:Off (fun k=>k=a\/k=b) w ((w.setCell ⟨a,0,none⟩ (.int .i64 x.1)).setCell ⟨b,0,none⟩ (.int .i64 x.2)):=(Off.setCell (S:=fun k=>k=a\/k=b) w (.inl rfl)).trans (Off.setCell (S:=fun k=>k=a\/k=b) _ (.inr rfl));have tD:((w.setCell ⟨a,0,none⟩ (.int .i64 x.1)).setCell ⟨b,0,none⟩ (.int .i64 x.2)).heap[a]? =some (iN x.1):=by rw[Below.heap_setCell _ _ _ _ (by show a≠b;exact hab),aO ha];rfl
 have sD:((w.setCell ⟨a,0,none⟩ (.int .i64 x.1)).setCell ⟨b,0,none⟩ (.int .i64 x.2)).heap[b]? =some (oBx35 x.2):=by rw[aO ((Below.heap_setCell _ _ _ _ (by show b≠a;exact fun e=>hab e.symm)).trans hb)];rfl
 exact⟨(oa.trans (Ba (aA _ _))).drew,aD (aA _ _).drew tD,aD (aA _ _).drew sD⟩
end Go.Proofs.YtacgopankhpnbaaGreatDoor
namespace Go.Proofs.YtacgopankhpnbaaGreatDoor
def Nz{α:Type}(r:PR α):Prop:=∀x,r=.error x->x.2≠0
section
variable {l:List Tok} {α β:Type}
theorem Nz.ok{a:α}{j:Nat}:Nz (.ok (a,j):PR α):=fun x h=>aBx
theorem Nz.stop{i:Nat}{e:Int}(he:e≠0):Nz (lF l i e:PR α):=fun x h=>by unfold lF at h;cases h;exact he
theorem Nz.bnd{m:PR α}{k:α->Nat->PR β}(h:Nz m)(hk:∀a j,Nz (k a j)):Nz (m.bnd k):=fun x hx=>by
 cases hm:m with
 |error y=>rw[hm] at hx;have hx:(.error y:PR β)=.error x:=hx;injection hx with e;rw[<-e];exact h y hm
 |ok r=>obtain⟨a,j⟩:=r;rw[hm] at hx;exact hk a j x hx
theorem Nz.ite{c:Prop}[Decidable c]{a b:PR α}(h1:Nz a)(h2:Nz b):Nz (if c then a else b):=by split<;>assumption
theorem gT{i:Nat}{s:bA}:Nz (dP l i s):=by unfold dP;exact .ite .ok (.stop aAO)
theorem end_nz{i:Nat}{f:Bool}{s:bA}:Nz (nW l i f s):=by unfold nW;exact .ite (.ite .ok (.stop aAO)) (.stop aAO)
theorem name_nz{i:Nat}:Nz (gN l i):=by unfold gN;exact .ite .ok (.stop aAO)
theorem fresh_nz{i:Nat}{k:bA->Bool}:Nz (iY l i k):=by unfold iY;exact .ite (.ite (.stop aAO) .ok) (.stop aAO)
theorem later_nz{i:Nat}{t:bA}{b:Bool}:Nz (gQ l i t b):=by unfold gQ;exact .ite (.ite (.stop aAO) (.ite (.stop aAO) .ok)) (.stop aAO)
theorem room_nz{i a b:Nat}:Nz (iM l i a b):=by unfold iM;exact .ite .ok (.stop aAO)
section
variable {rec:RecP} (hr:∀f i,Nz (rec f i))
include hr
omit hr in
theorem dots_nz:∀(F:Nat)(e:Xp)(i:Nat),Nz (qQ l F e i)
 |0,e,i=>.ok
 |F+1,e,i=>by unfold qQ;exact .ite (.bnd name_nz fun a j=>dots_nz F _ j) .ok
theorem ops_nz(form:Nat):∀(F own:Nat)(e:Xp)(i:Nat),Nz (opsP l rec form F own e i)
 |0,own,e,i=>.ok
 |F+1,own,e,i=>by
  unfold opsP;split
  ·exact .ok
  exact .ite .ok (.bnd (hr _ _) fun a j=>ops_nz form F _ _ j)
theorem operandsFrom_nz:∀(F:Nat)(out:List Xp)(i:Nat),Nz (cR l rec F out i)
 |0,out,i=>.ok
 |F+1,out,i=>by
  unfold cR;exact .bnd (.ite room_nz .ok) fun _ _=>.bnd (hr _ _) fun e j=>.ite (operandsFrom_nz F _ _) (.bnd gT fun _ _=>.ok)
theorem operands_nz{i:Nat}:Nz (kU l rec i):=by unfold kU;exact .bnd gT fun _ j=>.ite .ok (operandsFrom_nz hr _ _ _)
theorem recordFrom_nz:∀(F:Nat)(names:List bA)(args:List Xp)(last:bA)(i:Nat),Nz (eC l rec F names args last i)
 |0,_,_,_,_=>.ok
 |F+1,names,args,last,i=>by
  unfold eC;exact .bnd (.ite room_nz .ok) fun _ _=>.bnd later_nz fun s j=>.bnd gT fun _ j2=>.bnd (hr _ _) fun e j3=>.ite (recordFrom_nz F _ _ _ _) (.bnd gT fun _ _=>.ok)
theorem paren_nz{i:Nat}:Nz (parenP l rec i):=by unfold parenP;exact .bnd (hr _ _) fun e j=>.bnd gT fun _ _=>.ok
theorem primary_nz{i:Nat}:Nz (aV l rec i):=by
 unfold aV;refine .ite .ok (.ite .ok (.ite .ok (.ite (.bnd name_nz fun _ _=>.ok) (.ite (.bnd gT fun _ j=>.bnd (paren_nz hr) fun _ _=>.ok) (.ite ?_ (.ite (paren_nz hr) (.bnd name_nz fun s j=>?_)))))))
 ·unfold mO;exact .ite .ok (recordFrom_nz hr _ _ _ _ _)
 unfold callP;exact .ite (.bnd (operands_nz hr) fun _ _=>.ok) (.ite (.bnd name_nz fun _ _=>.bnd (operands_nz hr) fun _ _=>.ok) .ok)
theorem prefix_nz{form i:Nat}:Nz (dB l rec form i):=by
 unfold dB
 exact .ite (.bnd (hr _ _) fun _ _=>.bnd gT fun _ _=>.bnd (hr _ _) fun _ _=>.bnd gT fun _ _=>.bnd (hr _ _) fun _ _=>.ok)
  (.ite (.bnd name_nz fun _ _=>.bnd gT fun _ _=>.bnd (hr _ _) fun _ _=>.bnd gT fun _ _=>.bnd (hr _ _) fun _ _=>.ok)
  (.ite (.bnd name_nz fun _ _=>.bnd (hr _ _) fun _ _=>.ok) (.ite (.bnd (hr _ _) fun _ _=>.ok) (.bnd (primary_nz hr) fun _ _=>.ok))))
end
theorem exp_nz:∀(f form i:Nat),Nz (bX l f form i)
 |0,form,i=>.stop aAO
 |f+1,form,i=>by
  unfold bX;exact .bnd (prefix_nz fun f' i'=>exp_nz f f' i') fun r j=>.bnd (.ite (dots_nz _ _ _) .ok) fun e k=>ops_nz (fun f' i'=>exp_nz f f' i') _ _ _ _ _
theorem more_nz{i:Nat}{t:Ty}{s:bA}:Nz (moreP l i t s):=by unfold moreP;exact .ite (.bnd end_nz fun _ _=>.ok) (.bnd end_nz fun _ _=>.ok)
theorem typedFrom_nz{rec:Nat->PR Ty}(hr:∀i,Nz (rec i)):∀(F:Nat)(fs:List Fld)(i:Nat),Nz (fF l rec F fs i)
 |0,fs,i=>.ok
 |F+1,fs,i=>by
  unfold fF;exact .bnd (.ite room_nz .ok) fun _ _=>.bnd later_nz fun s j=>.bnd (hr _) fun t j2=>.bnd more_nz fun q j3=>.ite .ok (typedFrom_nz hr F _ _)
theorem typed_nz:∀(f i:Nat),Nz (gJ l f i)
 |0,i=>.stop aAO
 |f+1,i=>by
  unfold gJ;exact .ite .ok (.ite .ok (.bnd gT fun _ j=>.ite .ok (typedFrom_nz (fun i=>typed_nz f i) _ _ _)))
theorem fieldsFrom_nz{most:Nat}:∀(F:Nat)(fs:List Fld)(i:Nat),Nz (eM l most F fs i)
 |0,fs,i=>.ok
 |F+1,fs,i=>by
  unfold eM;exact .bnd (.ite room_nz .ok) fun _ _=>.bnd fresh_nz fun s j=>.bnd (typed_nz _ _) fun t j2=>.bnd more_nz fun q j3=>.ite .ok (fieldsFrom_nz F _ _)
theorem fields_nz{most i:Nat}:Nz (lJ l most i):=by unfold lJ;exact .bnd gT fun _ j=>.ite .ok (fieldsFrom_nz _ _ _)
theorem whole_nz{i:Nat}{s:bA}:Nz (nU l i s):=by unfold nU;exact .bnd (exp_nz _ _ _) fun _ _=>.bnd end_nz fun _ _=>.ok
theorem wholesFrom_nz{s:bA}:∀(n:Nat)(out:List Xp)(i:Nat),Nz (kG l s n out i)
 |0,out,i=>by unfold kG;exact .bnd whole_nz fun _ _=>.ok
 |n+1,out,i=>by unfold kG;exact .bnd whole_nz fun _ _=>wholesFrom_nz n _ _
theorem wholes_nz{n i:Nat}{s:bA}:Nz (jF l n i s):=by
 cases n with
 |zero=>unfold jF;exact .bnd gT fun _ _=>.ok
 |succ n=>unfold jF;exact wholesFrom_nz _ _ _
theorem bang_nz{i:Nat}{f:Bool}:Nz (bangP l i f):=by unfold bangP;exact .ite (.bnd end_nz fun _ _=>.ite .ok (.stop aAO)) .ok
theorem function_nz{i:Nat}{k:bA->Bool}:Nz (oU l i k):=by
 unfold oU;exact .bnd gT fun _ _=>.bnd fresh_nz fun _ _=>.bnd fields_nz fun _ _=>.bnd (typed_nz _ _) fun _ _=>.bnd bang_nz fun _ _=>.bnd end_nz fun _ _=>.bnd whole_nz fun _ _=>.ok
theorem uses_nz:∀(F:Nat)(out:List bA)(i:Nat),Nz (jL l F out i)
 |0,out,i=>.ok
 |F+1,out,i=>by unfold jL;exact .ite (.bnd room_nz fun _ _=>.bnd fresh_nz fun _ _=>.bnd gT fun _ _=>uses_nz F _ _) .ok
theorem vars_nz:∀(F:Nat)(vs:List Fld)(es:List Xp)(i:Nat),Nz (kH l F vs es i)
 |0,vs,es,i=>.ok
 |F+1,vs,es,i=>by unfold kH;exact .ite (.bnd room_nz fun _ _=>.bnd fresh_nz fun _ _=>.bnd (typed_nz _ _) fun _ _=>.bnd end_nz fun _ _=>.bnd whole_nz fun _ _=>vars_nz F _ _ _) .ok
theorem funcs_nz:∀(F:Nat)(fs:List Fnc)(i:Nat),Nz (hU l F fs i)
 |0,fs,i=>.ok
 |F+1,fs,i=>by unfold hU;exact .ite (.bnd room_nz fun _ _=>.bnd function_nz fun _ _=>funcs_nz F _ _) .ok
theorem move_nz{n i:Nat}:Nz (moveP l n i):=by unfold moveP;exact .ite (.bnd fields_nz fun _ _=>.bnd gT fun _ _=>.bnd wholes_nz fun _ _=>.bnd wholes_nz fun _ _=>.ok) .ok
theorem module_nz:Nz (iD l):=by
 unfold iD;exact .bnd gT fun _ _=>.bnd name_nz fun _ _=>.bnd gT fun _ _=>.bnd (uses_nz _ _ _) fun _ _=>.bnd (vars_nz _ _ _ _) fun _ _=>.bnd (funcs_nz _ _ _) fun _ _=>.bnd move_nz fun _ _=>.ite .ok (.stop aAO)
end
theorem lexFrom_nz{s:bA}:∀(F i:Nat)(out:List Tok)(x:Int×Int),jI s F i out=.error x->x.2≠0
 |0,i,out,x,h=>by unfold jI at h;cases h
 |F+1,i,out,x,h=>by
  unfold jI at h;split at h
  ·cases h
  split at h
  ·rename_i e he;cases h;exact nextTok_err he
  exact lexFrom_nz F _ _ x h
theorem lexL_nz{s:bA}{x:Int×Int}(h:lexL s=.error x):x.2≠0:=by
 unfold lexL at h;split at h
 ·cases h;decide
 exact lexFrom_nz _ _ _ x h
end Go.Proofs.YtacgopankhpnbaaGreatDoor
