/- Texts of this seat, joined. -/
import Derived.Test.YtacgopankhpnbaaGreatDoorSAE
set_option maxHeartbeats 16000000
set_option maxRecDepth 100000
set_option linter.unusedVariables false
set_option linter.unusedSimpArgs false
namespace Go.Proofs.YtacgopankhpnbaaGreatDoor
open Go.RowKit
theorem SL{p:Prop}(h:p:=by
 refine hK.out _ _ trivial (fun hS=>?_);clear hK K;try simp only[zn]
 refine zt 4 (.int .i64 ((en:Int)+2 ^ kk)) rfl (fun W hW=>by go_simp;exact bits_or pT IU) hS ?_;try simp only[zn]
 refine zt 5 (.pointer (some ⟨b5,5,none⟩)) rfl (fun W hW=>VM) hS ?_;try simp only[zn]
 refine zr 6 rfl (fun K hK=>?_);try simp only[z1,z2,z3]
 obtain⟨⟨c0,c1,c2,c3,c4,c5,c6,c7,c8,c9,yR,yQ⟩,f0,f1,f2,f3,f4,f5,f6,f7,f8,f9,AO,AN⟩:=kQ tW.out.loc;go_simp;clear c0 c1 c2 c3 c4 c5 c6 c7 c8 c9 yR yQ f0 f1 f2 f3 f4 f5 f6 f7 f8 f9 AO AN;refine hK.out _ _ trivial (fun hS=>?_);clear hK K;try simp only[zn]
 refine wpAnyH_done VH ?_ _;clear hS;have uP:Hid (Mk 179 kB p (p.S2 km) p.S w b5 #[.string nm,.bool pub,.slice pa pn pc,.int .i64 k,.slice sa sn sc,.int .i64 ((en+2 ^ kk:Nat):Int),.int .i64 0,.int .i64 0,.string ⟨#[]⟩,.string ⟨#[]⟩,.slice none 0 0,.slice none 0 0] (fun W=>(((True/\(fun W=>aW eI dD W km (n+1) (dY fun z=>decide (z=nm)||aI z)) W)/\(fun W=>aK 3 fR (fun b=>w.heap.size<b/\b≠b5/\b≠km) W (.slice pa pn pc) ps) W)/\(fun W=>iN (fun b=>w.heap.size<b/\b≠b5/\b≠km) W t [.int .i64 k,.slice sa sn sc]) W)/\(fun W=>∀j,j<bN.length->W.cell? ⟨g,0+j,none⟩=some (.string (bN.getD j ByteArray.empty))) W) (q+1) (zI.setCell ⟨b5,5,none⟩ (.int .i64 ((en:Int)+2 ^ kk)))):=zh (tW.out.put HW.out (Off.setCell (S:=fun b=>b=b5) zI rfl) (by rw[aO tW.out.loc,pow_cast];rfl));have vU:Hid (eA p.l fV 0 GJ=eA p.l (fV.drop (kk+1)) ((en+2 ^ kk:Nat):Int) (q+1)):=zh (by rw[pZ.out,E0.out,hq,J9.out,if_pos rfl];rfl);have HJ2:Hid (GJ<=q+1):=zh (by have:=HJ.out;omega);have yK:Hid (en+2 ^ kk<2 ^ (kk+1)):=zh (by rw[Nat.pow_succ];omega);generalize zI.setCell ⟨b5,5,none⟩ (.int .i64 ((en:Int)+2 ^ kk))=GZ at *;go_wp2_with fail;go_roundw;case rel=>exact⟨kk+1,q+1,en+2 ^ kk,VG,VT,yK,uP,vU,HJ2⟩
 case measure=>simp[intOf];omega):p:=h
theorem TZ{p:Prop}(h:p:=by
 exact Ran.good (JO.out.trans (PR.bnd_ok DP)) ⟨pa,pn,pc,k,sa,sn,sc,op,n1,s1,m1,a1,m2,qa,a2,m3,qb,rfl,cD.wide ⟨_,_,_,_,_,_,_,_,_,rfl,qX,qO,FD,vB⟩ (fun b hb _=>Nat.le_of_lt hb.1),qA,by have:=HIq.out;omega,FN⟩ DT):p:=h
def FnV(p:Prs)(w:World)(km n:Nat)(aI:ByteArray->Bool)(i:Nat)(f:Fnc)(j:Nat)(e:Ending)(w':World):Prop:=
 ∃pa pn pc k sa sn sc op n1 s1 m1 a1 m2 c1 a2 m3 c2,e=.returned (.agg #[.string f.name,.bool f.pub,.slice pa pn pc,.int .i64 k,.slice sa sn sc,.int .i64 f.effects,.int .i64 op,.int .i64 n1,.string s1,.string m1,.slice a1 m2 c1,.slice a2 m3 c2])/\
  oC (bD w.heap.size) w' f [.string f.name,.bool f.pub,.slice pa pn pc,.int .i64 k,.slice sa sn sc,.int .i64 f.effects,.int .i64 op,.int .i64 n1,.string s1,.string m1,.slice a1 m2 c1,.slice a2 m3 c2]/\p.At w' j/\i<j/\aW eI dD w' km (n+1) (dY fun z=>decide (z=f.name)||aI z)
theorem effectL_at{l:List Tok}{k:Nat}(hk:k<4){n:Int}{q:Nat}:eA l (fV.drop k) n q=if isP l q (bN.getD k ByteArray.empty) then eA l (fV.drop (k+1)) (n+cT (bN.getD k ByteArray.empty)) (q+1) else eA l (fV.drop (k+1)) n q:=by
 match k,hk with
 |0,_=>rfl
 |1,_=>rfl
 |2,_=>rfl
 |3,_=>rfl
section
variable {l:List Tok} {i j q:Nat} {fits:Bool} {en:Int}
theorem bang_no(h:isP l i pD=false):bangP l i fits=.ok ((0,fits),i):=by unfold bangP;rw[if_neg (by rw[h];simp)]
theorem bang_bad(h:isP l i pD=true){x:Int×Int}(he:lZ l i fits pD=.error x):bangP l i fits=.error x:=by unfold bangP;rw[if_pos h,he];rfl
theorem bang_yes(h:isP l i pD=true)(he:lZ l i fits pD=.ok ((),j))(hf:eA l fV 0 j=(en,q))(hn:¬en=0):bangP l i fits=.ok ((en,true),q):=by unfold bangP;rw[if_pos h,he];simp only[PR.bnd,hf];rw[if_pos hn]
theorem bang_zero(h:isP l i pD=true)(he:lZ l i fits pD=.ok ((),j))(hf:eA l fV 0 j=(en,q))(hn:en=0):bangP l i fits=.error ((aH l q).pos,11):=by unfold bangP;rw[if_pos h,he];simp only[PR.bnd,hf];rw[if_neg (by simp[hn])];rfl
end
theorem bit_pow{k:Nat}(hk:k<4):cT (bN.getD k ByteArray.empty)=((2 ^ k:Nat):Int):=by
 match k,hk with
 |0,_=>rfl
 |1,_=>rfl
 |2,_=>rfl
 |3,_=>rfl
theorem pow_cast(en k:Nat):((en+2 ^ k:Nat):Int)=(en:Int)+2 ^ k:=VL
theorem bits_or{k en:Nat}(hk:k<4)(he:en<2 ^ k):bits BinOp.or IntKind.i64 (en:Int) (2 ^ k)=(en:Int)+2 ^ k:=by
 match k,hk with
 |0,_=>match en,he with|0,_=>decide
 |1,_=>match en,he with|0,_=>decide|1,_=>decide
 |2,_=>match en,he with|0,_=>decide|1,_=>decide|2,_=>decide|3,_=>decide
 |3,_=>match en,he with|0,_=>decide|1,_=>decide|2,_=>decide|3,_=>decide|4,_=>decide|5,_=>decide|6,_=>decide|7,_=>decide
theorem function_any(p:Prs)(hX:ExpAll p)(w:World)(i km n:Nat)(aI:ByteArray->Bool)(h:p.At w i)(hm:aW eI dD w km n (dY aI))(hk:11<=km)(hn:n<1000000):
  Calls Tryz.prog 140 #[.pointer (some ⟨p.pb,0,none⟩),.map (some km)] w (Ran (p.S2 km) w (mU p.l i aI) (FnV p w km n aI i)):=by
 have HW:=zh h;have HX:=zh hX;have HM0:=zh hm;have hlen:=h.len;have hkm:km<w.heap.size:=hm.lt;have tZ:=h.blt;have xA:=(h.nemap (cQ.of hm)).1;have B8:i<=(if isP p.l i kPub=true then i+1 else i):=by split<;>omega
 have HR:Hid (mU p.l i aI=(dB p.l (if isP p.l i kPub=true then i+1 else i) kFn).bnd fun _ j=>(gZ p.l j aI).bnd fun name j2=>(jY p.l 6 j2).bnd fun ps j3=>(kI p.l j3).bnd fun t j4=>(bangP p.l j4 (decide (bU t<=4))).bnd fun ef j5=>
  (lZ p.l j5 ef.2 kEq).bnd fun _ j6=>(lW p.l j6 kN).bnd fun e j7=>.ok (⟨name,isP p.l i kPub,ps,t,ef.1,e⟩,j7)):=zh rfl
 clear h hX hm;go_enter Tryz.func140,Tryz.ntmps140;go_wp2_with(go_at_call 141;refine(mN p (w.alloc (.cells kB 179)) i kPub (HW.out.later (aA _ _))).mono ?_;rintro e w2 ⟨rfl,qL,pU⟩);have qH:=pU.size;have qI:(w.alloc (.cells kB 179)).heap.size=w.heap.size+1:=VL;generalize (if isP p.l i kPub=true then i+1 else i)=i1 at *;generalize isP p.l i kPub=pub at *;have zV:Hid (Mk 179 kB p (p.S2 km) (p.S2 km) w w2.heap.size #[.string ⟨#[]⟩,.bool pub,.slice none 0 0,.int .i64 0,.slice none 0 0,.int .i64 0,.int .i64 0,.int .i64 0,.string ⟨#[]⟩,.string ⟨#[]⟩,.slice none 0 0,.slice none 0 0] (fun _=>True) i1 (w2.alloc (.cells #[.string ⟨#[]⟩,.bool pub,.slice none 0 0,.int .i64 0,.slice none 0 0,.int .i64 0,.int .i64 0,.int .i64 0,.string ⟨#[]⟩,.string ⟨#[]⟩,.slice none 0 0,.slice none 0 0] 179))):=zh ⟨((Off.of_below (aA w (.cells kB 179))).trans ((pU.mono fun _ hb=>.inl hb).trans (Off.of_below (aA w2 _)))),aF (aA w2 _) (pU.heap (by show ¬w.heap.size=p.pb;omega) (heap_alloc_new w (.cells kB 179))),heap_alloc_new w2 _,qL.later (aA w2 _),trivial,dK.true,VG,fun b hb=>.inl hb,fun e=>VY,fun e=>VY,.inl rfl⟩;have HM3:Hid (aW eI dD (w2.alloc (.cells #[.string ⟨#[]⟩,.bool pub,.slice none 0 0,.int .i64 0,.slice none 0 0,.int .i64 0,.int .i64 0,.int .i64 0,.string ⟨#[]⟩,.string ⟨#[]⟩,.slice none 0 0,.slice none 0 0] 179)) km n (dY aI)):=zh ((map_off (HW.out.later (aA _ _)) (HM0.out.later (aA w (.cells kB 179))) pU).later (aA w2 _));have hb5w:w.heap.size<w2.heap.size:=VG;clear qL pU HM0;generalize w2.heap.size=b5 at *;generalize w2.alloc (.cells #[.string ⟨#[]⟩,.bool pub,.slice none 0 0,.int .i64 0,.slice none 0 0,.int .i64 0,.int .i64 0,.int .i64 0,.string ⟨#[]⟩,.string ⟨#[]⟩,.slice none 0 0,.slice none 0 0] 179)=w3 at *;have LN:¬km=b5:=VG;have LM:¬b5=km:=VG;clear qI qH;go_wp2_with(go_at_call 131;refine(cR p w3 i1 kFn zV.out.at_).mono ?_;rintro e w4 (⟨x4,sI,rfl,pW⟩|⟨⟨⟩,i4,sI,⟨rfl,rR⟩,pW⟩))
 ·exact⟨rfl,Ran.bad' (HR.out.trans (PR.bnd_bad sI)) (zV.out.off.trans (pW.mono fun _ h=>.inl h))⟩
 have vN:=zh (zV.out.nextP pW rR);have HM4:=zh (map_off zV.out.at_ HM3.out pW);have HR4:=zh (HR.out.trans (PR.bnd_ok sI));have hi4:=(cH sI).1;have KU:Hid (i<i4):=zh VG;clear sI pW rR zV HM3 HR hi4 B8;go_wp2_with(go_at_call 135;refine(mV p w4 i4 km n aI vN.out.at_ HM4.out hk hn).mono ?_;rintro e w5 (⟨x5,rK,rfl,qB⟩|⟨nm,i5,rK,⟨rfl,sN,hm5,qX⟩,qB⟩)<;>first|(have tS:=zh (vN.out.next qB sN);obtain⟨⟨c0,c1,c2,c3,c4,c5,c6,c7,c8,c9,yR,yQ⟩,f0,f1,f2,f3,f4,f5,f6,f7,f8,f9,AO,AN⟩:=kQ tS.out.loc)|skip)
 ·exact⟨rfl,Ran.bad' (HR4.out.trans (PR.bnd_bad rK)) (vN.out.off.trans qB)⟩
 have HR5:=zh (HR4.out.trans (PR.bnd_ok rK));have hi5:=pG rK;have HI5:Hid (i<i5):=zh (by have:=KU.out;omega);clear c0 c1 c2 c3 c4 c5 c6 c7 c8 c9 yR yQ f0 f1 f2 f3 f4 f5 f6 f7 f8 f9 AO AN;have F5:Hid (Mk 179 kB p (p.S2 km) p.S w b5 #[.string nm,.bool pub,.slice none 0 0,.int .i64 0,.slice none 0 0,.int .i64 0,.int .i64 0,.int .i64 0,.string ⟨#[]⟩,.string ⟨#[]⟩,.slice none 0 0,.slice none 0 0] (fun W=>True/\(fun W=>aW eI dD W km (n+1) (dY fun z=>decide (z=nm)||aI z)) W) i5 (w5.setCell ⟨b5,0,none⟩ (.string nm))):=zh ((((tS.out.put HW.out (cells':=#[.string nm,.bool pub,.slice none 0 0,.int .i64 0,.slice none 0 0,.int .i64 0,.int .i64 0,.int .i64 0,.string ⟨#[]⟩,.string ⟨#[]⟩,.slice none 0 0,.slice none 0 0]) (Off.setCell (S:=fun b=>b=b5) w5 rfl) (by rw[aO tS.out.loc];rfl)).shrink (S':=p.S) (fun b hb=>.inl hb) rfl)).add (F:=(fun W=>aW eI dD W km (n+1) (dY fun z=>decide (z=nm)||aI z))) (hm5.setCell LN _) (dK.map (fun e=>Or.elim e xA LN)));clear rK qB sN hm5 vN HM4 HR4 tS hi5 KU;generalize w5.setCell ⟨b5,0,none⟩ (.string nm)=w5' at *;go_wp2_with(go_at_call 142;refine(fields_any p 6 VI w5' i5 F5.out.at_).mono ?_;rintro e w6 (⟨x6,uH,rfl,qE⟩|⟨ps,i6,uH,⟨pa,pn,pc,rfl,hps,tK,P6⟩,qE⟩)<;>first|(have zC:=zh (F5.out.nextP qE tK);obtain⟨⟨c0,c1,c2,c3,c4,c5,c6,c7,c8,c9,yR,yQ⟩,f0,f1,f2,f3,f4,f5,f6,f7,f8,f9,AO,AN⟩:=kQ zC.out.loc)|skip)
 ·exact⟨rfl,Ran.bad' (HR5.out.trans (PR.bnd_bad uH)) (F5.out.off.trans (qE.mono fun _ h=>.inl h))⟩
 have HR6:=zh (HR5.out.trans (PR.bnd_ok uH));have HI6:Hid (i<i6):=zh (by have:=HI5.out;omega);clear c0 c1 c2 c3 c4 c5 c6 c7 c8 c9 yR yQ f0 f1 f2 f3 f4 f5 f6 f7 f8 f9 AO AN;have hF6:aK 3 fR (fun b=>w.heap.size<b/\b≠b5/\b≠km) w6 (.slice pa pn pc) ps:=hps.moves aV (fun b hb _=>⟨by have hb:w5'.heap.size<=b:=hb;have:=F5.out.lt;exact⟨VG,VG,VG⟩,fun _ _ h=>h⟩) VI;have ON:Hid (Mk 179 kB p (p.S2 km) p.S w b5 #[.string nm,.bool pub,.slice pa pn pc,.int .i64 0,.slice none 0 0,.int .i64 0,.int .i64 0,.int .i64 0,.string ⟨#[]⟩,.string ⟨#[]⟩,.slice none 0 0,.slice none 0 0] (fun W=>(True/\(fun W=>aW eI dD W km (n+1) (dY fun z=>decide (z=nm)||aI z)) W)/\(fun W=>aK 3 fR (fun b=>w.heap.size<b/\b≠b5/\b≠km) W (.slice pa pn pc) ps) W) i6 (w6.setCell ⟨b5,2,none⟩ (.slice pa pn pc))):=zh ((zC.out.add (F:=(fun W=>aK 3 fR (fun b=>w.heap.size<b/\b≠b5/\b≠km) W (.slice pa pn pc) ps)) hF6 (dK.row aV VI (stbl_S fun b hb=>⟨fun e=>by have:=hb.1;omega,hb.2.1⟩))).put HW.out (cells':=#[.string nm,.bool pub,.slice pa pn pc,.int .i64 0,.slice none 0 0,.int .i64 0,.int .i64 0,.int .i64 0,.string ⟨#[]⟩,.string ⟨#[]⟩,.slice none 0 0,.slice none 0 0]) (Off.setCell (S:=fun b=>b=b5) w6 rfl) (by rw[aO zC.out.loc];rfl));clear uH qE tK hps hF6 HR5 zC HI5 P6 F5;generalize w6.setCell ⟨b5,2,none⟩ (.slice pa pn pc)=w6' at *;go_wp2_with(go_at_call 136;refine(typed_any p w6' i6 ON.out.at_).mono ?_;rintro e w7 (⟨x7,rJ,rfl,qC⟩|⟨t,i7,rJ,⟨k,sa,sn,sc,rfl,tI,rX,LQ⟩,qC⟩)<;>first|(have OT:=zh (ON.out.nextP qC rX);obtain⟨⟨c0,c1,c2,c3,c4,c5,c6,c7,c8,c9,yR,yQ⟩,f0,f1,f2,f3,f4,f5,f6,f7,f8,f9,AO,AN⟩:=kQ OT.out.loc)|skip)
 ·exact⟨rfl,Ran.bad' (HR6.out.trans (PR.bnd_bad rJ)) (ON.out.off.trans (qC.mono fun _ h=>.inl h))⟩
 have RM:=zh (HR6.out.trans (PR.bnd_ok rJ));have HI7:Hid (i<i7):=zh (by have:=HI6.out;omega);have HLv:Hid (bU t<=9000000000000000000):=zh (by have:=lH rJ;omega);have hF7:iN (fun b=>w.heap.size<b/\b≠b5/\b≠km) w7 t [.int .i64 k,.slice sa sn sc]:=eS.wide tI (fun b hb _=>by have hb:w6'.heap.size<=b:=hb;have:=ON.out.lt;exact⟨VG,VG,VG⟩);clear c0 c1 c2 c3 c4 c5 c6 c7 c8 c9 yR yQ f0 f1 f2 f3 f4 f5 f6 f7 f8 f9 AO AN;have JL:Hid (Mk 179 kB p (p.S2 km) p.S w b5 #[.string nm,.bool pub,.slice pa pn pc,.int .i64 k,.slice sa sn sc,.int .i64 0,.int .i64 0,.int .i64 0,.string ⟨#[]⟩,.string ⟨#[]⟩,.slice none 0 0,.slice none 0 0] (fun W=>((True/\(fun W=>aW eI dD W km (n+1) (dY fun z=>decide (z=nm)||aI z)) W)/\(fun W=>aK 3 fR (fun b=>w.heap.size<b/\b≠b5/\b≠km) W (.slice pa pn pc) ps) W)/\(fun W=>iN (fun b=>w.heap.size<b/\b≠b5/\b≠km) W t [.int .i64 k,.slice sa sn sc]) W) i7 ((w7.setCell ⟨b5,3,none⟩ (.int .i64 k)).setCell ⟨b5,4,none⟩ (.slice sa sn sc))):=zh ((OT.out.add (F:=(fun W=>iN (fun b=>w.heap.size<b/\b≠b5/\b≠km) W t [.int .i64 k,.slice sa sn sc])) hF7 (dK.enc eS (stbl_S fun b hb=>⟨fun e=>by have:=hb.1;omega,hb.2.1⟩))).put HW.out (cells':=#[.string nm,.bool pub,.slice pa pn pc,.int .i64 k,.slice sa sn sc,.int .i64 0,.int .i64 0,.int .i64 0,.string ⟨#[]⟩,.string ⟨#[]⟩,.slice none 0 0,.slice none 0 0]) ((Off.refl (fun b=>b=b5) w7).one.one) (by rw[aO (aO OT.out.loc _) _];rfl));obtain⟨⟨c0,c1,c2,c3,c4,c5,c6,c7,c8,c9,yR,yQ⟩,f0,f1,f2,f3,f4,f5,f6,f7,f8,f9,AO,AN⟩:=kQ OT.out.loc;clear rJ qC rX tI hF7 HR6 HI6 LQ ON;go_wp2_with(go_at_call 138;refine(levels_any _ t _ k _ _ (Nat.le_refl _) HLv.out JL.out.enc.2).mono ?_;rintro e w8 ⟨rfl,sC⟩);clear c0 c1 c2 c3 c4 c5 c6 c7 c8 c9 yR yQ f0 f1 f2 f3 f4 f5 f6 f7 f8 f9 AO AN;have DJ:=zh (JL.out.below sC);have HD:Hid (decide ((bU t:Int)<=4)=decide (bU t<=4)):=zh WC;skip
 cases hb:isP p.l i7 pD with
 |false=>
  skip;go_wp2_with(go_at_call 133;refine(fI p w8 i7 pD DJ.out.at_).mono ?_;rintro e w9 ⟨rfl,uN⟩;rw[hb]);have zS:=zh (DJ.out.below uN);have HIq:=HI7;have wL:=zh (RM.out.trans (PR.bnd_ok (bang_no hb)));go_wp2_with(go_at_call 137;refine(end_any p w9 i7 _ kEq zS.out.at_).mono ?_;rintro e w20 (⟨x20,wP,rfl,AF⟩|⟨⟨⟩,i20,wP,⟨rfl,I5⟩,AF⟩))
  ·rw[HD.out] at wP;exact⟨rfl,Ran.bad' (wL.out.trans (PR.bnd_bad wP)) (zS.out.off.trans (AF.mono fun _ h=>.inl h))⟩
  rw[HD.out] at wP;have AT:=zh (zS.out.nextP AF I5);have JO:=zh (wL.out.trans (PR.bnd_ok wP));have hi20:=endP_ok wP;clear wP AF I5;go_wp2_with(go_at_call 139;refine(mR p HX.out w20 i20 kN AT.out.at_).mono ?_;rintro e KW (⟨x21,DP,rfl,DU⟩|⟨x,i21,DP,⟨⟨op,n1,s1,m1,a1,m2,qa,a2,m3,qb,rfl,hex⟩,QR,hij21⟩,DU⟩)<;>first|(have vV:=zh (AT.out.nextP DU QR);obtain⟨⟨c0,c1,c2,c3,c4,c5,c6,c7,c8,c9,yR,yQ⟩,f0,f1,f2,f3,f4,f5,f6,f7,f8,f9,AO,AN⟩:=kQ vV.out.loc;obtain⟨⟨r0,r1,r2,r3,r4,r5,r6,r7,r8,r9,r10,r11⟩,g0,g1,g2,g3,g4,g5,g6,g7,g8,g9,g10,g11⟩:=kQ vV.out.res)|skip)
  ·exact⟨rfl,Ran.bad' (JO.out.trans (PR.bnd_bad DP)) (AT.out.off.trans (DU.mono fun _ h=>.inl h))⟩
  have QY:(fun W=>bV (fun b=>w.heap.size<b/\b≠b5/\b≠km) W x [.int .i64 op,.int .i64 n1,.string s1,.string m1,.slice a1 m2 qa,.slice a2 m3 qb]) KW:=aG.wide hex (fun b hb _=>X4);have yF:Mk 179 kB p (p.S2 km) p.S w b5 #[.string nm,.bool pub,.slice pa pn pc,.int .i64 k,.slice sa sn sc,.int .i64 0,.int .i64 op,.int .i64 n1,.string s1,.string m1,.slice a1 m2 qa,.slice a2 m3 qb] (fun W=>(fun W=>((True/\(fun W=>aW eI dD W km (n+1) (dY fun z=>decide (z=nm)||aI z)) W)/\(fun W=>aK 3 fR (fun b=>w.heap.size<b/\b≠b5/\b≠km) W (.slice pa pn pc) ps) W)/\(fun W=>iN (fun b=>w.heap.size<b/\b≠b5/\b≠km) W t [.int .i64 k,.slice sa sn sc]) W) W/\(fun W=>bV (fun b=>w.heap.size<b/\b≠b5/\b≠km) W x [.int .i64 op,.int .i64 n1,.string s1,.string m1,.slice a1 m2 qa,.slice a2 m3 qb]) W) i21 ((((((KW.setCell ⟨b5,6,none⟩ (.int .i64 op)).setCell ⟨b5,7,none⟩ (.int .i64 n1)).setCell ⟨b5,8,none⟩ (.string s1)).setCell ⟨b5,9,none⟩ (.string m1)).setCell ⟨b5,10,none⟩ (.slice a1 m2 qa)).setCell ⟨b5,11,none⟩ (.slice a2 m3 qb)):=(vV.out.add (F:=(fun W=>bV (fun b=>w.heap.size<b/\b≠b5/\b≠km) W x [.int .i64 op,.int .i64 n1,.string s1,.string m1,.slice a1 m2 qa,.slice a2 m3 qb])) QY (dK.enc aG (stbl_S fun b hb=>⟨fun e=>by have:=hb.1;omega,hb.2.1⟩))).put HW.out ((Off.refl (fun b=>b=b5) KW).one.one.one.one.one.one) (by rw[aO (aO (aO (aO (aO (aO vV.out.loc _) _) _) _) _) _];rfl);have CK:∀b,b=w.heap.size->¬(fun b=>w.heap.size<b/\b≠b5/\b≠km) b:=fun b hb hn=>by have:=hn.1;omega
  have hD:=yF.done HW.out (set12_off _ w.heap.size (.string nm) (.bool pub) (.slice pa pn pc) (.int .i64 k) (.slice sa sn sc) (.int .i64 0) (.int .i64 op) (.int .i64 n1) (.string s1) (.string m1) (.slice a1 m2 qa) (.slice a2 m3 qb)) ((((dK.true.and (dK.map VG)).and (dK.row aV VI CK)).and (dK.enc eS CK)).and (dK.enc aG CK));unfold set12 at hD;refine bodyPost_ret (v:=.agg #[.string nm,.bool pub,.slice pa pn pc,.int .i64 k,.slice sa sn sc,.int .i64 0,.int .i64 op,.int .i64 n1,.string s1,.string m1,.slice a1 m2 qa,.slice a2 m3 qb]) X8 rfl ?_;obtain⟨⟨⟨⟨⟨-,FN⟩,qO⟩,FD⟩,vB⟩,qA,DT⟩:=hD;exact TZ
 |true=>
  go_wp2_with(go_at_call 133;refine(fI p w8 i7 pD DJ.out.at_).mono ?_;rintro e w9 ⟨rfl,uN⟩;rw[hb]);have zS:=zh (DJ.out.below uN);clear uN DJ;go_wp2_with(go_at_call 137;refine(end_any p w9 i7 _ pD zS.out.at_).mono ?_;rintro e qJ (⟨x10,uU,rfl,tO⟩|⟨⟨⟩,GJ,uU,⟨rfl,vS⟩,tO⟩))
  ·rw[HD.out] at uU;exact⟨rfl,Ran.bad' (RM.out.trans (PR.bnd_bad (bang_bad hb uU))) (zS.out.off.trans (tO.mono fun _ h=>.inl h))⟩
  rw[HD.out] at uU;have HX10:=zh uU;have MT:=zh (zS.out.nextP tO vS);have hi10:=endP_ok uU;have J3:Hid (i<GJ):=zh (by have:=HI7.out;omega);have HJ0:Hid (i7<GJ):=zh VG;clear vS tO uU zS hi10;go_wp2_with(go_at_call 190;refine(fieldsEff qJ MT.out.at_.spc).mono ?_;rintro e vK ⟨rfl,rfl⟩);have hb510:=MT.out.lt;have HS11:Hid (Mk 179 kB p (p.S2 km) p.S w b5 #[.string nm,.bool pub,.slice pa pn pc,.int .i64 k,.slice sa sn sc,.int .i64 0,.int .i64 0,.int .i64 0,.string ⟨#[]⟩,.string ⟨#[]⟩,.slice none 0 0,.slice none 0 0] (fun W=>(((True/\(fun W=>aW eI dD W km (n+1) (dY fun z=>decide (z=nm)||aI z)) W)/\(fun W=>aK 3 fR (fun b=>w.heap.size<b/\b≠b5/\b≠km) W (.slice pa pn pc) ps) W)/\(fun W=>iN (fun b=>w.heap.size<b/\b≠b5/\b≠km) W t [.int .i64 k,.slice sa sn sc]) W)/\(fun W=>∀j,j<bN.length->W.cell? ⟨qJ.heap.size,0+j,none⟩=some (.string (bN.getD j ByteArray.empty))) W) GJ (qJ.alloc (.cells #[.string kFiles,.string kNet,.string kClock,.string kSecrets] 9))):=zh ((MT.out.below (aA qJ (.cells (bN.map Value.string).toArray 9))).add (F:=(fun W=>∀j,j<bN.length->W.cell? ⟨qJ.heap.size,0+j,none⟩=some (.string (bN.getD j ByteArray.empty)))) (effCells qJ) (dK.cells (fun e=>Or.elim e (fun e=>by have e:qJ.heap.size=p.pb:=e;omega) (fun e=>VG))));generalize qJ.alloc (.cells #[.string kFiles,.string kNet,.string kClock,.string kSecrets] 9)=vK at *;generalize qJ.heap.size=g at *;clear MT;go_loopw [35] (fun c wr=>∃(kk q en:Nat),kk<=4/\c=.int .i64 (kk:Int)/\Hid (en<2 ^ kk)/\Hid (Mk 179 kB p (p.S2 km) p.S w b5 #[.string nm,.bool pub,.slice pa pn pc,.int .i64 k,.slice sa sn sc,.int .i64 (en:Int),.int .i64 0,.int .i64 0,.string ⟨#[]⟩,.string ⟨#[]⟩,.slice none 0 0,.slice none 0 0] (fun W=>(((True/\(fun W=>aW eI dD W km (n+1) (dY fun z=>decide (z=nm)||aI z)) W)/\(fun W=>aK 3 fR (fun b=>w.heap.size<b/\b≠b5/\b≠km) W (.slice pa pn pc) ps) W)/\(fun W=>iN (fun b=>w.heap.size<b/\b≠b5/\b≠km) W t [.int .i64 k,.slice sa sn sc]) W)/\(fun W=>∀j,j<bN.length->W.cell? ⟨g,0+j,none⟩=some (.string (bN.getD j ByteArray.empty))) W) q wr)/\Hid (eA p.l fV 0 GJ=eA p.l (fV.drop kk) (en:Int) q)/\Hid (GJ<=q)) (fun c _=>4-(intOf c).toNat)
  case atStart=>exact⟨0,GJ,0,VG,rfl,zh VI,by simpa using HS11,zh rfl,zh (Nat.le_refl _)⟩
  case round=>
   obtain⟨kk,q,en,hk4,rfl,OU,HS,pZ,HJ⟩:=hrel;(rename World=>wr);have hen0:=OU.out;by_cases pT:kk<4
   ·have hc:=HS.out.enc.2 kk pT;rw[Nat.zero_add] at hc;have E0:=zh (effectL_at (l:=p.l) (n:=(en:Int)) (q:=q) pT);have J9:=zh (bit_pow pT);generalize bN.getD kk ByteArray.empty=word at hc E0 J9
    cases hq:isP p.l q word with
    |true=>
     ·skip;have IU:=OU.out;clear hen0;go_wp2_with(go_at_call 141;refine(eX p wr q word HS.out.at_ hq).mono ?_;rintro e tE ⟨rfl,I7,ID⟩);have EE:=zh (HS.out.nextP ID I7);clear I7 ID hc;refine wp_region_held_drew (S:=(fun _=>True)) VH trivial fun hS=>?_;refine zt 0 (.pointer (some ⟨b5,5,none⟩)) rfl (fun W hW=>VM) hS ?_;(try simp only[zn]);refine zt 2 (.string word) rfl (fun W hW=>VM) hS ?_;(try simp only[zn]);refine wpAnyH_ready (rs:=[1,3]) VH VL ?_;refine AllReadyH.cons rfl (fun K hK=>?_) (AllReadyH.cons rfl (fun K hK=>?_) AllReadyH.nil)
      ·rw[if_pos VH];(try simp only[z1,z2,z3]);obtain⟨⟨c0,c1,c2,c3,c4,c5,c6,c7,c8,c9,yR,yQ⟩,f0,f1,f2,f3,f4,f5,f6,f7,f8,f9,AO,AN⟩:=kQ (EE.out.below (aE _)).loc;go_simp;clear c0 c1 c2 c3 c4 c5 c6 c7 c8 c9 yR yQ f0 f1 f2 f3 f4 f5 f6 f7 f8 f9 AO AN;refine hK.out _ _ trivial (fun hS=>?_);clear hK K;(try simp only[zn]);refine zr 3 rfl (fun K hK=>?_);(try simp only[z1,z2,z3]);go_simp;refine(kZ word tE.drew (EE.out.below (aE _)).at_.spc).mono ?_;rintro e zI ⟨rfl,QO⟩;rw[J9.out];have tW:=zh ((EE.out.below (aE _)).below QO);exact SL
      ·rw[if_pos VH];(try simp only[z1,z2,z3]);go_simp;refine(kZ word tE.drew (EE.out.below (aE _)).at_.spc).mono ?_;rintro e zI ⟨rfl,QO⟩;rw[J9.out];have tW:=zh ((EE.out.below (aE _)).below QO);refine hK.out _ _ trivial (fun hS=>?_);clear hK K;(try simp only[zn]);refine zr 1 rfl (fun K hK=>?_);(try simp only[z1,z2,z3]);obtain⟨⟨c0,c1,c2,c3,c4,c5,c6,c7,c8,c9,yR,yQ⟩,f0,f1,f2,f3,f4,f5,f6,f7,f8,f9,AO,AN⟩:=kQ tW.out.loc;go_simp;clear c0 c1 c2 c3 c4 c5 c6 c7 c8 c9 yR yQ f0 f1 f2 f3 f4 f5 f6 f7 f8 f9 AO AN;exact SL
    |false=>
     ·skip;go_wp2_with(go_at_call 141;refine(aX p wr q word HS.out.at_ hq).mono ?_;rintro e tE ⟨rfl,I7,ID⟩);have EE:=zh (HS.out.nextP ID I7);have vU:Hid (eA p.l fV 0 GJ=eA p.l (fV.drop (kk+1)) (en:Int) q):=zh (by rw[pZ.out,E0.out,hq,if_neg VL]);have yK:Hid (en<2 ^ (kk+1)):=zh (by rw[Nat.pow_succ];omega);clear I7 ID hc;go_roundw;(case rel=>exact⟨kk+1,q,en,VG,VT,yK,EE,vU,HJ⟩);case measure=>simp[intOf];omega
   ·have hk:kk=4:=VG;subst hk
    ·skip;have HEf:Hid (eA p.l fV 0 GJ=((en:Int),q)):=zh pZ.out;obtain⟨⟨c0,c1,c2,c3,c4,c5,c6,c7,c8,c9,yR,yQ⟩,f0,f1,f2,f3,f4,f5,f6,f7,f8,f9,AO,AN⟩:=kQ HS.out.loc;go_wp2_with(go_at_call 144;refine(eY p wr q _ _ HS.out.at_).mono ?_;rintro e w16 (⟨he,rfl,rfl⟩|⟨he,rfl,CF⟩))
     ·have HIq:Hid (i<q):=zh (by have:=J3.out;have:=HJ.out;omega);have wL:=zh (RM.out.trans (PR.bnd_ok (bang_yes hb HX10.out HEf.out X9)));clear c0 c1 c2 c3 c4 c5 c6 c7 c8 c9 yR yQ f0 f1 f2 f3 f4 f5 f6 f7 f8 f9 AO AN;clear he;go_wp2_with(go_at_call 137;refine(end_any p wr q _ kEq HS.out.at_).mono ?_;rintro e w20 (⟨x20,wP,rfl,AF⟩|⟨⟨⟩,i20,wP,⟨rfl,I5⟩,AF⟩))
      ·exact⟨rfl,Ran.bad' (wL.out.trans (PR.bnd_bad wP)) (HS.out.off.trans (AF.mono fun _ h=>.inl h))⟩
      skip;have AT:=zh (HS.out.nextP AF I5);have JO:=zh (wL.out.trans (PR.bnd_ok wP));have hi20:=endP_ok wP;clear wP AF I5;go_wp2_with(go_at_call 139;refine(mR p HX.out w20 i20 kN AT.out.at_).mono ?_;rintro e KW (⟨x21,DP,rfl,DU⟩|⟨x,i21,DP,⟨⟨op,n1,s1,m1,a1,m2,qa,a2,m3,qb,rfl,hex⟩,QR,hij21⟩,DU⟩)<;>first|(have vV:=zh (AT.out.nextP DU QR);obtain⟨⟨c0,c1,c2,c3,c4,c5,c6,c7,c8,c9,yR,yQ⟩,f0,f1,f2,f3,f4,f5,f6,f7,f8,f9,AO,AN⟩:=kQ vV.out.loc;obtain⟨⟨r0,r1,r2,r3,r4,r5,r6,r7,r8,r9,r10,r11⟩,g0,g1,g2,g3,g4,g5,g6,g7,g8,g9,g10,g11⟩:=kQ vV.out.res)|skip)
      ·exact⟨rfl,Ran.bad' (JO.out.trans (PR.bnd_bad DP)) (AT.out.off.trans (DU.mono fun _ h=>.inl h))⟩
      have QY:(fun W=>bV (fun b=>w.heap.size<b/\b≠b5/\b≠km) W x [.int .i64 op,.int .i64 n1,.string s1,.string m1,.slice a1 m2 qa,.slice a2 m3 qb]) KW:=aG.wide hex (fun b hb _=>X4);have yF:Mk 179 kB p (p.S2 km) p.S w b5 #[.string nm,.bool pub,.slice pa pn pc,.int .i64 k,.slice sa sn sc,.int .i64 (en:Int),.int .i64 op,.int .i64 n1,.string s1,.string m1,.slice a1 m2 qa,.slice a2 m3 qb] (fun W=>(fun W=>(((True/\(fun W=>aW eI dD W km (n+1) (dY fun z=>decide (z=nm)||aI z)) W)/\(fun W=>aK 3 fR (fun b=>w.heap.size<b/\b≠b5/\b≠km) W (.slice pa pn pc) ps) W)/\(fun W=>iN (fun b=>w.heap.size<b/\b≠b5/\b≠km) W t [.int .i64 k,.slice sa sn sc]) W)/\(fun W=>∀j,j<bN.length->W.cell? ⟨g,0+j,none⟩=some (.string (bN.getD j ByteArray.empty))) W) W/\(fun W=>bV (fun b=>w.heap.size<b/\b≠b5/\b≠km) W x [.int .i64 op,.int .i64 n1,.string s1,.string m1,.slice a1 m2 qa,.slice a2 m3 qb]) W) i21 ((((((KW.setCell ⟨b5,6,none⟩ (.int .i64 op)).setCell ⟨b5,7,none⟩ (.int .i64 n1)).setCell ⟨b5,8,none⟩ (.string s1)).setCell ⟨b5,9,none⟩ (.string m1)).setCell ⟨b5,10,none⟩ (.slice a1 m2 qa)).setCell ⟨b5,11,none⟩ (.slice a2 m3 qb)):=(vV.out.add (F:=(fun W=>bV (fun b=>w.heap.size<b/\b≠b5/\b≠km) W x [.int .i64 op,.int .i64 n1,.string s1,.string m1,.slice a1 m2 qa,.slice a2 m3 qb])) QY (dK.enc aG (stbl_S fun b hb=>⟨fun e=>by have:=hb.1;omega,hb.2.1⟩))).put HW.out ((Off.refl (fun b=>b=b5) KW).one.one.one.one.one.one) (by rw[aO (aO (aO (aO (aO (aO vV.out.loc _) _) _) _) _) _];rfl);(have CK:∀b,b=w.heap.size->¬(fun b=>w.heap.size<b/\b≠b5/\b≠km) b:=fun b hb hn=>by have:=hn.1;omega);have hD:=yF.done HW.out (set12_off _ w.heap.size (.string nm) (.bool pub) (.slice pa pn pc) (.int .i64 k) (.slice sa sn sc) (.int .i64 (en:Int)) (.int .i64 op) (.int .i64 n1) (.string s1) (.string m1) (.slice a1 m2 qa) (.slice a2 m3 qb)) (((((dK.true.and (dK.map VG)).and (dK.row aV VI CK)).and (dK.enc eS CK)).and (dK.cells VG)).and (dK.enc aG CK));unfold set12 at hD;refine bodyPost_ret (v:=.agg #[.string nm,.bool pub,.slice pa pn pc,.int .i64 k,.slice sa sn sc,.int .i64 (en:Int),.int .i64 op,.int .i64 n1,.string s1,.string m1,.slice a1 m2 qa,.slice a2 m3 qb]) X8 rfl ?_;obtain⟨⟨⟨⟨⟨⟨-,FN⟩,qO⟩,FD⟩,-⟩,vB⟩,qA,DT⟩:=hD;exact TZ
     ·have wL:=RM.out.trans (PR.bnd_bad (bang_zero hb HX10.out HEf.out X9));exact⟨rfl,Ran.bad wL (HS.out.off.trans (Off.of_below CF))⟩
end Go.Proofs.YtacgopankhpnbaaGreatDoor
namespace Go.Proofs.YtacgopankhpnbaaGreatDoor
open Go.RowKit
theorem catch_idle(a b:Nat)(w:World):CallsD Tryz.prog 130 #[.pointer (some ⟨a,0,none⟩),.pointer (some ⟨b,0,none⟩)] .returning w fun e u' w'=>e=.returned (.tuple #[])/\u'=.returning/\w'=w:=by
 refine callsD_of_wpS Tryz.func130 rfl fun c₀ cs hu=>?_;apply wpS_seq;apply wpS_region;simp[wpOpsS,go_sem,recoverD,hu,Tryz.ntmps130,Exit.thenS];refine wpS_of_wp ?_;simp only[Array.replicate_succ,Array.replicate_zero,List.push_toArray,List.append_toArray,List.nil_append,List.cons_append,List.setIfInBounds_toArray,List.set_cons_zero,List.set_cons_succ]
 go_wp2
 cases c₀;simp_all [bodyPostS,results,Tryz.results130]
theorem catch_fault(a b:Nat)(x:Int×Int)(older:List PanicEntry)(w:World)(ha:w.heap[a]? =some (.cells #[.int .i64 0] 3))(hb:w.heap[b]? =some (.cells #[.int .i64 0] 32)):
  CallsD Tryz.prog 130 #[.pointer (some ⟨a,0,none⟩),.pointer (some ⟨b,0,none⟩)] (.panicking ({v:=.iface 205 (.agg #[.int .i64 x.1,.int .i64 x.2]),recovered:=false}::older)) w fun e u' w'=>
   e=.returned (.tuple #[])/\u'=.panicking ({v:=.iface 205 (.agg #[.int .i64 x.1,.int .i64 x.2]),recovered:=true}::older)/\Off (fun k=>k=a\/k=b) w w'/\w'.heap[a]? =some (.cells #[.int .i64 x.1] 3)/\w'.heap[b]? =some (.cells #[.int .i64 x.2] 32):=by
 refine callsD_of_wpS Tryz.func130 rfl fun c₀ cs hu=>?_;apply wpS_seq;apply wpS_region;simp[wpOpsS,go_sem,recoverD,hu,Tryz.ntmps130,Exit.thenS];refine wpS_of_wp ?_;simp only[Array.replicate_succ,Array.replicate_zero,List.push_toArray,List.append_toArray,List.nil_append,List.cons_append,List.setIfInBounds_toArray,List.set_cons_zero,List.set_cons_succ];obtain⟨a0,a1⟩:=bx ha 0 (u:=.int .i64 0) rfl;obtain⟨b0,b1⟩:=bx hb 0 (u:=.int .i64 0) rfl;have hla:=(Array.getElem?_eq_some_iff.1 ha).1;have A8:=(Array.getElem?_eq_some_iff.1 hb).1;have HT:∀(x1 x2:Int)(w:World),(Instr.typeAssert (.iface 205 (.agg #[.int .i64 x1,.int .i64 x2])) 20 205 true).run Tryz.prog w=.ok (.tuple #[.agg #[.int .i64 x1,.int .i64 x2],.bool true]) w:=fun x1 x2 w=>VH;have hab:a≠b:=by rintro rfl;rw[ha] at hb;cases hb
 go_wp2
 refine wp_region_held_drew (S:=(fun W=>W.heap[w.heap.size]? =some (.cells #[.int .i64 x.1,.int .i64 x.2] 205))) VH (by exact heap_alloc_new w _) fun hS=>?_;refine zt 0 (.pointer (some ⟨w.heap.size,0,none⟩)) rfl (fun W hW=>VM) hS ?_;try simp only[zn]
 refine zt 1 (.int .i64 x.1) rfl (fun W hW=>by obtain⟨k0,k1,-⟩:=bxT2 hW;go_simp) hS ?_;try simp only[zn]
 refine zt 2 (.pointer (some ⟨w.heap.size,1,none⟩)) rfl (fun W hW=>VM) hS ?_;try simp only[zn]
 refine zt 3 (.int .i64 x.2) rfl (fun W hW=>by obtain⟨k0,k1,-⟩:=bxT2 hW;go_simp) hS ?_;try simp only[zn]
 have hna:¬w.heap.size=a:=VG;have xF:¬w.heap.size=b:=VG;refine zr 4 rfl (fun K hK=>?_);try simp only[z1,z2,z3]
 go_simp;refine hK.out _ _ (by have h:=heap_alloc_new (w.setCell ⟨a,0,none⟩ (.int .i64 x.1)) (.cells #[.int .i64 x.1,.int .i64 x.2] 205);rw[eR] at h;exact h) (fun hS=>?_);clear hK K;try simp only[zn]
 refine zr 5 rfl (fun K hK=>?_);try simp only[z1,z2,z3]
 go_simp;refine hK.out _ _ (by have h:=heap_alloc_new ((w.setCell ⟨a,0,none⟩ (.int .i64 x.1)).setCell ⟨b,0,none⟩ (.int .i64 x.2)) (.cells #[.int .i64 x.1,.int .i64 x.2] 205);rw[eR,eR] at h;exact h) (fun hS=>?_);clear hK K;try simp only[zn]
 refine wpAnyH_done VH ?_ _
 go_wp2
 simp[bodyPostS,results,Tryz.results130];have oa:Off (fun k=>k=a\/k=b) w ((w.setCell ⟨a,0,none⟩ (.int .i64 x.1)).setCell ⟨b,0,none⟩ (.int .i64 x.2)):=(Off.setCell (S:=fun k=>k=a\/k=b) w (.inl rfl)).trans (Off.setCell (S:=fun k=>k=a\/k=b) _ (.inr rfl));have qL:((w.setCell ⟨a,0,none⟩ (.int .i64 x.1)).setCell ⟨b,0,none⟩ (.int .i64 x.2)).heap[a]? =some (.cells #[.int .i64 x.1] 3):=by rw[Below.heap_setCell _ _ _ _ (by show a≠b;exact hab),aO ha];rfl
 have pR:((w.setCell ⟨a,0,none⟩ (.int .i64 x.1)).setCell ⟨b,0,none⟩ (.int .i64 x.2)).heap[b]? =some (.cells #[.int .i64 x.2] 32):=by rw[aO ((Below.heap_setCell _ _ _ _ (by show b≠a;exact fun e=>hab e.symm)).trans hb)];rfl
 exact⟨(oa.trans (Off.of_below (aA _ _))).drew,aF (aA _ _).drew qL,aF (aA _ _).drew pR⟩
end Go.Proofs.YtacgopankhpnbaaGreatDoor
namespace Go.Proofs.YtacgopankhpnbaaGreatDoor
def Nz{α:Type}(r:PR α):Prop:=∀x,r=.error x->x.2≠0
section
variable {l:List Tok} {α β:Type}
theorem Nz.ok{a:α}{j:Nat}:Nz (.ok (a,j):PR α):=fun x h=>YD
theorem Nz.stop{i:Nat}{e:Int}(he:e≠0):Nz (jW l i e:PR α):=fun x h=>by unfold jW at h;cases h;exact he
theorem Nz.bnd{m:PR α}{k:α->Nat->PR β}(h:Nz m)(hk:∀a j,Nz (k a j)):Nz (m.bnd k):=fun x hx=>by
 cases hm:m with
 |error y=>rw[hm] at hx;have hx:(.error y:PR β)=.error x:=hx;injection hx with e;rw[<-e];exact h y hm
 |ok r=>obtain⟨a,j⟩:=r;rw[hm] at hx;exact hk a j x hx
theorem Nz.ite{c:Prop}[Decidable c]{a b:PR α}(h1:Nz a)(h2:Nz b):Nz (if c then a else b):=by split<;>assumption
theorem fS{i:Nat}{s:ByteArray}:Nz (dB l i s):=by unfold dB;exact .ite .ok (.stop VI)
theorem end_nz{i:Nat}{f:Bool}{s:ByteArray}:Nz (lZ l i f s):=by unfold lZ;exact .ite (.ite .ok (.stop VI)) (.stop VI)
theorem name_nz{i:Nat}:Nz (fP l i):=by unfold fP;exact .ite .ok (.stop VI)
theorem fresh_nz{i:Nat}{k:ByteArray->Bool}:Nz (gZ l i k):=by unfold gZ;exact .ite (.ite (.stop VI) .ok) (.stop VI)
theorem later_nz{i:Nat}{t:ByteArray}{b:Bool}:Nz (fQ l i t b):=by unfold fQ;exact .ite (.ite (.stop VI) (.ite (.stop VI) .ok)) (.stop VI)
theorem room_nz{i a b:Nat}:Nz (gO l i a b):=by unfold gO;exact .ite .ok (.stop VI)
section
variable {rec:RecP} (hr:∀f i,Nz (rec f i))
include hr
omit hr in
theorem dots_nz:∀(F:Nat)(e:Xp)(i:Nat),Nz (oD l F e i)
 |0,e,i=>.ok
 |F+1,e,i=>by unfold oD;exact .ite (.bnd name_nz fun a j=>dots_nz F _ j) .ok
theorem ops_nz(form:Nat):∀(F own:Nat)(e:Xp)(i:Nat),Nz (opsP l rec form F own e i)
 |0,own,e,i=>.ok
 |F+1,own,e,i=>by
  unfold opsP;split
  ·exact .ok
  ·exact .ite .ok (.bnd (hr _ _) fun a j=>ops_nz form F _ _ j)
theorem operandsFrom_nz:∀(F:Nat)(out:List Xp)(i:Nat),Nz (cF l rec F out i)
 |0,out,i=>.ok
 |F+1,out,i=>by
  unfold cF;exact .bnd (.ite room_nz .ok) fun _ _=>.bnd (hr _ _) fun e j=>.ite (operandsFrom_nz F _ _) (.bnd fS fun _ _=>.ok)
theorem operands_nz{i:Nat}:Nz (jN l rec i):=by unfold jN;exact .bnd fS fun _ j=>.ite .ok (operandsFrom_nz hr _ _ _)
theorem recordFrom_nz:∀(F:Nat)(names:List ByteArray)(args:List Xp)(last:ByteArray)(i:Nat),Nz (dL l rec F names args last i)
 |0,_,_,_,_=>.ok
 |F+1,names,args,last,i=>by
  unfold dL;exact .bnd (.ite room_nz .ok) fun _ _=>.bnd later_nz fun s j=>.bnd fS fun _ j2=>.bnd (hr _ _) fun e j3=>.ite (recordFrom_nz F _ _ _ _) (.bnd fS fun _ _=>.ok)
theorem paren_nz{i:Nat}:Nz (parenP l rec i):=by unfold parenP;exact .bnd (hr _ _) fun e j=>.bnd fS fun _ _=>.ok
theorem primary_nz{i:Nat}:Nz (aS l rec i):=by
 unfold aS;refine .ite .ok (.ite .ok (.ite .ok (.ite (.bnd name_nz fun _ _=>.ok) (.ite (.bnd fS fun _ j=>.bnd (paren_nz hr) fun _ _=>.ok) (.ite ?_ (.ite (paren_nz hr) (.bnd name_nz fun s j=>?_)))))))
 ·unfold kU;exact .ite .ok (recordFrom_nz hr _ _ _ _ _)
 ·unfold callP;exact .ite (.bnd (operands_nz hr) fun _ _=>.ok) (.ite (.bnd name_nz fun _ _=>.bnd (operands_nz hr) fun _ _=>.ok) .ok)
theorem prefix_nz{form i:Nat}:Nz (cL l rec form i):=by
 unfold cL
 exact .ite (.bnd (hr _ _) fun _ _=>.bnd fS fun _ _=>.bnd (hr _ _) fun _ _=>.bnd fS fun _ _=>.bnd (hr _ _) fun _ _=>.ok)
  (.ite (.bnd name_nz fun _ _=>.bnd fS fun _ _=>.bnd (hr _ _) fun _ _=>.bnd fS fun _ _=>.bnd (hr _ _) fun _ _=>.ok)
  (.ite (.bnd name_nz fun _ _=>.bnd (hr _ _) fun _ _=>.ok) (.ite (.bnd (hr _ _) fun _ _=>.ok) (.bnd (primary_nz hr) fun _ _=>.ok))))
end
theorem exp_nz:∀(f form i:Nat),Nz (bQ l f form i)
 |0,form,i=>.stop VI
 |f+1,form,i=>by
  unfold bQ;exact .bnd (prefix_nz fun f' i'=>exp_nz f f' i') fun r j=>.bnd (.ite (dots_nz _ _ _) .ok) fun e k=>ops_nz (fun f' i'=>exp_nz f f' i') _ _ _ _ _
theorem more_nz{i:Nat}{t:Ty}{s:ByteArray}:Nz (moreP l i t s):=by unfold moreP;exact .ite (.bnd end_nz fun _ _=>.ok) (.bnd end_nz fun _ _=>.ok)
theorem typedFrom_nz{rec:Nat->PR Ty}(hr:∀i,Nz (rec i)):∀(F:Nat)(fs:List Fld)(i:Nat),Nz (eM l rec F fs i)
 |0,fs,i=>.ok
 |F+1,fs,i=>by
  unfold eM;exact .bnd (.ite room_nz .ok) fun _ _=>.bnd later_nz fun s j=>.bnd (hr _) fun t j2=>.bnd more_nz fun q j3=>.ite .ok (typedFrom_nz hr F _ _)
theorem typed_nz:∀(f i:Nat),Nz (fL l f i)
 |0,i=>.stop VI
 |f+1,i=>by
  unfold fL;exact .ite .ok (.ite .ok (.bnd fS fun _ j=>.ite .ok (typedFrom_nz (fun i=>typed_nz f i) _ _ _)))
theorem fieldsFrom_nz{most:Nat}:∀(F:Nat)(fs:List Fld)(i:Nat),Nz (dW l most F fs i)
 |0,fs,i=>.ok
 |F+1,fs,i=>by
  unfold dW;exact .bnd (.ite room_nz .ok) fun _ _=>.bnd fresh_nz fun s j=>.bnd (typed_nz _ _) fun t j2=>.bnd more_nz fun q j3=>.ite .ok (fieldsFrom_nz F _ _)
theorem fields_nz{most i:Nat}:Nz (jY l most i):=by unfold jY;exact .bnd fS fun _ j=>.ite .ok (fieldsFrom_nz _ _ _)
theorem whole_nz{i:Nat}{s:ByteArray}:Nz (lW l i s):=by unfold lW;exact .bnd (exp_nz _ _ _) fun _ _=>.bnd end_nz fun _ _=>.ok
theorem wholesFrom_nz{s:ByteArray}:∀(n:Nat)(out:List Xp)(i:Nat),Nz (jA l s n out i)
 |0,out,i=>by unfold jA;exact .bnd whole_nz fun _ _=>.ok
 |n+1,out,i=>by unfold jA;exact .bnd whole_nz fun _ _=>wholesFrom_nz n _ _
theorem wholes_nz{n i:Nat}{s:ByteArray}:Nz (iD l n i s):=by
 cases n with
 |zero=>unfold iD;exact .bnd fS fun _ _=>.ok
 |succ n=>unfold iD;exact wholesFrom_nz _ _ _
theorem bang_nz{i:Nat}{f:Bool}:Nz (bangP l i f):=by unfold bangP;exact .ite (.bnd end_nz fun _ _=>.ite .ok (.stop VI)) .ok
theorem function_nz{i:Nat}{k:ByteArray->Bool}:Nz (mU l i k):=by
 unfold mU;exact .bnd fS fun _ _=>.bnd fresh_nz fun _ _=>.bnd fields_nz fun _ _=>.bnd (typed_nz _ _) fun _ _=>.bnd bang_nz fun _ _=>.bnd end_nz fun _ _=>.bnd whole_nz fun _ _=>.ok
theorem uses_nz:∀(F:Nat)(out:List ByteArray)(i:Nat),Nz (iJ l F out i)
 |0,out,i=>.ok
 |F+1,out,i=>by unfold iJ;exact .ite (.bnd room_nz fun _ _=>.bnd fresh_nz fun _ _=>.bnd fS fun _ _=>uses_nz F _ _) .ok
theorem vars_nz:∀(F:Nat)(vs:List Fld)(es:List Xp)(i:Nat),Nz (jC l F vs es i)
 |0,vs,es,i=>.ok
 |F+1,vs,es,i=>by unfold jC;exact .ite (.bnd room_nz fun _ _=>.bnd fresh_nz fun _ _=>.bnd (typed_nz _ _) fun _ _=>.bnd end_nz fun _ _=>.bnd whole_nz fun _ _=>vars_nz F _ _ _) .ok
theorem funcs_nz:∀(F:Nat)(fs:List Fnc)(i:Nat),Nz (fY l F fs i)
 |0,fs,i=>.ok
 |F+1,fs,i=>by unfold fY;exact .ite (.bnd room_nz fun _ _=>.bnd function_nz fun _ _=>funcs_nz F _ _) .ok
theorem move_nz{n i:Nat}:Nz (moveP l n i):=by unfold moveP;exact .ite (.bnd fields_nz fun _ _=>.bnd fS fun _ _=>.bnd wholes_nz fun _ _=>.bnd wholes_nz fun _ _=>.ok) .ok
theorem module_nz:Nz (gC l):=by
 unfold gC;exact .bnd fS fun _ _=>.bnd name_nz fun _ _=>.bnd fS fun _ _=>.bnd (uses_nz _ _ _) fun _ _=>.bnd (vars_nz _ _ _ _) fun _ _=>.bnd (funcs_nz _ _ _) fun _ _=>.bnd move_nz fun _ _=>.ite .ok (.stop VI)
end
theorem lexFrom_nz{s:ByteArray}:∀(F i:Nat)(out:List Tok)(x:Int×Int),iF s F i out=.error x->x.2≠0
 |0,i,out,x,h=>by unfold iF at h;cases h
 |F+1,i,out,x,h=>by
  unfold iF at h;split at h
  ·cases h
  ·split at h
   ·rename_i e he;cases h;exact nextTok_err he
   ·exact lexFrom_nz F _ _ x h
theorem lexL_nz{s:ByteArray}{x:Int×Int}(h:lexL s=.error x):x.2≠0:=by
 unfold lexL at h;split at h
 ·cases h;decide
 ·exact lexFrom_nz _ _ _ x h
end Go.Proofs.YtacgopankhpnbaaGreatDoor
